import PyProof.Rows.All
import Wide.All
import OpenK.AllK
import Wide.FinOn
import HandS.ForMost
import HandS.ForExc
import HandS.EndBits
import HandS.Wide
import HandS.IsInst
import HandS.Style
import HandS.Flow
import HandS.Deep
import HandS.Zip
import KE.KeyNested
import HandS.ForDict
import HandS.TupAny
import HandS.TupMul
import HandS.ExcIs
import KE.KDictZip
import HandS.TupLen
import PyProof.Rows.TupDisplay
import HandS.Text
import HandS.RaiseMore
import PySem.Challenge.RW_matchboards_k14_whole_texts
set_option Elab.async false
set_option linter.all false
set_option maxRecDepth 100000
set_option maxHeartbeats 4000000
/-! Keys of dicts, and tables. -/
namespace Mb
open PySem L2
abbrev D := PyData
def lim : Nat := 100000
theorem lim_le : lim ≤ sizeLine := by decide
def small (n : Nat) : Bool := decide (n ≤ lim)
mutual
def nk : D → NestedKey
  | .int i => .num i
  | .tuple ds => .tup (nks ds)
  | _ => .none
def nks : List D → List NestedKey
  | [] => []
  | d :: ds => nk d :: nks ds
end
mutual
/-- what may stand in a key -/
def kin : D → Bool
  | .int _ => true
  | .none => true
  | .tuple ds => kins ds
  | _ => false
def kins : List D → Bool
  | [] => true
  | d :: ds => kin d && kins ds
end
mutual
def kdep : D → Nat
  | .tuple ds => kdeps ds + 1
  | _ => 0
def kdeps : List D → Nat
  | [] => 0
  | d :: ds => max (kdep d) (kdeps ds)
end
def tkey : D → Bool
  | .tuple ds => kins ds && decide (kdeps ds ≤ 7)
  | _ => false
def ikey : D → Bool
  | .int _ => true
  | _ => false
mutual
theorem nk_dep : ∀ d : D, (nk d).depth = kdep d
  | .none => rfl
  | .bool _ => rfl
  | .int _ => rfl
  | .str _ => rfl
  | .list _ => rfl
  | .dict _ => rfl
  | .tuple ds => by
    simp only [nk, NestedKey.depth, kdep]
    rw [nks_dep ds]
theorem nks_dep : ∀ ds : List D, NestedKey.depthAll (nks ds) = kdeps ds
  | [] => rfl
  | d :: ds => by
    simp only [nks, NestedKey.depthAll, kdeps]
    rw [nk_dep d, nks_dep ds]
end
mutual
theorem nk_inj : ∀ d e : D, kin d = true → kin e = true → nk d = nk e → d = e
  | .int i, .int j, _, _, h => by simp only [nk, NestedKey.num.injEq] at h; rw [h]
  | .none, .none, _, _, _ => rfl
  | .tuple ds, .tuple es, h1, h2, h => by
    simp only [kin] at h1 h2
    simp only [nk, NestedKey.tup.injEq] at h
    rw [nks_inj ds es h1 h2 h]
  | .int _, .none, _, _, h => by simp [nk] at h
  | .int _, .tuple _, _, _, h => by simp [nk] at h
  | .none, .int _, _, _, h => by simp [nk] at h
  | .none, .tuple _, _, _, h => by simp [nk] at h
  | .tuple _, .int _, _, _, h => by simp [nk] at h
  | .tuple _, .none, _, _, h => by simp [nk] at h
  | .bool _, _, h, _, _ => by simp [kin] at h
  | .str _, _, h, _, _ => by simp [kin] at h
  | .list _, _, h, _, _ => by simp [kin] at h
  | .dict _, _, h, _, _ => by simp [kin] at h
  | _, .bool _, _, h, _ => by simp [kin] at h
  | _, .str _, _, h, _ => by simp [kin] at h
  | _, .list _, _, h, _ => by simp [kin] at h
  | _, .dict _, _, h, _ => by simp [kin] at h
theorem nks_inj : ∀ ds es : List D, kins ds = true → kins es = true → nks ds = nks es → ds = es
  | [], [], _, _, _ => rfl
  | [], _ :: _, _, _, h => by simp [nks] at h
  | _ :: _, [], _, _, h => by simp [nks] at h
  | d :: ds, e :: es, h1, h2, h => by
    simp only [kins, Bool.and_eq_true] at h1 h2
    simp only [nks, List.cons.injEq] at h
    rw [nk_inj d e h1.1 h2.1 h.1, nks_inj ds es h1.2 h2.2 h.2]
end
mutual
def h0 : NestedKey → Int
  | .none => reduceHash 0xFCA86420
  | .num i => hashInt i
  | .text _ => 0
  | .tup ks => reduceHash (Builtin.Tuple.tupleHashOf (h0s ks))
def h0s : List NestedKey → List Int
  | [] => []
  | k :: ks => h0 k :: h0s ks
end
def hD (d : D) : Int := h0 (nk d)
mutual
theorem h0_eq (w : World) : ∀ d : D, h0 (nk d) = (nk d).hash w
  | .none => by simp only [nk, h0, NestedKey.hash]
  | .bool _ => by simp only [nk, h0, NestedKey.hash]
  | .int _ => by simp only [nk, h0, NestedKey.hash]
  | .str _ => by simp only [nk, h0, NestedKey.hash]
  | .list _ => by simp only [nk, h0, NestedKey.hash]
  | .dict _ => by simp only [nk, h0, NestedKey.hash]
  | .tuple ds => by
    simp only [nk, h0, NestedKey.hash]
    rw [h0s_eq w ds]
theorem h0s_eq (w : World) : ∀ ds : List D, h0s (nks ds) = NestedKey.hashes w (nks ds)
  | [] => rfl
  | d :: ds => by
    simp only [nks, h0s, NestedKey.hashes]
    rw [h0_eq w d, h0s_eq w ds]
end
/-! ### tables -/
def lkD (kvs : List (D × D)) (k : D) : Option D := (kvs.find? fun p => PyData.eqv p.1 k).map (·.2)
def putD (kvs : List (D × D)) (k v : D) : List (D × D) := if (lkD kvs k).isSome then kvs.map (fun p => if PyData.eqv p.1 k then (p.1, v) else p) else kvs ++ [(k, v)]
/-- the object at a is o -/
def DicO (a : Addr) (o : Obj) : HO := .ext fun h => h.get? a = some o ∧ (a == sysModules) = false
def kindA (ks : List D) : Bool := ks.all tkey || ks.all ikey
/-- keys of one kind with k -/
def kindK (ks : List D) (k : D) : Bool := (ks.all tkey && tkey k) || (ks.all ikey && ikey k)
theorem tkey_kin {d : D} (h : tkey d = true) : kin d = true := by
  cases d with
  | tuple ds =>
    simp only [tkey, Bool.and_eq_true] at h
    simpa only [kin] using h.1
  | _ => cases h
theorem ikey_kin {d : D} (h : ikey d = true) : kin d = true := by
  cases d with
  | int _ => rfl
  | _ => cases h
mutual
/-- == of keys is equality -/
theorem eqv_kin : ∀ (d e : D), kin d = true → kin e = true → (PyData.eqv d e = true ↔ d = e)
  | .none, .none, _, _ => by simp [PyData.eqv]
  | .int i, .int j, _, _ => by simp [PyData.eqv]
  | .tuple xs, .tuple ys, h, k => by
    simp only [kin] at h k
    simp only [PyData.eqv, PyData.tuple.injEq]
    exact eqvs_kin xs ys h k
  | .none, .int _, _, _ => by simp [PyData.eqv]
  | .none, .tuple _, _, _ => by simp [PyData.eqv]
  | .int _, .none, _, _ => by simp [PyData.eqv]
  | .int _, .tuple _, _, _ => by simp [PyData.eqv]
  | .tuple _, .none, _, _ => by simp [PyData.eqv]
  | .tuple _, .int _, _, _ => by simp [PyData.eqv]
  | .bool _, _, h, _ => by simp [kin] at h
  | .str _, _, h, _ => by simp [kin] at h
  | .list _, _, h, _ => by simp [kin] at h
  | .dict _, _, h, _ => by simp [kin] at h
  | _, .bool _, _, h => by simp [kin] at h
  | _, .str _, _, h => by simp [kin] at h
  | _, .list _, _, h => by simp [kin] at h
  | _, .dict _, _, h => by simp [kin] at h
theorem eqvs_kin : ∀ (xs ys : List D), kins xs = true → kins ys = true → (PyData.eqvAll xs ys = true ↔ xs = ys)
  | [], [], _, _ => by simp [PyData.eqvAll]
  | [], _ :: _, _, _ => by simp [PyData.eqvAll]
  | _ :: _, [], _, _ => by simp [PyData.eqvAll]
  | x :: xs, y :: ys, h, k => by
    simp only [kins, Bool.and_eq_true] at h k
    simp only [PyData.eqvAll, Bool.and_eq_true, List.cons.injEq]
    rw [eqv_kin x y h.1 k.1, eqvs_kin xs ys h.2 k.2]
end
end Mb

/-! A layer of values over the hand layer: what a def computes, as a tree of draws over plain data. -/
namespace Mb
open PySem L2


/-! ### trees -/
inductive Tr (α : Type) where
  | ret (a : α)
  | exc (c : Nat)
  | bad
  | draw (n : Nat) (k : Nat → Tr α)
namespace Tr
variable {α β γ : Type}
def bind : Tr α → (α → Tr β) → Tr β
  | .ret a, f => f a
  | .exc c, _ => .exc c
  | .bad, _ => .bad
  | .draw n k, f => .draw n fun r => (k r).bind f
def all (P : α → Prop) (E : Nat → Prop) : Tr α → Prop
  | .ret a => P a
  | .exc c => E c
  | .bad => False
  | .draw n k => ∀ r, r < n → (k r).all P E
theorem all_bind {P : β → Prop} {E : Nat → Prop} {f : α → Tr β} : ∀ {t : Tr α}, (t.bind f).all P E → t.all (fun a => (f a).all P E) E
  | .ret _, h => h
  | .exc _, h => h
  | .bad, h => h
  | .draw _ _, h => fun r hr => all_bind (h r hr)
theorem all_mono {P P' : α → Prop} {E E' : Nat → Prop} (hp : ∀ a, P a → P' a) (he : ∀ c, E c → E' c) : ∀ {t : Tr α}, t.all P E → t.all P' E'
  | .ret a, h => hp a h
  | .exc c, h => he c h
  | .bad, h => h
  | .draw _ _, h => fun r hr => all_mono hp he (h r hr)
theorem bind_all {P : β → Prop} {E : Nat → Prop} {f : α → Tr β} : ∀ {t : Tr α}, t.all (fun a => (f a).all P E) E → (t.bind f).all P E
  | .ret _, h => h
  | .exc _, h => h
  | .bad, h => h
  | .draw _ _, h => fun r hr => bind_all (h r hr)
end Tr

/-! ### heaps -/
open Classical in
noncomputable def mask (H : Hp) (M : Addr → Prop) : Hp := fun a => if M a then none else H a
theorem mask_in {H : Hp} {M : Addr → Prop} {a : Addr} (h : M a) : mask H M a = none := by unfold mask; rw [if_pos h]
theorem mask_out {H : Hp} {M : Addr → Prop} {a : Addr} (h : ¬ M a) : mask H M a = H a := by unfold mask; rw [if_neg h]
theorem mask_some {H : Hp} {M : Addr → Prop} {a : Addr} {o : HO} (h : mask H M a = some o) : ¬ M a ∧ H a = some o := by
  by_cases q : M a
  · rw [mask_in q] at h; cases h
  · rw [mask_out q] at h; exact ⟨q, h⟩
theorem mask_same {H H' : Hp} {M M' : Addr → Prop} (h : ∀ a o, ¬ M a → H a = some o → ¬ M' a ∧ H' a = some o) : Same (mask H M) (mask H' M') := fun a o e => by
  obtain ⟨n, e⟩ := mask_some e
  obtain ⟨n', e'⟩ := h a o n e
  rw [mask_out n']; exact e'
theorem mask_le (H : Hp) (M : Addr → Prop) : Same (mask H M) H := fun a o e => (mask_some e).2
theorem same_sqT {K : PySem.W.Frag} {H H' : Hp} {a : Addr} {xs : List V} (e : Same H H') (h : SqT K H a xs) : SqT K H' a xs := by
  rcases h with (h | ⟨o, h⟩) | h
  · exact .inl (.inl (e _ _ h))
  · exact .inl (.inr ⟨o, e _ _ h⟩)
  · exact .inr h

/-! ### what a value stands for -/
mutual
inductive Rep (K : PySem.W.Frag) (H : Hp) : V → D → Prop
  | non : Rep K H .non .none
  | bl (b : Bool) : Rep K H (.bl b) (.bool b)
  | int (i : Int) : Rep K H (.int i) (.int i)
  | str (x : Str) : Rep K H (.str x) (.str x)
  | lst {a : Addr} {xs : List V} {ds : List D} : H a = some (.lst xs) → RepAll K H xs ds → Rep K H (.ref a) (.list ds)
  | tup {a : Addr} {xs : List V} {ds : List D} : SqT K H a xs → RepAll K H xs ds → Rep K H (.ref a) (.tuple ds)
  | dic {a : Addr} {o : Obj} {es : Array DictEntry} {ep : Nat} {ks vs : List V} {dks dvs : List D} : H a = some (DicO a o) → o.ExactDict → o.data = .dict es ep → Vals ks (es.toList.map (·.key)) → Vals vs (es.toList.map (·.val)) → es.toList.map (·.hash) = dks.map hD → dks.Nodup → kindA dks = true → dks.length ≤ lim → RepAll K H ks dks → RepAll K H vs dvs → Rep K H (.ref a) (.dict (dks.zip dvs))
inductive RepAll (K : PySem.W.Frag) (H : Hp) : List V → List D → Prop
  | nil : RepAll K H [] []
  | cons {v : V} {vs : List V} {d : D} {ds : List D} : Rep K H v d → RepAll K H vs ds → RepAll K H (v :: vs) (d :: ds)
end
section
variable {K : PySem.W.Frag} {H H' : Hp}
mutual
theorem Rep.mono (s : Same H H') : ∀ {v : V} {d : D}, Rep K H v d → Rep K H' v d
  | _, _, .non => .non
  | _, _, .bl b => .bl b
  | _, _, .int i => .int i
  | _, _, .str x => .str x
  | _, _, .lst h r => .lst (s _ _ h) (RepAll.mono s r)
  | _, _, .tup h r => .tup (same_sqT s h) (RepAll.mono s r)
  | _, _, .dic h h1 h2 h3 h4 h5 h6 h7 h8 r r' => .dic (s _ _ h) h1 h2 h3 h4 h5 h6 h7 h8 (RepAll.mono s r) (RepAll.mono s r')
theorem RepAll.mono (s : Same H H') : ∀ {vs : List V} {ds : List D}, RepAll K H vs ds → RepAll K H' vs ds
  | _, _, .nil => .nil
  | _, _, .cons h r => .cons (Rep.mono s h) (RepAll.mono s r)
end
theorem RepAll.length : ∀ {vs : List V} {ds : List D}, RepAll K H vs ds → vs.length = ds.length
  | _, _, .nil => rfl
  | _, _, .cons _ r => by rw [List.length_cons, List.length_cons, r.length]
theorem RepAll.get : ∀ {vs : List V} {ds : List D} {i : Nat} {v : V}, RepAll K H vs ds → vs[i]? = some v → ∃ d, ds[i]? = some d ∧ Rep K H v d
  | _, _, _, _, .nil, e => by simp at e
  | _, _, 0, _, .cons h _, e => by simp at e; subst e; exact ⟨_, rfl, h⟩
  | _, _, i + 1, v, .cons _ r, e => by
    obtain ⟨d, h1, h2⟩ := RepAll.get (i := i) (v := v) r (by simpa using e)
    exact ⟨d, by simpa using h1, h2⟩
theorem RepAll.getD : ∀ {vs : List V} {ds : List D} {i : Nat} {d : D}, RepAll K H vs ds → ds[i]? = some d → ∃ v, vs[i]? = some v ∧ Rep K H v d
  | _, _, _, _, .nil, e => by simp at e
  | _, _, 0, _, .cons h _, e => by simp at e; subst e; exact ⟨_, rfl, h⟩
  | _, _, i + 1, d, .cons _ r, e => by
    obtain ⟨v, h1, h2⟩ := RepAll.getD (i := i) (d := d) r (by simpa using e)
    exact ⟨v, by simpa using h1, h2⟩
theorem RepAll.append : ∀ {vs ws : List V} {ds es : List D}, RepAll K H vs ds → RepAll K H ws es → RepAll K H (vs ++ ws) (ds ++ es)
  | _, _, _, _, .nil, s => s
  | _, _, _, _, .cons h r, s => .cons h (RepAll.append r s)
theorem RepAll.drop : ∀ {vs : List V} {ds : List D} (n : Nat), RepAll K H vs ds → RepAll K H (vs.drop n) (ds.drop n)
  | _, _, 0, r => r
  | _, _, _ + 1, .nil => .nil
  | _, _, n + 1, .cons _ r => RepAll.drop n r
theorem RepAll.take : ∀ {vs : List V} {ds : List D} (n : Nat), RepAll K H vs ds → RepAll K H (vs.take n) (ds.take n)
  | _, _, 0, _ => .nil
  | _, _, _ + 1, .nil => .nil
  | _, _, n + 1, .cons h r => .cons h (RepAll.take n r)
theorem RepAll.set {v : V} {d : D} (h : Rep K H v d) : ∀ {vs : List V} {ds : List D} (i : Nat), RepAll K H vs ds → RepAll K H (vs.set i v) (ds.set i d)
  | _, _, _, .nil => .nil
  | _, _, 0, .cons _ r => .cons h r
  | _, _, i + 1, .cons q r => .cons q (RepAll.set h i r)
theorem RepAll.replicate {vs : List V} {ds : List D} (r : RepAll K H vs ds) : ∀ n : Nat, RepAll K H (List.replicate n vs).flatten (List.replicate n ds).flatten
  | 0 => .nil
  | n + 1 => by
    rw [List.replicate_succ, List.replicate_succ, List.flatten_cons, List.flatten_cons]
    exact r.append (RepAll.replicate r n)
theorem RepAll.ints : ∀ {vs : List V} {ns : List Int}, RepAll K H vs (ns.map PyData.int) → vs = ns.map V.int
  | [], [], _ => rfl
  | _ :: _, [], h => by cases h
  | [], _ :: _, h => by cases h
  | v :: vs, n :: ns, h => by
    rw [List.map_cons] at h
    cases h with
    | cons h r =>
      cases h
      rw [RepAll.ints r]; rfl
theorem RepAll.bools : ∀ {vs : List V} {bs : List Bool}, RepAll K H vs (bs.map PyData.bool) → vs = bs.map V.bl
  | [], [], _ => rfl
  | _ :: _, [], h => by cases h
  | [], _ :: _, h => by cases h
  | v :: vs, n :: ns, h => by
    rw [List.map_cons] at h
    cases h with
    | cons h r =>
      cases h
      rw [RepAll.bools r]; rfl
theorem RepAll.strs : ∀ {vs : List V} {bs : List Str}, RepAll K H vs (bs.map PyData.str) → vs = bs.map V.str
  | [], [], _ => rfl
  | _ :: _, [], h => by cases h
  | [], _ :: _, h => by cases h
  | v :: vs, n :: ns, h => by
    rw [List.map_cons] at h
    cases h with
    | cons h r =>
      cases h
      rw [RepAll.strs r]; rfl
mutual
theorem Rep.dp : ∀ {v : V} {d : D}, Rep K H v d → d.canLay0 = true → Dp K H v d
  | _, _, .non, _ => .non
  | _, _, .bl b, _ => .bl b
  | _, _, .int i, _ => .int i
  | _, _, .str x, _ => .str x
  | _, _, .lst h r, c => .lst (SqL.of h) (RepAll.dp r (by simpa only [PyData.canLay0] using c))
  | _, _, .tup h r, c => .tup h (RepAll.dp r (by simpa only [PyData.canLay0] using c))
  | _, _, .dic _ _ _ _ _ _ _ _ _ _ _, c => by simp only [PyData.canLay0] at c; exact absurd c (by decide)
theorem RepAll.dp : ∀ {vs : List V} {ds : List D}, RepAll K H vs ds → PyData.canLayAll0 ds = true → DpAll K H vs ds
  | _, _, .nil, _ => .nil
  | _, _, .cons h r, c => by
    simp only [PyData.canLayAll0, Bool.and_eq_true] at c
    exact .cons (Rep.dp h c.1) (RepAll.dp r c.2)
end
end

/-! ### the draws -/
/-- the list of draws at a, its numbers at n -/
abbrev Dl := Option (Addr × Addr)
def dl (δ : Dl) (b : Addr) : Prop := ∃ a n, δ = some (a, n) ∧ (b = a ∨ b = n)
def DrOk (δ : Dl) (H : Hp) : Prop := ∀ a n, δ = some (a, n) → a ≠ n ∧ ∃ (c : Int) (ns : List Int), H a = some (.lst [.ref n, .int c]) ∧ 0 ≤ c ∧ H n = some (.lst (ns.map V.int)) ∧ 0 < ns.length ∧ ns.length ≤ 63
structure Kx (δ : Dl) (H H' : Hp) : Prop where
  keep : ∀ b o, H b = some o → ¬ dl δ b → H' b = some o
  dr : DrOk δ H'
theorem Kx.trans {δ : Dl} {H H1 H2 : Hp} (a : Kx δ H H1) (b : Kx δ H1 H2) : Kx δ H H2 := ⟨fun c o e n => b.keep c o (a.keep c o e n) n, b.dr⟩
theorem Kx.refl {δ : Dl} {H : Hp} (d : DrOk δ H) : Kx δ H H := ⟨fun _ _ e _ => e, d⟩
theorem DrOk.same {δ : Dl} {H H' : Hp} (d : DrOk δ H) (s : Same H H') : DrOk δ H' := fun a n e => by
  obtain ⟨h, c, ns, h1, h2, h3, h4⟩ := d a n e
  exact ⟨h, c, ns, s _ _ h1, h2, s _ _ h3, h4⟩
theorem Kx.of_same {δ : Dl} {H H' : Hp} (d : DrOk δ H) (s : Same H H') : Kx δ H H' := ⟨fun b o e _ => s b o e, d.same s⟩
theorem DrOk.some {δ : Dl} {H : Hp} (d : DrOk δ H) {b : Addr} (h : dl δ b) : ∃ o, H b = some o := by
  obtain ⟨a, n, e, q⟩ := h
  obtain ⟨_, c, ns, h1, _, h3, _⟩ := d a n e
  rcases q with rfl | rfl
  · exact ⟨_, h1⟩
  · exact ⟨_, h3⟩
theorem Kx.free {δ : Dl} {H H' : Hp} (k : Kx δ H H') (d : DrOk δ H) {b : Addr} (h : H' b = none) : H b = none := by
  cases q : H b with
  | none => rfl
  | some o =>
    by_cases hd : dl δ b
    · obtain ⟨o', e⟩ := k.dr.some hd
      rw [e] at h; cases h
    · rw [k.keep b o q hd] at h; cases h
theorem same_new {H : Hp} {p : Addr} {o : HO} (h : H p = none) : Same H (upd H p o) := fun b x e => by
  rw [upd_ne (ne_of_none e h)]; exact e

/-! ### dicts -/
def EnR (K : PySem.W.Frag) (HM : Hp) (e : DictEntry) (p : D × D) : Prop := ∃ kv vv : V, RelV kv e.key ∧ RelV vv e.val ∧ Rep K HM kv p.1 ∧ Rep K HM vv p.2 ∧ e.hash = hD p.1
structure RDk (K : PySem.W.Frag) (HM : Hp) (o : Obj) (kvs : List (D × D)) : Prop where
  ex : o.ExactDict
  en : ∃ es ep, o.data = .dict es ep ∧ Paired (EnR K HM) es.toList kvs
  nd : (kvs.map (·.1)).Nodup
  kd : kindA (kvs.map (·.1)) = true
  le : kvs.length ≤ lim
theorem EnR.mono {K : PySem.W.Frag} {H H' : Hp} (s : Same H H') {e : DictEntry} {p : D × D} (r : EnR K H e p) : EnR K H' e p := by
  obtain ⟨kv, vv, a, b, c, d, e⟩ := r
  exact ⟨kv, vv, a, b, c.mono s, d.mono s, e⟩
theorem RDk.mono {K : PySem.W.Frag} {H H' : Hp} {o : Obj} {kvs : List (D × D)} (s : Same H H') (r : RDk K H o kvs) : RDk K H' o kvs := by
  obtain ⟨h1, ⟨es, ep, h2, h3⟩, h4, h5, h6⟩ := r
  exact ⟨h1, ⟨es, ep, h2, Paired.mapP h3 fun e p q => q.mono s⟩, h4, h5, h6⟩
theorem paired_split {K : PySem.W.Frag} {H : Hp} : ∀ {es : List DictEntry} {kvs : List (D × D)}, Paired (EnR K H) es kvs → ∃ ks vs : List V, Vals ks (es.map (·.key)) ∧ Vals vs (es.map (·.val)) ∧ es.map (·.hash) = (kvs.map (·.1)).map hD ∧ RepAll K H ks (kvs.map (·.1)) ∧ RepAll K H vs (kvs.map (·.2))
  | _, _, .nil => ⟨[], [], .nil, .nil, rfl, .nil, .nil⟩
  | _, _, .cons h t => by
    obtain ⟨kv, vv, a, b, c, d, e⟩ := h
    obtain ⟨ks, vs, h1, h2, h3, h4, h5⟩ := paired_split t
    exact ⟨kv :: ks, vv :: vs, .cons a h1, .cons b h2, by simp only [List.map_cons, e, h3], .cons c h4, .cons d h5⟩
theorem paired_join {K : PySem.W.Frag} {H : Hp} : ∀ {es : List DictEntry} {ks vs : List V} {dks dvs : List D}, Vals ks (es.map (·.key)) → Vals vs (es.map (·.val)) → es.map (·.hash) = dks.map hD → RepAll K H ks dks → RepAll K H vs dvs → Paired (EnR K H) es (dks.zip dvs) ∧ dvs.length = dks.length
  | [], _, _, _, _, h1, h2, h3, h4, h5 => by
    cases h1; cases h2; cases h4; cases h5
    exact ⟨.nil, rfl⟩
  | e :: es, _, _, _, _, h1, h2, h3, h4, h5 => by
    rw [List.map_cons] at h1 h2 h3
    cases h1 with
    | cons a1 b1 =>
      cases h2 with
      | cons a2 b2 =>
        cases h4 with
        | cons a4 b4 =>
          cases h5 with
          | cons a5 b5 =>
            rw [List.map_cons] at h3
            injection h3 with x y
            obtain ⟨p, q⟩ := paired_join b1 b2 y b4 b5
            exact ⟨.cons ⟨_, _, a1, a2, a4, a5, x⟩ p, by simp only [List.length_cons, q]⟩
theorem zip_fst {α β : Type} : ∀ {l : List α} {m : List β}, m.length = l.length → (l.zip m).map (·.1) = l
  | [], [], _ => rfl
  | [], _ :: _, h => by simp at h
  | _ :: _, [], h => by simp at h
  | a :: l, b :: m, h => by
    simp only [List.zip_cons_cons, List.map_cons]
    rw [zip_fst (by simpa using h)]
theorem zip_maps {α β : Type} : ∀ (l : List (α × β)), (l.map (·.1)).zip (l.map (·.2)) = l
  | [] => rfl
  | a :: l => by simp only [List.map_cons, List.zip_cons_cons, zip_maps l]
theorem RDk.rep {K : PySem.W.Frag} {H : Hp} {a : Addr} {o : Obj} {kvs : List (D × D)} (h : H a = some (DicO a o)) (r : RDk K H o kvs) : Rep K H (.ref a) (.dict kvs) := by
  obtain ⟨h1, ⟨es, ep, h2, h3⟩, h4, h5, h6⟩ := r
  obtain ⟨ks, vs, q1, q2, q3, q4, q5⟩ := paired_split h3
  have := Rep.dic h h1 h2 q1 q2 q3 h4 h5 (by simpa using h6) q4 q5
  rw [zip_maps] at this
  exact this
theorem Rep.rdk {K : PySem.W.Frag} {H : Hp} {v : V} {kvs : List (D × D)} (r : Rep K H v (.dict kvs)) : ∃ a o, v = .ref a ∧ H a = some (DicO a o) ∧ RDk K H o kvs := by
  cases r with
  | @dic a o es ep ks vs dks dvs h h1 h2 q1 q2 q3 h4 h5 h6 q4 q5 =>
    obtain ⟨p, q⟩ := paired_join q1 q2 q3 q4 q5
    refine ⟨a, o, rfl, h, h1, ⟨es, ep, h2, p⟩, ?_, ?_, ?_⟩
    · rw [zip_fst q]; exact h4
    · rw [zip_fst q]; exact h5
    · simp [q]; exact h6
/-! ### a def's state -/
/-- an exception object of the class C, kept -/
def ExT (C : Addr) (a : Addr) : HO := .ext fun h => ∃ (oe : Obj) (vs : Array Value), h.get? a = some oe ∧ Zc (.ref C) none oe ∧ oe.data = .fields vs
inductive Ent where
  | un
  | fz (d : D)
  | ow (ds : List D)
  | od (kvs : List (D × D))
  | dr
  | ex (c : Nat)
structure Fx where
  K : PySem.W.Frag
  cl : Nat → Addr
  H0 : Hp
  O : Addr → Prop
  dt : Dl
  oin : ∀ a, O a → ∃ o, H0 a = some o
  odl : ∀ a, dl dt a → O a
  d0 : DrOk dt H0
abbrev Ads := List (Option Addr)
def Mm (F : Fx) (ad : Ads) (a : Addr) : Prop := F.O a ∨ some a ∈ ad
def EntOk (F : Fx) (ad : Ads) (H : Hp) (oa : Option Addr) (sv : Option V) : Ent → Prop
  | .un => oa = none
  | .fz d => oa = none ∧ ∃ v, sv = some v ∧ Rep F.K (mask H (Mm F ad)) v d
  | .ow ds => ∃ a vs, oa = some a ∧ sv = some (.ref a) ∧ H a = some (.lst vs) ∧ RepAll F.K (mask H (Mm F ad)) vs ds
  | .od kvs => ∃ a o, oa = some a ∧ sv = some (.ref a) ∧ H a = some (DicO a o) ∧ RDk F.K (mask H (Mm F ad)) o kvs
  | .dr => oa = none ∧ ∃ a n, F.dt = some (a, n) ∧ sv = some (.ref a)
  | .ex c => oa = none ∧ ∃ a, sv = some (.ref a) ∧ mask H (Mm F ad) a = some (ExT (F.cl c) a)
structure Ok (F : Fx) (B : Hp) (ad : Ads) (σ : St) (H : Hp) (env : List Ent) : Prop where
  hb : Same B (mask H (Mm F ad))
  k0 : Kx F.dt F.H0 H
  ls : σ.length = env.length
  la : ad.length = env.length
  ent : ∀ (i : Nat) oa sv e, ad[i]? = some oa → σ[i]? = some sv → env[i]? = some e → EntOk F ad H oa sv e
  inj : ∀ (i j : Nat) a, ad[i]? = some (some a) → ad[j]? = some (some a) → i = j
  new : ∀ (i : Nat) a, ad[i]? = some (some a) → F.H0 a = none
section
variable {F : Fx} {B : Hp} {ad : Ads} {σ : St} {H H' : Hp} {env : List Ent}
theorem Ok.at_ (o : Ok F B ad σ H env) {i : Nat} {e : Ent} (h : env[i]? = some e) : ∃ oa sv, ad[i]? = some oa ∧ σ[i]? = some sv ∧ EntOk F ad H oa sv e := by
  have hi : i < env.length := (List.getElem?_eq_some_iff.mp h).1
  have h1 : i < ad.length := by rw [o.la]; exact hi
  have h2 : i < σ.length := by rw [o.ls]; exact hi
  exact ⟨_, _, List.getElem?_eq_getElem h1, List.getElem?_eq_getElem h2, o.ent i _ _ e (List.getElem?_eq_getElem h1) (List.getElem?_eq_getElem h2) h⟩
theorem Ok.Msome (o : Ok F B ad σ H env) {a : Addr} (h : Mm F ad a) : ∃ x, H a = some x := by
  rcases h with h | h
  · by_cases q : dl F.dt a
    · exact o.k0.dr.some q
    · obtain ⟨x, e⟩ := F.oin a h
      exact ⟨x, o.k0.keep a x e q⟩
  · obtain ⟨i, hi, e⟩ := List.getElem_of_mem h
    have he : ad[i]? = some (some a) := by rw [List.getElem?_eq_getElem hi, e]
    have h2 : i < env.length := by rw [← o.la]; exact hi
    obtain ⟨oa, sv, e1, e2, q⟩ := o.at_ (List.getElem?_eq_getElem h2)
    rw [he] at e1; cases e1
    cases hq : env[i] with
    | un => rw [hq] at q; cases q
    | fz d => rw [hq] at q; cases q.1
    | ow ds =>
      rw [hq] at q
      obtain ⟨a', vs, r, _, r', _⟩ := q
      cases r
      exact ⟨_, r'⟩
    | od kvs =>
      rw [hq] at q
      obtain ⟨a', o', r, _, r', _⟩ := q
      cases r
      exact ⟨_, r'⟩
    | dr => rw [hq] at q; cases q.1
    | ex c => rw [hq] at q; cases q.1
theorem Ok.notM (o : Ok F B ad σ H env) {p : Addr} (h : H p = none) : ¬ Mm F ad p := fun q => by
  obtain ⟨x, e⟩ := o.Msome q
  rw [h] at e; cases e
theorem Mm_dl (h : dl F.dt a) : Mm F ad a := .inl (F.odl a h)
theorem Ok.notdl (o : Ok F B ad σ H env) {i : Nat} {a : Addr} (h : ad[i]? = some (some a)) : ¬ dl F.dt a := fun q => by
  obtain ⟨x, e⟩ := F.oin a (F.odl a q)
  rw [o.new i a h] at e; cases e
theorem Ok.notO (o : Ok F B ad σ H env) {i : Nat} {a : Addr} (h : ad[i]? = some (some a)) : ¬ F.O a := fun q => by
  obtain ⟨x, e⟩ := F.oin a q
  rw [o.new i a h] at e; cases e
/-- the heap has grown (the draws may have turned) -/
theorem Kx.msame (k : Kx F.dt H H') : Same (mask H (Mm F ad)) (mask H' (Mm F ad)) := mask_same fun a o n e => ⟨n, k.keep a o e fun q => n (Mm_dl q)⟩
theorem Ok.kx (o : Ok F B ad σ H env) (k : Kx F.dt H H') : Ok F B ad σ H' env where
  hb := o.hb.trans k.msame
  k0 := o.k0.trans k
  ls := o.ls
  la := o.la
  ent := fun i oa sv e h1 h2 h3 => by
    have q := o.ent i oa sv e h1 h2 h3
    cases e with
    | un => exact q
    | fz d => obtain ⟨q1, v, q2, r⟩ := q; exact ⟨q1, v, q2, r.mono k.msame⟩
    | ow ds =>
      obtain ⟨a, vs, q1, q2, q3, r⟩ := q
      subst q1
      exact ⟨a, vs, rfl, q2, k.keep _ _ q3 (o.notdl h1), r.mono k.msame⟩
    | od kvs =>
      obtain ⟨a, ob, q1, q2, q3, r⟩ := q
      subst q1
      exact ⟨a, ob, rfl, q2, k.keep _ _ q3 (o.notdl h1), r.mono k.msame⟩
    | dr => exact q
    | ex c => obtain ⟨q1, a, q2, q3⟩ := q; exact ⟨q1, a, q2, k.msame _ _ q3⟩
  inj := o.inj
  new := o.new
/-- another, larger ground -/
theorem Ok.ground (o : Ok F B ad σ H env) : Ok F (mask H (Mm F ad)) ad σ H env := ⟨Same.refl _, o.k0, o.ls, o.la, o.ent, o.inj, o.new⟩
theorem Ok.base {B' : Hp} (o : Ok F B ad σ H env) (s : Same B' B) : Ok F B' ad σ H env := ⟨s.trans o.hb, o.k0, o.ls, o.la, o.ent, o.inj, o.new⟩
theorem Mm_set {i : Nat} {a b : Addr} (h : Mm F (ad.set i (some b)) a) : Mm F ad a ∨ a = b := by
  rcases h with h | h
  · exact .inl (.inl h)
  · rcases List.mem_or_eq_of_mem_set h with q | q
    · exact .inl (.inr q)
    · cases q; exact .inr rfl
theorem Mm_setN {i : Nat} {a : Addr} (h : Mm F (ad.set i none) a) : Mm F ad a := by
  rcases h with h | h
  · exact .inl h
  · rcases List.mem_or_eq_of_mem_set h with q | q
    · exact .inr q
    · cases q
/-- a slot is given a value that is not its own -/
theorem Ok.setFz {i : Nat} {v : V} {d : D} (o : Ok F B ad σ H env) (r : Rep F.K (mask H (Mm F ad)) v d) : Ok F B (ad.set i none) (σ.set i (some v)) H (env.set i (.fz d)) := by
  have ms : Same (mask H (Mm F ad)) (mask H (Mm F (ad.set i none))) := mask_same fun a x n e => ⟨fun q => n (Mm_setN q), e⟩
  refine ⟨o.hb.trans ms, o.k0, by simp [o.ls], by simp [o.la], fun j oa sv e h1 h2 h3 => ?_, fun j k a h1 h2 => ?_, fun j a h => ?_⟩
  · by_cases hj : i = j
    · subst hj
      have hi : i < env.length := by
        have := (List.getElem?_eq_some_iff.mp h3).1
        simpa using this
      rw [List.getElem?_set_self (by rw [o.la]; exact hi)] at h1
      rw [List.getElem?_set_self (by rw [o.ls]; exact hi)] at h2
      rw [List.getElem?_set_self hi] at h3
      cases h1; cases h2; cases h3
      exact ⟨rfl, v, rfl, r.mono ms⟩
    · rw [List.getElem?_set_ne hj] at h1 h2 h3
      have q := o.ent j oa sv e h1 h2 h3
      cases e with
      | un => exact q
      | fz d => obtain ⟨q1, v, q2, r⟩ := q; exact ⟨q1, v, q2, r.mono ms⟩
      | ow ds => obtain ⟨a, vs, q1, q2, q3, r⟩ := q; exact ⟨a, vs, q1, q2, q3, r.mono ms⟩
      | od kvs => obtain ⟨a, vs, q1, q2, q3, r⟩ := q; exact ⟨a, vs, q1, q2, q3, r.mono ms⟩
      | dr => exact q
      | ex c => obtain ⟨q1, a, q2, q3⟩ := q; exact ⟨q1, a, q2, ms _ _ q3⟩
  · have e1 : ad[j]? = some (some a) := by
      by_cases hj : i = j
      · subst hj
        have := (List.getElem?_eq_some_iff.mp h1).1
        rw [List.getElem?_set_self (by simpa using this)] at h1; cases h1
      · rw [List.getElem?_set_ne hj] at h1; exact h1
    have e2 : ad[k]? = some (some a) := by
      by_cases hj : i = k
      · subst hj
        have := (List.getElem?_eq_some_iff.mp h2).1
        rw [List.getElem?_set_self (by simpa using this)] at h2; cases h2
      · rw [List.getElem?_set_ne hj] at h2; exact h2
    exact o.inj j k a e1 e2
  · by_cases hj : i = j
    · subst hj
      have := (List.getElem?_eq_some_iff.mp h).1
      rw [List.getElem?_set_self (by simpa using this)] at h; cases h
    · rw [List.getElem?_set_ne hj] at h; exact o.new j a h
/-- a slot is given a thing of its own: new at p -/
theorem Ok.setNew {i : Nat} {p : Addr} {e' : Ent} (o : Ok F B ad σ H env) (k : Kx F.dt H H') (hn : H p = none) (hE : EntOk F (ad.set i (some p)) H' (some p) (some (.ref p)) e') :
    Ok F B (ad.set i (some p)) (σ.set i (some (.ref p))) H' (env.set i e') := by
  have ms : Same (mask H (Mm F ad)) (mask H' (Mm F (ad.set i (some p)))) := mask_same fun a x n e => ⟨fun q => (Mm_set q).elim n (fun z => by rw [z, hn] at e; cases e), k.keep a x e fun q => n (Mm_dl q)⟩
  have h0p : F.H0 p = none := by
    cases q : F.H0 p with
    | none => rfl
    | some x =>
      by_cases z : dl F.dt p
      · obtain ⟨y, e⟩ := o.k0.dr.some z
        rw [hn] at e; cases e
      · rw [o.k0.keep p x q z] at hn; cases hn
  have nin : ∀ j, ad[j]? ≠ some (some p) := fun j e => o.notM hn (.inr (List.mem_of_getElem? e))
  refine ⟨o.hb.trans ms, o.k0.trans k, by simp [o.ls], by simp [o.la], fun j oa sv e h1 h2 h3 => ?_, fun j l a h1 h2 => ?_, fun j a h => ?_⟩
  · by_cases hj : i = j
    · subst hj
      have hi : i < env.length := by
        have := (List.getElem?_eq_some_iff.mp h3).1
        simpa using this
      rw [List.getElem?_set_self (by rw [o.la]; exact hi)] at h1
      rw [List.getElem?_set_self (by rw [o.ls]; exact hi)] at h2
      rw [List.getElem?_set_self hi] at h3
      cases h1; cases h2; cases h3
      exact hE
    · rw [List.getElem?_set_ne hj] at h1 h2 h3
      have q := o.ent j oa sv e h1 h2 h3
      cases e with
      | un => exact q
      | fz d => obtain ⟨q1, v, q2, r⟩ := q; exact ⟨q1, v, q2, r.mono ms⟩
      | ow ds => obtain ⟨a, vs, q1, q2, q3, r⟩ := q; subst q1; exact ⟨a, vs, rfl, q2, k.keep _ _ q3 (o.notdl h1), r.mono ms⟩
      | od kvs => obtain ⟨a, vs, q1, q2, q3, r⟩ := q; subst q1; exact ⟨a, vs, rfl, q2, k.keep _ _ q3 (o.notdl h1), r.mono ms⟩
      | dr => exact q
      | ex c => obtain ⟨q1, a, q2, q3⟩ := q; exact ⟨q1, a, q2, ms _ _ q3⟩
  · by_cases hj : i = j
    · by_cases hl : i = l
      · exact hj.symm.trans hl
      · subst hj
        have := (List.getElem?_eq_some_iff.mp h1).1
        rw [List.getElem?_set_self (by simpa using this)] at h1; cases h1
        rw [List.getElem?_set_ne hl] at h2
        exact absurd h2 (nin l)
    · rw [List.getElem?_set_ne hj] at h1
      by_cases hl : i = l
      · subst hl
        have := (List.getElem?_eq_some_iff.mp h2).1
        rw [List.getElem?_set_self (by simpa using this)] at h2; cases h2
        exact absurd h1 (nin j)
      · rw [List.getElem?_set_ne hl] at h2
        exact o.inj j l a h1 h2
  · by_cases hj : i = j
    · subst hj
      have := (List.getElem?_eq_some_iff.mp h).1
      rw [List.getElem?_set_self (by simpa using this)] at h; cases h
      exact h0p
    · rw [List.getElem?_set_ne hj] at h; exact o.new j a h
theorem Mm_new {i : Nat} {p : Addr} : Same (mask H' fun a => Mm F ad a ∨ a = p) (mask H' (Mm F (ad.set i (some p)))) := mask_same fun a x n e => ⟨fun q => n (Mm_set q), e⟩
/-- .. a list -/
theorem Ok.setOw {i : Nat} {p : Addr} {vs : List V} {ds : List D} (o : Ok F B ad σ H env) (k : Kx F.dt H H') (hn : H p = none) (hp : H' p = some (.lst vs)) (r : RepAll F.K (mask H' fun a => Mm F ad a ∨ a = p) vs ds) :
    Ok F B (ad.set i (some p)) (σ.set i (some (.ref p))) H' (env.set i (.ow ds)) := o.setNew k hn ⟨p, vs, rfl, rfl, hp, r.mono Mm_new⟩
/-- .. a dict -/
theorem Ok.setOd {i : Nat} {p : Addr} {ob : Obj} {kvs : List (D × D)} (o : Ok F B ad σ H env) (k : Kx F.dt H H') (hn : H p = none) (hp : H' p = some (DicO p ob)) (r : RDk F.K (mask H' fun a => Mm F ad a ∨ a = p) ob kvs) :
    Ok F B (ad.set i (some p)) (σ.set i (some (.ref p))) H' (env.set i (.od kvs)) := o.setNew k hn ⟨p, ob, rfl, rfl, hp, r.mono Mm_new⟩
/-- an own thing is changed -/
theorem Ok.putNew {i : Nat} {p : Addr} {ob : HO} {e' : Ent} (o : Ok F B ad σ H env) (hs : σ[i]? = some (some (.ref p))) (ha : ad[i]? = some (some p)) (hE : Same (mask H (Mm F ad)) (mask (upd H p ob) (Mm F ad)) → EntOk F ad (upd H p ob) (some p) (some (.ref p)) e') :
    Ok F B ad σ (upd H p ob) (env.set i e') := by
  have pm : Mm F ad p := .inr (List.mem_of_getElem? ha)
  have me : ∀ a, mask (upd H p ob) (Mm F ad) a = mask H (Mm F ad) a := fun a => by
    by_cases q : Mm F ad a
    · rw [mask_in q, mask_in q]
    · rw [mask_out q, mask_out q, upd_ne (fun z => q (by rw [z]; exact pm))]
  have ms : Same (mask H (Mm F ad)) (mask (upd H p ob) (Mm F ad)) := fun a x e => (me a).trans e
  have k : Kx F.dt F.H0 (upd H p ob) := by
    have np : ¬ dl F.dt p := o.notdl ha
    refine ⟨fun b x e n => ?_, fun a n e => ?_⟩
    · rw [upd_ne (ne_of_none e (o.new i p ha))]; exact o.k0.keep b x e n
    · obtain ⟨h, c, ns, h1, h2, h3, h4⟩ := o.k0.dr a n e
      have na : a ≠ p := fun z => np (z ▸ ⟨a, n, e, .inl rfl⟩)
      have nn : n ≠ p := fun z => np (z ▸ ⟨a, n, e, .inr rfl⟩)
      exact ⟨h, c, ns, by rw [upd_ne na]; exact h1, h2, by rw [upd_ne nn]; exact h3, h4⟩
  refine ⟨o.hb.trans ms, k, by simp [o.ls], by simp [o.la], fun j oa sv e h1 h2 h3 => ?_, o.inj, o.new⟩
  by_cases hj : i = j
  · subst hj
    have hi : i < env.length := by rw [← o.la]; exact (List.getElem?_eq_some_iff.mp ha).1
    rw [List.getElem?_set_self hi] at h3
    cases h3
    rw [ha] at h1; cases h1
    rw [hs] at h2; cases h2
    exact hE ms
  · rw [List.getElem?_set_ne hj] at h3
    have q := o.ent j oa sv e h1 h2 h3
    cases e with
    | un => exact q
    | fz d => obtain ⟨q1, v, q2, r⟩ := q; exact ⟨q1, v, q2, r.mono ms⟩
    | ow ds =>
      obtain ⟨a, vs, q1, q2, q3, r⟩ := q
      subst q1
      have ne : a ≠ p := fun z => hj (o.inj i j p ha (z ▸ h1))
      exact ⟨a, vs, rfl, q2, by rw [upd_ne ne]; exact q3, r.mono ms⟩
    | od kvs =>
      obtain ⟨a, vs, q1, q2, q3, r⟩ := q
      subst q1
      have ne : a ≠ p := fun z => hj (o.inj i j p ha (z ▸ h1))
      exact ⟨a, vs, rfl, q2, by rw [upd_ne ne]; exact q3, r.mono ms⟩
    | dr => exact q
    | ex c => obtain ⟨q1, a, q2, q3⟩ := q; exact ⟨q1, a, q2, ms _ _ q3⟩
theorem Ok.putOw {i : Nat} {p : Addr} {vs : List V} {ds ds0 : List D} (o : Ok F B ad σ H env) (he : env[i]? = some (.ow ds0)) (ha : ad[i]? = some (some p)) (r : RepAll F.K (mask H (Mm F ad)) vs ds) :
    Ok F B ad σ (upd H p (.lst vs)) (env.set i (.ow ds)) := by
  obtain ⟨oa, sv, e1, e2, a, ws, q1, q2, q3, _⟩ := o.at_ he
  subst q1 q2
  rw [ha] at e1; cases e1
  exact o.putNew e2 ha fun ms => ⟨p, vs, rfl, rfl, upd_same, r.mono ms⟩
theorem Ok.putOd {i : Nat} {p : Addr} {ob : Obj} {kvs kvs0 : List (D × D)} (o : Ok F B ad σ H env) (he : env[i]? = some (.od kvs0)) (ha : ad[i]? = some (some p)) (r : RDk F.K (mask H (Mm F ad)) ob kvs) :
    Ok F B ad σ (upd H p (DicO p ob)) (env.set i (.od kvs)) := by
  obtain ⟨oa, sv, e1, e2, a, ws, q1, q2, q3, _⟩ := o.at_ he
  subst q1 q2
  rw [ha] at e1; cases e1
  exact o.putNew e2 ha fun ms => ⟨p, ob, rfl, rfl, upd_same, r.mono ms⟩
/-- an own thing is no longer changed -/
theorem Ok.freezeG {i : Nat} {a : Addr} {d : D} (o : Ok F B ad σ H env) (e1 : ad[i]? = some (some a)) (e2 : σ[i]? = some (some (.ref a))) (hE : Same (mask H (Mm F ad)) (mask H (Mm F (ad.set i none))) → ¬ Mm F (ad.set i none) a → Rep F.K (mask H (Mm F (ad.set i none))) (.ref a) d) :
    Ok F B (ad.set i none) σ H (env.set i (.fz d)) := by
  have ms : Same (mask H (Mm F ad)) (mask H (Mm F (ad.set i none))) := mask_same fun a x n e => ⟨fun q => n (Mm_setN q), e⟩
  have na : ¬ Mm F (ad.set i none) a := fun q => by
    rcases q with q | q
    · exact o.notO e1 q
    · obtain ⟨j, hj, e⟩ := List.getElem_of_mem q
      have e' : (ad.set i none)[j]? = some (some a) := by rw [List.getElem?_eq_getElem hj, e]
      by_cases hij : i = j
      · subst hij
        rw [List.getElem?_set_self (by simpa using hj)] at e'; cases e'
      · rw [List.getElem?_set_ne hij] at e'
        exact hij (o.inj i j a e1 e')
  have hσ : σ.set i (some (V.ref a)) = σ := by
    apply List.ext_getElem?
    intro j
    by_cases hij : i = j
    · subst hij
      rw [List.getElem?_set_self (List.getElem?_eq_some_iff.mp e2).1, e2]
    · rw [List.getElem?_set_ne hij]
  have main := hE ms na
  -- first forget it, then say it
  refine ⟨o.hb.trans ms, o.k0, by simp [o.ls], by simp [o.la], fun j oa sv e h1 h2 h3 => ?_, fun j k a h1 h2 => ?_, fun j a h => ?_⟩
  · by_cases hj : i = j
    · subst hj
      have hi : i < env.length := by rw [← o.la]; exact (List.getElem?_eq_some_iff.mp e1).1
      rw [List.getElem?_set_self (by rw [o.la]; exact hi)] at h1
      rw [List.getElem?_set_self hi] at h3
      rw [e2] at h2
      cases h1; cases h2; cases h3
      exact ⟨rfl, _, rfl, main⟩
    · rw [List.getElem?_set_ne hj] at h1 h3
      have q := o.ent j oa sv e h1 h2 h3
      cases e with
      | un => exact q
      | fz d => obtain ⟨q1, v, q2, r⟩ := q; exact ⟨q1, v, q2, r.mono ms⟩
      | ow ds => obtain ⟨a, vs, q1, q2, q3, r⟩ := q; exact ⟨a, vs, q1, q2, q3, r.mono ms⟩
      | od kvs => obtain ⟨a, vs, q1, q2, q3, r⟩ := q; exact ⟨a, vs, q1, q2, q3, r.mono ms⟩
      | dr => exact q
      | ex c => obtain ⟨q1, a, q2, q3⟩ := q; exact ⟨q1, a, q2, ms _ _ q3⟩
  · have e1 : ad[j]? = some (some a) := by
      by_cases hj : i = j
      · subst hj
        have := (List.getElem?_eq_some_iff.mp h1).1
        rw [List.getElem?_set_self (by simpa using this)] at h1; cases h1
      · rw [List.getElem?_set_ne hj] at h1; exact h1
    have e2 : ad[k]? = some (some a) := by
      by_cases hj : i = k
      · subst hj
        have := (List.getElem?_eq_some_iff.mp h2).1
        rw [List.getElem?_set_self (by simpa using this)] at h2; cases h2
      · rw [List.getElem?_set_ne hj] at h2; exact h2
    exact o.inj j k a e1 e2
  · by_cases hj : i = j
    · subst hj
      have := (List.getElem?_eq_some_iff.mp h).1
      rw [List.getElem?_set_self (by simpa using this)] at h; cases h
    · rw [List.getElem?_set_ne hj] at h; exact o.new j a h
theorem Ok.freeze {i : Nat} {ds : List D} (o : Ok F B ad σ H env) (he : env[i]? = some (.ow ds)) : Ok F B (ad.set i none) σ H (env.set i (.fz (.list ds))) := by
  obtain ⟨oa, sv, e1, e2, q⟩ := o.at_ he
  obtain ⟨a, vs, rfl, rfl, q3, r⟩ := q
  exact o.freezeG e1 e2 fun ms na => .lst (by rw [mask_out na]; exact q3) (r.mono ms)
theorem Ok.freezeD {i : Nat} {kvs : List (D × D)} (o : Ok F B ad σ H env) (he : env[i]? = some (.od kvs)) : Ok F B (ad.set i none) σ H (env.set i (.fz (.dict kvs))) := by
  obtain ⟨oa, sv, e1, e2, q⟩ := o.at_ he
  obtain ⟨a, ob, rfl, rfl, q3, r⟩ := q
  exact o.freezeG e1 e2 fun ms na => (r.mono ms).rep (by rw [mask_out na]; exact q3)
end
end Mb

namespace Mb
open PySem L2

/-! ### the judgements: an expression, what it computes -/
abbrev Envt := List Ent
def ofO {α : Type} : Option α → Tr α
  | some a => .ret a
  | none => .bad
/-- what is wanted of an exception of the class c -/
def EOk (F : Fx) (E : XK) (c : Nat) : Prop := ∀ H', Kx F.dt F.H0 H' → E (.ref (F.cl c)) none H'
def Post (F : Fx) (ad : Ads) (H : Hp) (Q : VK) (d : D) : Prop := ∀ v H', Kx F.dt H H' → Rep F.K (mask H' (Mm F ad)) v d → Q v H'
def PostB (F : Fx) (ad : Ads) (H : Hp) (Q : VK) (d : D) : Prop := ∀ v H', Kx F.dt H H' → Rep F.K (mask H' F.O) v d → Q v H'
def PostN (F : Fx) (ad : Ads) (H : Hp) (Q : VK) (ds : List D) : Prop := ∀ p H' vs, Kx F.dt H H' → H p = none → H' p = some (.lst vs) → RepAll F.K (mask H' fun a => Mm F ad a ∨ a = p) vs ds → Q (.ref p) H'
def PostT (F : Fx) (ad : Ads) (H : Hp) (Q : Bool → Hp → Prop) (b : Bool) : Prop := ∀ H', Kx F.dt H H' → Q b H'
/-- an expression: its value is no list of a slot's own -/
def DE (cl : Nat → Addr) (X : Cx) (E : XK) (e : Expr) (f : Envt → Tr D) : Prop := ∃ t, PE X e t ∧ ∀ (F : Fx) (B : Hp) (ad : Ads) (σ : St) (H : Hp) (env : Envt) (Q : VK), F.K = X.K → F.cl = cl → Ok F B ad σ H env →
  (f env).all (Post F ad H Q) (EOk F E) → t σ H Q
/-- .. it may be -/
def DB (cl : Nat → Addr) (X : Cx) (E : XK) (e : Expr) (f : Envt → Tr D) : Prop := ∃ t, PE X e t ∧ ∀ (F : Fx) (B : Hp) (ad : Ads) (σ : St) (H : Hp) (env : Envt) (Q : VK), F.K = X.K → F.cl = cl → Ok F B ad σ H env →
  (f env).all (PostB F ad H Q) (EOk F E) → t σ H Q
/-- .. it is a new list -/
def DN (cl : Nat → Addr) (X : Cx) (E : XK) (e : Expr) (f : Envt → Tr (List D)) : Prop := ∃ t, PE X e t ∧ ∀ (F : Fx) (B : Hp) (ad : Ads) (σ : St) (H : Hp) (env : Envt) (Q : VK), F.K = X.K → F.cl = cl → Ok F B ad σ H env →
  (f env).all (PostN F ad H Q) (EOk F E) → t σ H Q
def DT (cl : Nat → Addr) (X : Cx) (E : XK) (e : Expr) (f : Envt → Tr Bool) : Prop := ∃ t, PT X e t ∧ ∀ (F : Fx) (B : Hp) (ad : Ads) (σ : St) (H : Hp) (env : Envt) (Q : Bool → Hp → Prop), F.K = X.K → F.cl = cl → Ok F B ad σ H env →
  (f env).all (PostT F ad H Q) (EOk F E) → t σ H Q
def DW (cl : Nat → Addr) (X : Cx) (E : XK) (e : Expr) (f : Envt → Tr Bool) : Prop := ∃ t, PW X e t ∧ ∀ (F : Fx) (B : Hp) (ad : Ads) (σ : St) (H : Hp) (env : Envt) (Q : Bool → Hp → Prop), F.K = X.K → F.cl = cl → Ok F B ad σ H env →
  (f env).all (PostT F ad H Q) (EOk F E) → t σ H Q
/-- arguments: values, or the draws -/
def ArgOk (K : PySem.W.Frag) (cl : Nat → Addr) (dt : Dl) (HM : Hp) (v : V) : Ent → Prop
  | .fz d => Rep K HM v d
  | .dr => ∃ a n, dt = some (a, n) ∧ v = .ref a
  | .ex c => ∃ a, v = .ref a ∧ HM a = some (ExT (cl c) a)
  | _ => False
inductive ArgsOk (K : PySem.W.Frag) (cl : Nat → Addr) (dt : Dl) (HM : Hp) : List V → List Ent → Prop
  | nil : ArgsOk K cl dt HM [] []
  | cons {v : V} {vs : List V} {e : Ent} {es : List Ent} : ArgOk K cl dt HM v e → ArgsOk K cl dt HM vs es → ArgsOk K cl dt HM (v :: vs) (e :: es)
theorem ArgOk.mono {K : PySem.W.Frag} {cl : Nat → Addr} {dt : Dl} {H H' : Hp} (s : Same H H') {v : V} {e : Ent} (h : ArgOk K cl dt H v e) : ArgOk K cl dt H' v e := by
  cases e with
  | fz d => exact Rep.mono s h
  | dr => exact h
  | ex c => obtain ⟨a, q1, q2⟩ := h; exact ⟨a, q1, s _ _ q2⟩
  | un => exact h
  | ow _ => exact h
  | od _ => exact h
theorem ArgsOk.mono {K : PySem.W.Frag} {cl : Nat → Addr} {dt : Dl} {H H' : Hp} (s : Same H H') : ∀ {vs : List V} {es : List Ent}, ArgsOk K cl dt H vs es → ArgsOk K cl dt H' vs es
  | _, _, .nil => .nil
  | _, _, .cons h r => .cons (h.mono s) (ArgsOk.mono s r)
theorem ArgsOk.length {K : PySem.W.Frag} {cl : Nat → Addr} {dt : Dl} {H : Hp} : ∀ {vs : List V} {es : List Ent}, ArgsOk K cl dt H vs es → vs.length = es.length
  | _, _, .nil => rfl
  | _, _, .cons _ r => by rw [List.length_cons, List.length_cons, r.length]
def PostA (F : Fx) (ad : Ads) (H : Hp) (Q : List V → Hp → Prop) (es : List Ent) : Prop := ∀ vs H', Kx F.dt H H' → ArgsOk F.K F.cl F.dt (mask H' (Mm F ad)) vs es → Q vs H'
def DA (cl : Nat → Addr) (X : Cx) (E : XK) (es : List Expr) (f : Envt → Tr (List Ent)) : Prop := ∃ t, PA X es t ∧ ∀ (F : Fx) (B : Hp) (ad : Ads) (σ : St) (H : Hp) (env : Envt) (Q : List V → Hp → Prop), F.K = X.K → F.cl = cl → Ok F B ad σ H env →
  (f env).all (PostA F ad H Q) (EOk F E) → t σ H Q

section
variable {cl : Nat → Addr} {X : Cx} {E : XK} {e a b c : Expr} {f g h : Envt → Tr D} {pos : Pos}
theorem mm_O {F : Fx} (ad : Ads) (H : Hp) : Same (mask H (Mm F ad)) (mask H F.O) := mask_same fun a x n e => ⟨fun q => n (.inl q), e⟩
theorem kxO {F : Fx} {H H' : Hp} (k : Kx F.dt H H') : Same (mask H F.O) (mask H' F.O) := mask_same fun a o n e => ⟨n, k.keep a o e fun q => n (F.odl a q)⟩
theorem DE.db (q : DE cl X E e f) : DB cl X E e f := by
  obtain ⟨t, p, r⟩ := q
  exact ⟨t, p, fun F B ad σ H env Q hk hc o k => r F B ad σ H env Q hk hc o (Tr.all_mono (fun d z v H' kx rp => z v H' kx (rp.mono (mm_O _ _))) (fun _ z => z) k)⟩
theorem Ok.nm {F : Fx} {B : Hp} {ad : Ads} {σ : St} {H H' : Hp} {env : Envt} (o : Ok F B ad σ H env) (k : Kx F.dt H H') {p : Addr} (h : H' p = none) : ¬ Mm F ad p := (o.kx k).notM h
theorem DN.de {f : Envt → Tr (List D)} (q : DN cl X E e f) : DE cl X E e (fun env => (f env).bind fun ds => .ret (.list ds)) := by
  obtain ⟨t, p, r⟩ := q
  refine ⟨t, p, fun F B ad σ H env Q hk hc o k => r F B ad σ H env Q hk hc o (Tr.all_mono (fun ds z p H' vs kx hn hp rp => z _ H' kx ?_) (fun _ z => z) (Tr.all_bind k))⟩
  refine .lst (by rw [mask_out (o.notM hn)]; exact hp) (rp.mono (mask_same fun a x n e => ⟨fun m => n (.inl m), e⟩))

/-! ### names, constants -/
def vVar (i : Nat) : Envt → Tr D := fun env => match env[i]? with
  | some (.fz d) => .ret d
  | _ => .bad
def vBor (i : Nat) : Envt → Tr D := fun env => match env[i]? with
  | some (.fz d) => .ret d
  | some (.ow ds) => .ret (.list ds)
  | some (.od kvs) => .ret (.dict kvs)
  | _ => .bad
def vC (d : D) : Envt → Tr D := fun _ => .ret d
theorem de_var (i : Nat) {x : Str} (hN : X.N[i]? = some x := by rfl) (hv : Vis X.env.scope x := by first | exact Or.inl rfl | exact Or.inr (Or.inl rfl) | exact Or.inr (Or.inr rfl)) (hd : (x == ("__debug__" : Str)) = false := by decide)
    (hcd : (x == ("__classdict__" : Str)) = false := by decide) : DE cl X E (.Name x pos) (vVar i) := by
  refine ⟨_, pe_var (i := i) hN hv hd hcd, fun F B ad σ H env Q hk hc o k => ?_⟩
  unfold vVar at k
  split at k
  · rename_i d he
    obtain ⟨oa, sv, e1, e2, q1, v, rfl, r⟩ := o.at_ he
    exact ⟨v, e2, k v H (Kx.refl o.k0.dr) r⟩
  · exact k.elim
theorem db_var (i : Nat) {x : Str} (hN : X.N[i]? = some x := by rfl) (hv : Vis X.env.scope x := by first | exact Or.inl rfl | exact Or.inr (Or.inl rfl) | exact Or.inr (Or.inr rfl)) (hd : (x == ("__debug__" : Str)) = false := by decide)
    (hcd : (x == ("__classdict__" : Str)) = false := by decide) : DB cl X E (.Name x pos) (vBor i) := by
  refine ⟨_, pe_var (i := i) hN hv hd hcd, fun F B ad σ H env Q hk hc o k => ?_⟩
  unfold vBor at k
  split at k
  · rename_i d he
    obtain ⟨oa, sv, e1, e2, q1, v, rfl, r⟩ := o.at_ he
    exact ⟨v, e2, k v H (Kx.refl o.k0.dr) (r.mono (mm_O _ _))⟩
  · rename_i ds he
    obtain ⟨oa, sv, e1, e2, p, vs, rfl, rfl, hp, r⟩ := o.at_ he
    exact ⟨_, e2, k _ H (Kx.refl o.k0.dr) (.lst (by rw [mask_out (o.notO e1)]; exact hp) (r.mono (mm_O _ _)))⟩
  · rename_i ds he
    obtain ⟨oa, sv, e1, e2, p, ob, rfl, rfl, hp, r⟩ := o.at_ he
    exact ⟨_, e2, k _ H (Kx.refl o.k0.dr) ((r.mono (mm_O _ _)).rep (by rw [mask_out (o.notO e1)]; exact hp))⟩
  · exact k.elim
theorem de_c {t : TE} {v : V} {d : D} (p : PE X e (tC v)) (r : ∀ H, Rep X.K H v d) : DE cl X E e (vC d) :=
  ⟨_, p, fun F B ad σ H env Q hk hc o k => k v H (Kx.refl o.k0.dr) (by rw [hk]; exact r _)⟩
theorem de_int {i : Int} {j : Nat} : DE cl X E (.Constant (.int i) j pos) (vC (.int i)) := de_c (t := tC .non) pe_int fun _ => .int i
theorem de_bl {i : Bool} {j : Nat} : DE cl X E (.Constant (.bool i) j pos) (vC (.bool i)) := de_c (t := tC .non) pe_bl fun _ => .bl i
theorem de_non {j : Nat} : DE cl X E (.Constant .none j pos) (vC .none) := de_c (t := tC .non) pe_non fun _ => .non
theorem de_str {i : Str} {j : Nat} : DE cl X E (.Constant (.str i) j pos) (vC (.str i)) := de_c (t := tC .non) pe_str fun _ => .str i
theorem de_glob {x : Str} {v : V} {u : Value} {d : D} (hm : X.mg x = some u) (r : RelV v u) (q : ∀ H, Rep X.K H v d) (hg : Gl X x := by rfl) (hd : (x == ("__debug__" : Str)) = false := by decide) : DE cl X E (.Name x pos) (vC d) :=
  de_c (t := tC .non) (pe_glob hg hm r hd) q

/-! ### two operands -/
/-- the reading r of two values computes f -/
def Sem2 (K : PySem.W.Frag) (r : R2) (f : D → D → Option D) : Prop := ∀ (dt : Dl) (M : Addr → Prop) (H : Hp) (x y : V) (d e z : D) (Q : VK), DrOk dt H → (∀ a, dl dt a → M a) → (∀ p, H p = none → ¬ M p) → Rep K (mask H M) x d → Rep K (mask H M) y e → f d e = some z →
  (∀ v H', Kx dt H H' → Rep K (mask H' M) v z → Q v H') → r x y H Q
def SemB (K : PySem.W.Frag) (r : R2) (f : D → D → Option D) : Prop := ∀ (H : Hp) (x y : V) (d e z : D) (Q : VK), Rep K H x d → Rep K H y e → f d e = some z → (∀ v, (∀ H, Rep K H v z) → Q v H) → r x y H Q
def v2 (op : D → D → Option D) (f g : Envt → Tr D) : Envt → Tr D := fun env => (f env).bind fun x => (g env).bind fun y => ofO (op x y)
theorem Sem2.or {K : PySem.W.Frag} {r r' : R2} {f f' : D → D → Option D} (h : Sem2 K r f) (h' : Sem2 K r' f') : Sem2 K (fun x y H Q => r x y H Q ∨ r' x y H Q) (fun d e => (f d e).or (f' d e)) := by
  intro dt M H x y d e z Q hd hm hp rx ry hz q
  have hz : (f d e).or (f' d e) = some z := hz
  cases hf : f d e with
  | some w =>
    rw [hf] at hz
    exact .inl (h dt M H x y d e z Q hd hm hp rx ry (hf.trans hz) q)
  | none =>
    rw [hf] at hz
    exact .inr (h' dt M H x y d e z Q hd hm hp rx ry hz q)
theorem SemB.or {K : PySem.W.Frag} {r r' : R2} {f f' : D → D → Option D} (h : SemB K r f) (h' : SemB K r' f') : SemB K (fun x y H Q => r x y H Q ∨ r' x y H Q) (fun d e => (f d e).or (f' d e)) := by
  intro H x y d e z Q rx ry hz q
  have hz : (f d e).or (f' d e) = some z := hz
  cases hf : f d e with
  | some w =>
    rw [hf] at hz
    exact .inl (h H x y d e z Q rx ry (hf.trans hz) q)
  | none =>
    rw [hf] at hz
    exact .inr (h' H x y d e z Q rx ry hz q)
theorem opr_or {fn : Value → Value → Sem Value} {r r' : R2} (h : OpR X fn r) (h' : OpR X fn r') : OpR X fn (fun x y H Q => r x y H Q ∨ r' x y H Q) := by
  intro pins s σ H x y v u Q I rx ry q
  rcases q with q | q
  · exact h pins s σ H x y v u Q I rx ry q
  · exact h' pins s σ H x y v u Q I rx ry q
theorem two_core {r : R2} {op : D → D → Option D} {ta tb : TE} (hr : Sem2 X.K r op)
    (ra : ∀ (F : Fx) (B : Hp) (ad : Ads) (σ : St) (H : Hp) (env : Envt) (Q : VK), F.K = X.K → F.cl = cl → Ok F B ad σ H env → (f env).all (Post F ad H Q) (EOk F E) → ta σ H Q)
    (rb : ∀ (F : Fx) (B : Hp) (ad : Ads) (σ : St) (H : Hp) (env : Envt) (Q : VK), F.K = X.K → F.cl = cl → Ok F B ad σ H env → (g env).all (Post F ad H Q) (EOk F E) → tb σ H Q)
    {F : Fx} {B : Hp} {ad : Ads} {σ : St} {H : Hp} {env : Envt} {Q : VK} (hk : F.K = X.K) (hc : F.cl = cl) (o : Ok F B ad σ H env) (k : (v2 op f g env).all (Post F ad H Q) (EOk F E)) : tOp r ta tb σ H Q := by
  refine ra F B ad σ H env _ hk hc o (Tr.all_mono (fun d z x H1 k1 rx => ?_) (fun _ z => z) (Tr.all_bind k))
  refine rb F B ad σ H1 env _ hk hc (o.kx k1) (Tr.all_mono (fun e z y H2 k2 ry => ?_) (fun _ z => z) (Tr.all_bind z))
  cases hz : op d e with
  | none => rw [hz] at z; exact z.elim
  | some w =>
    rw [hz] at z
    refine hr F.dt (Mm F ad) H2 x y d e w Q k2.dr (fun a q => Mm_dl q) (fun p hp => ((o.kx k1).kx k2).notM hp) ?_ ?_ hz (fun v H' k3 rv => z v H' (k1.trans (k2.trans k3)) (by rw [hk]; exact rv))
    · rw [← hk]; exact rx.mono k2.msame
    · rw [← hk]; exact ry
theorem twoB_core {r : R2} {op : D → D → Option D} {ta tb : TE} (hr : SemB X.K r op)
    (ra : ∀ (F : Fx) (B : Hp) (ad : Ads) (σ : St) (H : Hp) (env : Envt) (Q : VK), F.K = X.K → F.cl = cl → Ok F B ad σ H env → (f env).all (PostB F ad H Q) (EOk F E) → ta σ H Q)
    (rb : ∀ (F : Fx) (B : Hp) (ad : Ads) (σ : St) (H : Hp) (env : Envt) (Q : VK), F.K = X.K → F.cl = cl → Ok F B ad σ H env → (g env).all (PostB F ad H Q) (EOk F E) → tb σ H Q)
    {F : Fx} {B : Hp} {ad : Ads} {σ : St} {H : Hp} {env : Envt} {Q : VK} (hk : F.K = X.K) (hc : F.cl = cl) (o : Ok F B ad σ H env) (k : (v2 op f g env).all (Post F ad H Q) (EOk F E)) : tOp r ta tb σ H Q := by
  refine ra F B ad σ H env _ hk hc o (Tr.all_mono (fun d z x H1 k1 rx => ?_) (fun _ z => z) (Tr.all_bind k))
  refine rb F B ad σ H1 env _ hk hc (o.kx k1) (Tr.all_mono (fun e z y H2 k2 ry => ?_) (fun _ z => z) (Tr.all_bind z))
  cases hz : op d e with
  | none => rw [hz] at z; exact z.elim
  | some w =>
    rw [hz] at z
    refine hr H2 x y d e w Q ?_ ?_ hz (fun v rv => z v H2 (k1.trans k2) (by rw [hk]; exact rv _))
    · rw [← hk]; exact (rx.mono (kxO k2)).mono (mask_le _ _)
    · rw [← hk]; exact ry.mono (mask_le _ _)
theorem de_bin {o : Operator} {r : R2} {op : D → D → Option D} (ho : OpR X (binaryOp o) r) (hr : Sem2 X.K r op) (ha : DE cl X E a f) (hb : DE cl X E b g) : DE cl X E (.BinOp a o b pos) (v2 op f g) := by
  obtain ⟨ta, pa, ra⟩ := ha
  obtain ⟨tb, pb, rb⟩ := hb
  exact ⟨_, pe_op ho pa pb, fun F B ad σ H env Q hk hc o k => two_core hr ra rb hk hc o k⟩
theorem de_cmpB {o : CmpOp} {r : R2} {op : D → D → Option D} (ho : OpR X (compareOp o) r) (hr : SemB X.K r op) (ha : DB cl X E a f) (hb : DB cl X E b g) (hm : behindInMarks o b = false) : DE cl X E (.Compare a [o] [b] pos) (v2 op f g) := by
  obtain ⟨ta, pa, ra⟩ := ha
  obtain ⟨tb, pb, rb⟩ := hb
  exact ⟨_, pe_cmpR ho pa pb hm, fun F B ad σ H env Q hk hc o k => twoB_core hr ra rb hk hc o k⟩
/-- a value that is True or False -/
def asB : D → Option Bool
  | .bool b => some b
  | _ => none
def vT (f : Envt → Tr D) : Envt → Tr Bool := fun env => (f env).bind fun d => ofO (asB d)
theorem tt_core {ta : TE} (ra : ∀ (F : Fx) (B : Hp) (ad : Ads) (σ : St) (H : Hp) (env : Envt) (Q : VK), F.K = X.K → F.cl = cl → Ok F B ad σ H env → (f env).all (Post F ad H Q) (EOk F E) → ta σ H Q)
    {F : Fx} {B : Hp} {ad : Ads} {σ : St} {H : Hp} {env : Envt} {Q : Bool → Hp → Prop} (hk : F.K = X.K) (hc : F.cl = cl) (o : Ok F B ad σ H env) (k : (vT f env).all (PostT F ad H Q) (EOk F E)) : tTest ta σ H Q := by
  refine ra F B ad σ H env _ hk hc o (Tr.all_mono (fun d z x H1 k1 rx => ?_) (fun _ z => z) (Tr.all_bind k))
  cases d with
  | bool b =>
    cases rx
    exact ⟨b, rfl, z H1 k1⟩
  | _ => exact z.elim
theorem dt_cmpB {o : CmpOp} {r : R2} {op : D → D → Option D} (ho : OpR X (compareOp o) r) (hr : SemB X.K r op) (ha : DB cl X E a f) (hb : DB cl X E b g) (hm : behindInMarks o b = false) : DT cl X E (.Compare a [o] [b] pos) (vT (v2 op f g)) := by
  obtain ⟨ta, pa, ra⟩ := ha
  obtain ⟨tb, pb, rb⟩ := hb
  exact ⟨_, pt_cmpR ho pa pb hm, fun F B ad σ H env Q hk hc o k => tt_core (cl := cl) (fun F B ad σ H env Q hk hc o k => twoB_core hr ra rb hk hc o k) hk hc o k⟩
theorem dt_val (ha : DE cl X E a f) (he : ∀ whole, isTrue a X.env whole = (do let v ← whole; standAt a.pos; holding [v] (truthy v)) := by intro _; rfl) : DT cl X E a (vT f) := by
  obtain ⟨ta, pa, ra⟩ := ha
  exact ⟨_, pt_val pa he, fun F B ad σ H env Q hk hc o k => tt_core (cl := cl) ra hk hc o k⟩

/-! ### and, or, not, if .. else -/
def bAnd (f g : Envt → Tr Bool) : Envt → Tr Bool := fun env => (f env).bind fun x => if x then g env else .ret false
def bOr (f g : Envt → Tr Bool) : Envt → Tr Bool := fun env => (f env).bind fun x => if x then .ret true else g env
def bNot (f : Envt → Tr Bool) : Envt → Tr Bool := fun env => (f env).bind fun x => .ret (!x)
theorem DW.dt {f : Envt → Tr Bool} (h : DW cl X E e f) : DT cl X E e f := by
  obtain ⟨t, p, r⟩ := h
  exact ⟨t, p.pt, r⟩
theorem dw_and1 {f : Envt → Tr Bool} (h : DT cl X E a f) : DW cl X E (.BoolOp .And [a] pos) f := by
  obtain ⟨t, p, r⟩ := h
  exact ⟨t, pw_and1 p, r⟩
theorem dw_or1 {f : Envt → Tr Bool} (h : DT cl X E a f) : DW cl X E (.BoolOp .Or [a] pos) f := by
  obtain ⟨t, p, r⟩ := h
  exact ⟨t, pw_or1 p, r⟩
theorem dw_and {rest : List Expr} {f g : Envt → Tr Bool} (ha : DT cl X E a f) (hb : DW cl X E (.BoolOp .And (b :: rest) pos) g) : DW cl X E (.BoolOp .And (a :: b :: rest) pos) (bAnd f g) := by
  obtain ⟨t, p, r⟩ := ha
  obtain ⟨u, q, s⟩ := hb
  refine ⟨_, pw_and p q, fun F B ad σ H env Q hk hc o k => ?_⟩
  refine r F B ad σ H env _ hk hc o (Tr.all_mono (fun x z H1 k1 => ?_) (fun _ z => z) (Tr.all_bind k))
  cases x with
  | true => exact iteT (s F B ad σ H1 env Q hk hc (o.kx k1) (Tr.all_mono (fun y z H2 k2 => z H2 (k1.trans k2)) (fun _ z => z) z))
  | false => exact iteF (z H1 k1)
theorem dw_or {rest : List Expr} {f g : Envt → Tr Bool} (ha : DT cl X E a f) (hb : DW cl X E (.BoolOp .Or (b :: rest) pos) g) : DW cl X E (.BoolOp .Or (a :: b :: rest) pos) (bOr f g) := by
  obtain ⟨t, p, r⟩ := ha
  obtain ⟨u, q, s⟩ := hb
  refine ⟨_, pw_or p q, fun F B ad σ H env Q hk hc o k => ?_⟩
  refine r F B ad σ H env _ hk hc o (Tr.all_mono (fun x z H1 k1 => ?_) (fun _ z => z) (Tr.all_bind k))
  cases x with
  | true => exact iteT (z H1 k1)
  | false => exact iteF (s F B ad σ H1 env Q hk hc (o.kx k1) (Tr.all_mono (fun y z H2 k2 => z H2 (k1.trans k2)) (fun _ z => z) z))
theorem dt_not {f : Envt → Tr Bool} (ha : DT cl X E a f) : DT cl X E (.UnaryOp .Not a pos) (bNot f) := by
  obtain ⟨t, p, r⟩ := ha
  refine ⟨_, pt_not p, fun F B ad σ H env Q hk hc o k => ?_⟩
  exact r F B ad σ H env _ hk hc o (Tr.all_mono (fun x z H1 k1 => z H1 k1) (fun _ z => z) (Tr.all_bind k))
/-- values that are True or False -/
def vAnd (f g : Envt → Tr D) : Envt → Tr D := fun env => (f env).bind fun x => (ofO (asB x)).bind fun x => if x then g env else .ret (.bool false)
def vOr (f g : Envt → Tr D) : Envt → Tr D := fun env => (f env).bind fun x => (ofO (asB x)).bind fun x => if x then .ret (.bool true) else g env
def vNot (f : Envt → Tr D) : Envt → Tr D := fun env => (f env).bind fun x => (ofO (asB x)).bind fun x => .ret (.bool !x)
theorem de_one {op : BoolOp} (h : DE cl X E a f) : DE cl X E (.BoolOp op [a] pos) f := by
  obtain ⟨t, p, r⟩ := h
  exact ⟨t, pe_one p, r⟩
theorem de_and {rest : List Expr} (ha : DE cl X E a f) (hb : DE cl X E (.BoolOp .And (b :: rest) pos) g) : DE cl X E (.BoolOp .And (a :: b :: rest) pos) (vAnd f g) := by
  obtain ⟨t, p, r⟩ := ha
  obtain ⟨u, q, s⟩ := hb
  refine ⟨_, pe_and p q, fun F B ad σ H env Q hk hc o k => ?_⟩
  refine r F B ad σ H env _ hk hc o (Tr.all_mono (fun d z x H1 k1 rx => ?_) (fun _ z => z) (Tr.all_bind k))
  cases d with
  | bool b =>
    cases rx
    refine ⟨b, rfl, ?_⟩
    cases b with
    | true => exact iteT (s F B ad σ H1 env Q hk hc (o.kx k1) (Tr.all_mono (fun y z v H2 k2 => z v H2 (k1.trans k2)) (fun _ z => z) z))
    | false => exact iteF (z (.bl false) H1 k1 (.bl false))
  | _ => exact z.elim
theorem de_or {rest : List Expr} (ha : DE cl X E a f) (hb : DE cl X E (.BoolOp .Or (b :: rest) pos) g) : DE cl X E (.BoolOp .Or (a :: b :: rest) pos) (vOr f g) := by
  obtain ⟨t, p, r⟩ := ha
  obtain ⟨u, q, s⟩ := hb
  refine ⟨_, pe_or p q, fun F B ad σ H env Q hk hc o k => ?_⟩
  refine r F B ad σ H env _ hk hc o (Tr.all_mono (fun d z x H1 k1 rx => ?_) (fun _ z => z) (Tr.all_bind k))
  cases d with
  | bool b =>
    cases rx
    refine ⟨b, rfl, ?_⟩
    cases b with
    | false => exact iteF (s F B ad σ H1 env Q hk hc (o.kx k1) (Tr.all_mono (fun y z v H2 k2 => z v H2 (k1.trans k2)) (fun _ z => z) z))
    | true => exact iteT (z (.bl true) H1 k1 (.bl true))
  | _ => exact z.elim
theorem de_not (ha : DE cl X E a f) : DE cl X E (.UnaryOp .Not a pos) (vNot f) := by
  obtain ⟨t, p, r⟩ := ha
  refine ⟨_, pe_not p, fun F B ad σ H env Q hk hc o k => ?_⟩
  refine r F B ad σ H env _ hk hc o (Tr.all_mono (fun d z x H1 k1 rx => ?_) (fun _ z => z) (Tr.all_bind k))
  cases d with
  | bool b =>
    cases rx
    exact ⟨b, rfl, z (.bl !b) H1 k1 (.bl _)⟩
  | _ => exact z.elim
def vIf (c : Envt → Tr Bool) (f g : Envt → Tr D) : Envt → Tr D := fun env => (c env).bind fun x => if x then f env else g env
theorem de_if {k : Envt → Tr Bool} (hc : DT cl X E c k) (ha : DE cl X E a f) (hb : DE cl X E b g) : DE cl X E (.IfExp c a b pos) (vIf k f g) := by
  obtain ⟨t, p, r⟩ := hc
  obtain ⟨ta, pa, ra⟩ := ha
  obtain ⟨tb, pb, rb⟩ := hb
  refine ⟨_, pe_ifExp p pa pb, fun F B ad σ H env Q hk hc o k => ?_⟩
  refine r F B ad σ H env _ hk hc o (Tr.all_mono (fun x z H1 k1 => ?_) (fun _ z => z) (Tr.all_bind k))
  cases x with
  | true => exact iteT (ra F B ad σ H1 env Q hk hc (o.kx k1) (Tr.all_mono (fun y z v H2 k2 => z v H2 (k1.trans k2)) (fun _ z => z) z))
  | false => exact iteF (rb F B ad σ H1 env Q hk hc (o.kx k1) (Tr.all_mono (fun y z v H2 k2 => z v H2 (k1.trans k2)) (fun _ z => z) z))

/-! ### argument lists, displays -/
def aNil : Envt → Tr (List Ent) := fun _ => .ret []
def aCons (f : Envt → Tr D) (g : Envt → Tr (List Ent)) : Envt → Tr (List Ent) := fun env => (f env).bind fun d => (g env).bind fun es => .ret (.fz d :: es)
def aDr (i : Nat) (g : Envt → Tr (List Ent)) : Envt → Tr (List Ent) := fun env => match env[i]? with
  | some .dr => (g env).bind fun es => .ret (.dr :: es)
  | _ => .bad
theorem da_nil : DA cl X E [] aNil := ⟨_, pa_nil, fun F B ad σ H env Q hk hc o k => k [] H (Kx.refl o.k0.dr) .nil⟩
theorem da_cons {es : List Expr} {g : Envt → Tr (List Ent)} (ha : DE cl X E a f) (hr : DA cl X E es g) (hs : starEach (a :: es) X.env = (false, eval a X.env) :: starEach es X.env := by rfl) : DA cl X E (a :: es) (aCons f g) := by
  obtain ⟨t, p, r⟩ := ha
  obtain ⟨u, q, s⟩ := hr
  refine ⟨_, pa_cons p q hs, fun F B ad σ H env Q hk hc o k => ?_⟩
  refine r F B ad σ H env _ hk hc o (Tr.all_mono (fun d z x H1 k1 rx => ?_) (fun _ z => z) (Tr.all_bind k))
  refine s F B ad σ H1 env _ hk hc (o.kx k1) (Tr.all_mono (fun es z xs H2 k2 rs => ?_) (fun _ z => z) (Tr.all_bind z))
  exact z _ H2 (k1.trans k2) (.cons (rx.mono k2.msame) rs)
theorem da_dr (i : Nat) {x : Str} {es : List Expr} {g : Envt → Tr (List Ent)} (hr : DA cl X E es g) (hN : X.N[i]? = some x := by rfl) (hv : Vis X.env.scope x := by first | exact Or.inl rfl | exact Or.inr (Or.inl rfl) | exact Or.inr (Or.inr rfl))
    (hd : (x == ("__debug__" : Str)) = false := by decide) (hcd : (x == ("__classdict__" : Str)) = false := by decide) (hs : starEach (.Name x pos :: es) X.env = (false, eval (.Name x pos) X.env) :: starEach es X.env := by rfl) : DA cl X E (.Name x pos :: es) (aDr i g) := by
  obtain ⟨u, q, s⟩ := hr
  refine ⟨_, pa_cons (pe_var (i := i) hN hv hd hcd) q hs, fun F B ad σ H env Q hk hc o k => ?_⟩
  unfold aDr at k
  split at k
  · rename_i he
    obtain ⟨oa, sv, e1, e2, q1, a, n, q2, rfl⟩ := o.at_ he
    refine ⟨_, e2, s F B ad σ H env _ hk hc o (Tr.all_mono (fun es z xs H2 k2 rs => ?_) (fun _ z => z) (Tr.all_bind k))⟩
    exact z _ H2 k2 (.cons ⟨a, n, q2, rfl⟩ rs)
  · exact k.elim
/-- values alone -/
def fzs : List Ent → Option (List D)
  | [] => some []
  | .fz d :: r => (fzs r).map (d :: ·)
  | _ :: _ => none
theorem fzs_rep {K : PySem.W.Frag} {cl : Nat → Addr} {dt : Dl} {H : Hp} : ∀ {vs : List V} {es : List Ent} {ds : List D}, ArgsOk K cl dt H vs es → fzs es = some ds → RepAll K H vs ds
  | _, _, _, .nil, h => by cases h; exact .nil
  | _, .fz d :: r, ds, .cons h t, q => by
    unfold fzs at q
    cases e : fzs r with
    | none => rw [e] at q; cases q
    | some l =>
      rw [e] at q; cases q
      exact .cons h (fzs_rep t e)
  | _, .dr :: _, _, .cons h _, q => by cases q
  | _, .ex _ :: _, _, .cons h _, q => by cases q
  | _, .un :: _, _, .cons h _, q => by cases q
  | _, .ow _ :: _, _, .cons h _, q => by cases q
  | _, .od _ :: _, _, .cons h _, q => by cases q
def vTup (g : Envt → Tr (List Ent)) : Envt → Tr D := fun env => (g env).bind fun es => ofO ((fzs es).bind fun ds => if small ds.length then some (.tuple ds) else none)
def nLst (g : Envt → Tr (List Ent)) : Envt → Tr (List D) := fun env => (g env).bind fun es => ofO ((fzs es).bind fun ds => if small ds.length then some ds else none)
theorem small_le {n : Nat} (h : small n = true) : n ≤ sizeLine := Nat.le_trans (of_decide_eq_true h) lim_le
theorem de_tup {es : List Expr} {g : Envt → Tr (List Ent)} {k : Nat} (hr : DA cl X E es g) : DE cl X E (.Tuple es k pos) (vTup g) := by
  obtain ⟨u, q, s⟩ := hr
  refine ⟨_, pe_tup q, fun F B ad σ H env Q hk hc o k => ?_⟩
  refine s F B ad σ H env _ hk hc o (Tr.all_mono (fun es z xs H1 k1 rs => ?_) (fun _ z => z) (Tr.all_bind k))
  cases h : fzs es with
  | none => rw [h] at z; exact z.elim
  | some ds =>
    rw [h] at z
    have z : (ofO (if small ds.length then some (PyData.tuple ds) else none)).all (Post F ad H Q) (EOk F E) := z
    cases hs : small ds.length with
    | false => rw [hs] at z; exact z.elim
    | true =>
      rw [hs] at z
      have r := fzs_rep rs h
      refine ⟨by rw [r.length]; exact small_le hs, fun p hp => ?_⟩
      have k2 : Kx F.dt H1 (upd H1 p (.tup xs)) := Kx.of_same k1.dr (same_new hp)
      exact z _ _ (k1.trans k2) (.tup (SqT.of (by rw [mask_out (o.nm k1 hp)]; exact upd_same)) (r.mono k2.msame))
theorem dn_lst {es : List Expr} {g : Envt → Tr (List Ent)} (hr : DA cl X E es g) : DN cl X E (.List es pos) (nLst g) := by
  obtain ⟨u, q, s⟩ := hr
  refine ⟨_, pe_lst q, fun F B ad σ H env Q hk hc o k => ?_⟩
  refine s F B ad σ H env _ hk hc o (Tr.all_mono (fun es z xs H1 k1 rs => ?_) (fun _ z => z) (Tr.all_bind k))
  cases h : fzs es with
  | none => rw [h] at z; exact z.elim
  | some ds =>
    rw [h] at z
    have z : (ofO (if small ds.length then some ds else none)).all (PostN F ad H Q) (EOk F E) := z
    cases hs : small ds.length with
    | false => rw [hs] at z; exact z.elim
    | true =>
      rw [hs] at z
      have r := fzs_rep rs h
      refine ⟨by rw [r.length]; exact small_le hs, fun p hp => ?_⟩
      have k2 : Kx F.dt H1 (upd H1 p (.lst xs)) := Kx.of_same k1.dr (same_new hp)
      refine z p _ xs (k1.trans k2) (k1.free o.k0.dr hp) upd_same (r.mono (mask_same fun a x n e => ⟨fun q => q.elim n fun y => ?_, same_new hp a x e⟩))
      rw [y, hp] at e; cases e
end
end Mb

namespace Mb
open PySem L2

/-! ### data that may be compared: no dict, not too deep -/
def strL (x : Str) : Bool := x.cps.toList.all (· < 0x110000)
def okAt : Nat → D → Bool
  | _, .none => true
  | _, .bool _ => true
  | _, .int _ => true
  | _, .str x => strL x
  | _, .dict _ => false
  | 0, .list _ => false
  | 0, .tuple _ => false
  | n + 1, .list xs => xs.all (okAt n)
  | n + 1, .tuple xs => xs.all (okAt n)
def shp (d : D) : Bool := okAt 40 d
theorem okAt_lay : ∀ (n : Nat) (d : D), okAt n d = true → d.canLay0 = true ∧ d.depth ≤ n := by
  intro n
  induction n with
  | zero =>
    intro d h
    cases d with
    | list _ => simp [okAt] at h
    | tuple _ => simp [okAt] at h
    | dict _ => simp [okAt] at h
    | str x =>
      refine ⟨?_, by simp [PyData.depth]⟩
      have h : x.cps.toList.all (· < 0x110000) = true := h
      simp only [PyData.canLay0, PyData.strOk]
      simpa using h
    | _ => exact ⟨by simp only [PyData.canLay0], by simp [PyData.depth]⟩
  | succ n ih =>
    intro d h
    have all : ∀ xs : List D, xs.all (okAt n) = true → PyData.canLayAll0 xs = true ∧ PyData.depthAll xs ≤ n := by
      intro xs
      induction xs with
      | nil => intro _; exact ⟨by simp only [PyData.canLayAll0], by simp [PyData.depthAll]⟩
      | cons x r ihx =>
        intro h
        rw [List.all_cons, Bool.and_eq_true] at h
        obtain ⟨h1, h2⟩ := ih x h.1
        obtain ⟨h3, h4⟩ := ihx h.2
        refine ⟨by simp only [PyData.canLayAll0, h1, h3, Bool.and_self], ?_⟩
        simp only [PyData.depthAll]
        omega
    cases d with
    | list xs =>
      obtain ⟨h1, h2⟩ := all xs (by simpa only [okAt] using h)
      exact ⟨by simpa only [PyData.canLay0] using h1, by simp only [PyData.depth]; omega⟩
    | tuple xs =>
      obtain ⟨h1, h2⟩ := all xs (by simpa only [okAt] using h)
      exact ⟨by simpa only [PyData.canLay0] using h1, by simp only [PyData.depth]; omega⟩
    | dict _ => simp [okAt] at h
    | str x =>
      refine ⟨?_, by simp [PyData.depth]⟩
      have h : x.cps.toList.all (· < 0x110000) = true := by
        have h : strL x = true := by simpa only [okAt] using h
        exact h
      simp only [PyData.canLay0, PyData.strOk]
      simpa using h
    | _ => exact ⟨by simp only [PyData.canLay0], by simp [PyData.depth]⟩
theorem shp_shaped {d : D} (h : shp d = true) : SeqAt.shaped d = true := by
  obtain ⟨h1, h2⟩ := okAt_lay 40 d h
  show (d.canLay0 && decide (d.depth ≤ 64)) = true
  rw [h1, decide_eq_true (by omega)]; rfl
theorem shp_lay {d : D} (h : shp d = true) : d.canLay0 = true := (okAt_lay 40 d h).1
section
variable {K : PySem.W.Frag}
theorem Sem2.keep {r : R2} {f : D → D → Option D} (h : ∀ (H : Hp) (M : Addr → Prop) (x y : V) (d e z : D) (Q : VK), Rep K (mask H M) x d → Rep K (mask H M) y e → f d e = some z → (∀ v, Rep K (mask H M) v z → Q v H) → r x y H Q) : Sem2 K r f :=
  fun dt M H x y d e z Q hd hm hp rx ry hz q => h H M x y d e z Q rx ry hz fun v rv => q v H (Kx.refl hd) rv
/-- a new object -/
theorem new_lst {dt : Dl} {M : Addr → Prop} {H : Hp} {Q : VK} {vs : List V} {ds : List D} (hd : DrOk dt H) (hm : ∀ a, dl dt a → M a) (hp : ∀ p, H p = none → ¬ M p) (r : RepAll K (mask H M) vs ds) (q : ∀ v H', Kx dt H H' → Rep K (mask H' M) v (.list ds) → Q v H') :
    ∀ p, H p = none → Q (.ref p) (upd H p (.lst vs)) := fun p hn => by
  have k : Kx dt H (upd H p (.lst vs)) := Kx.of_same hd (same_new hn)
  exact q _ _ k (.lst (by rw [mask_out (hp p hn)]; exact upd_same) (r.mono (mask_same fun a x n e => ⟨n, same_new hn a x e⟩)))
theorem new_tup {dt : Dl} {M : Addr → Prop} {H : Hp} {Q : VK} {vs : List V} {ds : List D} (hd : DrOk dt H) (hm : ∀ a, dl dt a → M a) (hp : ∀ p, H p = none → ¬ M p) (r : RepAll K (mask H M) vs ds) (q : ∀ v H', Kx dt H H' → Rep K (mask H' M) v (.tuple ds) → Q v H') :
    ∀ p, H p = none → Q (.ref p) (upd H p (.tup vs)) := fun p hn => by
  have k : Kx dt H (upd H p (.tup vs)) := Kx.of_same hd (same_new hn)
  exact q _ _ k (.tup (SqT.of (by rw [mask_out (hp p hn)]; exact upd_same)) (r.mono (mask_same fun a x n e => ⟨n, same_new hn a x e⟩)))

/-! ### + -/
def dAdd : D → D → Option D
  | .int i, .int j => some (.int (i + j))
  | .list xs, .list ys => if small (xs.length + ys.length) then some (.list (xs ++ ys)) else none
  | .tuple xs, .tuple ys => if small (xs.length + ys.length) then some (.tuple (xs ++ ys)) else none
  | .str x, .str y => if small (x.length + y.length) then some (.str (x ++ y)) else none
  | _, _ => none
def rAddD (K : PySem.W.Frag) : R2 := fun x y H Q => (rI0 fun i j => .int (i + j)) x y H Q ∨ (rCat x y H Q ∨ (rCatA K x y H Q ∨ ∃ i j, x = .str i ∧ y = .str j ∧ i.length + j.length ≤ sizeLine ∧ Q (.str (i ++ j)) H))
theorem op_addD {X : Cx} : OpR X (binaryOp .Add) (rAddD X.K) := opr_or op_add (opr_or op_cat (opr_or op_catA op_add_str))
theorem if_some {α : Type} {c : Bool} {a z : α} (h : (if c then some a else none) = some z) : c = true ∧ a = z := by
  cases c with
  | true => exact ⟨rfl, Option.some.inj h⟩
  | false => cases h
theorem sem_add : Sem2 K (rAddD K) dAdd := by
  intro dt M H x y d e z Q hd hm hp rx ry hz q
  cases rx with
  | int i =>
    cases ry with
    | int j => cases hz; exact .inl ⟨i, j, rfl, rfl, q _ H (Kx.refl hd) (.int _)⟩
    | _ => cases hz
  | str i =>
    cases ry with
    | str j =>
      obtain ⟨h1, rfl⟩ := if_some hz
      exact .inr (.inr (.inr ⟨i, j, rfl, rfl, small_le h1, q _ H (Kx.refl hd) (.str _)⟩))
    | _ => cases hz
  | @lst a xs ds h1 h2 =>
    cases ry with
    | @lst b ys es h3 h4 =>
      obtain ⟨hs, rfl⟩ := if_some hz
      refine .inr (.inl ⟨a, b, xs, ys, rfl, rfl, (mask_some h1).2, (mask_some h3).2, ?_, new_lst hd hm hp (h2.append h4) q⟩)
      rw [h2.length, h4.length]; exact small_le hs
    | _ => cases hz
  | @tup a xs ds h1 h2 =>
    cases ry with
    | @tup b ys es h3 h4 =>
      obtain ⟨hs, rfl⟩ := if_some hz
      refine .inr (.inr (.inl ⟨a, b, xs, ys, rfl, rfl, same_sqT (mask_le _ _) h1, same_sqT (mask_le _ _) h3, ?_, fun e => ?_, fun _ e => ?_, fun _ _ => new_tup hd hm hp (h2.append h4) q⟩))
      · rw [h2.length, h4.length]; exact small_le hs
      · subst e
        cases h2
        exact q _ H (Kx.refl hd) (.tup h3 h4)
      · subst e
        cases h4
        rw [List.append_nil] at q
        exact q _ H (Kx.refl hd) (.tup h1 h2)
    | _ => cases hz
  | _ => cases hz
/-! ### - * % // -/
def dI (p : Int → Int → Bool) (g : Int → Int → D) : D → D → Option D
  | .int i, .int j => if p i j then some (g i j) else none
  | _, _ => none
def dI0 (g : Int → Int → D) : D → D → Option D
  | .int i, .int j => some (g i j)
  | _, _ => none
theorem sem_I {C : Int → Int → Prop} {p : Int → Int → Bool} {gv : Int → Int → V} {g : Int → Int → D} (hc : ∀ i j, p i j = true → C i j) (hr : ∀ i j H, Rep K H (gv i j) (g i j)) : Sem2 K (rI C gv) (dI p g) := by
  intro dt M H x y d e z Q hd hm hp rx ry hz q
  cases rx with
  | int i =>
    cases ry with
    | int j =>
      obtain ⟨h1, rfl⟩ := if_some hz
      exact ⟨i, j, rfl, rfl, hc i j h1, q _ H (Kx.refl hd) (hr i j _)⟩
    | _ => cases hz
  | _ => cases hz
theorem sem_I0 {gv : Int → Int → V} {g : Int → Int → D} (hr : ∀ i j H, Rep K H (gv i j) (g i j)) : Sem2 K (rI0 gv) (dI0 g) := by
  intro dt M H x y d e z Q hd hm hp rx ry hz q
  cases rx with
  | int i =>
    cases ry with
    | int j =>
      cases hz
      exact ⟨i, j, rfl, rfl, q _ H (Kx.refl hd) (hr i j _)⟩
    | _ => cases hz
  | _ => cases hz
def dSub : D → D → Option D := dI0 fun i j => .int (i - j)
theorem sem_sub : Sem2 K (rI0 fun i j => .int (i - j)) dSub := sem_I0 fun i j _ => .int _
def dMod : D → D → Option D := dI (fun _ j => decide (0 < j)) fun i j => .int (i % j)
theorem sem_mod : Sem2 K (rI (fun _ j => 0 < j) fun i j => .int (i % j)) dMod := sem_I (fun _ _ h => of_decide_eq_true h) fun i j _ => .int _
def dFdiv : D → D → Option D := dI (fun _ j => decide (0 < j) && decide (j < 1073741824)) fun i j => .int (i / j)
theorem sem_fdiv : Sem2 K (rI CDiv fun i j => .int (i / j)) dFdiv := sem_I (fun _ _ h => by
  rw [Bool.and_eq_true] at h
  exact ⟨of_decide_eq_true h.1, of_decide_eq_true h.2⟩) fun i j _ => .int _
def okMul (i j : Int) : Bool := (decide (-(2 ^ 64) < i) && decide (i < 2 ^ 64)) || (decide (-(2 ^ 64) < j) && decide (j < 2 ^ 64))
def dMul : D → D → Option D
  | .int i, .int j => if okMul i j then some (.int (i * j)) else none
  | .list xs, .int k => if decide (-(2 ^ 63) ≤ k) && decide (k < 2 ^ 63) && small (xs.length * k.toNat) then some (.list (List.replicate k.toNat xs).flatten) else none
  | .tuple xs, .int k => if !xs.isEmpty && decide (2 ≤ k) && decide (k ≤ 1000) && decide (xs.length ≤ 1000) then some (.tuple (List.replicate k.toNat xs).flatten) else none
  | _, _ => none
def rMulD (K : PySem.W.Frag) : R2 := fun x y H Q => (rI CMul fun i j => .int (i * j)) x y H Q ∨ (rRep x y H Q ∨ rRepT K x y H Q)
theorem op_mulD {X : Cx} : OpR X (binaryOp .Mult) (rMulD X.K) := opr_or op_mul (opr_or op_rep op_repT)
theorem sem_mul : Sem2 K (rMulD K) dMul := by
  intro dt M H x y d e z Q hd hm hp rx ry hz q
  cases rx with
  | int i =>
    cases ry with
    | int j =>
      obtain ⟨h1, rfl⟩ := if_some hz
      refine .inl ⟨i, j, rfl, rfl, ?_, q _ H (Kx.refl hd) (.int _)⟩
      unfold okMul at h1
      rw [Bool.or_eq_true, Bool.and_eq_true, Bool.and_eq_true] at h1
      rcases h1 with h1 | h1
      · exact .inl ⟨of_decide_eq_true h1.1, of_decide_eq_true h1.2⟩
      · exact .inr ⟨of_decide_eq_true h1.1, of_decide_eq_true h1.2⟩
    | _ => cases hz
  | @lst a xs ds h1 h2 =>
    cases ry with
    | int k =>
      obtain ⟨hs, rfl⟩ := if_some hz
      rw [Bool.and_eq_true, Bool.and_eq_true] at hs
      refine .inr (.inl ⟨a, k, xs, rfl, rfl, (mask_some h1).2, of_decide_eq_true hs.1.1, of_decide_eq_true hs.1.2, ?_, new_lst hd hm hp (h2.replicate _) q⟩)
      rw [h2.length]; exact small_le hs.2
    | _ => cases hz
  | @tup a xs ds h1 h2 =>
    cases ry with
    | int k =>
      obtain ⟨hs, rfl⟩ := if_some hz
      rw [Bool.and_eq_true, Bool.and_eq_true, Bool.and_eq_true] at hs
      have e : xs ≠ [] := fun e => by
        subst e
        cases h2
        exact absurd hs.1.1.1 (by decide)
      exact .inr (.inr ⟨a, k, xs, rfl, rfl, same_sqT (mask_le _ _) h1, e, of_decide_eq_true hs.1.1.2, of_decide_eq_true hs.1.2, by rw [h2.length]; exact of_decide_eq_true hs.2, new_tup hd hm hp (h2.replicate _) q⟩)
    | _ => cases hz
  | _ => cases hz
/-! ### comparisons -/
theorem semB_I {gv : Int → Int → Bool} : SemB K (rI0 fun i j => .bl (gv i j)) (dI0 fun i j => .bool (gv i j)) := by
  intro H x y d e z Q rx ry hz q
  cases rx with
  | int i =>
    cases ry with
    | int j =>
      cases hz
      exact ⟨i, j, rfl, rfl, q _ fun _ => .bl _⟩
    | _ => cases hz
  | _ => cases hz
def dLt : D → D → Option D := dI0 fun i j => .bool (decide (i < j))
def dLe : D → D → Option D := dI0 fun i j => .bool (decide (i ≤ j))
def dGt : D → D → Option D := dI0 fun i j => .bool (decide (j < i))
def dGe : D → D → Option D := dI0 fun i j => .bool (decide (j ≤ i))
theorem sem_lt : SemB K (rI0 fun i j => .bl (decide (i < j))) dLt := semB_I
theorem sem_le : SemB K (rI0 fun i j => .bl (decide (i ≤ j))) dLe := semB_I
theorem sem_gt : SemB K (rI0 fun i j => .bl (decide (j < i))) dGt := semB_I
theorem sem_ge : SemB K (rI0 fun i j => .bl (decide (j ≤ i))) dGe := semB_I
def dEq (d e : D) : Option D := if shp d && shp e then some (.bool (PyData.eqv d e)) else none
def dNe (d e : D) : Option D := if shp d && shp e then some (.bool (!PyData.eqv d e)) else none
theorem sem_eq : SemB K (rEqD K) dEq := by
  intro H x y d e z Q rx ry hz q
  obtain ⟨h1, rfl⟩ := if_some hz
  rw [Bool.and_eq_true] at h1
  exact ⟨d, e, rx.dp (shp_lay h1.1), ry.dp (shp_lay h1.2), shp_shaped h1.1, shp_shaped h1.2, q _ fun _ => .bl _⟩
theorem sem_ne : SemB K (rNeD K) dNe := by
  intro H x y d e z Q rx ry hz q
  obtain ⟨h1, rfl⟩ := if_some hz
  rw [Bool.and_eq_true] at h1
  exact ⟨d, e, rx.dp (shp_lay h1.1), ry.dp (shp_lay h1.2), shp_shaped h1.1, shp_shaped h1.2, q _ fun _ => .bl _⟩
/-- is None, is True -/
def dIs : D → D → Option D
  | .none, .none => some (.bool true)
  | _, .none => some (.bool false)
  | .bool a, .bool b => some (.bool (decide (a = b)))
  | _, _ => none
def dIsNot : D → D → Option D
  | .none, .none => some (.bool false)
  | _, .none => some (.bool true)
  | .bool a, .bool b => some (.bool (!decide (a = b)))
  | _, _ => none
def rIsD : R2 := fun x y H Q => (y = .non ∧ Q (.bl (decide (x = .non))) H) ∨ rIsB x y H Q
def rIsNotD : R2 := fun x y H Q => (y = .non ∧ Q (.bl (!decide (x = .non))) H) ∨ rNotB x y H Q
theorem op_isD {X : Cx} : OpR X (compareOp .Is) rIsD := opr_or op_isN op_isBl
theorem op_isNotD {X : Cx} : OpR X (compareOp .IsNot) rIsNotD := opr_or op_notN op_notBl
theorem sem_is : SemB K rIsD dIs := by
  intro H x y d e z Q rx ry hz q
  cases ry with
  | non => cases rx <;> (cases hz; exact .inl ⟨rfl, q _ fun _ => .bl _⟩)
  | bl b =>
    cases rx with
    | bl a => cases hz; exact .inr ⟨a, b, rfl, rfl, q _ fun _ => .bl _⟩
    | _ => cases hz
  | _ => cases rx <;> cases hz
theorem sem_isNot : SemB K rIsNotD dIsNot := by
  intro H x y d e z Q rx ry hz q
  cases ry with
  | non => cases rx <;> (cases hz; exact .inl ⟨rfl, q _ fun _ => .bl _⟩)
  | bl b =>
    cases rx with
    | bl a => cases hz; exact .inr ⟨a, b, rfl, rfl, q _ fun _ => .bl _⟩
    | _ => cases hz
  | _ => cases rx <;> cases hz
/-! ### in -/
def flatD : D → Bool
  | .none => true
  | .bool _ => true
  | .int _ => true
  | .str _ => true
  | _ => false
theorem flat_of {H : Hp} {v : V} {d : D} (r : Rep K H v d) (h : flatD d = true) : flatV v = true := by
  cases r <;> first | rfl | cases h
theorem flats_of {H : Hp} : ∀ {vs : List V} {ds : List D}, RepAll K H vs ds → ds.all flatD = true → vs.all flatV = true
  | _, _, .nil, _ => rfl
  | _, _, .cons h r, q => by
    rw [List.all_cons, Bool.and_eq_true] at q
    rw [List.all_cons, flat_of h q.1, flats_of r q.2]; rfl
theorem eqV_of {H : Hp} {x y : V} {d e : D} (rx : Rep K H x d) (ry : Rep K H y e) (hd : flatD d = true) (he : flatD e = true) : eqV x y = PyData.eqv d e := by
  cases rx <;> first | (cases ry <;> first | (simp only [eqV, PyData.eqv]; done) | rfl | (cases he; done)) | (cases hd; done)
theorem inV_of {H : Hp} {x : V} {d : D} (rx : Rep K H x d) (hd : flatD d = true) : ∀ {vs : List V} {ds : List D}, RepAll K H vs ds → ds.all flatD = true → inV x vs = ds.any fun z => PyData.eqv z d
  | _, _, .nil, _ => rfl
  | _, _, .cons h r, q => by
    rw [List.all_cons, Bool.and_eq_true] at q
    have ih := inV_of rx hd r q.2
    unfold inV at ih ⊢
    rw [List.any_cons, List.any_cons, ih, eqV_of h rx q.1 hd]
def dIn : D → D → Option D
  | d, .tuple ds => if flatD d && ds.all flatD then some (.bool (ds.any fun z => PyData.eqv z d)) else none
  | d, .list ds => if shp d && shp (.list ds) then some (.bool (ds.any fun z => PyData.eqv z d)) else none
  | .str x, .str y => some (.bool (!(Builtin.Str.occurrences y x 0 y.length 1).isEmpty))
  | _, _ => none
def dNotIn : D → D → Option D
  | d, .tuple ds => if flatD d && ds.all flatD then some (.bool (!ds.any fun z => PyData.eqv z d)) else none
  | d, .list ds => if shp d && shp (.list ds) then some (.bool (!ds.any fun z => PyData.eqv z d)) else none
  | .str x, .str y => some (.bool (!(!(Builtin.Str.occurrences y x 0 y.length 1).isEmpty)))
  | _, _ => none
def rInAll (K : PySem.W.Frag) : R2 := fun x y H Q => rIn K false x y H Q ∨ (rInD K x y H Q ∨ ∃ i j, x = .str i ∧ y = .str j ∧ Q (.bl (!(Builtin.Str.occurrences j i 0 j.length 1).isEmpty)) H)
def rNotInAll (K : PySem.W.Frag) : R2 := fun x y H Q => rIn K true x y H Q ∨ (rNotInD K x y H Q ∨ ∃ i j, x = .str i ∧ y = .str j ∧ Q (.bl (!(!(Builtin.Str.occurrences j i 0 j.length 1).isEmpty))) H)
theorem op_inAll {X : Cx} (hu : X.A.units + 65 < cLine) : OpR X (compareOp .In) (rInAll X.K) := opr_or op_in_seq (opr_or (op_inD hu) op_in_str)
theorem op_notInAll {X : Cx} (hu : X.A.units + 65 < cLine) : OpR X (compareOp .NotIn) (rNotInAll X.K) := opr_or op_notIn_seq (opr_or (op_notInD hu) op_notin_str)
theorem sem_in : SemB K (rInAll K) dIn := by
  intro H x y d e z Q rx ry hz q
  cases ry with
  | @tup a xs ds h1 h2 =>
    have hz : (if flatD d && ds.all flatD then some (PyData.bool (ds.any fun z => PyData.eqv z d)) else none) = some z := by cases d <;> exact hz
    obtain ⟨h, rfl⟩ := if_some hz
    rw [Bool.and_eq_true] at h
    refine .inl ⟨a, xs, rfl, .inr h1, flat_of rx h.1, flats_of h2 h.2, ?_⟩
    rw [if_neg Bool.false_ne_true, inV_of rx h.1 h2 h.2]
    exact q _ fun _ => .bl _
  | @lst a xs ds h1 h2 =>
    have hz : (if shp d && shp (.list ds) then some (PyData.bool (ds.any fun z => PyData.eqv z d)) else none) = some z := by cases d <;> exact hz
    obtain ⟨h, rfl⟩ := if_some hz
    rw [Bool.and_eq_true] at h
    exact .inr (.inl ⟨d, ds, rx.dp (shp_lay h.1), Rep.dp (.lst h1 h2) (shp_lay h.2), shp_shaped h.1, shp_shaped h.2, q _ fun _ => .bl _⟩)
  | str j =>
    cases rx with
    | str i => cases hz; exact .inr (.inr ⟨i, j, rfl, rfl, q _ fun _ => .bl _⟩)
    | _ => cases hz
  | _ => cases rx <;> cases hz
theorem sem_notIn : SemB K (rNotInAll K) dNotIn := by
  intro H x y d e z Q rx ry hz q
  cases ry with
  | @tup a xs ds h1 h2 =>
    have hz : (if flatD d && ds.all flatD then some (PyData.bool (!ds.any fun z => PyData.eqv z d)) else none) = some z := by cases d <;> exact hz
    obtain ⟨h, rfl⟩ := if_some hz
    rw [Bool.and_eq_true] at h
    refine .inl ⟨a, xs, rfl, .inr h1, flat_of rx h.1, flats_of h2 h.2, ?_⟩
    rw [if_pos rfl, inV_of rx h.1 h2 h.2]
    exact q _ fun _ => .bl _
  | @lst a xs ds h1 h2 =>
    have hz : (if shp d && shp (.list ds) then some (PyData.bool (!ds.any fun z => PyData.eqv z d)) else none) = some z := by cases d <;> exact hz
    obtain ⟨h, rfl⟩ := if_some hz
    rw [Bool.and_eq_true] at h
    exact .inr (.inl ⟨d, ds, rx.dp (shp_lay h.1), Rep.dp (.lst h1 h2) (shp_lay h.2), shp_shaped h.1, shp_shaped h.2, q _ fun _ => .bl _⟩)
  | str j =>
    cases rx with
    | str i => cases hz; exact .inr (.inr ⟨i, j, rfl, rfl, q _ fun _ => .bl _⟩)
    | _ => cases hz
  | _ => cases rx <;> cases hz
/-! ### an item -/
def dIx : D → D → Option D
  | .list ds, .int i => atI ds i
  | .tuple ds, .int i => atI ds i
  | .str z, .int i => if small z.length then (atI z.cps.toList i).map fun c => .str ⟨#[c]⟩ else none
  | _, _ => none
theorem atI_rep {H : Hp} {vs : List V} {ds : List D} {i : Int} {z : D} (r : RepAll K H vs ds) (h : atI ds i = some z) : ∃ v, atI vs i = some v ∧ Rep K H v z := by
  unfold atI at h ⊢
  rw [r.length]
  cases hx : ixN ds.length i with
  | none => rw [hx] at h; cases h
  | some j =>
    rw [hx] at h
    exact r.getD h
theorem sem_ix : Sem2 K (rIx K) dIx := by
  refine Sem2.keep fun H M x y d e z Q rx ry hz q => ?_
  cases rx with
  | str w =>
    cases ry with
    | int i =>
      obtain ⟨h1, h2⟩ : small w.length = true ∧ (atI w.cps.toList i).map (fun c => PyData.str ⟨#[c]⟩) = some z := by
        have hz : (if small w.length then (atI w.cps.toList i).map (fun c => PyData.str ⟨#[c]⟩) else none) = some z := hz
        cases hs : small w.length with
        | true => rw [hs] at hz; exact ⟨rfl, hz⟩
        | false => rw [hs] at hz; cases hz
      cases ha : atI w.cps.toList i with
      | none => rw [ha] at h2; cases h2
      | some c =>
        rw [ha] at h2; cases h2
        exact .inr (.inr ⟨w, i, c, rfl, rfl, small_le h1, ha, q _ (.str _)⟩)
    | _ => cases hz
  | @lst a xs ds h1 h2 =>
    cases ry with
    | int i =>
      obtain ⟨v, e1, e2⟩ := atI_rep h2 hz
      exact .inl ⟨a, xs, i, v, rfl, rfl, SqL.of (mask_some h1).2, e1, q _ e2⟩
    | _ => cases hz
  | @tup a xs ds h1 h2 =>
    cases ry with
    | int i =>
      obtain ⟨v, e1, e2⟩ := atI_rep h2 hz
      exact .inr (.inl ⟨a, xs, i, v, rfl, rfl, same_sqT (mask_le _ _) h1, e1, q _ e2⟩)
    | _ => cases hz
  | _ => cases ry <;> cases hz
end
section
variable {cl : Nat → Addr} {X : Cx} {E : XK} {e a b c : Expr} {f g h : Envt → Tr D} {pos : Pos}
theorem de_add (ha : DE cl X E a f) (hb : DE cl X E b g) : DE cl X E (.BinOp a .Add b pos) (v2 dAdd f g) := de_bin op_addD sem_add ha hb
theorem de_sub (ha : DE cl X E a f) (hb : DE cl X E b g) : DE cl X E (.BinOp a .Sub b pos) (v2 dSub f g) := de_bin op_sub sem_sub ha hb
theorem de_mul (ha : DE cl X E a f) (hb : DE cl X E b g) : DE cl X E (.BinOp a .Mult b pos) (v2 dMul f g) := de_bin op_mulD sem_mul ha hb
theorem de_mod (ha : DE cl X E a f) (hb : DE cl X E b g) : DE cl X E (.BinOp a .Mod b pos) (v2 dMod f g) := de_bin op_mod sem_mod ha hb
theorem de_fdiv (ha : DE cl X E a f) (hb : DE cl X E b g) : DE cl X E (.BinOp a .FloorDiv b pos) (v2 dFdiv f g) := de_bin op_fdiv sem_fdiv ha hb
theorem de_eq {k : Nat} (hr : Room k X.A) (ha : DB cl X E a f) (hb : DB cl X E b g) : DE cl X E (.Compare a [.Eq] [b] pos) (v2 dEq f g) := de_cmpB (op_eqD hr.units) sem_eq ha hb (nomark _)
theorem de_ne {k : Nat} (hr : Room k X.A) (ha : DB cl X E a f) (hb : DB cl X E b g) : DE cl X E (.Compare a [.NotEq] [b] pos) (v2 dNe f g) := de_cmpB (op_neD hr.units) sem_ne ha hb (nomark _)
theorem de_lt (ha : DB cl X E a f) (hb : DB cl X E b g) : DE cl X E (.Compare a [.Lt] [b] pos) (v2 dLt f g) := de_cmpB op_lt sem_lt ha hb (nomark _)
theorem de_le (ha : DB cl X E a f) (hb : DB cl X E b g) : DE cl X E (.Compare a [.LtE] [b] pos) (v2 dLe f g) := de_cmpB op_le sem_le ha hb (nomark _)
theorem de_gt (ha : DB cl X E a f) (hb : DB cl X E b g) : DE cl X E (.Compare a [.Gt] [b] pos) (v2 dGt f g) := de_cmpB op_gt sem_gt ha hb (nomark _)
theorem de_ge (ha : DB cl X E a f) (hb : DB cl X E b g) : DE cl X E (.Compare a [.GtE] [b] pos) (v2 dGe f g) := de_cmpB op_ge sem_ge ha hb (nomark _)
theorem de_is (ha : DB cl X E a f) (hb : DB cl X E b g) : DE cl X E (.Compare a [.Is] [b] pos) (v2 dIs f g) := de_cmpB op_isD sem_is ha hb (nomark _)
theorem de_isNot (ha : DB cl X E a f) (hb : DB cl X E b g) : DE cl X E (.Compare a [.IsNot] [b] pos) (v2 dIsNot f g) := de_cmpB op_isNotD sem_isNot ha hb (nomark _)
theorem de_in {k : Nat} (hr : Room k X.A) (ha : DB cl X E a f) (hb : DB cl X E b g) (hm : behindInMarks .In b = false := by rfl) : DE cl X E (.Compare a [.In] [b] pos) (v2 dIn f g) := de_cmpB (op_inAll (by have := hr.un; omega)) sem_in ha hb hm
theorem de_notIn {k : Nat} (hr : Room k X.A) (ha : DB cl X E a f) (hb : DB cl X E b g) (hm : behindInMarks .NotIn b = false := by rfl) : DE cl X E (.Compare a [.NotIn] [b] pos) (v2 dNotIn f g) := de_cmpB (op_notInAll (by have := hr.un; omega)) sem_notIn ha hb hm
theorem dt_eq {k : Nat} (hr : Room k X.A) (ha : DB cl X E a f) (hb : DB cl X E b g) : DT cl X E (.Compare a [.Eq] [b] pos) (vT (v2 dEq f g)) := dt_cmpB (op_eqD hr.units) sem_eq ha hb (nomark _)
theorem dt_ne {k : Nat} (hr : Room k X.A) (ha : DB cl X E a f) (hb : DB cl X E b g) : DT cl X E (.Compare a [.NotEq] [b] pos) (vT (v2 dNe f g)) := dt_cmpB (op_neD hr.units) sem_ne ha hb (nomark _)
theorem dt_lt (ha : DB cl X E a f) (hb : DB cl X E b g) : DT cl X E (.Compare a [.Lt] [b] pos) (vT (v2 dLt f g)) := dt_cmpB op_lt sem_lt ha hb (nomark _)
theorem dt_le (ha : DB cl X E a f) (hb : DB cl X E b g) : DT cl X E (.Compare a [.LtE] [b] pos) (vT (v2 dLe f g)) := dt_cmpB op_le sem_le ha hb (nomark _)
theorem dt_gt (ha : DB cl X E a f) (hb : DB cl X E b g) : DT cl X E (.Compare a [.Gt] [b] pos) (vT (v2 dGt f g)) := dt_cmpB op_gt sem_gt ha hb (nomark _)
theorem dt_ge (ha : DB cl X E a f) (hb : DB cl X E b g) : DT cl X E (.Compare a [.GtE] [b] pos) (vT (v2 dGe f g)) := dt_cmpB op_ge sem_ge ha hb (nomark _)
theorem dt_is (ha : DB cl X E a f) (hb : DB cl X E b g) : DT cl X E (.Compare a [.Is] [b] pos) (vT (v2 dIs f g)) := dt_cmpB op_isD sem_is ha hb (nomark _)
theorem dt_isNot (ha : DB cl X E a f) (hb : DB cl X E b g) : DT cl X E (.Compare a [.IsNot] [b] pos) (vT (v2 dIsNot f g)) := dt_cmpB op_isNotD sem_isNot ha hb (nomark _)
theorem dt_in {k : Nat} (hr : Room k X.A) (ha : DB cl X E a f) (hb : DB cl X E b g) (hm : behindInMarks .In b = false := by rfl) : DT cl X E (.Compare a [.In] [b] pos) (vT (v2 dIn f g)) := dt_cmpB (op_inAll (by have := hr.un; omega)) sem_in ha hb hm
theorem dt_notIn {k : Nat} (hr : Room k X.A) (ha : DB cl X E a f) (hb : DB cl X E b g) (hm : behindInMarks .NotIn b = false := by rfl) : DT cl X E (.Compare a [.NotIn] [b] pos) (vT (v2 dNotIn f g)) := dt_cmpB (op_notInAll (by have := hr.un; omega)) sem_notIn ha hb hm
/-- a <= b <= c -/
def vChain (op op' : D → D → Option D) (f g h : Envt → Tr D) : Envt → Tr D := fun env => (f env).bind fun x => (g env).bind fun y => (ofO (op x y)).bind fun z => (ofO (asB z)).bind fun k => if k then (h env).bind fun w => ofO (op' y w) else .ret (.bool false)
theorem de_chain {o o' : CmpOp} {r r' : R2} {op op' : D → D → Option D} (ho : OpR X (compareOp o) r) (ho' : OpR X (compareOp o') r') (hr : SemB X.K r op) (hr' : SemB X.K r' op') (ha : DE cl X E a f) (hb : DE cl X E b g) (hc : DE cl X E c h)
    (hm : lastMarks [o, o'] [b, c] = false := by with_unfolding_all rfl) : DE cl X E (.Compare a [o, o'] [b, c] pos) (vChain op op' f g h) := by
  obtain ⟨ta, pa, ra⟩ := ha
  obtain ⟨tb, pb, rb⟩ := hb
  obtain ⟨tc, pc, rc⟩ := hc
  refine ⟨_, pe_chain ho ho' pa pb pc hm, fun F B ad σ H env Q hk hc o k => ?_⟩
  refine ra F B ad σ H env _ hk hc o (Tr.all_mono (fun d z x H1 k1 rx => ?_) (fun _ z => z) (Tr.all_bind k))
  refine rb F B ad σ H1 env _ hk hc (o.kx k1) (Tr.all_mono (fun e z y H2 k2 ry => ?_) (fun _ z => z) (Tr.all_bind z))
  cases hz : op d e with
  | none => rw [hz] at z; exact z.elim
  | some w =>
    rw [hz] at z
    refine hr H2 x y d e w _ (by rw [← hk]; exact (rx.mono k2.msame).mono (mask_le _ _)) (by rw [← hk]; exact ry.mono (mask_le _ _)) hz fun v rv => ?_
    have rv0 := rv H2
    cases w with
    | bool b =>
      cases rv0
      refine ⟨b, rfl, ?_⟩
      cases b with
      | false => exact iteF (z _ H2 (k1.trans k2) (.bl _))
      | true =>
        refine iteT ?_
        refine rc F B ad σ H2 env _ hk hc ((o.kx k1).kx k2) (Tr.all_mono (fun e3 z w' H3 k3 rw' => ?_) (fun _ z => z) (Tr.all_bind z))
        cases hz3 : op' e e3 with
        | none => rw [hz3] at z; exact z.elim
        | some w3 =>
          rw [hz3] at z
          refine hr' H3 y w' e e3 w3 _ (by rw [← hk]; exact (ry.mono k3.msame).mono (mask_le _ _)) (by rw [← hk]; exact rw'.mono (mask_le _ _)) hz3 fun v rv => ?_
          exact z v H3 (k1.trans (k2.trans k3)) (by rw [hk]; exact rv _)
    | _ => exact z.elim
theorem de_lele (ha : DE cl X E a f) (hb : DE cl X E b g) (hc : DE cl X E c h) (hm : lastMarks [.LtE, .LtE] [b, c] = false := by with_unfolding_all rfl) : DE cl X E (.Compare a [.LtE, .LtE] [b, c] pos) (vChain dLe dLe f g h) := de_chain op_le op_le sem_le sem_le ha hb hc hm
theorem dt_lele (ha : DE cl X E a f) (hb : DE cl X E b g) (hc : DE cl X E c h) (hm : lastMarks [.LtE, .LtE] [b, c] = false := by with_unfolding_all rfl) : DT cl X E (.Compare a [.LtE, .LtE] [b, c] pos) (vT (vChain dLe dLe f g h)) := by
  obtain ⟨ta, pa, ra⟩ := ha
  obtain ⟨tb, pb, rb⟩ := hb
  obtain ⟨tc, pc, rc⟩ := hc
  refine ⟨_, pt_chain op_le op_le pa pb pc hm, fun F B ad σ H env Q hk hc o k => tt_core (cl := cl) (f := vChain dLe dLe f g h) (fun F B ad σ H env Q hk hc o k => ?_) hk hc o k⟩
  refine ra F B ad σ H env _ hk hc o (Tr.all_mono (fun d z x H1 k1 rx => ?_) (fun _ z => z) (Tr.all_bind k))
  refine rb F B ad σ H1 env _ hk hc (o.kx k1) (Tr.all_mono (fun e z y H2 k2 ry => ?_) (fun _ z => z) (Tr.all_bind z))
  cases hz : dLe d e with
  | none => rw [hz] at z; exact z.elim
  | some w =>
    rw [hz] at z
    refine sem_le (K := X.K) H2 x y d e w _ (by rw [← hk]; exact (rx.mono k2.msame).mono (mask_le _ _)) (by rw [← hk]; exact ry.mono (mask_le _ _)) hz fun v rv => ?_
    have rv0 := rv H2
    cases w with
    | bool b =>
      cases rv0
      refine ⟨b, rfl, ?_⟩
      cases b with
      | false => exact iteF (z _ H2 (k1.trans k2) (.bl _))
      | true =>
        refine iteT ?_
        refine rc F B ad σ H2 env _ hk hc ((o.kx k1).kx k2) (Tr.all_mono (fun e3 z w' H3 k3 rw' => ?_) (fun _ z => z) (Tr.all_bind z))
        cases hz3 : dLe e e3 with
        | none => rw [hz3] at z; exact z.elim
        | some w3 =>
          rw [hz3] at z
          refine sem_le (K := X.K) H3 y w' e e3 w3 _ (by rw [← hk]; exact (ry.mono k3.msame).mono (mask_le _ _)) (by rw [← hk]; exact rw'.mono (mask_le _ _)) hz3 fun v rv => ?_
          exact z v H3 (k1.trans (k2.trans k3)) (by rw [hk]; exact rv _)
    | _ => exact z.elim
/-! ### items, parts -/
theorem de_ix (ha : DE cl X E a f) (hb : DE cl X E b g) (hs : PlainIx b := by exact fun _ _ => rfl) : DE cl X E (.Subscript a b pos) (v2 dIx f g) := by
  obtain ⟨ta, pa, ra⟩ := ha
  obtain ⟨tb, pb, rb⟩ := hb
  exact ⟨_, pe_ix ix_seq pa pb hs, fun F B ad σ H env Q hk hc o k => two_core sem_ix ra rb hk hc o k⟩
/-- an item of a slot's own list -/
def vIxV (i : Nat) (g : Envt → Tr D) : Envt → Tr D := fun env => match env[i]? with
  | some (.ow ds) => (g env).bind fun y => ofO (dIx (.list ds) y)
  | some (.fz d) => (g env).bind fun y => ofO (dIx d y)
  | _ => .bad
theorem de_ixV (i : Nat) {x : Str} {p2 : Pos} (hb : DE cl X E b g) (hN : X.N[i]? = some x := by rfl) (hv : Vis X.env.scope x := by first | exact Or.inl rfl | exact Or.inr (Or.inl rfl) | exact Or.inr (Or.inr rfl)) (hd : (x == ("__debug__" : Str)) = false := by decide)
    (hcd : (x == ("__classdict__" : Str)) = false := by decide) (hs : PlainIx b := by exact fun _ _ => rfl) : DE cl X E (.Subscript (.Name x p2) b pos) (vIxV i g) := by
  obtain ⟨tb, pb, rb⟩ := hb
  refine ⟨_, pe_ix ix_seq (pe_var (i := i) hN hv hd hcd) pb hs, fun F B ad σ H env Q hk hc o k => ?_⟩
  unfold vIxV at k
  split at k
  · rename_i ds he
    obtain ⟨oa, sv, e1, e2, p, vs, rfl, rfl, hp, r⟩ := o.at_ he
    refine ⟨_, e2, rb F B ad σ H env _ hk hc o (Tr.all_mono (fun d z y H1 k1 ry => ?_) (fun _ z => z) (Tr.all_bind k))⟩
    cases ry with
    | int j =>
      cases hz : dIx (.list ds) (.int j) with
      | none => rw [hz] at z; exact z.elim
      | some w =>
        rw [hz] at z
        obtain ⟨v, a1, a2⟩ := atI_rep r hz
        exact .inl ⟨p, vs, j, v, rfl, rfl, SqL.of (k1.keep _ _ hp (o.notdl e1)), a1, z v H1 k1 (a2.mono k1.msame)⟩
    | _ => exact z.elim
  · rename_i d he
    obtain ⟨oa, sv, e1, e2, q1, v, rfl, r⟩ := o.at_ he
    refine ⟨v, e2, rb F B ad σ H env _ hk hc o (Tr.all_mono (fun e z y H1 k1 ry => ?_) (fun _ z => z) (Tr.all_bind k))⟩
    cases hz : dIx d e with
    | none => rw [hz] at z; exact z.elim
    | some w =>
      rw [hz] at z
      exact sem_ix (K := X.K) F.dt (Mm F ad) H1 v y d e w Q k1.dr (fun a q => Mm_dl q) (fun p hp => (o.kx k1).notM hp) (by rw [← hk]; exact r.mono k1.msame) (by rw [← hk]; exact ry) hz fun v' H' k3 rv => z v' H' (k1.trans k3) (by rw [hk]; exact rv)
  · exact k.elim
def DO (cl : Nat → Addr) (X : Cx) (E : XK) (e : Option Expr) (f : Envt → Tr (Option Int)) : Prop := ∃ t, PO X e t ∧ ∀ (F : Fx) (B : Hp) (ad : Ads) (σ : St) (H : Hp) (env : Envt) (Q : Option Int → Hp → Prop), F.K = X.K → F.cl = cl → Ok F B ad σ H env →
  (f env).all (fun i => ∀ H', Kx F.dt H H' → Q i H') (EOk F E) → t σ H Q
def oNone : Envt → Tr (Option Int) := fun _ => .ret none
def oSome (f : Envt → Tr D) : Envt → Tr (Option Int) := fun env => (f env).bind fun d => match d with
  | .int i => .ret (some i)
  | _ => .bad
theorem do_none : DO cl X E none oNone := ⟨_, po_none, fun F B ad σ H env Q hk hc o k => k H (Kx.refl o.k0.dr)⟩
theorem do_some (ha : DE cl X E a f) : DO cl X E (some a) (oSome f) := by
  obtain ⟨ta, pa, ra⟩ := ha
  refine ⟨_, po_some pa, fun F B ad σ H env Q hk hc o k => ra F B ad σ H env _ hk hc o (Tr.all_mono (fun d z x H1 k1 rx => ?_) (fun _ z => z) (Tr.all_bind k))⟩
  cases rx with
  | int i => exact ⟨i, rfl, z H1 k1⟩
  | _ => exact z.elim
def cutD {α : Type} (xs : List α) (lo hi : Option Int) : List α := (xs.drop (HT.sIx xs.length 0 lo)).take (HT.sIx xs.length xs.length hi - HT.sIx xs.length 0 lo)
def dSl : D → Option Int → Option Int → Option D
  | .list ds, lo, hi => some (.list (cutD ds lo hi))
  | .tuple ds, lo, hi => some (.tuple (cutD ds lo hi))
  | .str z, lo, hi => if small z.length then some (.str (cutS z lo hi)) else none
  | _, _, _ => none
def vSl (f : Envt → Tr D) (l u : Envt → Tr (Option Int)) : Envt → Tr D := fun env => (f env).bind fun d => (l env).bind fun lo => (u env).bind fun hi => ofO (dSl d lo hi)
theorem slr_or {r r' : V → Option Int → Option Int → Hp → VK → Prop} (h : SlR X r) (h' : SlR X r') : SlR X (fun x l u H Q => r x l u H Q ∨ r' x l u H Q) := by
  intro pins s σ H x v vl vu lo hi sl Q I rx hs pl pu q
  rcases q with q | q
  · exact h pins s σ H x v vl vu lo hi sl Q I rx hs pl pu q
  · exact h' pins s σ H x v vl vu lo hi sl Q I rx hs pl pu q
theorem cut_rep {K : PySem.W.Frag} {H : Hp} {vs : List V} {ds : List D} {lo hi : Option Int} (r : RepAll K H vs ds) : RepAll K H (cutV vs lo hi) (cutD ds lo hi) := by
  unfold cutV cutD
  rw [r.length]
  exact (r.drop _).take _
theorem cut_whole {α : Type} {xs : List α} {lo hi : Option Int} (h : HT.sIx xs.length 0 lo = 0 ∧ HT.sIx xs.length xs.length hi = xs.length) : cutD xs lo hi = xs := by
  unfold cutD
  rw [h.1, h.2, List.drop_zero, Nat.sub_zero, List.take_length]
theorem de_slice {lo hi : Option Expr} {l u : Envt → Tr (Option Int)} {p2 : Pos} (ha : DE cl X E a f) (hl : DO cl X E lo l) (hh : DO cl X E hi u) : DE cl X E (.Subscript a (.Slice lo hi none p2) pos) (vSl f l u) := by
  obtain ⟨ta, pa, ra⟩ := ha
  obtain ⟨tl, pl, rl⟩ := hl
  obtain ⟨th, ph, rh⟩ := hh
  refine ⟨_, pe_slice (slr_or sl_list (slr_or sl_tupA sl_str)) pa pl ph, fun F B ad σ H env Q hk hc o k => ?_⟩
  refine ra F B ad σ H env _ hk hc o (Tr.all_mono (fun d z x H1 k1 rx => ?_) (fun _ z => z) (Tr.all_bind k))
  refine rl F B ad σ H1 env _ hk hc (o.kx k1) (Tr.all_mono (fun lo z H2 k2 => ?_) (fun _ z => z) (Tr.all_bind z))
  refine rh F B ad σ H2 env _ hk hc ((o.kx k1).kx k2) (Tr.all_mono (fun hi z H3 k3 => ?_) (fun _ z => z) (Tr.all_bind z))
  have o3 := ((o.kx k1).kx k2).kx k3
  have rx3 := (rx.mono k2.msame).mono k3.msame
  have k13 := k1.trans (k2.trans k3)
  cases hz : dSl d lo hi with
  | none => rw [hz] at z; exact z.elim
  | some w =>
    rw [hz] at z
    cases rx3 with
    | str y =>
      obtain ⟨h1, rfl⟩ := if_some hz
      exact .inr (.inr ⟨y, rfl, small_le h1, z _ H3 k13 (.str _)⟩)
    | @lst p xs ds h1 h2 =>
      cases hz
      refine .inl ⟨p, xs, rfl, SqL.of (mask_some h1).2, ?_⟩
      exact new_lst (K := F.K) k3.dr (fun a q => Mm_dl (F := F) (ad := ad) q) (fun p hp => o3.notM hp) (cut_rep h2) fun v H' k4 rv => z v H' (k13.trans k4) rv
    | @tup p xs ds h1 h2 =>
      cases hz
      refine .inr (.inl ⟨p, xs, rfl, by rw [← hk]; exact same_sqT (mask_le _ _) h1, fun hw => ?_, fun _ => ?_⟩)
      · rw [h2.length] at hw
        rw [cut_whole hw] at z
        exact z _ H3 k13 (.tup h1 h2)
      · exact new_tup (K := F.K) k3.dr (fun a q => Mm_dl (F := F) (ad := ad) q) (fun p hp => o3.notM hp) (cut_rep h2) fun v H' k4 rv => z v H' (k13.trans k4) rv
    | _ => cases hz
end
end Mb

namespace Mb
open PySem L2

/-! ### readings that do not lean on the context -/
theorem PE.weak {X : Cx} {e : Expr} {t t' : TE} (h : PE X e t) (w : ∀ σ H Q, t' σ H Q → t σ H Q) : PE X e t' := ⟨fun pins s σ H Q I q => h.run pins s σ H Q I (w σ H Q q)⟩
theorem PT.weak {X : Cx} {e : Expr} {t t' : TT} (h : PT X e t) (w : ∀ σ H Q, t' σ H Q → t σ H Q) : PT X e t' := ⟨fun pins s σ H Q I q => h.run pins s σ H Q I (w σ H Q q)⟩
theorem PG.weak {X : Cx} {e : Expr} {t t' : TG} (h : PG X e t) (w : ∀ v σ H Q, t' v σ H Q → t v σ H Q) : PG X e t' := ⟨fun pins s σ H v u Q I r q => h.run pins s σ H v u Q I r (w v σ H Q q)⟩
def tDE (cl : Nat → Addr) (K : PySem.W.Frag) (E : XK) (f : Envt → Tr D) : TE := fun σ H Q => ∃ F B ad env, F.K = K ∧ F.cl = cl ∧ Ok F B ad σ H env ∧ (f env).all (Post F ad H Q) (EOk F E)
def tDT (cl : Nat → Addr) (K : PySem.W.Frag) (E : XK) (f : Envt → Tr Bool) : TT := fun σ H Q => ∃ F B ad env, F.K = K ∧ F.cl = cl ∧ Ok F B ad σ H env ∧ (f env).all (PostT F ad H Q) (EOk F E)
section
variable {cl : Nat → Addr} {X : Cx} {E : XK} {e a b c : Expr} {f g h : Envt → Tr D} {pos : Pos}
theorem DE.pe (h : DE cl X E e f) : PE X e (tDE cl X.K E f) := by
  obtain ⟨t, p, r⟩ := h
  exact PE.weak p fun σ H Q ⟨F, B, ad, env, hk, hc, o, k⟩ => r F B ad σ H env Q hk hc o k
theorem DT.pt {f : Envt → Tr Bool} (h : DT cl X E e f) : PT X e (tDT cl X.K E f) := by
  obtain ⟨t, p, r⟩ := h
  exact PT.weak p fun σ H Q ⟨F, B, ad, env, hk, hc, o, k⟩ => r F B ad σ H env Q hk hc o k

/-! ### what is walked -/
/-- the turns of J yield ds, over a ground HB -/
def Yields (K : PySem.W.Frag) (dt : Dl) (J : It) (HB : Hp) (ds : List D) : Prop := ∀ (i : Nat) (H : Hp) (M : Addr → Prop), Same HB (mask H M) → DrOk dt H → (∀ p, H p = none → ¬ M p) →
  (∀ d, ds[i]? = some d → J.go i H ∧ ∀ x H', J.yld i H x H' → Kx dt H H' ∧ Rep K (mask H' M) x d) ∧ (ds.length ≤ i → J.stop i H)
def DI (cl : Nat → Addr) (X : Cx) (E : XK) (tg iter : Expr) (f : Envt → Tr (List D)) : Prop := ∃ wi, PI X tg iter wi ∧ ∀ (F : Fx) (B : Hp) (ad : Ads) (σ : St) (H : Hp) (env : Envt) (R : It → Hp → Prop), F.K = X.K → F.cl = cl → Ok F B ad σ H env →
  (f env).all (fun ds => ∀ J H1, Kx F.dt H H1 → Yields F.K F.dt J (mask H1 (Mm F ad)) ds → R J H1) (EOk F E) → wi σ H R
def iSeq (K : PySem.W.Frag) (tl : TE) : TI := fun σ H R => tl σ H fun x H1 => (∃ a, x = .ref a ∧ (∃ xs, SqL K H1 a xs) ∧ R (Itl K a) H1) ∨ ((∃ a, x = .ref a ∧ (∃ xs, SqT K H1 a xs) ∧ R (Itt K a) H1) ∨ ∃ z, x = .str z ∧ R (Its z) H1)
theorem pi_seq {tg l : Expr} {tl : TE} (hl : PE X l tl) : PI X tg l (iSeq X.K tl) := by
  refine ⟨fun pins s σ H R I h => ?_⟩
  refine thn (hl.run pins s σ H _ I h) fun v s1 ⟨x, H1, I1, r1, q1⟩ => ?_
  rcases q1 with ⟨a, e, ⟨xs, hq⟩, q⟩ | ⟨a, e, ⟨xs, hq⟩, q⟩ | ⟨x, ex, q⟩
  · subst e
    cases r1
    obtain ⟨its, rv, p, hz⟩ := I1.list hq
    refine wpAny_pyIter_list p.isList ?_
    refine ⟨s1.heap.objs.size, [s1.heap.objs.size], _, _, H1, rfl, I1.kept (t' := s1.toks) fun b o e => Heap.get?_push_of_some _ e, turn_list a _, ⟨_, Heap.get?_push_size _ rfl, rfl, rfl⟩, fun b hb => ?_, q⟩
    have e : b = s1.heap.objs.size := by simpa using hb
    subst e
    exact I1.fpOk (Nat.le_refl _) (I1.hok.fresh (Nat.le_refl _))
  · subst e
    cases r1
    obtain ⟨its, rv, p, hz⟩ := I1.tuple hq
    refine wpAny_pyIter_tuple (show s1.heap.IsTuple a its.toArray from p) ?_
    refine ⟨s1.heap.objs.size, [s1.heap.objs.size], _, _, H1, rfl, I1.kept (t' := s1.toks) fun b o e => Heap.get?_push_of_some _ e, turn_tuple a _, ⟨_, Heap.get?_push_size _ rfl, rfl, rfl⟩, fun b hb => ?_, q⟩
    have e : b = s1.heap.objs.size := by simpa using hb
    subst e
    exact I1.fpOk (Nat.le_refl _) (I1.hok.fresh (Nat.le_refl _))
  · subst ex
    obtain ⟨t, rfl⟩ := r1
    cases ha : x.cps.all (· < 128)
    · exact wpAny_pyIter_wide ha (pi_one (tk := s1.toks) I1 _ (turn_str _ x t "str_iterator" (.inr rfl)) ⟨_, Heap.get?_push_size _ rfl, rfl, rfl⟩ q)
    · exact wpAny_pyIter_ascii ha (pi_one (tk := s1.toks) I1 _ (turn_str _ x t "str_ascii_iterator" (.inl rfl)) ⟨_, Heap.get?_push_size _ rfl, rfl, rfl⟩ q)

/-! ### lists, tuples, texts, ranges -/
def itD : D → Option (List D)
  | .list ds => some ds
  | .tuple ds => some ds
  | .str z => some (z.cps.toList.map fun c => .str ⟨#[c]⟩)
  | _ => none
def wSeq (f : Envt → Tr D) : Envt → Tr (List D) := fun env => (f env).bind fun d => ofO (itD d)
theorem yl_list {K : PySem.W.Frag} {dt : Dl} {HB : Hp} {a : Addr} {xs : List V} {ds : List D} (h : HB a = some (.lst xs)) (r : RepAll K HB xs ds) : Yields K dt (Itl K a) HB ds := fun i H M s hd hp => by
  have hq : SqL K H a xs := SqL.of (mask_some (s _ _ h)).2
  refine ⟨fun d e => ?_, fun hl => ⟨xs, hq, by rw [r.length]; exact hl⟩⟩
  obtain ⟨v, e1, e2⟩ := r.getD e
  refine ⟨⟨xs, v, hq, e1⟩, fun x H' ⟨q1, q2⟩ => ?_⟩
  subst q1
  have := q2 xs hq
  rw [e1] at this; cases this
  exact ⟨Kx.refl hd, e2.mono s⟩
theorem yl_tup {K : PySem.W.Frag} {dt : Dl} {HB : Hp} {a : Addr} {xs : List V} {ds : List D} (h : SqT K HB a xs) (r : RepAll K HB xs ds) : Yields K dt (Itt K a) HB ds := fun i H M s hd hp => by
  have hq : SqT K H a xs := same_sqT (mask_le _ _) (same_sqT s h)
  refine ⟨fun d e => ?_, fun hl => ⟨xs, hq, by rw [r.length]; exact hl⟩⟩
  obtain ⟨v, e1, e2⟩ := r.getD e
  refine ⟨⟨xs, v, hq, e1⟩, fun x H' ⟨q1, q2⟩ => ?_⟩
  subst q1
  have := q2 xs hq
  rw [e1] at this; cases this
  exact ⟨Kx.refl hd, e2.mono s⟩
theorem yl_str {K : PySem.W.Frag} {dt : Dl} {HB : Hp} {z : Str} : Yields K dt (Its z) HB (z.cps.toList.map fun c => .str ⟨#[c]⟩) := fun i H M s hd hp => by
  refine ⟨fun d e => ?_, fun hl => ?_⟩
  · rw [List.getElem?_map] at e
    cases hc : z.cps.toList[i]? with
    | none => rw [hc] at e; cases e
    | some c =>
      rw [hc] at e; cases e
      have hi : i < z.cps.size := by
        have := (List.getElem?_eq_some_iff.mp hc).1
        simpa using this
      refine ⟨hi, fun x H' ⟨q1, c', q2, q3⟩ => ?_⟩
      subst q1 q3
      have : z.cps[i]? = some c := by rw [← Array.getElem?_toList]; exact hc
      rw [this] at q2; cases q2
      exact ⟨Kx.refl hd, .str _⟩
  · show z.cps.size ≤ i
    rw [List.length_map] at hl
    simpa using hl
theorem di_seq {tg : Expr} (ha : DE cl X E a f) : DI cl X E tg a (wSeq f) := by
  obtain ⟨ta, pa, ra⟩ := ha
  refine ⟨_, pi_seq pa, fun F B ad σ H env R hk hc o k => ?_⟩
  refine ra F B ad σ H env _ hk hc o (Tr.all_mono (fun d z x H1 k1 rx => ?_) (fun _ z => z) (Tr.all_bind k))
  cases rx with
  | @lst p xs ds h1 h2 => exact .inl ⟨p, rfl, ⟨xs, SqL.of (mask_some h1).2⟩, by rw [← hk]; exact z _ H1 k1 (yl_list h1 h2)⟩
  | @tup p xs ds h1 h2 => exact .inr (.inl ⟨p, rfl, ⟨xs, by rw [← hk]; exact same_sqT (mask_le _ _) h1⟩, by rw [← hk]; exact z _ H1 k1 (yl_tup h1 h2)⟩)
  | str y => exact .inr (.inr ⟨y, rfl, z _ H1 k1 yl_str⟩)
  | _ => exact z.elim
def rangeD (lo : Int) (n : Nat) : List D := (List.range n).map fun i => .int (lo + (i : Nat))
theorem yl_rng {K : PySem.W.Frag} {dt : Dl} {HB : Hp} {lo : Int} {n : Nat} : Yields K dt (Itr lo n) HB (rangeD lo n) := fun i H M s hd hp => by
  unfold rangeD
  refine ⟨fun d e => ?_, fun hl => (show n ≤ i by simpa using hl)⟩
  rw [List.getElem?_map] at e
  by_cases hi : i < n
  · rw [List.getElem?_range hi] at e
    cases e
    refine ⟨hi, fun x H' ⟨q1, q2⟩ => ?_⟩
    subst q1 q2
    exact ⟨Kx.refl hd, .int _⟩
  · rw [List.getElem?_eq_none (by simpa using hi)] at e; cases e
def okR (i : Int) : Bool := decide (-(2 ^ 62) ≤ i) && decide (i < 2 ^ 62)
theorem okR_of {i : Int} (h : okR i = true) : -(2 ^ 62) ≤ i ∧ i < 2 ^ 62 := by
  unfold okR at h
  rw [Bool.and_eq_true] at h
  exact ⟨of_decide_eq_true h.1, of_decide_eq_true h.2⟩
def rng1 : List D → Option (List D)
  | [.int j] => if okR j then some (rangeD 0 j.toNat) else none
  | _ => none
def rng2 : List D → Option (List D)
  | [.int i, .int j] => if okR i && okR j then some (rangeD i (j - i).toNat) else none
  | _ => none
def wArg (fn : List D → Option (List D)) (g : Envt → Tr (List Ent)) : Envt → Tr (List D) := fun env => (g env).bind fun es => ofO ((fzs es).bind fn)
theorem args_fz {α : Type} {fn : List D → Option α} {es : List Ent} {P : α → Prop} {EE : Nat → Prop} (z : (ofO ((fzs es).bind fn)).all P EE) : ∃ ds w, fzs es = some ds ∧ fn ds = some w ∧ P w := by
  cases h : fzs es with
  | none => rw [h] at z; exact z.elim
  | some ds =>
    rw [h] at z
    have z : (ofO (fn ds)).all P EE := z
    cases hf : fn ds with
    | none => rw [hf] at z; exact z.elim
    | some w => rw [hf] at z; exact ⟨ds, w, rfl, hf, z⟩
theorem di_range1 {tg : Expr} {p : Pos} {g : Envt → Tr (List Ent)} (hm : X.mg "range" = none) (ha : DA cl X E [a] g) (hg : Gl X "range" := by rfl) (hs : starEach [a] X.env = [(false, eval a X.env)] := by rfl) : DI cl X E tg (.Call (.Name "range" p) [a] [] pos) (wArg rng1 g) := by
  obtain ⟨u, q, s⟩ := ha
  refine ⟨_, pi_range1 hg hm q hs, fun F B ad σ H env R hk hc o k => ?_⟩
  refine s F B ad σ H env _ hk hc o (Tr.all_mono (fun es z xs H1 k1 rs => ?_) (fun _ z => z) (Tr.all_bind k))
  obtain ⟨ds, w, e1, e2, z⟩ := args_fz z
  have r := fzs_rep rs e1
  match ds, e2 with
  | [.int j], e2 =>
    obtain ⟨hj, rfl⟩ := if_some e2
    cases r with
    | cons r rr =>
      cases rr
      cases r
      exact ⟨j, rfl, (okR_of hj).1, (okR_of hj).2, z _ H1 k1 yl_rng⟩
theorem di_range2 {tg : Expr} {p : Pos} {g : Envt → Tr (List Ent)} (hm : X.mg "range" = none) (ha : DA cl X E [a, b] g) (hg : Gl X "range" := by rfl) (hs : starEach [a, b] X.env = [(false, eval a X.env), (false, eval b X.env)] := by rfl) (hs2 : starEach [b] X.env = [(false, eval b X.env)] := by rfl) : DI cl X E tg (.Call (.Name "range" p) [a, b] [] pos) (wArg rng2 g) := by
  obtain ⟨u, q, s⟩ := ha
  refine ⟨_, pi_range2 hg hm q hs hs2, fun F B ad σ H env R hk hc o k => ?_⟩
  refine s F B ad σ H env _ hk hc o (Tr.all_mono (fun es z xs H1 k1 rs => ?_) (fun _ z => z) (Tr.all_bind k))
  obtain ⟨ds, w, e1, e2, z⟩ := args_fz z
  have r := fzs_rep rs e1
  match ds, e2 with
  | [.int i, .int j], e2 =>
    obtain ⟨hj, rfl⟩ := if_some e2
    rw [Bool.and_eq_true] at hj
    cases r with
    | cons r rr =>
      cases rr with
      | cons r' rr =>
        cases rr
        cases r
        cases r'
        exact ⟨i, j, rfl, ⟨(okR_of hj.1).1, (okR_of hj.1).2, (okR_of hj.2).1, (okR_of hj.2).2⟩, z _ H1 k1 yl_rng⟩
/-! ### enumerate, zip -/
def enumD : List D → Option (List D)
  | [.list ds] => some ((List.range ds.length).zip ds |>.map fun p => .tuple [.int (p.1 : Nat), p.2])
  | _ => none
def zipD : List D → Option (List D)
  | [.list ds, .list es] => some ((ds.zip es).map fun p => .tuple [p.1, p.2])
  | _ => none
theorem Kx.new {dt : Dl} {H : Hp} {T : Addr} {o : HO} (hd : DrOk dt H) (h : H T = none) : Kx dt H (upd H T o) := Kx.of_same hd (same_new h)
theorem rep_pair {K : PySem.W.Frag} {H : Hp} {M : Addr → Prop} {T : Addr} {x y : V} {d e : D} (h : H T = none) (hm : ¬ M T) (rx : Rep K (mask H M) x d) (ry : Rep K (mask H M) y e) : Rep K (mask (upd H T (.tup [x, y])) M) (.ref T) (.tuple [d, e]) := by
  have ms : Same (mask H M) (mask (upd H T (.tup [x, y])) M) := mask_same fun a o n q => ⟨n, same_new h a o q⟩
  exact .tup (SqT.of (by rw [mask_out hm]; exact upd_same)) (.cons (rx.mono ms) (.cons (ry.mono ms) .nil))
theorem yl_enum {K : PySem.W.Frag} {dt : Dl} {HB : Hp} {a : Addr} {xs : List V} {ds : List D} (h : HB a = some (.lst xs)) (r : RepAll K HB xs ds) : Yields K dt (Ite K a) HB ((List.range ds.length).zip ds |>.map fun p => .tuple [.int (p.1 : Nat), p.2]) := fun i H M s hd hp => by
  have hq : SqL K H a xs := SqL.of (mask_some (s _ _ h)).2
  refine ⟨fun d e => ?_, fun hl => ⟨xs, hq, by rw [r.length]; simpa using hl⟩⟩
  rw [List.getElem?_map] at e
  cases hz : ((List.range ds.length).zip ds)[i]? with
  | none => rw [hz] at e; cases e
  | some p =>
    rw [hz] at e; cases e
    obtain ⟨h1, h2⟩ := List.getElem?_zip_eq_some.mp hz
    obtain ⟨v, e1, e2⟩ := r.getD h2
    refine ⟨⟨xs, v, hq, e1⟩, fun x H' ⟨T, y, q1, q2, q3, q4⟩ => ?_⟩
    subst q1 q3
    have := q4 xs hq
    rw [e1] at this; cases this
    have hi : p.1 = i := by
      have hi : i < ds.length := (List.getElem?_eq_some_iff.mp h2).1
      rw [List.getElem?_range hi] at h1
      exact (Option.some.inj h1).symm
    refine ⟨Kx.new hd q2, ?_⟩
    show Rep K _ _ (PyData.tuple [.int (p.1 : Nat), p.2])
    rw [hi]
    exact rep_pair q2 (hp T q2) (.int _) (e2.mono s)
theorem yl_zip {K : PySem.W.Frag} {dt : Dl} {HB : Hp} {a b : Addr} {xs ys : List V} {ds es : List D} (h : HB a = some (.lst xs)) (r : RepAll K HB xs ds) (h' : HB b = some (.lst ys)) (r' : RepAll K HB ys es) : Yields K dt (Itz K a b) HB ((ds.zip es).map fun p => .tuple [p.1, p.2]) := fun i H M s hd hp => by
  have hq : SqL K H a xs := SqL.of (mask_some (s _ _ h)).2
  have hq' : SqL K H b ys := SqL.of (mask_some (s _ _ h')).2
  refine ⟨fun d e => ?_, fun hl => ⟨xs, ys, hq, hq', ?_⟩⟩
  · rw [List.getElem?_map] at e
    cases hz : (ds.zip es)[i]? with
    | none => rw [hz] at e; cases e
    | some p =>
      rw [hz] at e; cases e
      obtain ⟨h1, h2⟩ := List.getElem?_zip_eq_some.mp hz
      obtain ⟨v, e1, e2⟩ := r.getD h1
      obtain ⟨v', e1', e2'⟩ := r'.getD h2
      refine ⟨⟨xs, ys, v, v', hq, hq', e1, e1'⟩, fun x H' ⟨T, y, y', q1, q2, q3, q4, q5⟩ => ?_⟩
      subst q1 q3
      have := q4 xs hq
      rw [e1] at this; cases this
      have := q5 ys hq'
      rw [e1'] at this; cases this
      exact ⟨Kx.new hd q2, rep_pair q2 (hp T q2) (e2.mono s) (e2'.mono s)⟩
  · rw [List.length_map, List.length_zip] at hl
    rw [r.length, r'.length]
    omega
theorem di_enum {elts : List Expr} {kk : Nat} {tpos p : Pos} {g : Envt → Tr (List Ent)} (hm : X.mg "enumerate" = none) (ha : DA cl X E [a] g) (hg : Gl X "enumerate" := by rfl) (hs : starEach [a] X.env = [(false, eval a X.env)] := by rfl) : DI cl X E (.Tuple elts kk tpos) (.Call (.Name "enumerate" p) [a] [] pos) (wArg enumD g) := by
  obtain ⟨u, q, s⟩ := ha
  refine ⟨_, pi_enum hg hm q hs, fun F B ad σ H env R hk hc o k => ?_⟩
  refine s F B ad σ H env _ hk hc o (Tr.all_mono (fun es z xs H1 k1 rs => ?_) (fun _ z => z) (Tr.all_bind k))
  obtain ⟨ds, w, e1, e2, z⟩ := args_fz z
  have r := fzs_rep rs e1
  match ds, e2 with
  | [.list l], e2 =>
    cases e2
    cases r with
    | cons r rr =>
      cases rr
      cases r with
      | lst h1 h2 => exact ⟨_, _, rfl, SqL.of (mask_some h1).2, by rw [← hk]; exact z _ H1 k1 (yl_enum h1 h2)⟩
theorem di_zip {elts : List Expr} {kk : Nat} {tpos p : Pos} {g : Envt → Tr (List Ent)} (hm : X.mg "zip" = none) (ha : DA cl X E [a, b] g) (hg : Gl X "zip" := by rfl) (hs : starEach [a, b] X.env = (false, eval a X.env) :: starEach [b] X.env := by rfl) (hpl : (backTo pos (starEach [b] X.env)).any (·.1) = false := by rfl) :
    DI cl X E (.Tuple elts kk tpos) (.Call (.Name "zip" p) [a, b] [] pos) (wArg zipD g) := by
  obtain ⟨u, q, s⟩ := ha
  refine ⟨_, pi_zip hg hm q hs hpl, fun F B ad σ H env R hk hc o k => ?_⟩
  refine s F B ad σ H env _ hk hc o (Tr.all_mono (fun es z xs H1 k1 rs => ?_) (fun _ z => z) (Tr.all_bind k))
  obtain ⟨ds, w, e1, e2, z⟩ := args_fz z
  have r := fzs_rep rs e1
  match ds, e2 with
  | [.list l, .list l2], e2 =>
    cases e2
    cases r with
    | cons r rr =>
      cases rr with
      | cons r' rr =>
        cases rr
        cases r with
        | lst h1 h2 =>
          cases r' with
          | lst h3 h4 => exact ⟨_, _, _, _, rfl, SqL.of (mask_some h1).2, SqL.of (mask_some h3).2, by rw [← hk]; exact z _ H1 k1 (yl_zip h1 h2 h3 h4)⟩

/-! ### targets -/
abbrev Tgt := D → Envt → Option Envt
/-- what a target does: sl the slots that it stores -/
def DG (X : Cx) (tg : Expr) (sl : List Nat) (gd : Tgt) : Prop := ∃ g, PG X tg g ∧ ∀ (F : Fx) (B : Hp) (ad : Ads) (σ : St) (H : Hp) (env env' : Envt) (v : V) (d : D) (Q : St → Hp → Prop), F.K = X.K → Ok F B ad σ H env → Rep F.K (mask H (Mm F ad)) v d → gd d env = some env' →
  (∀ ad' σ', Ok F B ad' σ' H env' → Same (mask H (Mm F ad)) (mask H (Mm F ad')) → (∀ vs, (∀ i ∈ sl, i ∈ vs) → wipe σ' vs = wipe σ vs) → (∀ j : Nat, j ∉ sl → ad'[j]? = ad[j]?) → Q σ' H) → g v σ H Q
def DGs (X : Cx) (tgs : List Expr) (sl : List Nat) (gd : List D → Envt → Option Envt) : Prop := ∃ g, PGs X tgs g ∧ ∀ (F : Fx) (B : Hp) (ad : Ads) (σ : St) (H : Hp) (env env' : Envt) (vs : List V) (ds : List D) (Q : St → Hp → Prop), F.K = X.K → Ok F B ad σ H env → RepAll F.K (mask H (Mm F ad)) vs ds → gd ds env = some env' →
  (∀ ad' σ', Ok F B ad' σ' H env' → Same (mask H (Mm F ad)) (mask H (Mm F ad')) → (∀ vs, (∀ i ∈ sl, i ∈ vs) → wipe σ' vs = wipe σ vs) → (∀ j : Nat, j ∉ sl → ad'[j]? = ad[j]?) → Q σ' H) → g vs σ H Q
def tgName (i : Nat) : Tgt := fun d env => some (env.set i (.fz d))
theorem wipe_set {σ : St} {i : Nat} {o : Option V} : ∀ {vs : List Nat}, i ∈ vs → wipe (σ.set i o) vs = wipe σ vs
  | v :: vs, h => by
    unfold wipe
    by_cases hi : i ∈ vs
    · rw [wipe_set hi]
    · have e : i = v := (List.mem_cons.mp h).resolve_right hi
      subst e
      have : ∀ ws : List Nat, i ∉ ws → wipe (σ.set i o) ws = (wipe σ ws).set i o := fun ws => by
        induction ws with
        | nil => intro _; rfl
        | cons w ws ih =>
          intro hw
          unfold wipe
          rw [ih fun z => hw (List.mem_cons_of_mem _ z), List.set_comm _ _ (fun z => hw (by rw [z]; exact List.mem_cons_self))]
      rw [this vs hi, List.set_set]
theorem dg_name (i : Nat) {x : Str} (hN : X.N.Nodup) (hi : X.N[i]? = some x := by rfl) (hx : Loc X.env.scope x := by first | exact Or.inl rfl | exact Or.inr rfl) (hf : X.fn x = true ∨ X.env.scope.names.lookup x = some .local := by first | exact .inl rfl | exact .inr rfl | assumption) : DG X (.Name x pos) [i] (tgName i) := by
  refine ⟨_, pg_name (i := i) hN hi hx hf, fun F B ad σ H env env' v d Q hk o r e q => ?_⟩
  cases e
  exact q _ _ (o.setFz r) (mask_same fun a x n e => ⟨fun z => n (Mm_setN z), e⟩) (fun vs hv => wipe_set (hv i (by simp))) fun j hj => List.getElem?_set_ne (fun z => hj (by simp [z]))
def tgNil : List D → Envt → Option Envt
  | [], env => some env
  | _, _ => none
def tgCons (g : Tgt) (gs : List D → Envt → Option Envt) : List D → Envt → Option Envt
  | d :: ds, env => (g d env).bind fun env1 => gs ds env1
  | [], _ => none
def tgTup (n : Nat) (gs : List D → Envt → Option Envt) : Tgt
  | .tuple ds, env => if ds.length == n then gs ds env else none
  | _, _ => none
theorem dgs_nil : DGs X [] [] tgNil := ⟨_, pgs_nil, fun F B ad σ H env env' vs ds Q hk o r e q => by
  cases r with
  | nil =>
    cases e
    exact ⟨rfl, q ad σ o (Same.refl _) (fun _ _ => rfl) fun _ _ => rfl⟩
  | cons _ _ => cases e⟩
theorem dgs_cons {es : List Expr} {sl sl' : List Nat} {g : Tgt} {gs : List D → Envt → Option Envt} (h1 : DG X e sl g) (h2 : DGs X es sl' gs) (hs : (assignEach (e :: es) X.env).map (·.2) = assign e X.env :: (assignEach es X.env).map (·.2) := by rfl) : DGs X (e :: es) (sl ++ sl') (tgCons g gs) := by
  obtain ⟨t, p, r1⟩ := h1
  obtain ⟨u, q, r2⟩ := h2
  refine ⟨_, pgs_cons p q hs, fun F B ad σ H env env' vs ds Q hk o r e q => ?_⟩
  cases r with
  | nil => cases e
  | @cons v vs d ds hd hr =>
    have e : (g d env).bind (fun env1 => gs ds env1) = some env' := e
    cases he : g d env with
    | none => rw [he] at e; cases e
    | some env1 =>
      rw [he] at e
      refine ⟨v, vs, rfl, r1 F B ad σ H env env1 v d _ hk o hd he fun ad1 σ1 o1 s1 w1 j1 => ?_⟩
      refine r2 F B ad1 σ1 H env1 env' vs ds _ hk o1 (hr.mono s1) e fun ad2 σ2 o2 s2 w2 j2 => ?_
      exact q ad2 σ2 o2 (s1.trans s2) (fun vs hv => (w2 vs fun i hi => hv i (List.mem_append_right _ hi)).trans (w1 vs fun i hi => hv i (List.mem_append_left _ hi))) fun j hj => (j2 j fun z => hj (List.mem_append_right _ z)).trans (j1 j fun z => hj (List.mem_append_left _ z))
theorem dg_tup {es : List Expr} {k n : Nat} {sl : List Nat} {gs : List D → Envt → Option Envt} (h : DGs X es sl gs) (hc : X.calm = true := by rfl) (hn : (assignEach es X.env).length = n := by rfl) (hst : (assignEach es X.env).findIdx? (·.1) = none := by rfl) : DG X (.Tuple es k pos) sl (tgTup n gs) := by
  obtain ⟨t, p, r⟩ := h
  refine ⟨_, pg_tup hc p hn hst, fun F B ad σ H env env' v d Q hk o rv e q => ?_⟩
  cases rv with
  | @tup a xs ds h1 h2 =>
    have e : (if ds.length == n then gs ds env else none) = some env' := e
    cases hl : ds.length == n with
    | false => rw [hl] at e; cases e
    | true =>
      rw [hl] at e
      refine ⟨a, xs, rfl, by rw [← hk]; exact same_sqT (mask_le _ _) h1, by rw [h2.length]; exact of_decide_eq_true hl, r F B ad σ H env env' xs ds Q hk o h2 e q⟩
  | _ => cases e
def tDG (K : PySem.W.Frag) (sl : List Nat) (gd : Tgt) : TG := fun v σ H Q => ∃ F B ad env env' d, F.K = K ∧ Ok F B ad σ H env ∧ Rep F.K (mask H (Mm F ad)) v d ∧ gd d env = some env' ∧
  ∀ ad' σ', Ok F B ad' σ' H env' → Same (mask H (Mm F ad)) (mask H (Mm F ad')) → (∀ vs, (∀ i ∈ sl, i ∈ vs) → wipe σ' vs = wipe σ vs) → (∀ j : Nat, j ∉ sl → ad'[j]? = ad[j]?) → Q σ' H
theorem DG.pg {tg : Expr} {sl : List Nat} {gd : Tgt} (h : DG X tg sl gd) : PG X tg (tDG X.K sl gd) := by
  obtain ⟨t, p, r⟩ := h
  exact PG.weak p fun v σ H Q ⟨F, B, ad, env, env', d, hk, o, rv, e, q⟩ => r F B ad σ H env env' v d Q hk o rv e q
end
end Mb

namespace Mb
open PySem L2

/-! ### slots forgotten -/
def wipeE (env : Envt) : List Nat → Envt
  | [] => env
  | v :: vs => (wipeE env vs).set v .un
def wipeA (ad : Ads) : List Nat → Ads
  | [] => ad
  | v :: vs => (wipeA ad vs).set v none
section
variable {F : Fx} {B : Hp} {ad : Ads} {σ : St} {H H' : Hp} {env : Envt}
theorem Ok.setUn {i : Nat} (o : Ok F B ad σ H env) : Ok F B (ad.set i none) (σ.set i none) H (env.set i .un) := by
  have ms : Same (mask H (Mm F ad)) (mask H (Mm F (ad.set i none))) := mask_same fun a x n e => ⟨fun q => n (Mm_setN q), e⟩
  refine ⟨o.hb.trans ms, o.k0, by simp [o.ls], by simp [o.la], fun j oa sv e h1 h2 h3 => ?_, fun j k a h1 h2 => ?_, fun j a h => ?_⟩
  · by_cases hj : i = j
    · subst hj
      have hi : i < env.length := by
        have := (List.getElem?_eq_some_iff.mp h3).1
        simpa using this
      rw [List.getElem?_set_self (by rw [o.la]; exact hi)] at h1
      rw [List.getElem?_set_self hi] at h3
      cases h1; cases h3
      exact rfl
    · rw [List.getElem?_set_ne hj] at h1 h2 h3
      have q := o.ent j oa sv e h1 h2 h3
      cases e with
      | un => exact q
      | fz d => obtain ⟨q1, v, q2, r⟩ := q; exact ⟨q1, v, q2, r.mono ms⟩
      | ow ds => obtain ⟨a, vs, q1, q2, q3, r⟩ := q; exact ⟨a, vs, q1, q2, q3, r.mono ms⟩
      | od ds => obtain ⟨a, vs, q1, q2, q3, r⟩ := q; exact ⟨a, vs, q1, q2, q3, r.mono ms⟩
      | dr => exact q
      | ex c => obtain ⟨q1, a, q2, q3⟩ := q; exact ⟨q1, a, q2, ms _ _ q3⟩
  · have e1 : ad[j]? = some (some a) := by
      by_cases hj : i = j
      · subst hj
        have := (List.getElem?_eq_some_iff.mp h1).1
        rw [List.getElem?_set_self (by simpa using this)] at h1; cases h1
      · rw [List.getElem?_set_ne hj] at h1; exact h1
    have e2 : ad[k]? = some (some a) := by
      by_cases hj : i = k
      · subst hj
        have := (List.getElem?_eq_some_iff.mp h2).1
        rw [List.getElem?_set_self (by simpa using this)] at h2; cases h2
      · rw [List.getElem?_set_ne hj] at h2; exact h2
    exact o.inj j k a e1 e2
  · by_cases hj : i = j
    · subst hj
      have := (List.getElem?_eq_some_iff.mp h).1
      rw [List.getElem?_set_self (by simpa using this)] at h; cases h
    · rw [List.getElem?_set_ne hj] at h; exact o.new j a h
theorem Ok.wipe (o : Ok F B ad σ H env) : ∀ vs : List Nat, Ok F B (wipeA ad vs) (L2.wipe σ vs) H (wipeE env vs)
  | [] => o
  | v :: vs => (Ok.wipe o vs).setUn
def noOw (env : Envt) (vs : List Nat) : Bool := vs.all fun i => match env[i]? with
  | some (.ow _) => false
  | some (.od _) => false
  | _ => true
theorem Ok.noOw (o : Ok F B ad σ H env) {i : Nat} (h : ∀ ds, env[i]? ≠ some (.ow ds)) (g : ∀ ds, env[i]? ≠ some (.od ds)) (a : Addr) : ad[i]? ≠ some (some a) := fun q => by
  have hi : i < env.length := by rw [← o.la]; exact (List.getElem?_eq_some_iff.mp q).1
  obtain ⟨oa, sv, e1, e2, z⟩ := o.at_ (List.getElem?_eq_getElem hi)
  rw [q] at e1; cases e1
  have h' := h
  have g' := g
  rw [List.getElem?_eq_getElem hi] at h' g'
  cases hq : env[i] with
  | un => rw [hq] at z; cases z
  | fz d => rw [hq] at z; cases z.1
  | ow ds => exact h' ds (by rw [hq])
  | od ds => exact g' ds (by rw [hq])
  | dr => rw [hq] at z; cases z.1
  | ex c => rw [hq] at z; cases z.1
theorem noOw_ad (o : Ok F B ad σ H env) {vs : List Nat} (h : Mb.noOw env vs = true) : ∀ i ∈ vs, ∀ a, ad[i]? ≠ some (some a) := fun i hi a => o.noOw (fun ds q => by
  have := List.all_eq_true.mp h i hi
  rw [q] at this
  cases this) (fun ds q => by
  have := List.all_eq_true.mp h i hi
  rw [q] at this
  cases this) a
theorem wipeA_get : ∀ {vs : List Nat} {j : Nat}, j ∉ vs → (wipeA ad vs)[j]? = ad[j]?
  | [], _, _ => rfl
  | v :: vs, j, h => by
    unfold wipeA
    rw [List.getElem?_set_ne (fun z => h (by rw [z]; exact List.mem_cons_self)), wipeA_get fun z => h (List.mem_cons_of_mem _ z)]
theorem wipe_wipe {σ : St} : ∀ {vs ws : List Nat}, (∀ i ∈ ws, i ∈ vs) → L2.wipe (L2.wipe σ ws) vs = L2.wipe σ vs
  | vs, [], _ => rfl
  | vs, w :: ws, h => by
    show L2.wipe ((L2.wipe σ ws).set w none) vs = _
    rw [wipe_set (h w List.mem_cons_self), wipe_wipe fun i hi => h i (List.mem_cons_of_mem _ hi)]
/-- one more address of the caller's -/
def Fx.plus (F : Fx) (D : Addr) (x : HO) (h : F.H0 D = none) : Fx where
  K := F.K
  cl := F.cl
  H0 := upd F.H0 D x
  O := fun a => F.O a ∨ a = D
  dt := F.dt
  oin := fun a q => by
    rcases q with q | q
    · obtain ⟨o, e⟩ := F.oin a q
      exact ⟨o, same_new h a o e⟩
    · subst q; exact ⟨x, upd_same⟩
  odl := fun a q => .inl (F.odl a q)
  d0 := F.d0.same (same_new h)
theorem Ok.H0none (o : Ok F B ad σ H env) {D : Addr} (h : H D = none) : F.H0 D = none := o.k0.free F.d0 h
theorem Ok.plus (o : Ok F B ad σ H env) (k : Kx F.dt H H') {D : Addr} {x : HO} (hD : H D = none) (hD' : H' D = some x) (h0 : F.H0 D = none) : Ok (F.plus D x h0) B ad σ H' env := by
  have ms : Same (mask H (Mm F ad)) (mask H' (Mm (F.plus D x h0) ad)) := mask_same fun a y n e => by
    refine ⟨fun q => ?_, k.keep a y e fun q => n (Mm_dl q)⟩
    rcases q with (q | q) | q
    · exact n (.inl q)
    · rw [q, hD] at e; cases e
    · exact n (.inr q)
  refine ⟨o.hb.trans ms, ⟨fun b y e n => ?_, k.dr⟩, o.ls, o.la, fun i oa sv e h1 h2 h3 => ?_, o.inj, fun i a h => ?_⟩
  · by_cases hb : b = D
    · subst hb
      have e : upd F.H0 b x b = some y := e
      rw [upd_same] at e; cases e; exact hD'
    · have e : upd F.H0 D x b = some y := e
      rw [upd_ne hb] at e
      exact (o.k0.trans k).keep b y e n
  · have q := o.ent i oa sv e h1 h2 h3
    cases e with
    | un => exact q
    | fz d => obtain ⟨q1, v, q2, r⟩ := q; exact ⟨q1, v, q2, r.mono ms⟩
    | ow ds => obtain ⟨a, vs, q1, q2, q3, r⟩ := q; subst q1; exact ⟨a, vs, rfl, q2, k.keep _ _ q3 (o.notdl h1), r.mono ms⟩
    | od ds => obtain ⟨a, vs, q1, q2, q3, r⟩ := q; subst q1; exact ⟨a, vs, rfl, q2, k.keep _ _ q3 (o.notdl h1), r.mono ms⟩
    | dr => exact q
    | ex c => obtain ⟨q1, a, q2, q3⟩ := q; exact ⟨q1, a, q2, ms _ _ q3⟩
  · show upd F.H0 D x a = none
    rw [upd_ne]
    · exact o.new i a h
    · intro z
      obtain ⟨y, e⟩ := o.Msome (.inr (List.mem_of_getElem? h))
      rw [z, hD] at e; cases e
end

/-! ### comprehensions -/
def vL (f : Envt → Tr (List D)) : Envt → Tr D := fun env => (f env).bind fun ds => .ret (.list ds)
theorem DN.dl {cl : Nat → Addr} {X : Cx} {E : XK} {e : Expr} {f : Envt → Tr (List D)} (q : DN cl X E e f) : DE cl X E e (vL f) := q.de
def noExc {α : Type} : Tr α → Tr α
  | .ret a => .ret a
  | .exc _ => .bad
  | .bad => .bad
  | .draw n k => .draw n fun r => noExc (k r)
theorem noExc_all {α : Type} {P : α → Prop} {E : Nat → Prop} : ∀ {t : Tr α}, (noExc t).all P E → t.all P (fun _ => False)
  | .ret _, h => h
  | .exc _, h => h
  | .bad, h => h
  | .draw _ _, h => fun r hr => noExc_all (h r hr)
def lcRun (gd : Tgt) (t : Envt → Tr Bool) (f : Envt → Tr D) (env : Envt) : List D → Tr (List D)
  | [] => .ret []
  | x :: xs => (ofO (gd x env)).bind fun env1 => (t env1).bind fun b => if b then (f env1).bind fun y => (lcRun gd t f env xs).bind fun ys => .ret (y :: ys) else lcRun gd t f env xs
def nLc (vs : List Nat) (src : Envt → Tr (List D)) (gd : Tgt) (t : Envt → Tr Bool) (f : Envt → Tr D) : Envt → Tr (List D) := fun env => (src env).bind fun ds => if small ds.length && noOw env vs then noExc (lcRun gd t f (wipeE env vs) ds) else .bad
def DTs (cl : Nat → Addr) (X : Cx) (E : XK) (ifs : List Expr) (t : Envt → Tr Bool) : Prop := PTs X ifs (tDT cl X.K E t)
section
variable {cl : Nat → Addr} {X : Cx} {E : XK} {e a b c : Expr} {f g h : Envt → Tr D} {pos : Pos}
def bYes : Envt → Tr Bool := fun _ => .ret true
theorem dts_nil : DTs cl X E [] bYes := ⟨fun pins s σ H Q I ⟨F, B, ad, env, hk, hc, o, k⟩ => pts_nil.run pins s σ H Q I (k H (Kx.refl o.k0.dr))⟩
theorem dts_one {t : Envt → Tr Bool} (h : DT cl X E c t) : DTs cl X E [c] t := pts_one h.pt
theorem lc_sound {K : PySem.W.Frag} (own : List (Str × Nat)) {sl : List Nat} {gd : Tgt} {src : Envt → Tr (List D)} {t : Envt → Tr Bool} {wi : TI} (hsl : ∀ i ∈ sl, i ∈ own.map (·.2))
    (ri : ∀ (F : Fx) (B : Hp) (ad : Ads) (σ : St) (H : Hp) (env : Envt) (R : It → Hp → Prop), F.K = K → F.cl = cl → Ok F B ad σ H env → (src env).all (fun ds => ∀ J H1, Kx F.dt H H1 → Yields F.K F.dt J (mask H1 (Mm F ad)) ds → R J H1) (EOk F E) → wi σ H R)
    {F : Fx} {B : Hp} {ad : Ads} {σ : St} {H : Hp} {env : Envt} {Q : VK} (hk : F.K = K) (hc : F.cl = cl) (o : Ok F B ad σ H env) (k : (nLc (own.map (·.2)) src gd t f env).all (PostN F ad H Q) (EOk F E)) :
    tLc wi (tDG K sl gd) (tDT cl K E0 t) (tDE cl K E0 f) (own.map (·.2)) σ H Q := by
  refine ri F B ad σ H env _ hk hc o (Tr.all_mono (fun ds z J H1 k1 yl => ?_) (fun _ z => z) (Tr.all_bind k))
  intro D hD
  cases hsm : small ds.length && noOw env (own.map (·.2)) with
  | false => rw [hsm] at z; exact z.elim
  | true =>
    rw [hsm] at z
    rw [Bool.and_eq_true] at hsm
    have z := noExc_all z
    have o1 := (o.kx k1).ground
    have nad := noOw_ad o hsm.2
    have ow := o1.wipe (own.map (·.2))
    have h0 : F.H0 D = none := o1.H0none hD
    have ndl : ¬ dl F.dt D := fun q => by
      obtain ⟨y, e⟩ := k1.dr.some q
      rw [hD] at e; cases e
    have aw : ∀ j : Nat, ∀ a, (wipeA ad (own.map (·.2)))[j]? = some (some a) ↔ ad[j]? = some (some a) := fun j a => by
      by_cases hj : j ∈ own.map (·.2)
      · constructor
        · intro q
          have hj2 : j < (wipeA ad (own.map (·.2))).length := (List.getElem?_eq_some_iff.mp q).1
          have hw : ∀ ws : List Nat, j ∈ ws → ¬ (wipeA ad ws)[j]? = some (some a) := fun ws => by
            induction ws with
            | nil => intro q; cases q
            | cons w ws ih =>
              intro hw q
              unfold wipeA at q
              by_cases hjw : w = j
              · subst hjw
                have := (List.getElem?_eq_some_iff.mp q).1
                rw [List.getElem?_set_self (by simpa using this)] at q; cases q
              · rw [List.getElem?_set_ne hjw] at q
                exact ih ((List.mem_cons.mp hw).resolve_left fun z => hjw z.symm) q
          exact absurd q (hw _ hj)
        · intro q
          exact absurd q (nad j hj a)
      · rw [wipeA_get hj]
    refine ⟨fun i m H' => m = ds.length - i ∧ i ≤ ds.length ∧ Kx F.dt H1 H' ∧ ∃ acc rs, H' D = some (.lst acc) ∧ acc.length ≤ i ∧ RepAll F.K (mask H' fun a => Mm F ad a ∨ a = D) acc rs ∧ (lcRun gd t f (wipeE env (own.map (·.2))) (ds.drop i)).all (fun ys => PostN F ad H Q (rs ++ ys)) (fun _ => False),
      ⟨_, rfl, Nat.zero_le _, Kx.new k1.dr hD, [], [], upd_same, Nat.le_refl _, .nil, ?_⟩, fun i m H' ⟨hm, hil, kx, acc, rs, hacc, hal, rp, za⟩ => ?_⟩
    · rw [List.drop_zero]
      exact z
    · have oi := ow.plus kx hD hacc h0
      have mmD : ∀ a, Mm (F.plus D (.lst acc) h0) (wipeA ad (own.map (·.2))) a → Mm F ad a ∨ a = D := fun a q => by
        rcases q with (q | q) | q
        · exact .inl (.inl q)
        · exact .inr q
        · obtain ⟨j, hj, e⟩ := List.getElem_of_mem q
          exact .inl (.inr (List.mem_of_getElem? ((aw j a).mp (by rw [List.getElem?_eq_getElem hj, e]))))
      have yi := yl i H' (Mm (F.plus D (.lst acc) h0) (wipeA ad (own.map (·.2)))) (mask_same fun a y n e => ⟨fun q => (mmD a q).elim n (fun q => by rw [q, hD] at e; cases e), kx.keep a y e fun q => n (Mm_dl q)⟩) kx.dr (fun p hp => oi.notM hp)
      by_cases hlt : i < ds.length
      · have hd : ds[i]? = some ds[i] := List.getElem?_eq_getElem hlt
        rw [List.drop_eq_getElem_cons hlt] at za
        obtain ⟨go, yld⟩ := yi.1 _ hd
        refine .inr ⟨go, fun H5 => Kx F.dt H1 H5 ∧ ∃ acc rs, H5 D = some (.lst acc) ∧ acc.length ≤ i + 1 ∧ RepAll F.K (mask H5 fun a => Mm F ad a ∨ a = D) acc rs ∧ (lcRun gd t f (wipeE env (own.map (·.2))) (ds.drop (i + 1))).all (fun ys => PostN F ad H Q (rs ++ ys)) (fun _ => False), fun H5 ⟨k5, acc, rs, q1, q2, q3, q4⟩ => ⟨ds.length - (i + 1), by omega, rfl, by omega, k5, acc, rs, q1, q2, q3, q4⟩, fun x H2 y => ?_⟩
        obtain ⟨k2, rx⟩ := yld x H2 y
        have hD2 : H2 D = some (.lst acc) := k2.keep _ _ hacc ndl
        have k12 := kx.trans k2
        have za := Tr.all_bind za
        cases hgd : gd ds[i] (wipeE env (own.map (·.2))) with
        | none => rw [hgd] at za; exact za.elim
        | some env1 =>
          rw [hgd] at za
          have za : ((t env1).bind fun b => if b then (f env1).bind fun y => (lcRun gd t f (wipeE env (own.map (·.2))) (ds.drop (i + 1))).bind fun ys => .ret (y :: ys) else lcRun gd t f (wipeE env (own.map (·.2))) (ds.drop (i + 1))).all (fun ys => PostN F ad H Q (rs ++ ys)) (fun _ => False) := za
          refine ⟨F.plus D (.lst acc) h0, mask H1 (Mm F ad), _, _, env1, ds[i], hk, ow.plus k12 hD hD2 h0, rx, hgd, fun ad' σ' o' ms' w' j' => ?_⟩
          refine ⟨(w' _ hsl).trans (wipe_wipe fun _ q => q), ?_⟩
          have mm' : ∀ a, Mm F ad a ∨ a = D → Mm (F.plus D (.lst acc) h0) ad' a := fun a q => by
            rcases q with (q | q) | q
            · exact .inl (.inl q)
            · obtain ⟨j, hj, e⟩ := List.getElem_of_mem q
              have ej : ad[j]? = some (some a) := by rw [List.getElem?_eq_getElem hj, e]
              have nj : j ∉ sl := fun z => nad j (hsl j z) a ej
              exact .inr (List.mem_of_getElem? ((j' j nj).trans ((aw j a).mpr ej)))
            · exact .inl (.inr q)
          refine ⟨F.plus D (.lst acc) h0, mask H1 (Mm F ad), ad', env1, hk, hc, o', Tr.all_mono (fun b zb H3 k3 => ?_) (fun _ q => q.elim) (Tr.all_bind za)⟩
          have hD3 : H3 D = some (.lst acc) := k3.keep _ _ hD2 ndl
          cases b with
          | false =>
            refine iteF ⟨k12.trans k3, acc, rs, hD3, by omega, ?_, zb⟩
            exact rp.mono (mask_same fun a y n e => ⟨n, (k2.trans k3).keep a y e fun q => n (.inl (Mm_dl q))⟩)
          | true =>
            refine iteT ?_
            refine ⟨F.plus D (.lst acc) h0, mask H1 (Mm F ad), ad', env1, hk, hc, o'.kx k3, Tr.all_mono (fun yd zy v H4 k4 rv => ?_) (fun _ q => q.elim) (Tr.all_bind zb)⟩
            have hD4 : H4 D = some (.lst acc) := k4.keep _ _ hD3 ndl
            refine ⟨acc, hD4, Nat.lt_of_le_of_lt hal (Nat.lt_of_lt_of_le hlt (small_le hsm.1)), ?_, acc ++ [v], rs ++ [yd], upd_same, by rw [List.length_append, List.length_singleton]; omega, ?_, ?_⟩
            · refine ⟨fun b y e n => ?_, ?_⟩
              · rw [upd_ne (ne_of_none e hD)]
                exact ((k12.trans k3).trans k4).keep b y e n
              · intro a n e
                obtain ⟨q, c, ns, q1, q2, q3, q4⟩ := k4.dr a n e
                refine ⟨q, c, ns, ?_, q2, ?_, q4⟩
                · rw [upd_ne fun z => ndl ⟨a, n, e, .inl z.symm⟩]; exact q1
                · rw [upd_ne fun z => ndl ⟨a, n, e, .inr z.symm⟩]; exact q3
            · have msf : Same (mask H4 fun a => Mm F ad a ∨ a = D) (mask (upd H4 D (.lst (acc ++ [v]))) fun a => Mm F ad a ∨ a = D) := mask_same fun a y n e => ⟨n, by rw [upd_ne fun z => n (.inr z)]; exact e⟩
              refine RepAll.append ?_ (.cons ?_ .nil)
              · exact (rp.mono (mask_same fun a y n e => ⟨n, ((k2.trans k3).trans k4).keep a y e fun q => n (.inl (Mm_dl q))⟩)).mono msf
              · exact Rep.mono ((mask_same fun a y n e => ⟨fun q => n (mm' a q), e⟩ : Same (mask H4 (Mm (F.plus D (.lst acc) h0) ad')) (mask H4 fun a => Mm F ad a ∨ a = D)).trans msf) rv
            · refine Tr.all_mono (fun ys zz => ?_) (fun _ q => q) (Tr.all_bind zy)
              have e : rs ++ [yd] ++ ys = rs ++ (yd :: ys) := by simp
              rw [e]
              exact zz
      · have ei : i = ds.length := by omega
        subst ei
        rw [List.drop_length] at za
        have za : PostN F ad H Q (rs ++ []) := za
        rw [List.append_nil] at za
        exact .inl ⟨yi.2 (Nat.le_refl _), za D H' acc (k1.trans kx) (k1.free o.k0.dr hD) hacc rp⟩
theorem dn_lc {elt tg iter : Expr} {ifs : List Expr} {scope : Scope} (own : List (Str × Nat)) {sl : List Nat} {gd : Tgt} {src : Envt → Tr (List D)} {t : Envt → Tr Bool} (hN : X.N.Nodup) (hi : DI cl X E tg iter src) (ok : BlkOk X.N X.env.scope scope own)
    (hg : ∀ (s : Shared) (H : Hp) (C : Addr) (cs : List (Str × Addr)) (fp : List Addr), DG (X.blk s H scope (compEnvC scope cs C X.env) fp) tg sl gd)
    (ht : ∀ (s : Shared) (H : Hp) (C : Addr) (cs : List (Str × Addr)) (fp : List Addr), DTs cl (X.blk s H scope (compEnvC scope cs C X.env) fp) E0 ifs t)
    (he : ∀ (s : Shared) (H : Hp) (C : Addr) (cs : List (Str × Addr)) (fp : List Addr), DE cl (X.blk s H scope (compEnvC scope cs C X.env) fp) E0 elt f)
    (hsl : ∀ i ∈ sl, i ∈ own.map (·.2) := by decide) (hcalm : X.calm = true := by rfl) (hs : ∀ x, foldedSetIterable iter X.env x = pure x := by intro _; rfl) :
    DN cl X E (.ListComp elt [⟨tg, iter, ifs, 0⟩] scope pos) (nLc (own.map (·.2)) src gd t f) := by
  obtain ⟨wi, pi, ri⟩ := hi
  refine ⟨_, pe_lc (g := tDG X.K sl gd) (tt := tDT cl X.K E0 t) (te := tDE cl X.K E0 f) hcalm hN pi ok (fun s H C cs fp => (hg s H C cs fp).pg) (fun s H C cs fp => ht s H C cs fp) (fun s H C cs fp => (he s H C cs fp).pe) hs, fun F B ad σ H env Q hk hc o k => lc_sound own hsl ri hk hc o k⟩
/-- y = [.. for ..] -/
theorem psLc {i : Nat} {y : Str} {py spos : Pos} {elt tg iter : Expr} {ifs : List Expr} {scope : Scope} (own : List (Str × Nat)) {sl : List Nat} {gd : Tgt} {src : Envt → Tr (List D)} {t : Envt → Tr Bool} (hN : X.N.Nodup) (hi : DI cl X E tg iter src) (ok : BlkOk X.N X.env.scope scope own)
    (hg : ∀ (s : Shared) (H : Hp) (C : Addr) (cs : List (Str × Addr)) (fp : List Addr), DG (X.blk s H scope (compEnvC scope cs C X.env) fp) tg sl gd)
    (ht : ∀ (s : Shared) (H : Hp) (C : Addr) (cs : List (Str × Addr)) (fp : List Addr), DTs cl (X.blk s H scope (compEnvC scope cs C X.env) fp) E0 ifs t)
    (he : ∀ (s : Shared) (H : Hp) (C : Addr) (cs : List (Str × Addr)) (fp : List Addr), DE cl (X.blk s H scope (compEnvC scope cs C X.env) fp) E0 elt f)
    (hsl : ∀ i ∈ sl, i ∈ own.map (·.2)) (hcalm : X.calm = true) (hs : ∀ x, foldedSetIterable iter X.env x = pure x) (hy : X.N[i]? = some y) (hyl : X.env.scope.names.lookup y = some .local) (hsw : swapsWith (.ListComp elt [⟨tg, iter, ifs, 0⟩] scope pos) (some (.Name y py)) spos.line X.env = pure true) :
    ∃ wi, PS X (.Assign [.Name y py] (.ListComp elt [⟨tg, iter, ifs, 0⟩] scope pos) spos) (tAsg (tLc wi (tDG X.K sl gd) (tDT cl X.K E0 t) (tDE cl X.K E0 f) (own.map (·.2))) (gName i)) ∧
      ∀ (F : Fx) (B : Hp) (ad : Ads) (σ : St) (H : Hp) (env : Envt) (Q : VK), F.K = X.K → F.cl = cl → Ok F B ad σ H env → (nLc (own.map (·.2)) src gd t f env).all (PostN F ad H Q) (EOk F E) → tLc wi (tDG X.K sl gd) (tDT cl X.K E0 t) (tDE cl X.K E0 f) (own.map (·.2)) σ H Q := by
  obtain ⟨wi, pi, ri⟩ := hi
  exact ⟨wi, ps_setLc (g := tDG X.K sl gd) (tt := tDT cl X.K E0 t) (te := tDE cl X.K E0 f) hcalm hN hy hyl hsw pi ok (fun s H C cs fp => (hg s H C cs fp).pg) (fun s H C cs fp => ht s H C cs fp) (fun s H C cs fp => (he s H C cs fp).pe) hs, fun F B ad σ H env Q hk hc o k => lc_sound own hsl ri hk hc o k⟩
end
end Mb

namespace Mb
open PySem L2

/-! ### a def's promise: it computes m -/
def spD (K : PySem.W.Frag) (cl : Nat → Addr) (n : Nat) (m : List Ent → Tr D) : Sp := fun vs H Q E => ∃ (O : Addr → Prop) (dt : Dl) (es : List Ent), es.length = n ∧ (∀ a, O a → ∃ o, H a = some o) ∧ (∀ a, dl dt a → O a) ∧ DrOk dt H ∧ ArgsOk K cl dt (mask H O) vs es ∧
  (m es).all (fun d => ∀ v H', Kx dt H H' → Rep K (mask H' O) v d → Q v H') (fun c => ∀ H', Kx dt H H' → E (.ref (cl c)) none H')
/-- .. of one known: by its number of arguments and its tree -/
structure Fn where
  n : Nat
  m : List Ent → Tr D
section
variable {cl : Nat → Addr} {X : Cx} {E : XK} {e a b c : Expr} {f g h : Envt → Tr D} {pos : Pos}
def vCall (n : Nat) (m : List Ent → Tr D) (g : Envt → Tr (List Ent)) : Envt → Tr D := fun env => (g env).bind fun es => if es.length == n then m es else .bad
theorem call_core {t : TA} {n : Nat} {m : List Ent → Tr D} {g : Envt → Tr (List Ent)}
    (s : ∀ (F : Fx) (B : Hp) (ad : Ads) (σ : St) (H : Hp) (env : Envt) (Q : List V → Hp → Prop), F.K = X.K → F.cl = cl → Ok F B ad σ H env → (g env).all (PostA F ad H Q) (EOk F E) → t σ H Q)
    {F : Fx} {B : Hp} {ad : Ads} {σ : St} {H : Hp} {env : Envt} {Q : VK} (hk : F.K = X.K) (hc : F.cl = cl) (o : Ok F B ad σ H env) (k : (vCall n m g env).all (Post F ad H Q) (EOk F E)) : tCall (spD X.K cl n m) [] E t σ H Q := by
  refine s F B ad σ H env _ hk hc o (Tr.all_mono (fun es z vs H1 k1 rs => ?_) (fun _ z => z) (Tr.all_bind k))
  cases hl : es.length == n with
  | false => rw [hl] at z; exact z.elim
  | true =>
    rw [hl] at z
    have o1 := o.kx k1
    rw [List.append_nil]
    refine ⟨Mm F ad, F.dt, es, of_decide_eq_true hl, fun a q => o1.Msome q, fun a q => Mm_dl q, k1.dr, by rw [← hk, ← hc]; exact rs, Tr.all_mono (fun d zd v H' k2 rv => ?_) (fun c zc H' k2 => ?_) z⟩
    · exact zd v H' (k1.trans k2) (by rw [hk]; exact rv)
    · rw [← hc]; exact zc H' (o1.k0.trans k2)
theorem de_call {k n : Nat} {m : List Ent → Tr D} {x : Str} {fa : Addr} {fd : FuncData} {ps : List Str} {es : List Expr} {p : Pos} {g : Envt → Tr (List Ent)} (G : FnOk X.prog X.w X.K X.mg X.base (L2.CX X.prog X.w) k fa fd ps (spD X.K cl n m)) (hr : Room k X.A) (hx : Passes (L2.CX X.prog X.w) X E)
    (hm : X.mg x = some (.ref fa)) (hk : PySem.W.keepIn X.K (.ref fa) = true) (hb : Binds X.K fd ps []) (ha : DA cl X E (e :: es) g) (hg : Gl X x := by rfl) (hdb : (x == ("__debug__" : Str)) = false := by decide)
    (he : starEach (e :: es) X.env = (false, eval e X.env) :: starEach es X.env := by rfl) (hpl : (backTo pos (starEach es X.env)).any (·.1) = false := by rfl) : DE cl X E (.Call (.Name x p) (e :: es) [] pos) (vCall n m g) := by
  obtain ⟨t, pa, s⟩ := ha
  exact ⟨_, pe_call G hr hg hm hk hb .nil hx pa hdb he hpl, fun F B ad σ H env Q hk hc o k => call_core s hk hc o k⟩
theorem de_call0 {k n : Nat} {m : List Ent → Tr D} {x : Str} {fa : Addr} {fd : FuncData} {ps : List Str} {p : Pos} (G : FnOk X.prog X.w X.K X.mg X.base (L2.CX X.prog X.w) k fa fd ps (spD X.K cl n m)) (hr : Room k X.A) (hx : Passes (L2.CX X.prog X.w) X E)
    (hm : X.mg x = some (.ref fa)) (hk : PySem.W.keepIn X.K (.ref fa) = true) (hb : Binds X.K fd ps []) (hg : Gl X x := by rfl) (hdb : (x == ("__debug__" : Str)) = false := by decide) : DE cl X E (.Call (.Name x p) [] [] pos) (vCall n m aNil) :=
  ⟨_, pe_call0 G hr hg hm hk hb .nil hx hdb, fun F B ad σ H env Q hk hc o k => call_core (g := aNil) (t := tNil) (fun F B ad σ H env Q hk hc o (k : PostA F ad H Q []) => k [] H (Kx.refl o.k0.dr) .nil) hk hc o k⟩

/-! ### built-ins -/
def SemC (K : PySem.W.Frag) (r : List V → Hp → VK → Prop) (fn : List D → Option D) : Prop := ∀ (dt : Dl) (M : Addr → Prop) (H : Hp) (vs : List V) (ds : List D) (z : D) (Q : VK), DrOk dt H → (∀ a, dl dt a → M a) → (∀ p, H p = none → ¬ M p) → RepAll K (mask H M) vs ds → fn ds = some z →
  (∀ v H', Kx dt H H' → Rep K (mask H' M) v z → Q v H') → r vs H Q
def vB (fn : List D → Option D) (g : Envt → Tr (List Ent)) : Envt → Tr D := fun env => (g env).bind fun es => ofO ((fzs es).bind fn)
theorem cb_core {t : TA} {r : List V → Hp → VK → Prop} {fn : List D → Option D} {g : Envt → Tr (List Ent)} (hr : SemC X.K r fn)
    (s : ∀ (F : Fx) (B : Hp) (ad : Ads) (σ : St) (H : Hp) (env : Envt) (Q : List V → Hp → Prop), F.K = X.K → F.cl = cl → Ok F B ad σ H env → (g env).all (PostA F ad H Q) (EOk F E) → t σ H Q)
    {F : Fx} {B : Hp} {ad : Ads} {σ : St} {H : Hp} {env : Envt} {Q : VK} (hk : F.K = X.K) (hc : F.cl = cl) (o : Ok F B ad σ H env) (k : (vB fn g env).all (Post F ad H Q) (EOk F E)) : tCB r t σ H Q := by
  refine s F B ad σ H env _ hk hc o (Tr.all_mono (fun es z vs H1 k1 rs => ?_) (fun _ z => z) (Tr.all_bind k))
  obtain ⟨ds, w, e1, e2, z⟩ := args_fz z
  exact hr F.dt (Mm F ad) H1 vs ds w Q k1.dr (fun a q => Mm_dl q) (fun p hp => (o.kx k1).notM hp) (by rw [← hk]; exact fzs_rep rs e1) e2 fun v H' k2 rv => z v H' (k1.trans k2) (by rw [hk]; exact rv)
theorem de_callB {id : String} {r : List V → Hp → VK → Prop} {fn : List D → Option D} {x : Str} {es : List Expr} {p : Pos} {g : Envt → Tr (List Ent)} (hcr : CallR X (.builtin id) r) (hr : SemC X.K r fn) (hm : X.mg x = none) (hv : bootBuiltins x = some (.builtin id)) (ha : DA cl X E (e :: es) g) (hg : Gl X x := by rfl)
    (hn : x ≠ "__name__" := by decide) (hdb : (x == ("__debug__" : Str)) = false := by decide) (he : starEach (e :: es) X.env = (false, eval e X.env) :: starEach es X.env := by rfl) (hpl : (backTo pos (starEach es X.env)).any (·.1) = false := by rfl) : DE cl X E (.Call (.Name x p) (e :: es) [] pos) (vB fn g) := by
  obtain ⟨t, pa, s⟩ := ha
  exact ⟨_, pe_callB hcr hg hm hv pa hn hdb he hpl, fun F B ad σ H env Q hk hc o k => cb_core hr s hk hc o k⟩
theorem de_callTy {T : String} {r : List V → Hp → VK → Prop} {fn : List D → Option D} {x : Str} {es : List Expr} {p : Pos} {g : Envt → Tr (List Ent)} (hcr : CallR X (.type T) r) (hr : SemC X.K r fn) (hm : X.mg x = none) (hv : bootBuiltins x = some (.type T)) (ha : DA cl X E (e :: es) g) (hg : Gl X x := by rfl)
    (hn : x ≠ "__name__" := by decide) (hdb : (x == ("__debug__" : Str)) = false := by decide) (he : starEach (e :: es) X.env = (false, eval e X.env) :: starEach es X.env := by rfl) (hpl : (backTo pos (starEach es X.env)).any (·.1) = false := by rfl) : DE cl X E (.Call (.Name x p) (e :: es) [] pos) (vB fn g) := by
  obtain ⟨t, pa, s⟩ := ha
  exact ⟨_, pe_callTy hcr hg hm hv pa hn hdb he hpl, fun F B ad σ H env Q hk hc o k => cb_core hr s hk hc o k⟩

def asInts : List D → Option (List Int)
  | [] => some []
  | .int i :: r => (asInts r).map (i :: ·)
  | _ :: _ => none
def asBools : List D → Option (List Bool)
  | [] => some []
  | .bool i :: r => (asBools r).map (i :: ·)
  | _ :: _ => none
theorem asInts_eq : ∀ {ds : List D} {ns : List Int}, asInts ds = some ns → ds = ns.map PyData.int
  | [], _, h => by cases h; rfl
  | .int i :: r, _, h => by
    unfold asInts at h
    cases e : asInts r with
    | none => rw [e] at h; cases h
    | some l => rw [e] at h; cases h; rw [asInts_eq e]; rfl
  | .none :: _, _, h => by cases h
  | .bool _ :: _, _, h => by cases h
  | .str _ :: _, _, h => by cases h
  | .list _ :: _, _, h => by cases h
  | .tuple _ :: _, _, h => by cases h
  | .dict _ :: _, _, h => by cases h
theorem asBools_eq : ∀ {ds : List D} {ns : List Bool}, asBools ds = some ns → ds = ns.map PyData.bool
  | [], _, h => by cases h; rfl
  | .bool i :: r, _, h => by
    unfold asBools at h
    cases e : asBools r with
    | none => rw [e] at h; cases h
    | some l => rw [e] at h; cases h; rw [asBools_eq e]; rfl
  | .none :: _, _, h => by cases h
  | .int _ :: _, _, h => by cases h
  | .str _ :: _, _, h => by cases h
  | .list _ :: _, _, h => by cases h
  | .tuple _ :: _, _, h => by cases h
  | .dict _ :: _, _, h => by cases h
/-! len -/
def lenD : D → Option D
  | .list ds => some (.int (ds.length : Nat))
  | .tuple ds => some (.int (ds.length : Nat))
  | .str z => if small z.length then some (.int (z.length : Nat)) else none
  | _ => none
def fnLen : List D → Option D
  | [d] => lenD d
  | _ => none
theorem len_sem {K : PySem.W.Frag} {H : Hp} {v : V} {d z : D} {Q : VK} (r : Rep K H v d) (hz : lenD d = some z) (q : ∀ w, (∀ H, Rep K H w z) → Q w H) : ∃ x n, [v] = [x] ∧ LenV K x H n ∧ Q (.int (n : Nat)) H := by
  cases r with
  | str y =>
    obtain ⟨h1, rfl⟩ := if_some hz
    exact ⟨_, _, rfl, ⟨small_le h1, rfl⟩, q _ fun _ => .int _⟩
  | lst h1 h2 =>
    cases hz
    exact ⟨_, _, rfl, .inl ⟨_, SqL.of h1, h2.length.symm⟩, q _ fun _ => .int _⟩
  | tup h1 h2 =>
    cases hz
    exact ⟨_, _, rfl, .inr ⟨_, h1, h2.length.symm⟩, q _ fun _ => .int _⟩
  | _ => cases hz
theorem sem_len {K : PySem.W.Frag} : SemC K (fun xs H Q => ∃ x n, xs = [x] ∧ LenV K x H n ∧ Q (.int (n : Nat)) H) fnLen := by
  intro dt M H vs ds z Q hd hm hp rs hz q
  match ds, hz with
  | [d], hz =>
    cases rs with
    | cons r rr =>
      cases rr
      exact len_sem (r.mono (mask_le _ _)) hz fun w rw' => q w H (Kx.refl hd) (rw' _)
theorem de_len {p : Pos} {g : Envt → Tr (List Ent)} (hm : X.mg "len" = none) (ha : DA cl X E [a] g) (hg : Gl X "len" := by rfl) (he : starEach [a] X.env = (false, eval a X.env) :: starEach [] X.env := by rfl) (hpl : (backTo pos (starEach [] X.env)).any (·.1) = false := by rfl) : DE cl X E (.Call (.Name "len" p) [a] [] pos) (vB fnLen g) :=
  de_callB call_len sem_len hm PySem.boot_len ha hg (by decide) (by decide) he hpl
/-- len of a slot's own list -/
def vLenV (i : Nat) : Envt → Tr D := fun env => (vBor i env).bind fun d => ofO (lenD d)
theorem de_lenV (i : Nat) {x : Str} {p p2 : Pos} (hm : X.mg "len" = none) (hN : X.N[i]? = some x := by rfl) (hv : Vis X.env.scope x := by first | exact Or.inl rfl | exact Or.inr (Or.inl rfl) | exact Or.inr (Or.inr rfl)) (hg : Gl X "len" := by rfl) (hd : (x == ("__debug__" : Str)) = false := by decide)
    (hcd : (x == ("__classdict__" : Str)) = false := by decide) (he : starEach [.Name x p2] X.env = (false, eval (.Name x p2) X.env) :: starEach [] X.env := by rfl) (hpl : (backTo pos (starEach [] X.env)).any (·.1) = false := by rfl) : DE cl X E (.Call (.Name "len" p) [.Name x p2] [] pos) (vLenV i) := by
  obtain ⟨ta, pa, ra⟩ := db_var (cl := cl) (X := X) (E := E) (pos := p2) i hN hv hd hcd
  refine ⟨_, pe_callB call_len hg hm PySem.boot_len (pa_cons pa pa_nil he) (by decide) (by decide) he hpl, fun F B ad σ H env Q hk hc o k => ?_⟩
  refine ra F B ad σ H env _ hk hc o (Tr.all_mono (fun d z v H1 k1 rv => ?_) (fun _ z => z) (Tr.all_bind k))
  cases hz : lenD d with
  | none => rw [hz] at z; exact z.elim
  | some w =>
    rw [hz] at z
    exact len_sem (K := X.K) (by rw [← hk]; exact rv.mono (mask_le _ _)) hz fun w' rw' => z w' H1 k1 (by rw [hk]; exact rw' _)
/-! list(x), tuple(x) -/
def seqD : List D → Option (List D)
  | [.list ds] => some ds
  | [.tuple ds] => some ds
  | _ => none
def nList (g : Envt → Tr (List Ent)) : Envt → Tr (List D) := fun env => (g env).bind fun es => ofO ((fzs es).bind seqD)
theorem dn_list {p : Pos} {g : Envt → Tr (List Ent)} (hm : X.mg "list" = none) (ha : DA cl X E [a] g) (hg : Gl X "list" := by rfl) (he : starEach [a] X.env = (false, eval a X.env) :: starEach [] X.env := by rfl) (hpl : (backTo pos (starEach [] X.env)).any (·.1) = false := by rfl) : DN cl X E (.Call (.Name "list" p) [a] [] pos) (nList g) := by
  obtain ⟨t, pa, s⟩ := ha
  refine ⟨_, pe_callTy call_list_of hg hm (by decide +kernel) pa (by decide) (by decide) he hpl, fun F B ad σ H env Q hk hc o k => ?_⟩
  refine s F B ad σ H env _ hk hc o (Tr.all_mono (fun es z vs H1 k1 rs => ?_) (fun _ z => z) (Tr.all_bind k))
  obtain ⟨ds, w, e1, e2, z⟩ := args_fz z
  have r := fzs_rep rs e1
  have fin : ∀ {xs : List V} {es : List D}, RepAll F.K (mask H1 (Mm F ad)) xs es → PostN F ad H Q es → ∀ l, H1 l = none → Q (.ref l) (upd H1 l (.lst xs)) := fun {xs es} rx z l hl => by
    have k2 : Kx F.dt H1 (upd H1 l (.lst xs)) := Kx.of_same k1.dr (same_new hl)
    refine z l _ xs (k1.trans k2) (k1.free o.k0.dr hl) upd_same (rx.mono (mask_same fun a x n e => ⟨fun q => q.elim n fun y => ?_, same_new hl a x e⟩))
    rw [y, hl] at e; cases e
  match ds, e2 with
  | [.list l], e2 =>
    cases e2
    cases r with
    | cons r rr =>
      cases rr
      cases r with
      | lst h1 h2 => exact ⟨_, _, rfl, .inl (SqL.of (mask_some h1).2), fin h2 z⟩
  | [.tuple l], e2 =>
    cases e2
    cases r with
    | cons r rr =>
      cases rr
      cases r with
      | tup h1 h2 => exact ⟨_, _, rfl, .inr (by rw [← hk]; exact same_sqT (mask_le _ _) h1), fin h2 z⟩
def fnTuple : List D → Option D
  | [.list ds] => some (.tuple ds)
  | [.tuple ds] => some (.tuple ds)
  | _ => none
theorem sem_tuple {K : PySem.W.Frag} : SemC K (fun xs H Q => ∃ p ys, xs = [.ref p] ∧ ((SqL K H p ys ∧ ∀ l, H l = none → Q (.ref l) (upd H l (.tup ys))) ∨ (SqT K H p ys ∧ Q (.ref p) H))) fnTuple := by
  intro dt M H vs ds z Q hd hm hp rs hz q
  match ds, hz with
  | [.list l], hz =>
    cases hz
    cases rs with
    | cons r rr =>
      cases rr
      cases r with
      | lst h1 h2 => exact ⟨_, _, rfl, .inl ⟨SqL.of (mask_some h1).2, new_tup hd hm hp h2 q⟩⟩
  | [.tuple l], hz =>
    cases hz
    cases rs with
    | cons r rr =>
      cases rr
      cases r with
      | tup h1 h2 => exact ⟨_, _, rfl, .inr ⟨same_sqT (mask_le _ _) h1, q _ H (Kx.refl hd) (.tup h1 h2)⟩⟩
theorem de_tuple {p : Pos} {g : Envt → Tr (List Ent)} (hm : X.mg "tuple" = none) (ha : DA cl X E [a] g) (hg : Gl X "tuple" := by rfl) (he : starEach [a] X.env = (false, eval a X.env) :: starEach [] X.env := by rfl) (hpl : (backTo pos (starEach [] X.env)).any (·.1) = false := by rfl) : DE cl X E (.Call (.Name "tuple" p) [a] [] pos) (vB fnTuple g) :=
  de_callTy call_tuple_of sem_tuple hm (by decide +kernel) ha hg (by decide) (by decide) he hpl
/-! sum, min, max, all, any -/
def rSumT (K : PySem.W.Frag) : List V → Hp → VK → Prop := fun vs H Q => ∃ (a : Addr) (ns : List Int), vs = [V.ref a] ∧ SqT K H a (ns.map V.int) ∧ Q (.int ns.sum) H
theorem callr_or {fn : Value} {r r' : List V → Hp → VK → Prop} (h : CallR X fn r) (h' : CallR X fn r') : CallR X fn (fun vs H Q => r vs H Q ∨ r' vs H Q) := by
  intro pins s σ H xs us Q I r q
  rcases q with q | q
  · exact h pins s σ H xs us Q I r q
  · exact h' pins s σ H xs us Q I r q
def fnSum : List D → Option D
  | [.list ds] => (asInts ds).map fun ns => .int ns.sum
  | [.tuple ds] => (asInts ds).map fun ns => .int ns.sum
  | _ => none
def fnMin2 : List D → Option D
  | [.int i, .int j] => some (.int (if j < i then j else i))
  | _ => none
def fnMax2 : List D → Option D
  | [.int i, .int j] => some (.int (if j > i then j else i))
  | _ => none
theorem sem_min2 {K : PySem.W.Frag} : SemC K (fun xs H Q => ∃ i j, xs = [.int i, .int j] ∧ Q (.int (if j < i then j else i)) H) fnMin2 := by
  intro dt M H vs ds z Q hd hm hp rs hz q
  match ds, hz with
  | [.int i, .int j], hz =>
    cases hz
    cases rs with
    | cons r rr =>
      cases rr with
      | cons r' rr =>
        cases rr
        cases r
        cases r'
        exact ⟨i, j, rfl, q _ H (Kx.refl hd) (.int _)⟩
theorem sem_max2 {K : PySem.W.Frag} : SemC K (fun xs H Q => ∃ i j, xs = [.int i, .int j] ∧ Q (.int (if j > i then j else i)) H) fnMax2 := by
  intro dt M H vs ds z Q hd hm hp rs hz q
  match ds, hz with
  | [.int i, .int j], hz =>
    cases hz
    cases rs with
    | cons r rr =>
      cases rr with
      | cons r' rr =>
        cases rr
        cases r
        cases r'
        exact ⟨i, j, rfl, q _ H (Kx.refl hd) (.int _)⟩
theorem list_ints {K : PySem.W.Frag} {H : Hp} {v : V} {ds : List D} {ns : List Int} (r : Rep K H v (.list ds)) (h : asInts ds = some ns) : ∃ a, v = .ref a ∧ H a = some (.lst (ns.map V.int)) := by
  rw [asInts_eq h] at r
  cases r with
  | lst h1 h2 =>
    rw [h2.ints] at h1
    exact ⟨_, rfl, h1⟩
theorem tup_ints {K : PySem.W.Frag} {H : Hp} {v : V} {ds : List D} {ns : List Int} (r : Rep K H v (.tuple ds)) (h : asInts ds = some ns) : ∃ a, v = .ref a ∧ SqT K H a (ns.map V.int) := by
  rw [asInts_eq h] at r
  cases r with
  | tup h1 h2 =>
    rw [h2.ints] at h1
    exact ⟨_, rfl, h1⟩
theorem sem_sumL {K : PySem.W.Frag} : SemC K (fun vs H Q => rSum K vs H Q ∨ rSumT K vs H Q) fnSum := by
  intro dt M H vs ds z Q hd hm hp rs hz q
  match ds, hz with
  | [.list l], hz =>
    cases rs with
    | cons r rr =>
      cases rr
      have hz : (asInts l).map (fun ns => PyData.int ns.sum) = some z := hz
      cases hn : asInts l with
      | none => rw [hn] at hz; cases hz
      | some ns =>
        rw [hn] at hz; cases hz
        obtain ⟨a, rfl, h⟩ := list_ints r hn
        exact .inl ⟨a, ns, rfl, SqL.of (mask_some h).2, q _ H (Kx.refl hd) (.int _)⟩
  | [.tuple l], hz =>
    cases rs with
    | cons r rr =>
      cases rr
      have hz : (asInts l).map (fun ns => PyData.int ns.sum) = some z := hz
      cases hn : asInts l with
      | none => rw [hn] at hz; cases hz
      | some ns =>
        rw [hn] at hz; cases hz
        obtain ⟨a, rfl, h⟩ := tup_ints r hn
        exact .inr ⟨a, ns, rfl, same_sqT (mask_le _ _) h, q _ H (Kx.refl hd) (.int _)⟩
open PySem.Spec PyProof.Rows in
theorem cr_sumT (hc : X.calm = true) : CallR X (.builtin "sum") (rSumT X.K) := by
  intro pins s σ H vs us Q I r h
  obtain ⟨a, ns, rfl, hs, q⟩ := h
  obtain ⟨its, rv, hl, _⟩ := I.tuple hs
  rw [Vals.ref1 r]
  obtain ⟨xs, e⟩ := rv.ints.allInts.items
  have hn : numsOf (intItems xs).toList = ns := by rw [← e]; exact rv.ints.numsOf
  rw [nums_intItems] at hn
  rw [e] at hl
  refine PySem.W.ktm_sumG (I.ok.hd hc) hl fun h' tk t' hk => ⟨.int _, H, I.kept hk, ⟨_, rfl⟩, ?_⟩
  rw [preSum_eq, List.take_of_length_le (by simp), hn]
  exact q
def allD : List D → Option D
  | [.list ds] => (asBools ds).map fun bs => .bool (bs.all id)
  | _ => none
def anyD : List D → Option D
  | [.list ds] => (asBools ds).map fun bs => .bool (bs.any id)
  | _ => none
theorem list_bools {K : PySem.W.Frag} {H : Hp} {v : V} {ds : List D} {ns : List Bool} (r : Rep K H v (.list ds)) (h : asBools ds = some ns) : ∃ a, v = .ref a ∧ H a = some (.lst (ns.map V.bl)) := by
  rw [asBools_eq h] at r
  cases r with
  | lst h1 h2 =>
    rw [h2.bools] at h1
    exact ⟨_, rfl, h1⟩
theorem sem_all {K : PySem.W.Frag} : SemC K (rAll K) allD := by
  intro dt M H vs ds z Q hd hm hp rs hz q
  match ds, hz with
  | [.list l], hz =>
    cases rs with
    | cons r rr =>
      cases rr
      have hz : (asBools l).map (fun bs => PyData.bool (bs.all id)) = some z := hz
      cases hn : asBools l with
      | none => rw [hn] at hz; cases hz
      | some ns =>
        rw [hn] at hz; cases hz
        obtain ⟨a, rfl, h⟩ := list_bools r hn
        exact ⟨a, ns, rfl, SqL.of (mask_some h).2, q _ H (Kx.refl hd) (.bl _)⟩
theorem sem_any {K : PySem.W.Frag} : SemC K (rAny K) anyD := by
  intro dt M H vs ds z Q hd hm hp rs hz q
  match ds, hz with
  | [.list l], hz =>
    cases rs with
    | cons r rr =>
      cases rr
      have hz : (asBools l).map (fun bs => PyData.bool (bs.any id)) = some z := hz
      cases hn : asBools l with
      | none => rw [hn] at hz; cases hz
      | some ns =>
        rw [hn] at hz; cases hz
        obtain ⟨a, rfl, h⟩ := list_bools r hn
        exact ⟨a, ns, rfl, SqL.of (mask_some h).2, q _ H (Kx.refl hd) (.bl _)⟩
/-- the least of ints -/
def minL : List Int → Option Int
  | [] => none
  | x :: r => some (r.foldl (fun m y => if y < m then y else m) x)
def maxL : List Int → Option Int
  | [] => none
  | x :: r => some (r.foldl (fun m y => if y > m then y else m) x)
theorem foldMin : ∀ (r : List Int) (x : Int), r.foldl (fun m y => if y < m then y else m) x ∈ x :: r ∧ ∀ y ∈ x :: r, r.foldl (fun m y => if y < m then y else m) x ≤ y
  | [], x => ⟨List.mem_cons_self, fun y hy => by cases hy with | head => exact Int.le_refl _ | tail _ h => cases h⟩
  | z :: r, x => by
    rw [List.foldl_cons]
    have hw : (if z < x then z else x) ≤ z ∧ (if z < x then z else x) ≤ x ∧ ((if z < x then z else x) = z ∨ (if z < x then z else x) = x) := by split <;> omega
    generalize (if z < x then z else x) = w at *
    have ih := foldMin r w
    refine ⟨?_, fun y hy => ?_⟩
    · rcases List.mem_cons.mp ih.1 with h | h
      · rw [h]
        rcases hw.2.2 with q | q
        · rw [q]; exact List.mem_cons_of_mem _ List.mem_cons_self
        · rw [q]; exact List.mem_cons_self
      · exact List.mem_cons_of_mem _ (List.mem_cons_of_mem _ h)
    · have h0 := ih.2 _ List.mem_cons_self
      rcases List.mem_cons.mp hy with h | h
      · subst h
        omega
      · rcases List.mem_cons.mp h with h | h
        · subst h
          omega
        · exact ih.2 y (List.mem_cons_of_mem _ h)
theorem foldMax : ∀ (r : List Int) (x : Int), r.foldl (fun m y => if y > m then y else m) x ∈ x :: r ∧ ∀ y ∈ x :: r, y ≤ r.foldl (fun m y => if y > m then y else m) x
  | [], x => ⟨List.mem_cons_self, fun y hy => by cases hy with | head => exact Int.le_refl _ | tail _ h => cases h⟩
  | z :: r, x => by
    rw [List.foldl_cons]
    have hw : z ≤ (if z > x then z else x) ∧ x ≤ (if z > x then z else x) ∧ ((if z > x then z else x) = z ∨ (if z > x then z else x) = x) := by split <;> omega
    generalize (if z > x then z else x) = w at *
    have ih := foldMax r w
    refine ⟨?_, fun y hy => ?_⟩
    · rcases List.mem_cons.mp ih.1 with h | h
      · rw [h]
        rcases hw.2.2 with q | q
        · rw [q]; exact List.mem_cons_of_mem _ List.mem_cons_self
        · rw [q]; exact List.mem_cons_self
      · exact List.mem_cons_of_mem _ (List.mem_cons_of_mem _ h)
    · have h0 := ih.2 _ List.mem_cons_self
      rcases List.mem_cons.mp hy with h | h
      · subst h
        omega
      · rcases List.mem_cons.mp h with h | h
        · subst h
          omega
        · exact ih.2 y (List.mem_cons_of_mem _ h)
def fnMin : List D → Option D
  | [.list ds] => (asInts ds).bind fun ns => (minL ns).map .int
  | _ => none
def fnMax : List D → Option D
  | [.list ds] => (asInts ds).bind fun ns => (maxL ns).map .int
  | _ => none
theorem sem_min {K : PySem.W.Frag} : SemC K (rMin K) fnMin := by
  intro dt M H vs ds z Q hd hm hp rs hz q
  match ds, hz with
  | [.list l], hz =>
    cases rs with
    | cons r rr =>
      cases rr
      have hz : (asInts l).bind (fun ns => (minL ns).map PyData.int) = some z := hz
      cases hn : asInts l with
      | none => rw [hn] at hz; cases hz
      | some ns =>
        rw [hn] at hz
        obtain ⟨a, rfl, h⟩ := list_ints r hn
        cases ns with
        | nil => cases hz
        | cons x r2 =>
          cases hz
          obtain ⟨f1, f2⟩ := foldMin r2 x
          refine ⟨a, _, rfl, SqL.of (mask_some h).2, by simp, fun m h1 h2 => ?_⟩
          have e : m = r2.foldl (fun m y => if y < m then y else m) x := Int.le_antisymm (h2 _ f1) (f2 _ h1)
          rw [e]
          exact q _ H (Kx.refl hd) (.int _)
theorem sem_max {K : PySem.W.Frag} : SemC K (rMax K) fnMax := by
  intro dt M H vs ds z Q hd hm hp rs hz q
  match ds, hz with
  | [.list l], hz =>
    cases rs with
    | cons r rr =>
      cases rr
      have hz : (asInts l).bind (fun ns => (maxL ns).map PyData.int) = some z := hz
      cases hn : asInts l with
      | none => rw [hn] at hz; cases hz
      | some ns =>
        rw [hn] at hz
        obtain ⟨a, rfl, h⟩ := list_ints r hn
        cases ns with
        | nil => cases hz
        | cons x r2 =>
          cases hz
          obtain ⟨f1, f2⟩ := foldMax r2 x
          refine ⟨a, _, rfl, SqL.of (mask_some h).2, by simp, fun m h1 h2 => ?_⟩
          have e : m = r2.foldl (fun m y => if y > m then y else m) x := Int.le_antisymm (f2 _ h1) (h2 _ f1)
          rw [e]
          exact q _ H (Kx.refl hd) (.int _)
end
end Mb

namespace Mb
open PySem L2

/-! ### isinstance -/
def tyD : D → String
  | .none => "NoneType"
  | .bool _ => "bool"
  | .int _ => "int"
  | .str _ => "str"
  | .list _ => "list"
  | .tuple _ => "tuple"
  | .dict _ => "dict"
def isInt : D → Bool
  | .int _ => true
  | .bool _ => true
  | _ => false
def isBool : D → Bool
  | .bool _ => true
  | _ => false
def isStr : D → Bool
  | .str _ => true
  | _ => false
def isList : D → Bool
  | .list _ => true
  | _ => false
def isTuple : D → Bool
  | .tuple _ => true
  | _ => false
theorem kit_int (d : D) : kitB (tyD d) "int" = some (isInt d) := by
  cases d <;> first
    | exact (by decide +kernel : kitB "NoneType" "int" = some false)
    | exact (by decide +kernel : kitB "bool" "int" = some true)
    | exact (by decide +kernel : kitB "int" "int" = some true)
    | exact (by decide +kernel : kitB "str" "int" = some false)
    | exact (by decide +kernel : kitB "list" "int" = some false)
    | exact (by decide +kernel : kitB "tuple" "int" = some false)
    | exact (by decide +kernel : kitB "dict" "int" = some false)
theorem kit_bool (d : D) : kitB (tyD d) "bool" = some (isBool d) := by
  cases d <;> first
    | exact (by decide +kernel : kitB "NoneType" "bool" = some false)
    | exact (by decide +kernel : kitB "bool" "bool" = some true)
    | exact (by decide +kernel : kitB "int" "bool" = some false)
    | exact (by decide +kernel : kitB "str" "bool" = some false)
    | exact (by decide +kernel : kitB "list" "bool" = some false)
    | exact (by decide +kernel : kitB "tuple" "bool" = some false)
    | exact (by decide +kernel : kitB "dict" "bool" = some false)
theorem kit_str (d : D) : kitB (tyD d) "str" = some (isStr d) := by
  cases d <;> first
    | exact (by decide +kernel : kitB "NoneType" "str" = some false)
    | exact (by decide +kernel : kitB "bool" "str" = some false)
    | exact (by decide +kernel : kitB "int" "str" = some false)
    | exact (by decide +kernel : kitB "str" "str" = some true)
    | exact (by decide +kernel : kitB "list" "str" = some false)
    | exact (by decide +kernel : kitB "tuple" "str" = some false)
    | exact (by decide +kernel : kitB "dict" "str" = some false)
theorem kit_list (d : D) : kitB (tyD d) "list" = some (isList d) := by
  cases d <;> first
    | exact (by decide +kernel : kitB "NoneType" "list" = some false)
    | exact (by decide +kernel : kitB "bool" "list" = some false)
    | exact (by decide +kernel : kitB "int" "list" = some false)
    | exact (by decide +kernel : kitB "str" "list" = some false)
    | exact (by decide +kernel : kitB "list" "list" = some true)
    | exact (by decide +kernel : kitB "tuple" "list" = some false)
    | exact (by decide +kernel : kitB "dict" "list" = some false)
theorem kit_tuple (d : D) : kitB (tyD d) "tuple" = some (isTuple d) := by
  cases d <;> first
    | exact (by decide +kernel : kitB "NoneType" "tuple" = some false)
    | exact (by decide +kernel : kitB "bool" "tuple" = some false)
    | exact (by decide +kernel : kitB "int" "tuple" = some false)
    | exact (by decide +kernel : kitB "str" "tuple" = some false)
    | exact (by decide +kernel : kitB "list" "tuple" = some false)
    | exact (by decide +kernel : kitB "tuple" "tuple" = some true)
    | exact (by decide +kernel : kitB "dict" "tuple" = some false)
def notD : D → Bool
  | .dict _ => false
  | _ => true
theorem rep_ty {K : PySem.W.Frag} {H : Hp} {v : V} {d : D} (r : Rep K H v d) (hn : notD d = true) : TyX K H v (.type (tyD d)) := by
  cases r with
  | non => exact .base .non
  | bl b => exact .base (.bl b)
  | int i => exact .base (.int i)
  | str x => exact .base (.str x)
  | lst h _ => exact .base (.lst h)
  | tup h _ =>
    rcases h with (h | ⟨o, h⟩) | ⟨o, its, n, hk, hc, _⟩
    · exact .base (.tup h)
    · exact .fTuple h
    · exact .kTuple hk hc
  | dic => cases hn
def vIsi (fn : D → Bool) (f : Envt → Tr D) : Envt → Tr D := fun env => (f env).bind fun d => if notD d then .ret (.bool (fn d)) else .bad
section
variable {cl : Nat → Addr} {X : Cx} {E : XK} {e a b c : Expr} {f g h : Envt → Tr D} {pos : Pos}
theorem de_isi {T : String} {x : Str} {p p2 : Pos} {fn : D → Bool} (hk : ∀ d, kitB (tyD d) T = some (fn d)) (hm : X.mg "isinstance" = none) (hmT : X.mg x = none) (hvT : bootBuiltins x = some (.type T)) (ha : DE cl X E a f) (hg : Gl X "isinstance" := by rfl) (hgT : Gl X x := by rfl)
    (hn : x ≠ "__name__" := by decide) (hdb : (x == ("__debug__" : Str)) = false := by decide) (he : starEach [a, .Name x p2] X.env = (false, eval a X.env) :: starEach [.Name x p2] X.env := by rfl) (he2 : starEach [.Name x p2] X.env = (false, eval (.Name x p2) X.env) :: starEach [] X.env := by rfl)
    (hpl : (backTo pos (starEach [.Name x p2] X.env)).any (·.1) = false := by rfl) : DE cl X E (.Call (.Name "isinstance" p) [a, .Name x p2] [] pos) (vIsi fn f) := by
  obtain ⟨ta, pa, ra⟩ := ha
  refine ⟨_, pe_callB call_isi hg hm (by decide +kernel) (pa_cons pa (pa_cons (pe_bltn (v := .ty T) hgT hmT hvT rfl hn hdb) pa_nil he2) he) (by decide) (by decide) he hpl, fun F B ad σ H env Q hk' hc o k => ?_⟩
  refine ra F B ad σ H env _ hk' hc o (Tr.all_mono (fun d z v H1 k1 rv => ?_) (fun _ z => z) (Tr.all_bind k))
  cases hnd : notD d with
  | false => rw [hnd] at z; exact z.elim
  | true =>
    rw [hnd] at z
    exact ⟨v, .ty T, .type (tyD d), .type T, fn d, rfl, .ty T, by rw [← hk']; exact rep_ty (rv.mono (mask_le _ _)) hnd, kit_ty (hk d), z _ H1 k1 (.bl _)⟩

/-! ### list.count -/
def rCntD (K : PySem.W.Frag) : V → List V → Hp → VK → Prop := fun x xs H Q => ∃ (a : Addr) (y : V) (d : PyData) (ds : List PyData), x = V.ref a ∧ xs = [y] ∧ Dp K H (V.ref a) (.list ds) ∧ Dp K H y d ∧ SeqAt.shaped (.list ds) = true ∧ SeqAt.shaped d = true ∧ Q (.int ((ds.countP fun z => PyData.eqv z d : Nat) : Int)) H
open PySem.Spec PyProof.Rows in
theorem mt_countD (hu : X.A.units + 65 < cLine) : MtR X "list.count" (rCntD X.K) := by
  intro pins s σ H x xs v us Q I rx rxs h
  obtain ⟨a, y, d, ds, rfl, rfl, hl, hy, sl, sd, q⟩ := h
  cases rx
  cases rxs with
  | cons ry rt =>
    rename_i uy ut
    cases rt
    obtain ⟨bs, r1⟩ := Dp.reads I d y uy hy ry
    have hxs : PyData.canLayAll0 ds = true := SeqAt.canLay_of_shaped sl
    have hroom : X.A.units + 1 + min (PyData.depthAll ds) d.depth < cLine := room_in_shaped sd hu
    cases hl with
    | lst hs ha =>
      obtain ⟨its, rv, ⟨⟨cls, dd, data, sls⟩, n, ho, hc, hdn, hdt⟩, hlen⟩ := I.list hs
      simp only at hc hdt
      subst hc hdt
      obtain ⟨as, h4⟩ := Dp.readsAll I ds _ its ha rv
      have hmap : its.map (SeqAt.readOf s.heap) = ds := SeqAt.readsAll_map ds its as hxs h4
      refine call_meets PySem.F.slot_list_count ⟨_, ho, rfl⟩ PySem.F.entry_list_count (PySem.F.args_list_count_2 _ _)
        (SeqAt.list_countAt a its.toArray n dd sls uy (fun u => PyData.eqv (SeqAt.readOf s.heap u) d)) ⟨ho, SeqAt.items_eqAt (vs := its.toArray) (show ReadsAll s.heap its.toArray.toList ds as from h4) r1 hxs (SeqAt.canLay_of_shaped sd) hroom, ?_⟩
      refine ⟨.int _, H, I.tok _, ⟨s.toks, ?_⟩, q⟩
      show Value.int ((its.toArray.toList.countP (fun u => PyData.eqv (SeqAt.readOf s.heap u) d) : Nat) : Int) s.toks = Value.int ((ds.countP fun z => PyData.eqv z d : Nat) : Int) s.toks
      rw [← hmap, List.countP_map]
      rfl
def dCount (d e : D) : Option D := match d with
  | .list ds => if shp (.list ds) && shp e then some (.int ((ds.countP fun z => PyData.eqv z e : Nat) : Int)) else none
  | _ => none
/-- the first place of an equal one -/
def dIndex (d e : D) : Option D := match d with
  | .list ds => if shp (.list ds) && shp e then (ds.findIdx? fun z => PyData.eqv z e).map fun (j : Nat) => .int (j : Int) else none
  | _ => none
def vMeth (chk : D → Bool) (op : D → D → Option D) (f g : Envt → Tr D) : Envt → Tr D := fun env => (f env).bind fun x => if chk x then (g env).bind fun y => ofO (op x y) else .bad
theorem de_count {k : Nat} {p : Pos} (hr : Room k X.A) (ha : DE cl X E a f) (hb : DE cl X E b g) (hbase : attributeBase a "count" X.env (eval a X.env) = eval a X.env := by rfl)
    (hfew : ((backTo pos (starEach [b] X.env)).all (fun x => !x.1) && (backToKw pos (keywordEach [] X.env)).all (fun x => x.1.isSome) && decide ([b].length + ([] : List Keyword).length + (if ([] : List Keyword).isEmpty then 0 else 1) < 30)) = true := by rfl)
    (hline : (p.endLine == pos.line) = true := by rfl) (hs : starEach [b] X.env = (false, eval b X.env) :: starEach [] X.env := by rfl) (hplain : (backTo pos (starEach [] X.env)).any (·.1) = false := by rfl) : DE cl X E (.Call (.Attribute a "count" p) [b] [] pos) (vMeth isList dCount f g) := by
  obtain ⟨ta, pa, ra⟩ := ha
  obtain ⟨tb, pb, rb⟩ := hb
  refine ⟨_, pe_bm PySem.F.plainAttrs_list PySem.F.slot_list_count PySem.F.type_list_count (mt_countD (by have := hr.un; omega)) pa (pa_cons pb pa_nil hs) hbase hfew hline hs hplain, fun F B ad σ H env Q hk hc o k => ?_⟩
  refine ra F B ad σ H env _ hk hc o (Tr.all_mono (fun d z x H1 k1 rx => ?_) (fun _ z => z) (Tr.all_bind k))
  cases rx with
  | @lst p xs ds h1 h2 =>
    refine ⟨.inl ⟨rfl, xs, SqL.of (mask_some h1).2⟩, rb F B ad σ H1 env _ hk hc (o.kx k1) (Tr.all_mono (fun e z y H2 k2 ry => ?_) (fun _ z => z) (Tr.all_bind z))⟩
    cases hz : dCount (.list ds) e with
    | none => rw [hz] at z; exact z.elim
    | some w =>
      rw [hz] at z
      obtain ⟨h3, rfl⟩ := if_some hz
      rw [Bool.and_eq_true] at h3
      refine ⟨p, y, e, ds, rfl, rfl, ?_, ?_, shp_shaped h3.1, shp_shaped h3.2, z _ H2 (k1.trans k2) (.int _)⟩
      · rw [← hk]; exact Rep.dp (Rep.mono (mask_le _ _) (Rep.mono k2.msame (.lst h1 h2))) (shp_lay h3.1)
      · rw [← hk]; exact Rep.dp (Rep.mono (mask_le _ _) ry) (shp_lay h3.2)
  | _ => exact z.elim
theorem de_index {k : Nat} {p : Pos} (hr : Room k X.A) (ha : DE cl X E a f) (hb : DE cl X E b g) (hbase : attributeBase a "index" X.env (eval a X.env) = eval a X.env := by rfl)
    (hfew : ((backTo pos (starEach [b] X.env)).all (fun x => !x.1) && (backToKw pos (keywordEach [] X.env)).all (fun x => x.1.isSome) && decide ([b].length + ([] : List Keyword).length + (if ([] : List Keyword).isEmpty then 0 else 1) < 30)) = true := by rfl)
    (hline : (p.endLine == pos.line) = true := by rfl) (hs : starEach [b] X.env = (false, eval b X.env) :: starEach [] X.env := by rfl) (hplain : (backTo pos (starEach [] X.env)).any (·.1) = false := by rfl) : DE cl X E (.Call (.Attribute a "index" p) [b] [] pos) (vMeth isList dIndex f g) := by
  obtain ⟨ta, pa, ra⟩ := ha
  obtain ⟨tb, pb, rb⟩ := hb
  refine ⟨_, pe_bm PySem.F.plainAttrs_list PySem.F.slot_list_index PySem.F.type_list_index (mt_indexD (by have := hr.un; omega)) pa (pa_cons pb pa_nil hs) hbase hfew hline hs hplain, fun F B ad σ H env Q hk hc o k => ?_⟩
  refine ra F B ad σ H env _ hk hc o (Tr.all_mono (fun d z x H1 k1 rx => ?_) (fun _ z => z) (Tr.all_bind k))
  cases rx with
  | @lst p xs ds h1 h2 =>
    refine ⟨.inl ⟨rfl, xs, SqL.of (mask_some h1).2⟩, rb F B ad σ H1 env _ hk hc (o.kx k1) (Tr.all_mono (fun e z y H2 k2 ry => ?_) (fun _ z => z) (Tr.all_bind z))⟩
    cases hz : dIndex (.list ds) e with
    | none => rw [hz] at z; exact z.elim
    | some w =>
      rw [hz] at z
      have hz : (if shp (.list ds) && shp e then (ds.findIdx? fun z => PyData.eqv z e).map (fun (j : Nat) => PyData.int (j : Int)) else none) = some w := hz
      cases h3 : shp (.list ds) && shp e with
      | false => rw [h3] at hz; cases hz
      | true =>
        rw [h3] at hz
        rw [Bool.and_eq_true] at h3
        cases hj : ds.findIdx? fun z => PyData.eqv z e with
        | none => rw [hj] at hz; cases hz
        | some j =>
          rw [hj] at hz
          cases hz
          obtain ⟨hjl, h5, h6⟩ := List.findIdx?_eq_some_iff_getElem.mp hj
          refine ⟨p, y, e, ds, j, ds[j], rfl, rfl, ?_, ?_, shp_shaped h3.1, shp_shaped h3.2, List.getElem?_eq_getElem hjl, h5, fun m z' hm hz' => ?_, z _ H2 (k1.trans k2) (.int _)⟩
          · rw [← hk]; exact Rep.dp (Rep.mono (mask_le _ _) (Rep.mono k2.msame (.lst h1 h2))) (shp_lay h3.1)
          · rw [← hk]; exact Rep.dp (Rep.mono (mask_le _ _) ry) (shp_lay h3.2)
          · have := h6 m hm
            rw [List.getElem?_eq_getElem (by omega)] at hz'
            cases hz'
            simpa using this
  | _ => exact z.elim
end

/-! ### statements -/
inductive Out where
  | nx (env : Envt)
  | rt (d : D)
  | bk (env : Envt)
  | ct (env : Envt)
abbrev Stm := Envt → Tr Out
def SPost (F : Fx) (B : Hp) (N : Ends) : Out → Prop
  | .nx env => ∀ ad σ H, Ok F B ad σ H env → N.nx σ H
  | .bk env => ∀ ad σ H, Ok F B ad σ H env → N.bk σ H
  | .ct env => ∀ ad σ H, Ok F B ad σ H env → N.ct σ H
  | .rt d => ∀ v H, Kx F.dt F.H0 H → Rep F.K (mask H F.O) v d → N.rt v H
def DS (cl : Nat → Addr) (X : Cx) (E : XK) (st : Stmt) (g : Stm) : Prop := ∃ t, PS X st t ∧ ∀ (F : Fx) (B : Hp) (ad : Ads) (σ : St) (H : Hp) (env : Envt) (N : Ends), F.K = X.K → F.cl = cl → Ok F B ad σ H env → (g env).all (SPost F B N) (EOk F E) → t N σ H
def DSs (cl : Nat → Addr) (X : Cx) (E : XK) (st : List Stmt) (g : Stm) : Prop := ∃ t, PSs X st t ∧ ∀ (F : Fx) (B : Hp) (ad : Ads) (σ : St) (H : Hp) (env : Envt) (N : Ends), F.K = X.K → F.cl = cl → Ok F B ad σ H env → (g env).all (SPost F B N) (EOk F E) → t N σ H
def sNil : Stm := fun env => .ret (.nx env)
def sSeq (g h : Stm) : Stm := fun env => (g env).bind fun o => match o with
  | .nx env' => h env'
  | .rt d => .ret (.rt d)
  | .bk e => .ret (.bk e)
  | .ct e => .ret (.ct e)
section
variable {cl : Nat → Addr} {X : Cx} {E : XK} {e a b c : Expr} {f g h : Envt → Tr D} {pos : Pos} {st : Stmt} {sts : List Stmt} {u v : Stm}
theorem dss_nil : DSs cl X E [] sNil := ⟨_, pss_nil, fun F B ad σ H env N hk hc o k => k ad σ H o⟩
theorem dss_one (h : DS cl X E st u) : DSs cl X E [st] u := by
  obtain ⟨t, p, r⟩ := h
  exact ⟨t, pss_one p, r⟩
theorem dss_cons (h1 : DS cl X E st u) (h2 : DSs cl X E sts v) : DSs cl X E (st :: sts) (sSeq u v) := by
  obtain ⟨t, p, r⟩ := h1
  obtain ⟨t2, p2, r2⟩ := h2
  refine ⟨_, pss_cons p p2, fun F B ad σ H env N hk hc o k => ?_⟩
  refine r F B ad σ H env _ hk hc o (Tr.all_mono (fun ou z => ?_) (fun _ z => z) (Tr.all_bind k))
  cases ou with
  | nx env' => exact fun ad' σ' H' o' => r2 F B ad' σ' H' env' N hk hc o' z
  | rt d => exact z
  | bk e => exact z
  | ct e => exact z
/-- a slot's own list is no longer changed from here on -/
def sFz (i : Nat) (u : Stm) : Stm := fun env => match env[i]? with
  | some (.ow ds) => u (env.set i (.fz (.list ds)))
  | some (.od kvs) => u (env.set i (.fz (.dict kvs)))
  | _ => u env
theorem dss_fz (i : Nat) (h : DSs cl X E sts u) : DSs cl X E sts (sFz i u) := by
  obtain ⟨t, p, r⟩ := h
  refine ⟨t, p, fun F B ad σ H env N hk hc o k => ?_⟩
  unfold sFz at k
  split at k
  · rename_i ds he
    exact r F B _ σ H _ N hk hc (o.freeze he) k
  · rename_i ds he
    exact r F B _ σ H _ N hk hc (o.freezeD he) k
  · exact r F B ad σ H env N hk hc o k
/-! assignments -/
def sSet (i : Nat) (f : Envt → Tr D) : Stm := fun env => (f env).bind fun d => .ret (.nx (env.set i (.fz d)))
def sOwn (i : Nat) (f : Envt → Tr (List D)) : Stm := fun env => (f env).bind fun ds => .ret (.nx (env.set i (.ow ds)))
theorem ds_set (i : Nat) {x : Str} {p2 : Pos} (hN : X.N.Nodup) (he : DE cl X E e f) (hi : X.N[i]? = some x := by rfl) (hx : Loc X.env.scope x := by first | exact Or.inl rfl | exact Or.inr rfl) (hs : swapsWith e (some (.Name x p2)) pos.line X.env = pure false := by rfl)
    (hf : X.fn x = true ∨ X.env.scope.names.lookup x = some .local := by first | exact .inl rfl | exact .inr rfl | assumption) : DS cl X E (.Assign [.Name x p2] e pos) (sSet i f) := by
  obtain ⟨t, p, r⟩ := he
  refine ⟨_, ps_set (i := i) hN hi hx p hs hf, fun F B ad σ H env N hk hc o k => ?_⟩
  refine r F B ad σ H env _ hk hc o (Tr.all_mono (fun d z v H1 k1 rv => ?_) (fun _ z => z) (Tr.all_bind k))
  exact z _ _ H1 ((o.kx k1).setFz rv)
theorem ds_own (i : Nat) {x : Str} {p2 : Pos} {f : Envt → Tr (List D)} (hN : X.N.Nodup) (he : DN cl X E e f) (hi : X.N[i]? = some x := by rfl) (hx : Loc X.env.scope x := by first | exact Or.inl rfl | exact Or.inr rfl) (hs : swapsWith e (some (.Name x p2)) pos.line X.env = pure false := by rfl)
    (hf : X.fn x = true ∨ X.env.scope.names.lookup x = some .local := by first | exact .inl rfl | exact .inr rfl | assumption) : DS cl X E (.Assign [.Name x p2] e pos) (sOwn i f) := by
  obtain ⟨t, p, r⟩ := he
  refine ⟨_, ps_set (i := i) hN hi hx p hs hf, fun F B ad σ H env N hk hc o k => ?_⟩
  refine r F B ad σ H env _ hk hc o (Tr.all_mono (fun ds z p H1 vs k1 hn hp rv => ?_) (fun _ z => z) (Tr.all_bind k))
  exact z _ _ H1 (o.setOw k1 hn hp rv)
/-- target = value, the target a tuple of names -/
def sAsg (gd : Tgt) (f : Envt → Tr D) : Stm := fun env => (f env).bind fun d => (ofO (gd d env)).bind fun env' => .ret (.nx env')
theorem ds_asg {tg : Expr} {sl : List Nat} {gd : Tgt} (he : DE cl X E e f) (hg : DG X tg sl gd) (hs : swapsWithSole [tg] e pos.line X.env = pure false := by rfl) (hw : swappedStores [tg] e X.env = pure none := by rfl)
    (h1 : (assignEach [tg] X.env).map (·.2) = [assign tg X.env] := by rfl) : DS cl X E (.Assign [tg] e pos) (sAsg gd f) := by
  obtain ⟨t, p, r⟩ := he
  obtain ⟨g, pg, rg⟩ := hg
  refine ⟨_, ps_asg p pg hs hw h1, fun F B ad σ H env N hk hc o k => ?_⟩
  refine r F B ad σ H env _ hk hc o (Tr.all_mono (fun d z v H1 k1 rv => ?_) (fun _ z => z) (Tr.all_bind k))
  cases hgd : gd d env with
  | none => rw [hgd] at z; exact z.elim
  | some env' =>
    rw [hgd] at z
    exact rg F B ad σ H1 env env' v d _ hk (o.kx k1) rv hgd fun ad' σ' o' _ _ _ => z ad' σ' H1 o'
/-! several at once -/
inductive PEnts (K : PySem.W.Frag) (dt : Dl) : (Addr → Prop) → Hp → Hp → List V → List Ent → Prop
  | nil {M : Addr → Prop} {H H' : Hp} : Kx dt H H' → PEnts K dt M H H' [] []
  | fz {M : Addr → Prop} {H H1 H' : Hp} {v : V} {vs : List V} {d : D} {es : List Ent} : Kx dt H H1 → Rep K (mask H1 M) v d → PEnts K dt M H1 H' vs es → PEnts K dt M H H' (v :: vs) (.fz d :: es)
  | ow {M : Addr → Prop} {H H1 H' : Hp} {p : Addr} {xs : List V} {vs : List V} {ds : List D} {es : List Ent} : Kx dt H H1 → H p = none → H1 p = some (.lst xs) → RepAll K (mask H1 fun a => M a ∨ a = p) xs ds → PEnts K dt (fun a => M a ∨ a = p) H1 H' vs es →
    PEnts K dt M H H' (.ref p :: vs) (.ow ds :: es)
  | od {M : Addr → Prop} {H H1 H' : Hp} {p : Addr} {ob : Obj} {vs : List V} {kvs : List (D × D)} {es : List Ent} : Kx dt H H1 → H p = none → H1 p = some (DicO p ob) → RDk K (mask H1 fun a => M a ∨ a = p) ob kvs → PEnts K dt (fun a => M a ∨ a = p) H1 H' vs es →
    PEnts K dt M H H' (.ref p :: vs) (.od kvs :: es)
theorem PEnts.kx {K : PySem.W.Frag} {dt : Dl} {M : Addr → Prop} {H H' H2 : Hp} {vs : List V} {es : List Ent} (h : PEnts K dt M H H' vs es) (k : Kx dt H' H2) : PEnts K dt M H H2 vs es := by
  induction h with
  | nil k0 => exact .nil (k0.trans k)
  | fz k0 r _ ih => exact .fz k0 r (ih k)
  | ow k0 hn hp r _ ih => exact .ow k0 hn hp r (ih k)
  | od k0 hn hp r _ ih => exact .od k0 hn hp r (ih k)
theorem PEnts.all {K : PySem.W.Frag} {dt : Dl} {M : Addr → Prop} {H H' : Hp} {vs : List V} {es : List Ent} (h : PEnts K dt M H H' vs es) : Kx dt H H' := by
  induction h with
  | nil k0 => exact k0
  | fz k0 r _ ih => exact k0.trans ih
  | ow k0 hn hp r _ ih => exact k0.trans ih
  | od k0 hn hp r _ ih => exact k0.trans ih
theorem PEnts.length {K : PySem.W.Frag} {dt : Dl} {M : Addr → Prop} {H H' : Hp} {vs : List V} {es : List Ent} (h : PEnts K dt M H H' vs es) : vs.length = es.length := by
  induction h with
  | nil k0 => rfl
  | fz k0 r _ ih => rw [List.length_cons, List.length_cons, ih]
  | ow k0 hn hp r _ ih => rw [List.length_cons, List.length_cons, ih]
  | od k0 hn hp r _ ih => rw [List.length_cons, List.length_cons, ih]
def setAll : Envt → List Nat → List Ent → Envt
  | env, i :: is, e :: es => setAll (env.set i e) is es
  | env, _, _ => env
def setV : St → List Nat → List V → St
  | σ, i :: is, v :: vs => setV (σ.set i (some v)) is vs
  | σ, _, _ => σ
theorem Ok.sets {F : Fx} {B : Hp} {M : Addr → Prop} {H H' : Hp} {vs : List V} {es : List Ent} (h : PEnts F.K F.dt M H H' vs es) : ∀ {ad : Ads} {σ : St} {env : Envt} (is : List Nat), Ok F B ad σ H env → (∀ a, Mm F ad a → M a) → ∃ ad', Ok F B ad' (setV σ is vs) H' (setAll env is es) := by
  induction h with
  | nil k0 =>
    intro ad σ env is o hm
    cases is <;> exact ⟨ad, o.kx k0⟩
  | @fz M H H1 H' v vs d es k0 r rest ih =>
    intro ad σ env is o hm
    cases is with
    | nil => exact ⟨ad, o.kx (k0.trans rest.all)⟩
    | cons i is =>
      refine ih is ((o.kx k0).setFz (r.mono (mask_same fun a x n e => ⟨fun q => n (hm a q), e⟩))) fun a q => hm a (Mm_setN q)
  | @ow M H H1 H' p xs vs ds es k0 hn hp r rest ih =>
    intro ad σ env is o hm
    cases is with
    | nil => exact ⟨ad, o.kx (k0.trans rest.all)⟩
    | cons i is =>
      refine ih is (o.setOw k0 hn hp (r.mono (mask_same fun a x n e => ⟨fun q => n (q.elim (fun q => .inl (hm a q)) .inr), e⟩))) fun a q => (Mm_set q).elim (fun q => .inl (hm a q)) .inr
  | @od M H H1 H' p ob vs kvs es k0 hn hp r rest ih =>
    intro ad σ env is o hm
    cases is with
    | nil => exact ⟨ad, o.kx (k0.trans rest.all)⟩
    | cons i is =>
      refine ih is (o.setOd k0 hn hp (r.mono (mask_same fun a x n e => ⟨fun q => n (q.elim (fun q => .inl (hm a q)) .inr), e⟩))) fun a q => (Mm_set q).elim (fun q => .inl (hm a q)) .inr
def DPs (cl : Nat → Addr) (X : Cx) (E : XK) (es : List Expr) (g : Envt → Tr (List Ent)) : Prop := ∃ t, PA X es t ∧ ∀ (F : Fx) (B : Hp) (ad : Ads) (σ : St) (H : Hp) (env : Envt) (Q : List V → Hp → Prop), F.K = X.K → F.cl = cl → Ok F B ad σ H env →
  (g env).all (fun ents => ∀ vs H', PEnts F.K F.dt (Mm F ad) H H' vs ents → Q vs H') (EOk F E) → t σ H Q
theorem dps_nil : DPs cl X E [] aNil := ⟨_, pa_nil, fun F B ad σ H env Q hk hc o k => k [] H (.nil (Kx.refl o.k0.dr))⟩
theorem dps_fz {es : List Expr} {g : Envt → Tr (List Ent)} (ha : DE cl X E a f) (hr : DPs cl X E es g) (hs : starEach (a :: es) X.env = (false, eval a X.env) :: starEach es X.env := by rfl) : DPs cl X E (a :: es) (aCons f g) := by
  obtain ⟨t, p, r⟩ := ha
  obtain ⟨u, q, s⟩ := hr
  refine ⟨_, pa_cons p q hs, fun F B ad σ H env Q hk hc o k => ?_⟩
  refine r F B ad σ H env _ hk hc o (Tr.all_mono (fun d z x H1 k1 rx => ?_) (fun _ z => z) (Tr.all_bind k))
  refine s F B ad σ H1 env _ hk hc (o.kx k1) (Tr.all_mono (fun es z xs H2 ps => ?_) (fun _ z => z) (Tr.all_bind z))
  exact z _ H2 (.fz k1 rx ps)
def aOwn (f : Envt → Tr (List D)) (g : Envt → Tr (List Ent)) : Envt → Tr (List Ent) := fun env => (f env).bind fun ds => (g env).bind fun es => .ret (.ow ds :: es)
theorem EOk.plus {F : Fx} {D : Addr} {x : HO} {h : F.H0 D = none} {c : Nat} (k : EOk F E c) : EOk (F.plus D x h) E c := fun H' kx => k H' ⟨fun b o e n => kx.keep b o (same_new h b o e) n, kx.dr⟩
theorem Mm_plus {F : Fx} {D : Addr} {x : HO} {h : F.H0 D = none} {ad : Ads} : Mm (F.plus D x h) ad = fun a => Mm F ad a ∨ a = D := by
  funext a
  apply propext
  constructor
  · rintro ((q | q) | q)
    · exact .inl (.inl q)
    · exact .inr q
    · exact .inl (.inr q)
  · rintro ((q | q) | q)
    · exact .inl (.inl q)
    · exact .inr q
    · exact .inl (.inr q)
theorem dps_ow {es : List Expr} {f : Envt → Tr (List D)} {g : Envt → Tr (List Ent)} (ha : DN cl X E a f) (hr : DPs cl X E es g) (hs : starEach (a :: es) X.env = (false, eval a X.env) :: starEach es X.env := by rfl) : DPs cl X E (a :: es) (aOwn f g) := by
  obtain ⟨t, p, r⟩ := ha
  obtain ⟨u, q, s⟩ := hr
  refine ⟨_, pa_cons p q hs, fun F B ad σ H env Q hk hc o k => ?_⟩
  refine r F B ad σ H env _ hk hc o (Tr.all_mono (fun ds z p H1 vs k1 hn hp rp => ?_) (fun _ z => z) (Tr.all_bind k))
  have h0 := o.H0none hn
  refine s (F.plus p (.lst vs) h0) B ad σ H1 env _ hk hc (o.plus k1 hn hp h0) (Tr.all_mono (fun es z xs H2 ps => ?_) (fun _ z => z.plus) (Tr.all_bind z))
  rw [Mm_plus] at ps
  exact z _ H2 (.ow k1 hn hp rp ps)
def sPar (is : List Nat) (g : Envt → Tr (List Ent)) : Stm := fun env => (g env).bind fun es => if es.length == is.length then .ret (.nx (setAll env is es)) else .bad
theorem ds_par2 (i j : Nat) {x y : Str} {px py pt : Pos} {kt k2 : Nat} {pt2 : Pos} {g : Envt → Tr (List Ent)} (hN : X.N.Nodup) (ha : DPs cl X E [a, b] g) (hw : swappedStores [.Tuple [.Name x px, .Name y py] kt pt] (.Tuple [a, b] k2 pt2) X.env = pure (some [x, y]) := by rfl)
    (hi : X.N[i]? = some x := by rfl) (hj : X.N[j]? = some y := by rfl) (hij : i ≠ j := by decide) (hx : X.env.scope.names.lookup x = some .local := by rfl) (hy : X.env.scope.names.lookup y = some .local := by rfl) (hc : X.calm = true := by rfl)
    (hs : swapsWithSole [.Tuple [.Name x px, .Name y py] kt pt] (.Tuple [a, b] k2 pt2) pos.line X.env = pure false := by rfl) : DS cl X E (.Assign [.Tuple [.Name x px, .Name y py] kt pt] (.Tuple [a, b] k2 pt2) pos) (sPar [i, j] g) := by
  obtain ⟨t, p, r⟩ := ha
  refine ⟨_, ps_par hc hN hi hj hij hx hy p hw hs, fun F B ad σ H env N hk hcl o k => ?_⟩
  refine r F B ad σ H env _ hk hcl o (Tr.all_mono (fun es z vs H1 ps => ?_) (fun _ z => z) (Tr.all_bind k))
  have hl := ps.length
  match es, vs, z, ps, hl with
  | [e1, e2], [v1, v2], z, ps, _ =>
    obtain ⟨ad', o'⟩ := Ok.sets ps [i, j] o fun _ q => q
    exact ⟨v1, v2, rfl, z ad' _ H1 o'⟩
  | [], _, z, _, _ => exact z.elim
  | [_], _, z, _, _ => exact z.elim
  | _ :: _ :: _ :: _, _, z, _, _ => exact (show False from z).elim
theorem ds_par3 (i j l : Nat) {x y w : Str} {px py pw pt : Pos} {kt k2 : Nat} {pt2 : Pos} {g : Envt → Tr (List Ent)} (hN : X.N.Nodup) (ha : DPs cl X E [a, b, c] g) (hw : swappedStores [.Tuple [.Name x px, .Name y py, .Name w pw] kt pt] (.Tuple [a, b, c] k2 pt2) X.env = pure (some [x, y, w]) := by rfl)
    (hi : X.N[i]? = some x := by rfl) (hj : X.N[j]? = some y := by rfl) (hl : X.N[l]? = some w := by rfl) (hij : i ≠ j := by decide) (hil : i ≠ l := by decide) (hjl : j ≠ l := by decide) (hx : X.env.scope.names.lookup x = some .local := by rfl) (hy : X.env.scope.names.lookup y = some .local := by rfl) (hz : X.env.scope.names.lookup w = some .local := by rfl) (hc : X.calm = true := by rfl)
    (hs : swapsWithSole [.Tuple [.Name x px, .Name y py, .Name w pw] kt pt] (.Tuple [a, b, c] k2 pt2) pos.line X.env = pure false := by rfl) : DS cl X E (.Assign [.Tuple [.Name x px, .Name y py, .Name w pw] kt pt] (.Tuple [a, b, c] k2 pt2) pos) (sPar [i, j, l] g) := by
  obtain ⟨t, p, r⟩ := ha
  refine ⟨_, ps_par3 hc hN hi hj hl hij hil hjl hx hy hz p hw hs, fun F B ad σ H env N hk hcl o k => ?_⟩
  refine r F B ad σ H env _ hk hcl o (Tr.all_mono (fun es z vs H1 ps => ?_) (fun _ z => z) (Tr.all_bind k))
  have hl := ps.length
  match es, vs, z, ps, hl with
  | [e1, e2, e3], [v1, v2, v3], z, ps, _ =>
    obtain ⟨ad', o'⟩ := Ok.sets ps [i, j, l] o fun _ q => q
    exact ⟨v1, v2, v3, rfl, z ad' _ H1 o'⟩
  | [], _, z, _, _ => exact z.elim
  | [_], _, z, _, _ => exact z.elim
  | [_, _], _, z, _, _ => exact z.elim
  | _ :: _ :: _ :: _ :: _, _, z, _, _ => exact (show False from z).elim
/-- names that are stored one after the other -/
structure Names (X : Cx) (tgs : List Expr) (is : List Nat) : Prop where
  pg : ∃ t, PGs X tgs t ∧ ∀ (vs : List V) (σ : St) (H : Hp) (Q : St → Hp → Prop), vs.length = is.length → Q (setV σ is vs) H → t vs σ H Q
theorem nms_nil : Names X [] [] := ⟨_, pgs_nil, fun vs σ H Q hl q => by
  cases vs with
  | nil => exact ⟨rfl, q⟩
  | cons _ _ => cases hl⟩
theorem nms_cons (i : Nat) {x : Str} {es : List Expr} {is : List Nat} (hN : X.N.Nodup) (h : Names X es is) (hi : X.N[i]? = some x := by rfl) (hx : Loc X.env.scope x := by first | exact Or.inl rfl | exact Or.inr rfl) (hf : X.fn x = true ∨ X.env.scope.names.lookup x = some .local := by first | exact .inl rfl | exact .inr rfl | assumption)
    (hs : (assignEach (.Name x pos :: es) X.env).map (·.2) = assign (.Name x pos) X.env :: (assignEach es X.env).map (·.2) := by rfl) : Names X (.Name x pos :: es) (i :: is) := by
  obtain ⟨t, p, r⟩ := h
  refine ⟨_, pgs_cons (pg_name (i := i) hN hi hx hf) p hs, fun vs σ H Q hl q => ?_⟩
  cases vs with
  | nil => cases hl
  | cons v vs => exact ⟨v, vs, rfl, r vs _ H Q (by simpa using hl) q⟩
theorem ds_parN {tgs es : List Expr} {is : List Nat} {kt k2 : Nat} {pt pt2 : Pos} {g : Envt → Tr (List Ent)} (ha : DPs cl X E es g) (hn : Names X tgs is) (hc : X.calm = true := by rfl) (hlen : (assignEach tgs X.env).length = is.length := by rfl) (hst : (assignEach tgs X.env).findIdx? (·.1) = none := by rfl)
    (hs : swapsWithSole [.Tuple tgs kt pt] (.Tuple es k2 pt2) pos.line X.env = pure false := by rfl) (hw : swappedStores [.Tuple tgs kt pt] (.Tuple es k2 pt2) X.env = pure none := by rfl) (h1 : (assignEach [.Tuple tgs kt pt] X.env).map (·.2) = [assign (.Tuple tgs kt pt) X.env] := by rfl) (hz : is.length ≤ 1000 := by decide) : DS cl X E (.Assign [.Tuple tgs kt pt] (.Tuple es k2 pt2) pos) (sPar is g) := by
  obtain ⟨t, p, r⟩ := ha
  obtain ⟨tg, pg, rg⟩ := hn
  refine ⟨_, ps_asg (pe_tup p) (pg_tup hc pg hlen hst) hs hw h1, fun F B ad σ H env N hk hcl o k => ?_⟩
  refine r F B ad σ H env _ hk hcl o (Tr.all_mono (fun es z vs H1 ps => ?_) (fun _ z => z) (Tr.all_bind k))
  have hl := ps.length
  cases hq : es.length == is.length with
  | false => rw [hq] at z; exact z.elim
  | true =>
    rw [hq] at z
    have hq := of_decide_eq_true hq
    refine ⟨by rw [hl, hq]; exact Nat.le_trans hz (by decide), fun T hT => ⟨T, vs, rfl, SqT.of upd_same, by rw [hl, hq], rg vs σ _ _ (by rw [hl, hq]) ?_⟩⟩
    obtain ⟨ad', o'⟩ := Ok.sets (ps.kx (Kx.new ps.all.dr hT)) is o fun _ q => q
    exact z ad' _ _ o'
end
end Mb

namespace Mb
open PySem L2
section
variable {cl : Nat → Addr} {X : Cx} {E : XK} {e a b c : Expr} {f g h : Envt → Tr D} {pos : Pos} {st : Stmt} {sts : List Stmt} {u v : Stm}
/-! y = [.. for ..] -/
theorem ds_setLc (i : Nat) {y : Str} {py spos : Pos} {elt tg iter : Expr} {ifs : List Expr} {scope : Scope} (own : List (Str × Nat)) {sl : List Nat} {gd : Tgt} {src : Envt → Tr (List D)} {t : Envt → Tr Bool} (hN : X.N.Nodup) (hi : DI cl X E tg iter src) (ok : BlkOk X.N X.env.scope scope own)
    (hg : ∀ (s : Shared) (H : Hp) (C : Addr) (cs : List (Str × Addr)) (fp : List Addr), DG (X.blk s H scope (compEnvC scope cs C X.env) fp) tg sl gd)
    (ht : ∀ (s : Shared) (H : Hp) (C : Addr) (cs : List (Str × Addr)) (fp : List Addr), DTs cl (X.blk s H scope (compEnvC scope cs C X.env) fp) E0 ifs t)
    (he : ∀ (s : Shared) (H : Hp) (C : Addr) (cs : List (Str × Addr)) (fp : List Addr), DE cl (X.blk s H scope (compEnvC scope cs C X.env) fp) E0 elt f)
    (hsw : swapsWith (.ListComp elt [⟨tg, iter, ifs, 0⟩] scope pos) (some (.Name y py)) spos.line X.env = pure true) (hsl : ∀ i ∈ sl, i ∈ own.map (·.2) := by decide) (hcalm : X.calm = true := by rfl) (hs : ∀ x, foldedSetIterable iter X.env x = pure x := by intro _; rfl) (hy : X.N[i]? = some y := by rfl) (hyl : X.env.scope.names.lookup y = some .local := by rfl) :
    DS cl X E (.Assign [.Name y py] (.ListComp elt [⟨tg, iter, ifs, 0⟩] scope pos) spos) (sSet i (vL (nLc (own.map (·.2)) src gd t f))) := by
  obtain ⟨wi, p, r⟩ := psLc (i := i) own hN hi ok hg ht he hsl hcalm hs hy hyl hsw
  refine ⟨_, p, fun F B ad σ H env N hk hc o k => ?_⟩
  refine r F B ad σ H env _ hk hc o (Tr.all_mono (fun ds z p H1 vs k1 hn hp rv => ?_) (fun _ z => z) (Tr.all_bind (Tr.all_bind k)))
  refine z _ _ H1 ((o.kx k1).setFz (.lst ?_ (rv.mono (mask_same fun a x n e => ⟨fun m => n (.inl m), e⟩))))
  rw [mask_out (o.notM hn)]; exact hp
theorem ds_ownLc (i : Nat) {y : Str} {py spos : Pos} {elt tg iter : Expr} {ifs : List Expr} {scope : Scope} (own : List (Str × Nat)) {sl : List Nat} {gd : Tgt} {src : Envt → Tr (List D)} {t : Envt → Tr Bool} (hN : X.N.Nodup) (hi : DI cl X E tg iter src) (ok : BlkOk X.N X.env.scope scope own)
    (hg : ∀ (s : Shared) (H : Hp) (C : Addr) (cs : List (Str × Addr)) (fp : List Addr), DG (X.blk s H scope (compEnvC scope cs C X.env) fp) tg sl gd)
    (ht : ∀ (s : Shared) (H : Hp) (C : Addr) (cs : List (Str × Addr)) (fp : List Addr), DTs cl (X.blk s H scope (compEnvC scope cs C X.env) fp) E0 ifs t)
    (he : ∀ (s : Shared) (H : Hp) (C : Addr) (cs : List (Str × Addr)) (fp : List Addr), DE cl (X.blk s H scope (compEnvC scope cs C X.env) fp) E0 elt f)
    (hsw : swapsWith (.ListComp elt [⟨tg, iter, ifs, 0⟩] scope pos) (some (.Name y py)) spos.line X.env = pure true) (hsl : ∀ i ∈ sl, i ∈ own.map (·.2) := by decide) (hcalm : X.calm = true := by rfl) (hs : ∀ x, foldedSetIterable iter X.env x = pure x := by intro _; rfl) (hy : X.N[i]? = some y := by rfl) (hyl : X.env.scope.names.lookup y = some .local := by rfl) :
    DS cl X E (.Assign [.Name y py] (.ListComp elt [⟨tg, iter, ifs, 0⟩] scope pos) spos) (sOwn i (nLc (own.map (·.2)) src gd t f)) := by
  obtain ⟨wi, p, r⟩ := psLc (i := i) own hN hi ok hg ht he hsl hcalm hs hy hyl hsw
  refine ⟨_, p, fun F B ad σ H env N hk hc o k => ?_⟩
  refine r F B ad σ H env _ hk hc o (Tr.all_mono (fun ds z p H1 vs k1 hn hp rv => ?_) (fun _ z => z) (Tr.all_bind k))
  exact z _ _ H1 (o.setOw k1 hn hp rv)
/-! return, expressions, if -/
def sRet (f : Envt → Tr D) : Stm := fun env => (f env).bind fun d => .ret (.rt d)
theorem ds_ret (he : DE cl X E e f) : DS cl X E (.Return (some e) pos) (sRet f) := by
  obtain ⟨t, p, r⟩ := he
  refine ⟨_, ps_ret p, fun F B ad σ H env N hk hc o k => ?_⟩
  refine r F B ad σ H env _ hk hc o (Tr.all_mono (fun d z v H1 k1 rv => ?_) (fun _ z => z) (Tr.all_bind k))
  exact z v H1 (o.k0.trans k1) (rv.mono (mm_O _ _))
def sRetN : Stm := fun _ => .ret (.rt .none)
theorem ds_retN : DS cl X E (.Return none pos) sRetN := ⟨_, ps_retN, fun F B ad σ H env N hk hc o k => k .non H o.k0 .non⟩
def sDrop (f : Envt → Tr D) : Stm := fun env => (f env).bind fun _ => .ret (.nx env)
theorem ds_expr (he : DE cl X E e f) (hs : swapsWith e none pos.line X.env = pure false := by rfl) : DS cl X E (.Expr e pos) (sDrop f) := by
  obtain ⟨t, p, r⟩ := he
  refine ⟨_, ps_expr p hs, fun F B ad σ H env N hk hc o k => ?_⟩
  refine r F B ad σ H env _ hk hc o (Tr.all_mono (fun d z v H1 k1 rv => ?_) (fun _ z => z) (Tr.all_bind k))
  exact z _ _ H1 (o.kx k1)
def sIf (c : Envt → Tr Bool) (u v : Stm) : Stm := fun env => (c env).bind fun b => if b then u env else v env
theorem ds_if {k : Envt → Tr Bool} {s1 s2 : List Stmt} (hc : DT cl X E c k) (ha : DSs cl X E s1 u) (hb : DSs cl X E s2 v) : DS cl X E (.If c s1 s2 pos) (sIf k u v) := by
  obtain ⟨t, p, r⟩ := hc
  obtain ⟨ta, pa, ra⟩ := ha
  obtain ⟨tb, pb, rb⟩ := hb
  refine ⟨_, ps_if p pa pb, fun F B ad σ H env N hk hc o k => ?_⟩
  refine r F B ad σ H env _ hk hc o (Tr.all_mono (fun x z H1 k1 => ?_) (fun _ z => z) (Tr.all_bind k))
  cases x with
  | true => exact iteT (ra F B ad σ H1 env N hk hc (o.kx k1) z)
  | false => exact iteF (rb F B ad σ H1 env N hk hc (o.kx k1) z)
def sBreak : Stm := fun env => .ret (.bk env)
def sCont : Stm := fun env => .ret (.ct env)
theorem ds_break : DS cl X E (.Break pos) sBreak := ⟨_, ps_break, fun F B ad σ H env N hk hc o k => k ad σ H o⟩
theorem ds_cont : DS cl X E (.Continue pos) sCont := ⟨_, ps_continue, fun F B ad σ H env N hk hc o k => k ad σ H o⟩
theorem ds_pass : DS cl X E (.Pass pos) sNil := ⟨_, ps_pass, fun F B ad σ H env N hk hc o k => k ad σ H o⟩
/-! while: so many turns at most -/
def sWhile (c : Envt → Tr Bool) (u : Stm) : Nat → Stm
  | 0 => fun _ => .bad
  | n + 1 => fun env => (c env).bind fun b => if b then (u env).bind fun o => match o with
      | .nx env' => sWhile c u n env'
      | .ct env' => sWhile c u n env'
      | .bk env' => .ret (.nx env')
      | .rt d => .ret (.rt d)
    else .ret (.nx env)
theorem ds_while (n : Nat) {k : Envt → Tr Bool} (hp : PassesOwn (model X.prog X.w) X.A X.env X.xe) (hc : DT cl X E c k) (hb : DSs cl X E sts u) : DS cl X E (.While c sts [] pos) (sWhile k u n) := by
  obtain ⟨t, p, r⟩ := hc
  obtain ⟨tb, pb, rb⟩ := hb
  refine ⟨_, ps_while hp p pb, fun F B ad σ H env N hk hc o z => ?_⟩
  refine ⟨fun m σ H => ∃ ad env, Ok F B ad σ H env ∧ (sWhile k u m env).all (SPost F B N) (EOk F E), ⟨n, ad, env, o, z⟩, ?_⟩
  rintro m σ H ⟨ad, env, o, z⟩
  cases m with
  | zero => exact z.elim
  | succ m =>
    refine r F B ad σ H env _ hk hc o (Tr.all_mono (fun x z H1 k1 => ?_) (fun _ z => z) (Tr.all_bind z))
    cases x with
    | false => exact iteF (z ad σ H1 (o.kx k1))
    | true =>
      refine iteT ⟨fun σ' H' => ∃ ad env, Ok F B ad σ' H' env ∧ (sWhile k u m env).all (SPost F B N) (EOk F E), fun σ' H' q => ⟨m, Nat.lt_succ_self m, q⟩, ?_⟩
      refine rb F B ad σ H1 env _ hk hc (o.kx k1) (Tr.all_mono (fun ou z => ?_) (fun _ z => z) (Tr.all_bind z))
      cases ou with
      | nx env' => exact fun ad' σ' H' o' => ⟨ad', env', o', z⟩
      | ct env' => exact fun ad' σ' H' o' => ⟨ad', env', o', z⟩
      | bk env' => exact z
      | rt d => exact z
/-! for -/
def sForL (gd : Tgt) (u : Stm) : List D → Stm
  | [] => fun env => .ret (.nx env)
  | d :: ds => fun env => (ofO (gd d env)).bind fun env1 => (u env1).bind fun o => match o with
      | .nx env' => sForL gd u ds env'
      | .ct env' => sForL gd u ds env'
      | .bk env' => .ret (.nx env')
      | .rt d => .ret (.rt d)
def sFor (src : Envt → Tr (List D)) (gd : Tgt) (u : Stm) : Stm := fun env => (src env).bind fun ds => sForL gd u ds env
theorem ds_for {tg iter : Expr} {src : Envt → Tr (List D)} {sl : List Nat} {gd : Tgt} (hp : PassesOwn (model X.prog X.w) X.A X.env X.xe) (hi : DI cl X E tg iter src) (hg : DG X tg sl gd) (hb : DSs cl X E sts u) (hc : X.calm = true := by rfl) (hs : ∀ x, foldedSetIterable iter X.env x = pure x := by intro _; rfl) :
    DS cl X E (.For tg iter sts [] pos) (sFor src gd u) := by
  obtain ⟨wi, pi, ri⟩ := hi
  obtain ⟨g, pg, rg⟩ := hg
  obtain ⟨tb, pb, rb⟩ := hb
  refine ⟨_, ps_for hp hc pi pg pb hs, fun F B ad σ H env N hk hc o k => ?_⟩
  refine ri F B ad σ H env _ hk hc o (Tr.all_mono (fun ds z J H1 k1 yl => ?_) (fun _ z => z) (Tr.all_bind k))
  have o1 := o.kx k1
  refine ⟨fun i m σ H => m = ds.length - i ∧ i ≤ ds.length ∧ ∃ ad' env', Ok F (mask H1 (Mm F ad)) ad' σ H env' ∧ (sForL gd u (ds.drop i) env').all (SPost F B N) (EOk F E), ⟨_, rfl, Nat.zero_le _, ad, env, o1.ground, by rw [List.drop_zero]; exact z⟩, ?_⟩
  rintro i m σ H ⟨rfl, hil, ad', env', o', z⟩
  have yi := yl i H (Mm F ad') o'.hb o'.k0.dr fun p hp => o'.notM hp
  by_cases hlt : i < ds.length
  · have hd : ds[i]? = some ds[i] := List.getElem?_eq_getElem hlt
    rw [List.drop_eq_getElem_cons hlt] at z
    obtain ⟨go, yld⟩ := yi.1 _ hd
    refine .inr ⟨go, fun σ' H' => ∃ ad' env', Ok F (mask H1 (Mm F ad)) ad' σ' H' env' ∧ (sForL gd u (ds.drop (i + 1)) env').all (SPost F B N) (EOk F E), fun σ' H' q => ⟨ds.length - (i + 1), by omega, rfl, by omega, q⟩, fun x H2 y => ?_⟩
    obtain ⟨k2, rx⟩ := yld x H2 y
    have z := Tr.all_bind z
    cases hgd : gd ds[i] env' with
    | none => rw [hgd] at z; exact z.elim
    | some env1 =>
      rw [hgd] at z
      refine rg F _ ad' σ H2 env' env1 x _ _ hk (o'.kx k2) rx hgd fun ad2 σ2 o2 _ _ _ => ?_
      refine rb F _ ad2 σ2 H2 env1 _ hk hc o2 (Tr.all_mono (fun ou z => ?_) (fun _ z => z) (Tr.all_bind z))
      cases ou with
      | nx env' => exact fun ad' σ' H' o' => ⟨ad', env', o', z⟩
      | ct env' => exact fun ad' σ' H' o' => ⟨ad', env', o', z⟩
      | bk env' => exact fun ad' σ' H' o' => z ad' σ' H' (o'.base o1.hb)
      | rt d => exact z
  · have ei : i = ds.length := by omega
    subst ei
    rw [List.drop_length] at z
    exact .inl ⟨yi.2 (Nat.le_refl _), z ad' σ H (o'.base o1.hb)⟩
/-! a slot's own list -/
def sApp (i : Nat) (f : Envt → Tr D) : Stm := fun env => match env[i]? with
  | some (.ow ds) => (f env).bind fun d => if small ds.length then .ret (.nx (env.set i (.ow (ds ++ [d])))) else .bad
  | _ => .bad
theorem ds_append (i : Nat) {x : Str} {p p2 : Pos} {cpos : Pos} (he : DE cl X E a f) (hN : X.N[i]? = some x := by rfl) (hv : Vis X.env.scope x := by first | exact Or.inl rfl | exact Or.inr (Or.inl rfl) | exact Or.inr (Or.inr rfl)) (hd : (x == ("__debug__" : Str)) = false := by decide)
    (hcd : (x == ("__classdict__" : Str)) = false := by decide) (hbase : attributeBase (.Name x p) "append" X.env (eval (.Name x p) X.env) = eval (.Name x p) X.env := by rfl)
    (hfew : ((backTo cpos (starEach [a] X.env)).all (fun x => !x.1) && (backToKw cpos (keywordEach [] X.env)).all (fun x => x.1.isSome) && decide ([a].length + ([] : List Keyword).length + (if ([] : List Keyword).isEmpty then 0 else 1) < 30)) = true := by rfl)
    (hline : (p2.endLine == cpos.line) = true := by rfl) (hs : starEach [a] X.env = (false, eval a X.env) :: starEach [] X.env := by rfl) (hplain : (backTo cpos (starEach [] X.env)).any (·.1) = false := by rfl) (hsw : swapsWith (.Call (.Attribute (.Name x p) "append" p2) [a] [] cpos) none pos.line X.env = pure false := by rfl) :
    DS cl X E (.Expr (.Call (.Attribute (.Name x p) "append" p2) [a] [] cpos) pos) (sApp i f) := by
  obtain ⟨t, pe, r⟩ := he
  refine ⟨_, ps_expr (pe_bm PySem.F.plainAttrs_list PySem.F.slot_list_append PySem.F.type_list_append mt_append (pe_var (i := i) hN hv hd hcd) (pa_cons pe pa_nil hs) hbase hfew hline hs hplain) hsw, fun F B ad σ H env N hk hc o k => ?_⟩
  unfold sApp at k
  split at k
  · rename_i ds he
    obtain ⟨oa, sv, e1, e2, p, vs, rfl, rfl, hp, rp⟩ := o.at_ he
    refine ⟨_, e2, .inl ⟨rfl, vs, SqL.of hp⟩, r F B ad σ H env _ hk hc o (Tr.all_mono (fun d z v H1 k1 rv => ?_) (fun _ z => z) (Tr.all_bind k))⟩
    have hp1 : H1 p = some (.lst vs) := k1.keep _ _ hp (o.notdl e1)
    cases hsm : small ds.length with
    | false => rw [hsm] at z; exact z.elim
    | true =>
      rw [hsm] at z
      refine ⟨p, vs, v, rfl, rfl, hp1, ?_, ?_⟩
      · rw [rp.length]; exact Nat.lt_of_le_of_lt (of_decide_eq_true hsm) (by decide)
      · have z : SPost F B N (.nx (env.set i (.ow (ds ++ [d])))) := z
        exact z ad σ _ ((o.kx k1).putOw he e1 ((rp.mono k1.msame).append (.cons rv .nil)))
  · exact k.elim
/-- x[i] = v of an own list -/
def sPut (i : Nat) (gi f : Envt → Tr D) : Stm := fun env => (f env).bind fun d => match env[i]? with
  | some (.ow ds) => (gi env).bind fun j => match j with
    | .int j => match ixN ds.length j with
      | some n => .ret (.nx (env.set i (.ow (ds.set n d))))
      | none => .bad
    | _ => .bad
  | _ => .bad
theorem ds_put (i : Nat) {x : Str} {p p2 : Pos} (he : DE cl X E e f) (hi : DE cl X E b g) (hN : X.N[i]? = some x := by rfl) (hv : Vis X.env.scope x := by first | exact Or.inl rfl | exact Or.inr (Or.inl rfl) | exact Or.inr (Or.inr rfl)) (hd : (x == ("__debug__" : Str)) = false := by decide)
    (hcd : (x == ("__classdict__" : Str)) = false := by decide) (ha : ∀ v, assign (.Subscript (.Name x p) b p2) X.env v = (do
      let ov ← holding [v] (eval (.Name x p) X.env)
      let iv ← holding [v, ov] (eval b X.env)
      standAt p2
      holding [v, ov, iv] (setItem ov iv v)
      release [v, ov, iv] []) := by intro _; rfl) (hs : swapsWithSole [.Subscript (.Name x p) b p2] e pos.line X.env = pure false := by rfl) (hw : swappedStores [.Subscript (.Name x p) b p2] e X.env = pure none := by rfl)
    (h1 : (assignEach [.Subscript (.Name x p) b p2] X.env).map (·.2) = [assign (.Subscript (.Name x p) b p2) X.env] := by rfl) : DS cl X E (.Assign [.Subscript (.Name x p) b p2] e pos) (sPut i g f) := by
  obtain ⟨t, pe, r⟩ := he
  obtain ⟨ti, pi, ri⟩ := hi
  refine ⟨_, ps_asg pe (pg_sub (pe_var (i := i) hN hv hd hcd) pi set_list ha) hs hw h1, fun F B ad σ H env N hk hc o k => ?_⟩
  refine r F B ad σ H env _ hk hc o (Tr.all_mono (fun d z v H1 k1 rv => ?_) (fun _ z => z) (Tr.all_bind k))
  have o1 := o.kx k1
  split at z
  · rename_i ds he
    obtain ⟨oa, sv, e1, e2, p, vs, rfl, rfl, hp, rp⟩ := o1.at_ he
    refine ⟨_, e2, ri F B ad σ H1 env _ hk hc o1 (Tr.all_mono (fun j z y H2 k2 ry => ?_) (fun _ z => z) (Tr.all_bind z))⟩
    have o2 := o1.kx k2
    have hp2 : H2 p = some (.lst vs) := k2.keep _ _ hp (o1.notdl e1)
    cases ry with
    | int j =>
      have z : (match ixN ds.length j with
        | some n => Tr.ret (Out.nx (env.set i (.ow (ds.set n d))))
        | none => .bad).all (SPost F B N) (EOk F E) := z
      cases hx : ixN ds.length j with
      | none => rw [hx] at z; exact z.elim
      | some n =>
        rw [hx] at z
        refine ⟨p, vs, j, n, rfl, rfl, hp2, by rw [rp.length]; exact hx, ?_⟩
        have z : SPost F B N (.nx (env.set i (.ow (ds.set n d)))) := z
        exact z ad σ _ (o2.putOw he e1 ((rp.mono k2.msame).set (rv.mono k2.msame) n))
    | _ => exact z.elim
  · exact z.elim
/-- x[i] += e of an own list of ints -/
def rGetL (K : PySem.W.Frag) : V → V → Hp → VK → Prop := fun x y H Q => ∃ p xs i v, x = .ref p ∧ y = .int i ∧ SqL K H p xs ∧ 0 ≤ i ∧ i < 2 ^ 63 ∧ xs[i.toNat]? = some v ∧ Q v H
theorem get_list : PGet X (rGetL X.K) := by
  intro pins s σ H x y ov iv Q I rx ry h
  obtain ⟨p, xs, i, v, rfl, rfl, hs, h0, h1, hx, q⟩ := h
  cases rx
  obtain ⟨t, rfl⟩ := ry
  obtain ⟨its, r, hl, _⟩ := I.list hs
  obtain ⟨u, e1, e2⟩ := r.get hx
  exact wpAny_getItem_list hl.isList h0 h1 (by simpa using e1) ⟨v, H, I, e2, q⟩
def sAugI (i : Nat) (gi f : Envt → Tr D) : Stm := fun env => match env[i]? with
  | some (.ow ds) => (gi env).bind fun j => match j with
    | .int j => if decide (0 ≤ j) && decide (j < 1000000) then match ds[j.toNat]? with
      | some (.int old) => (f env).bind fun d => match d with
        | .int y => .ret (.nx (env.set i (.ow (ds.set j.toNat (.int (old + y))))))
        | _ => .bad
      | _ => .bad
      else .bad
    | _ => .bad
  | _ => .bad
theorem ds_augI (i : Nat) {x : Str} {p p2 : Pos} (hi : DE cl X E b g) (he : DE cl X E e f) (hN : X.N[i]? = some x := by rfl) (hv : Vis X.env.scope x := by first | exact Or.inl rfl | exact Or.inr (Or.inl rfl) | exact Or.inr (Or.inr rfl)) (hd : (x == ("__debug__" : Str)) = false := by decide)
    (hcd : (x == ("__classdict__" : Str)) = false := by decide) (ha : ∀ ov iv new, augStore b ov iv new = (do holding [new, ov, iv] (setItem ov iv new); release [new, ov, iv] []; pure .next) := by intros; rfl) : DS cl X E (.AugAssign (.Subscript (.Name x p) b p2) .Add e pos) (sAugI i g f) := by
  obtain ⟨t, pe, r⟩ := he
  obtain ⟨ti, pi, ri⟩ := hi
  refine ⟨_, ps_augS (pe_var (i := i) hN hv hd hcd) pi get_list pe ip_add set_list ha, fun F B ad σ H env N hk hc o k => ?_⟩
  unfold sAugI at k
  split at k
  · rename_i ds he
    obtain ⟨oa, sv, e1, e2, p, vs, rfl, rfl, hp, rp⟩ := o.at_ he
    refine ⟨_, e2, ri F B ad σ H env _ hk hc o (Tr.all_mono (fun j z y H1 k1 ry => ?_) (fun _ z => z) (Tr.all_bind k))⟩
    have o1 := o.kx k1
    have hp1 : H1 p = some (.lst vs) := k1.keep _ _ hp (o.notdl e1)
    have rp1 := rp.mono k1.msame
    cases ry with
    | int j =>
      have z : (if decide (0 ≤ j) && decide (j < 1000000) then match ds[j.toNat]? with
        | some (.int old) => (f env).bind fun d => match d with
          | .int y => Tr.ret (Out.nx (env.set i (.ow (ds.set j.toNat (.int (old + y))))))
          | _ => .bad
        | _ => .bad
        else .bad).all (SPost F B N) (EOk F E) := z
      cases hb : decide (0 ≤ j) && decide (j < 1000000) with
      | false => rw [hb] at z; exact z.elim
      | true =>
        rw [hb] at z
        rw [Bool.and_eq_true] at hb
        have j0 := of_decide_eq_true hb.1
        have j1 := of_decide_eq_true hb.2
        cases hx : ds[j.toNat]? with
        | none => rw [hx] at z; exact z.elim
        | some od =>
          rw [hx] at z
          obtain ⟨ov, h1, h2⟩ := rp1.getD hx
          cases h2 with
          | int old =>
            have z : ((f env).bind fun d => match d with
              | .int y => Tr.ret (Out.nx (env.set i (.ow (ds.set j.toNat (.int (old + y))))))
              | _ => .bad).all (SPost F B N) (EOk F E) := z
            refine ⟨p, vs, j, .int old, rfl, rfl, SqL.of hp1, j0, by omega, h1, r F B ad σ H1 env _ hk hc o1 (Tr.all_mono (fun d z w H2 k2 rw' => ?_) (fun _ z => z) (Tr.all_bind z))⟩
            cases rw' with
            | int y =>
              have hp2 : H2 p = some (.lst vs) := k2.keep _ _ hp1 (o.notdl e1)
              have hj : j.toNat < vs.length := (List.getElem?_eq_some_iff.mp h1).1
              refine ⟨old, y, rfl, rfl, p, vs, j, j.toNat, rfl, rfl, hp2, ?_, ?_⟩
              · unfold ixN
                rw [if_pos j0, if_pos (by omega)]
              · have z : SPost F B N (.nx (env.set i (.ow (ds.set j.toNat (.int (old + y)))))) := z
                exact z ad σ _ ((o1.kx k2).putOw he e1 ((rp1.mono k2.msame).set (.int _) _))
            | _ => exact z.elim
          | _ => exact z.elim
    | _ => exact z.elim
  · exact k.elim
/-- x += e: an int, or a slot's own list -/
def sAug (i : Nat) (f : Envt → Tr D) : Stm := fun env => match env[i]? with
  | some (.fz (.int n)) => (f env).bind fun d => match d with
    | .int y => .ret (.nx (env.set i (.fz (.int (n + y)))))
    | _ => .bad
  | some (.ow ds) => (f env).bind fun d => match d with
    | .list es => if small (ds.length + es.length) then .ret (.nx (env.set i (.ow (ds ++ es)))) else .bad
    | _ => .bad
  | _ => .bad
theorem set_same {σ : St} {i : Nat} {v : V} (h : σ[i]? = some (some v)) : σ.set i (some v) = σ := by
  apply List.ext_getElem?
  intro j
  by_cases hij : i = j
  · subst hij
    rw [List.getElem?_set_self (List.getElem?_eq_some_iff.mp h).1, h]
  · rw [List.getElem?_set_ne hij]
theorem ds_aug (i : Nat) {x : Str} {p : Pos} (hN : X.N.Nodup) (he : DE cl X E e f) (hi : X.N[i]? = some x := by rfl) (hx : Loc X.env.scope x := by first | exact Or.inl rfl | exact Or.inr rfl) (hf : X.fn x = true ∨ X.env.scope.names.lookup x = some .local := by first | exact .inl rfl | exact .inr rfl | assumption) :
    DS cl X E (.AugAssign (.Name x p) .Add e pos) (sAug i f) := by
  obtain ⟨t, pe, r⟩ := he
  refine ⟨_, ps_aug (i := i) hN hi hx pe (op := .Add) (ti := fun x y H Q => (ipI fun i j => i + j) x y H Q ∨ rExt2 x y H Q) (fun pins s σ H x y v u Q I rx ry q => q.elim (ip_add pins s σ H x y v u Q I rx ry) (iop_ext pins s σ H x y v u Q I rx ry)) hf, fun F B ad σ H env N hk hc o k => ?_⟩
  unfold sAug at k
  split at k
  · rename_i n he
    obtain ⟨oa, sv, e1, e2, q1, v, rfl, rv⟩ := o.at_ he
    cases rv
    refine ⟨_, e2, r F B ad σ H env _ hk hc o (Tr.all_mono (fun d z y H1 k1 ry => ?_) (fun _ z => z) (Tr.all_bind k))⟩
    cases ry with
    | int y => exact .inl ⟨n, y, rfl, rfl, z _ _ H1 ((o.kx k1).setFz (.int _))⟩
    | _ => exact z.elim
  · rename_i ds he
    obtain ⟨oa, sv, e1, e2, p, vs, rfl, rfl, hp, rp⟩ := o.at_ he
    refine ⟨_, e2, r F B ad σ H env _ hk hc o (Tr.all_mono (fun d z y H1 k1 ry => ?_) (fun _ z => z) (Tr.all_bind k))⟩
    cases ry with
    | @lst q ys es h1 h2 =>
      have z : (if small (ds.length + es.length) then Tr.ret (Out.nx (env.set i (.ow (ds ++ es)))) else .bad).all (SPost F B N) (EOk F E) := z
      cases hsm : small (ds.length + es.length) with
      | false => rw [hsm] at z; exact z.elim
      | true =>
        rw [hsm] at z
        refine .inr ⟨p, q, vs, ys, rfl, rfl, k1.keep _ _ hp (o.notdl e1), (mask_some h1).2, by rw [rp.length, h2.length]; exact small_le hsm, ?_⟩
        show N.nx (σ.set i (some (V.ref p))) _
        rw [set_same e2]
        exact z ad σ _ ((o.kx k1).putOw he e1 ((rp.mono k1.msame).append h2))
    | _ => exact z.elim
  · exact k.elim
/-! raise -/
def sRaise (c : Nat) : Stm := fun _ => .exc c
theorem ds_raise (c : Nat) {x m : Str} {j : Nat} {p p2 p3 : Pos} {bmB : List Value} {Bc newId initId : String} (tk : Takes X (fun cls d _ H => E cls d H)) (Fb : ExcBaseFacts Bc newId initId bmB) (q : PySem.W.excIn X.K (cl c) bmB newId = true) (gC : X.mg x = some (.ref (cl c))) (kC : PySem.W.keepIn X.K (.ref (cl c)) = true)
    (bC : PySem.W.subIn X.K (.ref (cl c)) (.type "BaseException") = some true) (tC : PySem.W.typeIn X.K (.ref (cl c)) = some (.type "type")) (hg : Gl X x := by rfl) (hc : X.calm = true := by rfl) (hdb : (x == ("__debug__" : Str)) = false := by decide) :
    DS cl X E (.Raise (some (.Call (.Name x p) [.Constant (.str m) j p2] [] p3)) none pos) (sRaise c) := by
  refine ⟨_, ps_raise hc tk (pmk_own Fb q gC kC (raises_own bC tC) hg hdb), fun F B ad σ H env N hk hcl o k => ?_⟩
  have := k H o.k0
  rw [hcl] at this
  exact this
end

/-! ### a def -/
def runB (N n : Nat) (u : Stm) : List Ent → Tr D := fun es => (u (es ++ List.replicate (N - n) .un)).bind fun o => match o with
  | .nx _ => .ret .none
  | .rt d => .ret d
  | _ => .bad
section
variable {P : Program} {w : World} {K : PySem.W.Frag} {mg : Str → Option Value} {base : Heap} {cl : Nat → Addr}
theorem start_ok {F : Fx} {N : List Str} {vs : List V} {es : List Ent} (hargs : ArgsOk F.K F.cl F.dt (mask F.H0 F.O) vs es) : Ok F (mask F.H0 F.O) (List.replicate (es.length + (N.length - es.length)) none) (L2.start N vs) F.H0 (es ++ List.replicate (N.length - es.length) .un) := by
  have hl := hargs.length
  have hM : Mm F (List.replicate (es.length + (N.length - es.length)) none) = F.O := by
    funext a
    apply propext
    constructor
    · rintro (q | q)
      · exact q
      · cases List.eq_of_mem_replicate q
    · exact .inl
  refine ⟨by rw [hM]; exact Same.refl _, Kx.refl F.d0, ?_, by simp, fun i oa sv e h1 h2 h3 => ?_, fun i j a h1 h2 => ?_, fun i a h => ?_⟩
  · unfold L2.start
    simp [hl]
  · have ho : oa = none := by
      have := List.mem_of_getElem? h1
      exact List.eq_of_mem_replicate this
    subst ho
    by_cases hi : i < es.length
    · rw [List.getElem?_append_left hi] at h3
      have hv : i < (vs.map some).length := by rw [List.length_map, hl]; exact hi
      unfold L2.start at h2
      rw [List.getElem?_append_left hv, List.getElem?_map] at h2
      have : ∀ {vs : List V} {es : List Ent} {i : Nat} {e : Ent}, ArgsOk F.K F.cl F.dt (mask F.H0 F.O) vs es → es[i]? = some e → ∃ v, vs[i]? = some v ∧ ArgOk F.K F.cl F.dt (mask F.H0 F.O) v e := by
        intro vs es i e h
        induction h generalizing i with
        | nil => intro q; simp at q
        | cons ha _ ih =>
          intro q
          cases i with
          | zero => simp at q; subst q; exact ⟨_, rfl, ha⟩
          | succ i => simp at q; simpa using ih q
      obtain ⟨v, e1, e2⟩ := this hargs h3
      rw [e1] at h2; cases h2
      cases e with
      | un => exact rfl
      | fz d => exact ⟨rfl, v, rfl, by rw [hM]; exact e2⟩
      | ow ds => exact e2.elim
      | od ds => exact e2.elim
      | dr => obtain ⟨a, n, q1, q2⟩ := e2; exact ⟨rfl, a, n, q1, by rw [q2]⟩
      | ex c => obtain ⟨a, q1, q2⟩ := e2; exact ⟨rfl, a, by rw [q1], by rw [hM]; exact q2⟩
    · rw [List.getElem?_append_right (by omega)] at h3
      have := List.eq_of_mem_replicate (List.mem_of_getElem? h3)
      subst this
      exact rfl
  · cases List.eq_of_mem_replicate (List.mem_of_getElem? h1)
  · cases List.eq_of_mem_replicate (List.mem_of_getElem? h)
open PySem.Spec PyProof.Rows in
theorem fn_ok {x qual : Str} {st : Stmt} {f : Addr} {fd : FuncData} {N ps : List Str} {k n : Nat} {u : Stm} (F : Fun K x qual st f fd) (S : FnScope N ps (defScope st)) (hps : ps.length = n)
    (hbody : ∀ (cdv : Value) (A : Around) (outer : List Env) (s : Shared) (H : Hp) (E : XK), Room k (A.deeper (envOfC qual (defScope st) s.heap.objs.size f cdv)) →
      DSs cl (cxOf (L2.CX P w) P w K mg base N qual (defScope st) f cdv A outer s H E) E (defBody st) u) : FnOk P w K mg base (L2.CX P w) (k + 1) f fd ps (spD K cl n (runB N.length n u)) := by
  refine F.okX S (fun vs H Q E h => ?_) (fun cdv A outer s H vs Q E hr h => ?_)
  · obtain ⟨O, dt, es, hl, _, _, _, ha, _⟩ := h
    rw [ha.length, hl, hps]
  · obtain ⟨O, dt, es, hl, h1, h2, h3, ha, hm⟩ := h
    obtain ⟨t, p, r⟩ := hbody cdv A outer s H E hr
    refine ⟨t, p, ?_⟩
    have o := start_ok (F := ⟨K, cl, H, O, dt, h1, h2, h3⟩) (N := N) (vs := vs) (es := es) ha
    refine r ⟨K, cl, H, O, dt, h1, h2, h3⟩ _ _ _ H _ _ rfl rfl o (Tr.all_mono (fun ou z => ?_) (fun c z => z) (Tr.all_bind (by unfold runB at hm; rw [← hl] at hm; exact hm)))
    cases ou with
    | nx env => exact fun ad σ H' o' => z .non H' o'.k0 .non
    | rt d => exact fun v H' k rv => z v H' k rv
    | bk env => exact z.elim
    | ct env => exact z.elim
end
end Mb

namespace Mb
open PySem L2

/-! ### the text's own things -/
/-- a def as it stands behind the top -/
structure DefAt (K : PySem.W.Frag) (mg : Str → Option Value) (x : Str) (st : Stmt) (ps : List Str) : Prop where
  ex : ∃ f fd, Fun K x x st f fd ∧ mg x = some (.ref f) ∧ Binds K fd ps []
/-- a def whose promise is kept -/
structure Cal (P : Program) (w : World) (K : PySem.W.Frag) (mg : Str → Option Value) (base : Heap) (cl : Nat → Addr) (x : Str) (k n : Nat) (m : List Ent → Tr D) : Prop where
  ex : ∃ f fd ps, FnOk P w K mg base (L2.CX P w) k f fd ps (spD K cl n m) ∧ mg x = some (.ref f) ∧ PySem.W.keepIn K (.ref f) = true ∧ Binds K fd ps []
/-- a constant of the module -/
structure GlobAt (K : PySem.W.Frag) (mg : Str → Option Value) (x : Str) (d : D) : Prop where
  ex : ∃ v u, mg x = some u ∧ RelV v u ∧ ∀ H, Rep K H v d
/-- an exception of the text's own -/
structure ExcAt (K : PySem.W.Frag) (mg : Str → Option Value) (x : Str) (C : Addr) : Prop where
  q : PySem.W.excIn K C [.type "ValueError", .type "Exception", .type "BaseException", .type "object"] "ValueError.__new__" = true
  g : mg x = some (.ref C)
  k : PySem.W.keepIn K (.ref C) = true
  b : PySem.W.subIn K (.ref C) (.type "BaseException") = some true
  t : PySem.W.typeIn K (.ref C) = some (.type "type")
section
variable {P : Program} {w : World} {K : PySem.W.Frag} {mg : Str → Option Value} {base : Heap} {cl : Nat → Addr}
open PySem.Spec PyProof.Rows in
theorem cal_of {x : Str} {st : Stmt} {N ps : List Str} {k n : Nat} {u : Stm} (T : DefAt K mg x st ps) (S : FnScope N ps (defScope st)) (hps : ps.length = n)
    (hbody : ∀ (f : Addr) (cdv : Value) (A : Around) (outer : List Env) (s : Shared) (H : Hp) (E : XK), Room k (A.deeper (envOfC x (defScope st) s.heap.objs.size f cdv)) →
      DSs cl (cxOf (L2.CX P w) P w K mg base N x (defScope st) f cdv A outer s H E) E (defBody st) u) : Cal P w K mg base cl x (k + 1) n (runB N.length n u) := by
  obtain ⟨f, fd, F, g, b⟩ := T.ex
  exact ⟨f, fd, ps, fn_ok F S hps (fun cdv A outer s H E hr => hbody f cdv A outer s H E hr), g, F.kp, b⟩
theorem defAt_mk {x : Str} {st : Stmt} {ps : List Str} {f : Addr} {oc : Value} {od an : Option Addr} {osl : Array (Option Value)} {kV doc pm cdv ct : Value} (g : mg x = some (.ref f)) (l : K.lookup f = some ⟨oc, od, .func (PySem.W.fnOf x x (defArgs st) (defBody st) (defScope st) .none kV doc pm an cdv ct), osl⟩)
    (c : PySem.W.codeIn K cdv x = true) (k : PySem.W.keepIn K (.ref f) = true)
    (h : ∀ (kV doc pm : Value) (an : Option Addr) (cdv ct : Value) (us : List Value), us.length = ps.length → bindArgs (PySem.W.fnOf x x (defArgs st) (defBody st) (defScope st) .none kV doc pm an cdv ct) ⟨us, []⟩ = pure (ps.zip us)) : DefAt K mg x st ps :=
  have F := fun_mk (st := st) l c k
  ⟨f, _, F, g, F.binds h⟩
theorem globAt_int {x : Str} {i : Int} {t : Tok} (g : mg x = some (.int i t)) : GlobAt K mg x (.int i) := ⟨.int i, _, g, ⟨t, rfl⟩, fun _ => .int i⟩
theorem globAt_str {x : Str} {i : Str} {t : Tok} (g : mg x = some (.str i t)) : GlobAt K mg x (.str i) := ⟨.str i, _, g, ⟨t, rfl⟩, fun _ => .str i⟩
/-- flat values of a written tuple -/
def flatOf : Value → Option (V × D)
  | .int i _ => some (.int i, .int i)
  | .str x _ => some (.str x, .str x)
  | .none => some (.non, .none)
  | .bool b => some (.bl b, .bool b)
  | _ => none
theorem flats_rep : ∀ {us : List Value} {ds : List D}, (us.map fun u => (flatOf u).map (·.2)) = ds.map some → ∃ vs, Vals vs us ∧ ∀ H, RepAll K H vs ds
  | [], [], _ => ⟨[], .nil, fun _ => .nil⟩
  | [], _ :: _, h => by cases h
  | _ :: _, [], h => by cases h
  | u :: us, d :: ds, h => by
    rw [List.map_cons, List.map_cons] at h
    injection h with h1 h2
    obtain ⟨vs, r, q⟩ := flats_rep h2
    cases u with
    | int i t => cases h1; exact ⟨.int i :: vs, .cons ⟨t, rfl⟩ r, fun H => .cons (.int i) (q H)⟩
    | str i t => cases h1; exact ⟨.str i :: vs, .cons ⟨t, rfl⟩ r, fun H => .cons (.str i) (q H)⟩
    | none => cases h1; exact ⟨.non :: vs, .cons rfl r, fun H => .cons .non (q H)⟩
    | bool b => cases h1; exact ⟨.bl b :: vs, .cons rfl r, fun H => .cons (.bl b) (q H)⟩
    | _ => cases h1
theorem globAt_tup {x : Str} {a : Addr} {dd : Option Addr} {us : List Value} {n : Nat} {sl : Array (Option Value)} {ds : List D} (g : mg x = some (.ref a)) (l : K.lookup a = some ⟨.type "tuple", dd, .seq us.toArray n, sl⟩) (hz : us.length ≤ 1000) (h : (us.map fun u => (flatOf u).map (·.2)) = ds.map some) : GlobAt K mg x (.tuple ds) := by
  obtain ⟨vs, r, q⟩ := flats_rep (K := K) h
  refine ⟨.ref a, _, g, rfl, fun H => .tup (.inr ⟨_, us.toArray, n, l, rfl, rfl, ?_, by simpa using r⟩) (q H)⟩
  rw [List.size_toArray]; exact Nat.le_trans hz (by decide)
end
section
variable {cl : Nat → Addr} {X : Cx} {E : XK} {e a b c : Expr} {f g h : Envt → Tr D} {pos : Pos} {st : Stmt} {sts : List Stmt} {u v : Stm}
theorem de_fn {k n : Nat} {m : List Ent → Tr D} {x : Str} {es : List Expr} {p : Pos} {g : Envt → Tr (List Ent)} (G : Cal X.prog X.w X.K X.mg X.base cl x k n m) (hr : Room k X.A) (hx : Passes (L2.CX X.prog X.w) X E) (ha : DA cl X E (e :: es) g) (hg : Gl X x := by rfl) (hdb : (x == ("__debug__" : Str)) = false := by decide)
    (he : starEach (e :: es) X.env = (false, eval e X.env) :: starEach es X.env := by rfl) (hpl : (backTo pos (starEach es X.env)).any (·.1) = false := by rfl) : DE cl X E (.Call (.Name x p) (e :: es) [] pos) (vCall n m g) := by
  obtain ⟨f, fd, ps, G, g, kp, b⟩ := G.ex
  exact de_call G hr hx g kp b ha hg hdb he hpl
theorem de_fn0 {k n : Nat} {m : List Ent → Tr D} {x : Str} {p : Pos} (G : Cal X.prog X.w X.K X.mg X.base cl x k n m) (hr : Room k X.A) (hx : Passes (L2.CX X.prog X.w) X E) (hg : Gl X x := by rfl) (hdb : (x == ("__debug__" : Str)) = false := by decide) : DE cl X E (.Call (.Name x p) [] [] pos) (vCall n m aNil) := by
  obtain ⟨f, fd, ps, G, g, kp, b⟩ := G.ex
  exact de_call0 G hr hx g kp b hg hdb
theorem de_gl {x : Str} {d : D} (G : GlobAt X.K X.mg x d) (hg : Gl X x := by rfl) (hd : (x == ("__debug__" : Str)) = false := by decide) : DE cl X E (.Name x pos) (vC d) := by
  obtain ⟨v, u, h1, h2, h3⟩ := G.ex
  exact de_glob h1 h2 h3 hg hd
theorem ds_raiseX (c : Nat) {x m : Str} {j : Nat} {p p2 p3 : Pos} (tk : Takes X (fun cls d _ H => E cls d H)) (G : ExcAt X.K X.mg x (cl c)) (hg : Gl X x := by rfl) (hc : X.calm = true := by rfl) (hdb : (x == ("__debug__" : Str)) = false := by decide) :
    DS cl X E (.Raise (some (.Call (.Name x p) [.Constant (.str m) j p2] [] p3)) none pos) (sRaise c) := ds_raise c tk PySem.F.excBase_ValueError G.q G.g G.k G.b G.t hg hc hdb
theorem de_sum {p : Pos} {g : Envt → Tr (List Ent)} (hm : X.mg "sum" = none) (ha : DA cl X E [a] g) (hc : X.calm = true := by rfl) (hg : Gl X "sum" := by rfl) (he : starEach [a] X.env = (false, eval a X.env) :: starEach [] X.env := by rfl) (hpl : (backTo pos (starEach [] X.env)).any (·.1) = false := by rfl) : DE cl X E (.Call (.Name "sum" p) [a] [] pos) (vB fnSum g) :=
  de_callB (callr_or (cr_sum hc) (cr_sumT hc)) sem_sumL hm (by decide +kernel) ha hg (by decide) (by decide) he hpl
theorem de_all {p : Pos} {g : Envt → Tr (List Ent)} (hm : X.mg "all" = none) (ha : DA cl X E [a] g) (hc : X.calm = true := by rfl) (hg : Gl X "all" := by rfl) (he : starEach [a] X.env = (false, eval a X.env) :: starEach [] X.env := by rfl) (hpl : (backTo pos (starEach [] X.env)).any (·.1) = false := by rfl) : DE cl X E (.Call (.Name "all" p) [a] [] pos) (vB allD g) :=
  de_callB (cr_all hc) sem_all hm (by decide +kernel) ha hg (by decide) (by decide) he hpl
theorem de_any {p : Pos} {g : Envt → Tr (List Ent)} (hm : X.mg "any" = none) (ha : DA cl X E [a] g) (hc : X.calm = true := by rfl) (hg : Gl X "any" := by rfl) (he : starEach [a] X.env = (false, eval a X.env) :: starEach [] X.env := by rfl) (hpl : (backTo pos (starEach [] X.env)).any (·.1) = false := by rfl) : DE cl X E (.Call (.Name "any" p) [a] [] pos) (vB anyD g) :=
  de_callB (cr_any hc) sem_any hm (by decide +kernel) ha hg (by decide) (by decide) he hpl
theorem de_min2 {p : Pos} {g : Envt → Tr (List Ent)} (hm : X.mg "min" = none) (ha : DA cl X E [a, b] g) (hc : X.calm = true := by rfl) (hg : Gl X "min" := by rfl) (he : starEach [a, b] X.env = (false, eval a X.env) :: starEach [b] X.env := by rfl) (hpl : (backTo pos (starEach [b] X.env)).any (·.1) = false := by rfl) : DE cl X E (.Call (.Name "min" p) [a, b] [] pos) (vB fnMin2 g) :=
  de_callB (call_min2 hc) sem_min2 hm (by decide +kernel) ha hg (by decide) (by decide) he hpl
theorem de_max2 {p : Pos} {g : Envt → Tr (List Ent)} (hm : X.mg "max" = none) (ha : DA cl X E [a, b] g) (hc : X.calm = true := by rfl) (hg : Gl X "max" := by rfl) (he : starEach [a, b] X.env = (false, eval a X.env) :: starEach [b] X.env := by rfl) (hpl : (backTo pos (starEach [b] X.env)).any (·.1) = false := by rfl) : DE cl X E (.Call (.Name "max" p) [a, b] [] pos) (vB fnMax2 g) :=
  de_callB (call_max2 hc) sem_max2 hm (by decide +kernel) ha hg (by decide) (by decide) he hpl
theorem de_min {p : Pos} {g : Envt → Tr (List Ent)} (hm : X.mg "min" = none) (ha : DA cl X E [a] g) (hc : X.calm = true := by rfl) (hg : Gl X "min" := by rfl) (he : starEach [a] X.env = (false, eval a X.env) :: starEach [] X.env := by rfl) (hpl : (backTo pos (starEach [] X.env)).any (·.1) = false := by rfl) : DE cl X E (.Call (.Name "min" p) [a] [] pos) (vB fnMin g) :=
  de_callB (cr_min hc) sem_min hm (by decide +kernel) ha hg (by decide) (by decide) he hpl
theorem de_max {p : Pos} {g : Envt → Tr (List Ent)} (hm : X.mg "max" = none) (ha : DA cl X E [a] g) (hc : X.calm = true := by rfl) (hg : Gl X "max" := by rfl) (he : starEach [a] X.env = (false, eval a X.env) :: starEach [] X.env := by rfl) (hpl : (backTo pos (starEach [] X.env)).any (·.1) = false := by rfl) : DE cl X E (.Call (.Name "max" p) [a] [] pos) (vB fnMax g) :=
  de_callB (cr_max hc) sem_max hm (by decide +kernel) ha hg (by decide) (by decide) he hpl
theorem de_isInt {p p2 : Pos} (hm : X.mg "isinstance" = none) (hmT : X.mg "int" = none) (ha : DE cl X E a f) (hg : Gl X "isinstance" := by rfl) (hgT : Gl X "int" := by rfl) (he : starEach [a, .Name "int" p2] X.env = (false, eval a X.env) :: starEach [.Name "int" p2] X.env := by rfl) (he2 : starEach [.Name "int" p2] X.env = (false, eval (.Name "int" p2) X.env) :: starEach [] X.env := by rfl)
    (hpl : (backTo pos (starEach [.Name "int" p2] X.env)).any (·.1) = false := by rfl) : DE cl X E (.Call (.Name "isinstance" p) [a, .Name "int" p2] [] pos) (vIsi isInt f) := de_isi kit_int hm hmT (by decide +kernel) ha hg hgT (by decide) (by decide) he he2 hpl
theorem de_isBool {p p2 : Pos} (hm : X.mg "isinstance" = none) (hmT : X.mg "bool" = none) (ha : DE cl X E a f) (hg : Gl X "isinstance" := by rfl) (hgT : Gl X "bool" := by rfl) (he : starEach [a, .Name "bool" p2] X.env = (false, eval a X.env) :: starEach [.Name "bool" p2] X.env := by rfl) (he2 : starEach [.Name "bool" p2] X.env = (false, eval (.Name "bool" p2) X.env) :: starEach [] X.env := by rfl)
    (hpl : (backTo pos (starEach [.Name "bool" p2] X.env)).any (·.1) = false := by rfl) : DE cl X E (.Call (.Name "isinstance" p) [a, .Name "bool" p2] [] pos) (vIsi isBool f) := de_isi kit_bool hm hmT (by decide +kernel) ha hg hgT (by decide) (by decide) he he2 hpl
theorem de_isStr {p p2 : Pos} (hm : X.mg "isinstance" = none) (hmT : X.mg "str" = none) (ha : DE cl X E a f) (hg : Gl X "isinstance" := by rfl) (hgT : Gl X "str" := by rfl) (he : starEach [a, .Name "str" p2] X.env = (false, eval a X.env) :: starEach [.Name "str" p2] X.env := by rfl) (he2 : starEach [.Name "str" p2] X.env = (false, eval (.Name "str" p2) X.env) :: starEach [] X.env := by rfl)
    (hpl : (backTo pos (starEach [.Name "str" p2] X.env)).any (·.1) = false := by rfl) : DE cl X E (.Call (.Name "isinstance" p) [a, .Name "str" p2] [] pos) (vIsi isStr f) := de_isi kit_str hm hmT (by decide +kernel) ha hg hgT (by decide) (by decide) he he2 hpl
theorem de_isList {p p2 : Pos} (hm : X.mg "isinstance" = none) (hmT : X.mg "list" = none) (ha : DE cl X E a f) (hg : Gl X "isinstance" := by rfl) (hgT : Gl X "list" := by rfl) (he : starEach [a, .Name "list" p2] X.env = (false, eval a X.env) :: starEach [.Name "list" p2] X.env := by rfl) (he2 : starEach [.Name "list" p2] X.env = (false, eval (.Name "list" p2) X.env) :: starEach [] X.env := by rfl)
    (hpl : (backTo pos (starEach [.Name "list" p2] X.env)).any (·.1) = false := by rfl) : DE cl X E (.Call (.Name "isinstance" p) [a, .Name "list" p2] [] pos) (vIsi isList f) := de_isi kit_list hm hmT (by decide +kernel) ha hg hgT (by decide) (by decide) he he2 hpl
theorem de_isTuple {p p2 : Pos} (hm : X.mg "isinstance" = none) (hmT : X.mg "tuple" = none) (ha : DE cl X E a f) (hg : Gl X "isinstance" := by rfl) (hgT : Gl X "tuple" := by rfl) (he : starEach [a, .Name "tuple" p2] X.env = (false, eval a X.env) :: starEach [.Name "tuple" p2] X.env := by rfl) (he2 : starEach [.Name "tuple" p2] X.env = (false, eval (.Name "tuple" p2) X.env) :: starEach [] X.env := by rfl)
    (hpl : (backTo pos (starEach [.Name "tuple" p2] X.env)).any (·.1) = false := by rfl) : DE cl X E (.Call (.Name "isinstance" p) [a, .Name "tuple" p2] [] pos) (vIsi isTuple f) := de_isi kit_tuple hm hmT (by decide +kernel) ha hg hgT (by decide) (by decide) he he2 hpl
/-- a number with a minus -/
theorem de_neg {i : Int} {j : Nat} {p : Pos} : DE cl X E (.UnaryOp .USub (.Constant (.int i) j p) pos) (vC (.int (-i))) :=
  ⟨_, pe_un un_neg pe_int, fun F B ad σ H env Q hk hc o k => ⟨i, rfl, k _ H (Kx.refl o.k0.dr) (.int _)⟩⟩
end
/-! ### the draws -/
def mDraw : List Ent → Tr D
  | [.dr, .fz (.int l)] => if decide (0 < l) && decide (l < 1073741824) then .draw l.toNat fun r => .ret (.int (r : Nat)) else .bad
  | _ => .bad
def spStart (K : PySem.W.Frag) : Sp := fun vs H Q _ => ∃ (a : Addr) (ns : List Int), vs = [.ref a] ∧ SqL K H a (ns.map V.int) ∧ ns.length ≤ 63 ∧ ∀ H' p n, Same H H' → H p = none → H n = none → DrOk (some (p, n)) H' → Q (.ref p) H'
end Mb
namespace Mb
open PySem L2
section
variable {P : Program} {w : World} {K : PySem.W.Frag} {mg : Str → Option Value} {base : Heap} {N : List Str} {q : Str} {sc : Scope} {f : Addr} {cd : Value} {A : Around} {outer : List Env} {s : Shared} {H : Hp} {E : XK}
theorem tkOf : Takes (cxOf (L2.CX P w) P w K mg base N q sc f cd A outer s H E) (fun cls d _ H => E cls d H) := takes_of rfl rfl rfl rfl
theorem psOf : Passes (L2.CX P w) (cxOf (L2.CX P w) P w K mg base N q sc f cd A outer s H E) E := passes_call tkOf fun _ _ _ _ h => h
theorem poOf : PassesOwn (model P w) (cxOf (L2.CX P w) P w K mg base N q sc f cd A outer s H E).A (cxOf (L2.CX P w) P w K mg base N q sc f cd A outer s H E).env (cxOf (L2.CX P w) P w K mg base N q sc f cd A outer s H E).xe := passes_of rfl
end
end Mb

namespace Mb
open PySem L2
/-! ### (a, b)[::-1] -/
section
open PySem.Spec PyProof.Rows HT
variable {prog : Program} {w : World} {A : Around} {E : Value → Shared → Prop} {s : Shared}
theorem sliceApplied_rev2 {sl : Addr} {vs : Value} {Q : Int × Int × Nat → Shared → Prop} (hs : s.heap.IsSliceOf sl .none .none vs) (ps : IsPart vs (some (-1))) (h : Q (1, -1, 2) s) : wpAny (model prog w) A (Builtin.Slice.sliceApplied (.ref sl) (pure (2 : Int))) Q E s := by
  obtain ⟨os, hos, hcs, hds⟩ := id hs
  unfold Builtin.Slice.sliceApplied Builtin.Slice.sliceFields
  refine wpAny_bind (wpAny_bind (wpAny_field hos hds (x := .none) rfl (wpAny_bind (wpAny_field hos hds (x := .none) rfl (wpAny_bind (wpAny_field hos hds (x := vs) rfl (wpAny_pure ?_)))))))
  refine wpAny_bind (slicePart_ ps ?_)
  show wpAny _ _ (if ((-1 : Int) == 0) = true then _ else _) _ _ s
  rw [if_neg (by decide)]
  refine wpAny_bind (slicePart_none (wpAny_bind (slicePart_none (wpAny_bind (wpAny_pure ?_)))))
  exact wpAny_pure h
theorem getItem_tuple_rev2 {t sl : Addr} {x y : Value} {vs : Value} {Q : Value → Shared → Prop} (ht : IsTup s.heap t #[x, y]) (hs : s.heap.IsSliceOf sl .none .none vs) (ps : IsPart vs (some (-1)))
    (h : Q (.ref s.heap.objs.size) { s with heap := s.heap.push { cls := .type "tuple", data := .seq #[y, x] } }) : wpAny (model prog w) A (getItem (.ref t) (.ref sl)) Q E s := by
  obtain ⟨os, hos, hcs, hds⟩ := id hs
  have hTs : s.TypeIs (.ref sl) "slice" := ⟨os, hos, hcs⟩
  unfold getItem
  try with_reducible refine wpAny_holding ?_
  first | refine wpAny_bind (wpAny_pure ?_) | skip
  refine wpAny_bind (wpAny_sequenceKey ht.typeIs (by decide) ?_)
  refine wpAny_bind (wpAny_callSpecial?_slot (name := Str.ofString "__getitem__") ht.typeIs PyProof.Rows.slot_tuple_getitem
    (wpAny_call_entry PyProof.Rows.slot_tuple_getitem ht.typeIs entry_tuple_getitem ?_ (args_tuple_getitem _ _)))
  show wpAny _ _ (Builtin.Tuple.tupleItemsOf (.ref t) >>= _) _ _ s
  refine wpAny_bind (tupleItemsOf_ ht ?_)
  refine wpAny_bind (wpAny_typeOf hTs ?_)
  rw [if_pos (by decide)]
  refine wpAny_bind (sliceApplied_rev2 hs ps ?_)
  show wpAny _ _ (if ((1 : Int) == 0 && (-1 : Int) == 1 && (2 : Nat) == 2) = true then _ else _) _ _ s
  rw [if_neg (by decide)]
  have htake : sizeOk (.seq #[y, x]) := by show 2 ≤ sizeLine; decide
  first
    | exact wpAny_bind (m := Builtin.Tuple.tupleExact _) (wpAny_newObj_type (wpAny_pure ⟨_, rfl, wpAny_pure h⟩) htake)
    | exact wpAny_bind (m := Builtin.Tuple.tupleExact _) (wpAny_newObj_type (wpAny_bind (wpAny_pure (wpAny_pure ⟨_, rfl, wpAny_pure h⟩))) htake)
end
section
variable {cl : Nat → Addr} {X : Cx} {E : XK} {e a b c : Expr} {f g h : Envt → Tr D} {pos : Pos}
def tRev2 (K : PySem.W.Frag) (te : TE) : TE := fun σ H Q => te σ H fun x H1 => ∃ a v w, x = .ref a ∧ SqT K H1 a [v, w] ∧ ∀ p, H1 p = none → Q (.ref p) (upd H1 p (.tup [w, v]))
open PySem.Spec PyProof.Rows in
theorem pe_rev2 {te : TE} {k : Nat} {p1 p2 p3 pos : Pos} (he : PE X e te) : PE X (.Subscript e (.Slice none none (some (.UnaryOp .USub (.Constant (.int 1) k p1) p2)) p3) pos) (tRev2 X.K te) := by
  refine ⟨fun pins s σ H Q I h => ?_⟩
  refine Subscript_ (thn (he.run pins s σ H _ I h) fun v s1 ⟨x, H1, I1, r1, q1⟩ => ?_)
  obtain ⟨a, v1, v2, ex, hx, q⟩ := q1
  subst ex
  cases r1
  have hst : PO X (some (.UnaryOp .USub (.Constant (.int 1) k p1) p2)) (tPart (tUn (rU fun i => .int (-i)) (tC (.int 1)))) := po_some (pe_un un_neg pe_int)
  refine wpAny_Slice (thn (po_none.run pins s1 σ H1 (fun o H2 => o = none ∧ H2 = H1) I1 ⟨rfl, rfl⟩) fun vl s2 ⟨l, H2, I2, pl, el, e2⟩ => ?_)
  subst el e2
  refine thn (po_none.run pins s2 σ H2 (fun o H3 => o = none ∧ H3 = H2) I2 ⟨rfl, rfl⟩) fun vu s3 ⟨u, H3, I3, pu, eu, e3⟩ => ?_
  subst eu e3
  refine thn (hst.run pins s3 σ H3 (fun o H4 => o = some (-1) ∧ H4 = H3) I3 ⟨1, rfl, -1, rfl, rfl, rfl⟩) fun vs s4 ⟨o, H4, I4, ps, eo, e4⟩ => ?_
  subst eo e4
  have I5 : L2.Inv X pins σ H4 { s4 with heap := s4.heap.push { cls := .type "slice", data := .fields #[vl, vu, vs] } } := I4.kept (t' := s4.toks) fun b ob q => Heap.get?_push_of_some _ q
  obtain ⟨its, r, ht, hz⟩ := I5.tuple hx
  cases pl
  cases pu
  cases r with
  | cons rv rr =>
    cases rr with
    | cons rw' rr =>
      cases rr
      rename_i u1 u2
      show wpAny (model X.prog X.w) X.A (subscriptTail e (.Slice none none (some (.UnaryOp .USub (.Constant (.int 1) k p1) p2)) p3) (.ref a) (.ref s4.heap.objs.size)) (EP X pins σ Q) X.xe { s4 with heap := s4.heap.push { cls := .type "slice", data := .fields #[.none, .none, vs] } }
      refine tail_any (ops := [.ref a, .ref s4.heap.objs.size]) ht.typeIs (PyProof.Rows.slot_tuple_getitem.lookup) ?_ (by with_unfolding_all rfl)
      refine getItem_tuple_rev2 ht (Heap.IsSliceOf.new _ .none .none vs) ps ?_
      refine ⟨.ref _, _, I5.laid (t' := s4.toks) (o := .tup [v2, v1]) (fun b ob q => Heap.get?_push_of_some _ q) (Nat.le_refl _) ?_, rfl, q _ (I5.hok.fresh (Nat.le_refl _))⟩
      exact ⟨by show 2 ≤ sizeLine; decide, _, .cons rw' (.cons rv .nil), IsTup.new _ _⟩
def dRev : D → Option D
  | .tuple [a, b] => some (.tuple [b, a])
  | _ => none
def vRev (f : Envt → Tr D) : Envt → Tr D := fun env => (f env).bind fun d => ofO (dRev d)
theorem de_rev {k : Nat} {p1 p2 p3 : Pos} (ha : DE cl X E e f) : DE cl X E (.Subscript e (.Slice none none (some (.UnaryOp .USub (.Constant (.int 1) k p1) p2)) p3) pos) (vRev f) := by
  obtain ⟨t, p, r⟩ := ha
  refine ⟨_, pe_rev2 p, fun F B ad σ H env Q hk hc o k => ?_⟩
  refine r F B ad σ H env _ hk hc o (Tr.all_mono (fun d z x H1 k1 rx => ?_) (fun _ z => z) (Tr.all_bind k))
  cases hz : dRev d with
  | none => rw [hz] at z; exact z.elim
  | some w =>
    rw [hz] at z
    unfold dRev at hz
    split at hz
    · cases hz
      cases rx with
      | tup h1 h2 =>
        cases h2 with
        | cons ha hr =>
          cases hr with
          | cons hb hn =>
            cases hn
            refine ⟨_, _, _, rfl, by rw [← hk]; exact same_sqT (mask_le _ _) h1, ?_⟩
            exact new_tup (K := F.K) k1.dr (fun a q => Mm_dl (F := F) (ad := ad) q) (fun p hp => (o.kx k1).notM hp) (.cons hb (.cons ha .nil)) fun v H' k4 rv => z v H' (k1.trans k4) rv
    · cases hz
end
end Mb

namespace Mb
open PySem L2
/-! ### the law's own end -/
def spLaw (K : PySem.W.Frag) : Sp := fun vs H Q _ => ∃ (a : Addr) (ns : List Int), vs = [.ref a] ∧ SqL K H a (ns.map V.int) ∧ ns.length ≤ 63 ∧ ∀ H', Q (.bl true) H'
def env0 (n : Nat) : Envt := .un :: .dr :: List.replicate n .un
theorem law_ok {K : PySem.W.Frag} {cl : Nat → Addr} {H' : Hp} {p n : Addr} {σ : St} {m : Nat} (hd : DrOk (some (p, n)) H') (h1 : σ.length = m + 2) (h2 : σ[1]? = some (some (.ref p))) :
    ∃ F : Fx, F.K = K ∧ F.cl = cl ∧ F.H0 = H' ∧ ∃ B ad, Ok F B ad σ H' (env0 m) := by
  obtain ⟨pn, c, ns, e1, _, e2, _⟩ := id (hd p n rfl)
  refine ⟨⟨K, cl, H', fun b => b = p ∨ b = n, some (p, n), fun a q => ?_, fun a q => ?_, hd⟩, rfl, rfl, rfl, mask H' fun b => b = p ∨ b = n, List.replicate (m + 2) none, ?_⟩
  · rcases q with rfl | rfl
    · exact ⟨_, e1⟩
    · exact ⟨_, e2⟩
  · obtain ⟨a', n', e, q⟩ := q
    cases e
    exact q
  · refine ⟨?_, Kx.refl hd, by simp [env0, h1], by simp [env0], fun i oa sv e q1 q2 q3 => ?_, fun i j a q1 q2 => ?_, fun i a q => ?_⟩
    · refine mask_same fun a o nm e => ⟨fun q => ?_, e⟩
      rcases q with q | q
      · exact nm q
      · cases List.eq_of_mem_replicate q
    · have ho : oa = none := List.eq_of_mem_replicate (List.mem_of_getElem? q1)
      subst ho
      match i, q3 with
      | 0, q3 => cases q3; exact rfl
      | 1, q3 =>
        cases q3
        rw [h2] at q2
        cases q2
        exact ⟨rfl, p, n, rfl, rfl⟩
      | i + 2, q3 =>
        have q3 : (List.replicate m Ent.un)[i]? = some e := q3
        have := List.eq_of_mem_replicate (List.mem_of_getElem? q3)
        subst this
        exact rfl
    · cases List.eq_of_mem_replicate (List.mem_of_getElem? q1)
    · cases List.eq_of_mem_replicate (List.mem_of_getElem? q)
theorem noCX {P : Program} {w : World} {H : Hp} {s : Shared} {e : Value} {s' : Shared} (h : L2.CX P w [] H s (fun _ _ _ => False) e s') : False := by
  obtain ⟨_, _, _, _, _, _, _, _, _, _, _, _, z⟩ := h
  exact z.elim
end Mb

namespace Mb
open PySem L2
/-! ### the combinators, applied -/
section
variable (env : Envt) (f g h : Envt → Tr D) (c k : Envt → Tr Bool) (u v : Stm) (ga gb : Envt → Tr (List Ent)) (fl : Envt → Tr (List D)) (i : Nat)
theorem ap_runB (N n : Nat) (es : List Ent) : runB N n u es = (u (es ++ List.replicate (N - n) .un)).bind fun o => match o with | .nx _ => .ret .none | .rt d => .ret d | _ => .bad := rfl
theorem ap_sSeq : sSeq u v env = (u env).bind fun o => match o with | .nx env' => v env' | .rt d => .ret (.rt d) | .bk e => .ret (.bk e) | .ct e => .ret (.ct e) := rfl
theorem ap_sNil : sNil env = .ret (.nx env) := rfl
theorem ap_sIf : sIf c u v env = (c env).bind fun b => if b then u env else v env := rfl
theorem ap_sRet : sRet f env = (f env).bind fun d => .ret (.rt d) := rfl
theorem ap_sRetN : sRetN env = .ret (.rt .none) := rfl
theorem ap_sSet : sSet i f env = (f env).bind fun d => .ret (.nx (env.set i (.fz d))) := rfl
theorem ap_sOwn : sOwn i fl env = (fl env).bind fun ds => .ret (.nx (env.set i (.ow ds))) := rfl
theorem ap_sPar (is : List Nat) : sPar is ga env = (ga env).bind fun es => if es.length == is.length then .ret (.nx (setAll env is es)) else .bad := rfl
theorem ap_sAsg (gd : Tgt) : sAsg gd f env = (f env).bind fun d => (ofO (gd d env)).bind fun env' => .ret (.nx env') := rfl
theorem ap_sDrop : sDrop f env = (f env).bind fun _ => .ret (.nx env) := rfl
theorem ap_sFz : sFz i u env = match env[i]? with | some (.ow ds) => u (env.set i (.fz (.list ds))) | some (.od kvs) => u (env.set i (.fz (.dict kvs))) | _ => u env := rfl
theorem ap_sFor (src : Envt → Tr (List D)) (gd : Tgt) : sFor src gd u env = (src env).bind fun ds => sForL gd u ds env := rfl
theorem ap_sApp : sApp i f env = match env[i]? with | some (.ow ds) => (f env).bind fun d => if small ds.length then .ret (.nx (env.set i (.ow (ds ++ [d])))) else .bad | _ => .bad := rfl
theorem ap_sAugI : sAugI i g f env = match env[i]? with
  | some (.ow ds) => (g env).bind fun j => match j with
    | .int j => if decide (0 ≤ j) && decide (j < 1000000) then match ds[j.toNat]? with
      | some (.int old) => (f env).bind fun d => match d with
        | .int y => .ret (.nx (env.set i (.ow (ds.set j.toNat (.int (old + y))))))
        | _ => .bad
      | _ => .bad
      else .bad
    | _ => .bad
  | _ => .bad := rfl
theorem ap_sRaise (n : Nat) : sRaise n env = .exc n := rfl
theorem ap_sBreak : sBreak env = .ret (.bk env) := rfl
theorem ap_vT : vT f env = (f env).bind fun d => ofO (asB d) := rfl
theorem ap_v2 (op : D → D → Option D) : v2 op f g env = (f env).bind fun x => (g env).bind fun y => ofO (op x y) := rfl
theorem ap_vVar : vVar i env = match env[i]? with | some (.fz d) => .ret d | _ => .bad := rfl
theorem ap_vBor : vBor i env = match env[i]? with | some (.fz d) => .ret d | some (.ow ds) => .ret (.list ds) | some (.od kvs) => .ret (.dict kvs) | _ => .bad := rfl
theorem ap_vC (d : D) : vC d env = .ret d := rfl
theorem ap_vIf : vIf c f g env = (c env).bind fun x => if x then f env else g env := rfl
theorem ap_vAnd : vAnd f g env = (f env).bind fun x => (ofO (asB x)).bind fun x => if x then g env else .ret (.bool false) := rfl
theorem ap_vOr : vOr f g env = (f env).bind fun x => (ofO (asB x)).bind fun x => if x then .ret (.bool true) else g env := rfl
theorem ap_vNot : vNot f env = (f env).bind fun x => (ofO (asB x)).bind fun x => .ret (.bool !x) := rfl
theorem ap_bAnd : bAnd c k env = (c env).bind fun x => if x then k env else .ret false := rfl
theorem ap_bOr : bOr c k env = (c env).bind fun x => if x then .ret true else k env := rfl
theorem ap_bNot : bNot c env = (c env).bind fun x => .ret (!x) := rfl
theorem ap_bYes : bYes env = .ret true := rfl
theorem ap_vCall (n : Nat) (m : List Ent → Tr D) : vCall n m ga env = (ga env).bind fun es => if es.length == n then m es else .bad := rfl
theorem ap_aNil : aNil env = .ret [] := rfl
theorem ap_aCons : aCons f ga env = (f env).bind fun d => (ga env).bind fun es => .ret (.fz d :: es) := rfl
theorem ap_aDr : aDr i ga env = match env[i]? with | some .dr => (ga env).bind fun es => .ret (.dr :: es) | _ => .bad := rfl
theorem ap_aOwn : aOwn fl ga env = (fl env).bind fun ds => (ga env).bind fun es => .ret (.ow ds :: es) := rfl
theorem ap_vTup : vTup ga env = (ga env).bind fun es => ofO ((fzs es).bind fun ds => if small ds.length then some (.tuple ds) else none) := rfl
theorem ap_nLst : nLst ga env = (ga env).bind fun es => ofO ((fzs es).bind fun ds => if small ds.length then some ds else none) := rfl
theorem ap_nList : nList ga env = (ga env).bind fun es => ofO ((fzs es).bind seqD) := rfl
theorem ap_vL : vL fl env = (fl env).bind fun ds => .ret (.list ds) := rfl
theorem ap_vB (fn : List D → Option D) : vB fn ga env = (ga env).bind fun es => ofO ((fzs es).bind fn) := rfl
theorem ap_vIsi (fn : D → Bool) : vIsi fn f env = (f env).bind fun d => if notD d then .ret (.bool (fn d)) else .bad := rfl
theorem ap_vChain (op op' : D → D → Option D) : vChain op op' f g h env = (f env).bind fun x => (g env).bind fun y => (ofO (op x y)).bind fun z => (ofO (asB z)).bind fun k => if k then (h env).bind fun w => ofO (op' y w) else .ret (.bool false) := rfl
theorem ap_vIxV : vIxV i g env = match env[i]? with | some (.ow ds) => (g env).bind fun y => ofO (dIx (.list ds) y) | some (.fz d) => (g env).bind fun y => ofO (dIx d y) | _ => .bad := rfl
theorem ap_vLenV : vLenV i env = (vBor i env).bind fun d => ofO (lenD d) := rfl
theorem ap_vSl (l r : Envt → Tr (Option Int)) : vSl f l r env = (f env).bind fun d => (l env).bind fun lo => (r env).bind fun hi => ofO (dSl d lo hi) := rfl
theorem ap_oNone : oNone env = .ret none := rfl
theorem ap_oSome : oSome f env = (f env).bind fun d => match d with | .int i => .ret (some i) | _ => .bad := rfl
theorem ap_wSeq : wSeq f env = (f env).bind fun d => ofO (itD d) := rfl
theorem ap_wArg (fn : List D → Option (List D)) : wArg fn ga env = (ga env).bind fun es => ofO ((fzs es).bind fn) := rfl
theorem ap_vMeth (chk : D → Bool) (op : D → D → Option D) : vMeth chk op f g env = (f env).bind fun x => if chk x then (g env).bind fun y => ofO (op x y) else .bad := rfl
theorem ap_vRev : vRev f env = (f env).bind fun d => ofO (dRev d) := rfl
theorem ap_nLc (vs : List Nat) (src : Envt → Tr (List D)) (gd : Tgt) (t : Envt → Tr Bool) : nLc vs src gd t f env = (src env).bind fun ds => if small ds.length && noOw env vs then noExc (lcRun gd t f (wipeE env vs) ds) else .bad := rfl
theorem ap_tgName (d : D) : tgName i d env = some (env.set i (.fz d)) := rfl
end
theorem bind_ret {α β : Type} (a : α) (f : α → Tr β) : (Tr.ret a).bind f = f a := rfl
theorem bind_exc {α β : Type} (c : Nat) (f : α → Tr β) : (Tr.exc c : Tr α).bind f = .exc c := rfl
theorem ofO_some {α : Type} (a : α) : ofO (some a) = .ret a := rfl
theorem fzs_nil : fzs [] = some [] := rfl
theorem fzs_cons (d : D) (r : List Ent) : fzs (.fz d :: r) = (fzs r).map (d :: ·) := rfl
theorem setAll_nil (env : Envt) : setAll env [] [] = env := rfl
theorem setAll_cons (env : Envt) (i : Nat) (is : List Nat) (e : Ent) (es : List Ent) : setAll env (i :: is) (e :: es) = setAll (env.set i e) is es := rfl
theorem asB_b (b : Bool) : asB (.bool b) = some b := rfl
theorem noOw_nil (env : Envt) : noOw env [] = true := rfl
theorem noOw_cons (env : Envt) (i : Nat) (vs : List Nat) : noOw env (i :: vs) = ((match env[i]? with | some (.ow _) => false | some (.od _) => false | _ => true) && noOw env vs) := rfl
theorem wipeE_nil (env : Envt) : wipeE env [] = env := rfl
theorem wipeE_cons (env : Envt) (i : Nat) (vs : List Nat) : wipeE env (i :: vs) = (wipeE env vs).set i .un := rfl
theorem noExc_r {α : Type} (a : α) : noExc (.ret a) = Tr.ret a := rfl
theorem seqD_l (ds : List D) : seqD [.list ds] = some ds := rfl
theorem seqD_t (ds : List D) : seqD [.tuple ds] = some ds := rfl
theorem tgTup_ap (n : Nat) (gs : List D → Envt → Option Envt) (ds : List D) (env : Envt) : tgTup n gs (.tuple ds) env = if ds.length == n then gs ds env else none := rfl
theorem tgCons_ap (g : Tgt) (gs : List D → Envt → Option Envt) (d : D) (ds : List D) (env : Envt) : tgCons g gs (d :: ds) env = (g d env).bind fun env1 => gs ds env1 := rfl
theorem tgNil_ap (env : Envt) : tgNil [] env = some env := rfl
/-! ### one statement after the other -/
theorem eval_seq {u v : Stm} {env : Envt} {o : Tr Out} (env' : Envt) (h1 : u env = .ret (.nx env')) (h2 : v env' = o) : sSeq u v env = o := by
  rw [ap_sSeq, h1]; exact h2
theorem eval_seqR {u v : Stm} {env : Envt} {d : D} (h1 : u env = .ret (.rt d)) : sSeq u v env = .ret (.rt d) := by
  rw [ap_sSeq, h1]; rfl
theorem eval_run {N n : Nat} {u : Stm} {es : List Ent} {d : D} (h : u (es ++ List.replicate (N - n) .un) = .ret (.rt d)) : runB N n u es = .ret d := by
  rw [ap_runB, h]; rfl
theorem all_seq {u v : Stm} {env : Envt} {P : Out → Prop} {E : Nat → Prop} (env' : Envt) (h1 : u env = .ret (.nx env')) (h2 : (v env').all P E) : (sSeq u v env).all P E := by
  rw [ap_sSeq, h1]; exact h2
theorem eval_for {src : Envt → Tr (List D)} {gd : Tgt} {u : Stm} {env : Envt} {o : Tr Out} (ds : List D) (h1 : src env = .ret ds) (h2 : sForL gd u ds env = o) : sFor src gd u env = o := by
  rw [ap_sFor, h1]; exact h2
theorem eval_ifT {c : Envt → Tr Bool} {u v : Stm} {env : Envt} {o : Tr Out} (h1 : c env = .ret true) (h2 : u env = o) : sIf c u v env = o := by
  rw [ap_sIf, h1]; exact h2
theorem eval_ifF {c : Envt → Tr Bool} {u v : Stm} {env : Envt} {o : Tr Out} (h1 : c env = .ret false) (h2 : v env = o) : sIf c u v env = o := by
  rw [ap_sIf, h1]; exact h2
theorem eval_set {i : Nat} {f : Envt → Tr D} {env : Envt} (d : D) (h : f env = .ret d) : sSet i f env = .ret (.nx (env.set i (.fz d))) := by
  rw [ap_sSet, h]; rfl
end Mb

/-! A try whose clause keeps the exception: caught = e. The object is told in the heap as a thing of its own. -/
namespace L2
open PySem PySem.Spec PyProof.Rows Mb
theorem exT_ok {P : Program} {w : World} {H : Hp} {h : Heap} {a C : Addr} {oe : Obj} {vs : Array Value} (e : h.get? a = some oe) (z : Zc (.ref C) none oe) (d : oe.data = .fields vs) : ObjOk P w H h a (ExT C a) :=
  ⟨⟨oe, vs, e, z, d⟩, ⟨oe, e⟩, fun _ _ ⟨o, v, q, r⟩ k => ⟨o, v, k o q, r⟩⟩
section
variable {X : Cx} {pins : List (Addr × Obj)} {σ : St} {H : Hp} {s : Shared}
/-- a pinned exception that is new to the call is told instead -/
theorem Inv.tell {a C : Addr} {oe : Obj} {vs : Array Value} (I : Inv X ((a, oe) :: pins) σ H s) (z : Zc (.ref C) none oe) (d : oe.data = .fields vs) (h0 : X.s_0.heap.get? a = none) (hp : ∀ p ∈ X.pn ++ pins, p.1 ≠ a) :
    Inv X pins σ (upd H a (ExT C a)) s := by
  obtain ⟨ha, na, nL, nF, _⟩ := I.pin (a, oe) (List.mem_append.mpr (.inr List.mem_cons_self))
  have neS : ∀ {b : Addr} {o : HO}, H b = some o → b ≠ a := fun {b o} q e => by rw [e, na] at q; cases q
  have ne0 : ∀ {b : Addr} {o : Obj}, X.s_0.heap.get? b = some o → b ≠ a := fun {b o} q e => by rw [e, h0] at q; cases q
  refine ⟨I.ok, I.os, I.bare, ⟨I.base.keep, I.base.slot, fun b o e n x => ?_, I.base.there, fun b xs q => ?_, fun b o u q => ?_, fun b ps q => ?_⟩, I.loc, I.cell, ?_, fun x c e => ?_, fun p m => ?_, fun b o e => ?_, I.len⟩
  · rw [upd_ne (ne0 e)]; exact I.base.free b o e n x
  · have q' := I.base.tups b xs q
    rw [upd_ne (neS q')]; exact q'
  · have q' := I.base.frzs b o u q
    rw [upd_ne (neS q')]; exact q'
  · obtain ⟨more, q'⟩ := I.base.tbls b ps q
    exact ⟨more, by rw [upd_ne (neS q')]; exact q'⟩
  · rw [upd_ne (fun e => nL e.symm)]; exact I.free
  · have n : c ≠ a := fun q => by
      subst q
      obtain ⟨v, oc, q1, q2⟩ := I.cell x c e
      have := ha.symm.trans q1
      cases this
      rw [d] at q2; cases q2
    rw [upd_ne n]; exact I.freeC x c e
  · obtain ⟨q1, q2, q3⟩ := I.pin p (by
      rcases List.mem_append.mp m with m | m
      · exact List.mem_append.mpr (.inl m)
      · exact List.mem_append.mpr (.inr (List.mem_cons_of_mem _ m)))
    exact ⟨q1, by rw [upd_ne (hp p m)]; exact q2, q3⟩
  · by_cases hb : b = a
    · subst hb
      rw [upd_same] at e; cases e
      exact exT_ok ha z d
    · rw [upd_ne hb] at e
      exact (I.hok b o e).stay (fun _ _ _ q => q) (fun c q => by rw [upd_ne (neS q)]; exact q) fun c xs q => by rw [upd_ne (neS q)]; exact q
/-- behind the suite: the exception stays pinned -/
theorem Inv.outOf {a : Addr} {oe : Obj} (I : Inv (X.suite a ((a, oe) :: (X.pn ++ pins))) [] σ H s) (ok : X.Ok) : Inv X ((a, oe) :: pins) σ H s :=
  ⟨ok, I.os, I.bare, I.base, I.loc, I.cell, I.free, I.freeC, fun p hp => I.pin p (List.mem_append_left _ (by
    rcases List.mem_append.mp hp with m | m
    · exact List.mem_cons_of_mem _ (List.mem_append.mpr (.inl m))
    · rcases List.mem_cons.mp m with e | m
      · rw [e]; exact List.mem_cons_self
      · exact List.mem_cons_of_mem _ (List.mem_append.mpr (.inr m)))), I.hok, I.len⟩
end
/-- what the clause 'except x as n: y = n' wishes; slots i (n) and j (y) -/
def wKeep (K : PySem.W.Frag) (c : Value) (i j : Nat) (D : Ends) : WX := fun cls d σ H =>
  ∃ C, cls = .ref C ∧ d = none ∧ PySem.W.exmOne K cls c = some true ∧ ∀ a, H a = none → D.nx (((σ.set i (some (.ref a))).set j (some (.ref a))).set i none) (upd H a (ExT C a))
section
variable {X : Cx} {x n y : Str} {c : Value} {i j : Nat} {body : List Stmt} {np yp ep ap pos pos' : Pos} {tb : WX → TS}
theorem ps_try_keep (hs : X.stack = X.env :: X.outer) (hf : X.env.frame = some X.env.locals) (hN : X.N.Nodup) (hi : X.N[i]? = some n) (hj : X.N[j]? = some y) (hln : X.env.kindOf n = some .local) (hly : X.env.kindOf y = some .local) (hg : Gl X x) (hdb : (x == ("__debug__" : Str)) = false) (hm : X.mg x = some c)
    (hex : X.ex = []) (nd1 : (n == ("__debug__" : Str)) = false) (nd2 : (n == ("__classdict__" : Str)) = false) (hsw : swapsWith (.Name n ep) (some (.Name y yp)) ap.line X.env = pure false)
    (hb : ∀ (W : WX) (pn : List (Addr × Obj)) (xe : Value → Shared → Prop), Takes (X.tr pn xe) W → PassesOwn (model X.prog X.w) X.A X.env xe → PSs (X.tr pn xe) body (tb W)) :
    PS X (.Try body [.ExceptHandler (some (.Name x np)) (some n) [.Assign [.Name y yp] (.Name n ep) ap] pos'] [] [] pos) (fun D σ H => tb (wKeep X.K c i j D) D σ H) := by
  refine ⟨fun pins s σ H D I h => ?_⟩
  have ok := I.ok
  have hfr : X.A.frames = some (X.env :: X.outer) := ok.frames.trans (by rw [hs])
  refine wpAny_Try_except (wpAny_mono ((hb (wKeep X.K c i j D) (X.pn ++ pins) (fun e s₁ => wpAny (model X.prog X.w) X.A (noteFrame e X.env)
    (fun _ s₂ => wpAny (model X.prog X.w) X.A (setFlight e none) (fun _ s₃ => wpAny (model X.prog X.w) X.A (handleBy e X.env [.ExceptHandler (some (.Name x np)) (some n) [.Assign [.Name y yp] (.Name n ep) ap] pos']) (SP X pins D) X.xe s₃) X.xe s₂) X.xe s₁)
    (fun u s' xx => ?_) PassesOwn.looking).run [] s σ H D (I.toTry _) h) (fun f s1 hsp => ?_) (fun e s1 he => he))
  · obtain ⟨a, B, sI, pins', σ', H', cls, d, rfl, J', nb, up, sky, na, os, ag, C, rfl, rfl, hm1, q⟩ := xx
    have J : Inv X pins σ' H' sI := J'.ofTry ok
    have sk : Sky B (X.env :: X.outer) a (Zc (.ref C) none) X.env.locals s'.heap := by rw [← hs]; exact sky
    show wpAny (model X.prog X.w) X.A (noteFrame (.ref a) X.env) _ _ _
    refine Sky.land Zc.steady hfr hf sk fun h3 fl3 up3 => ?_
    have J3 : Inv X pins σ' H' { s' with heap := h3 } := J.landed nb fl3.1 (up.trans up3) os ag
    obtain ⟨oe3, vs3, he3, hz3, hd3⟩ := fl3.there
    have nfr : a ∉ frs (X.env :: X.outer) := fun m => by
      obtain ⟨_, o', e', hnf⟩ := fl3.2.2.1.mem m
      have := he3.symm.trans e'
      cases this
      exact hnf _ hd3
    have nL : a ≠ X.env.locals := fun z => nfr (List.mem_filterMap.mpr ⟨X.env, List.mem_cons_self, hf.trans (by rw [z])⟩)
    have nF : a ∉ X.fs := fun m => by
      obtain ⟨e, he, z⟩ := List.mem_filterMap.mp m
      exact nfr (List.mem_filterMap.mpr ⟨e, List.mem_cons_of_mem _ he, z⟩)
    have aI : sI.heap.get? a = none := by
      cases e : sI.heap.get? a with
      | none => rfl
      | some o =>
        have z := nb a o e (by rw [hs]; exact nfr)
        rw [fl3.2.1] at z; cases z
    have a0 : X.s_0.heap.get? a = none := by
      cases e : X.s_0.heap.get? a with
      | none => rfl
      | some o =>
        obtain ⟨o', z⟩ := J.base.there a o e (by rw [hex]; exact fun m => nomatch m)
        rw [aI] at z; cases z
    have np' : ∀ p ∈ X.pn ++ pins, p.1 ≠ a := fun p m z => by
      have := (J.pin p m).1
      rw [z, aI] at this; cases this
    have S3 := J3.suite he3 hd3 na nL nF
    refine wpAny_handleBy_cons (codeAny_handlers_test ?_) (by intro z; cases z)
    have LT : PySem.W.Looks (model X.prog X.w) h3 (typeOf (.ref a)) (.ref C) := fun A Q E s k q => wpAny_typeOf_ref (k _ _ he3) (by rw [hz3.1]; exact q)
    have LM := PySem.W.exm_one (M := model X.prog X.w) (J3.kIn) LT hm1
    refine ld_glob (X := X.suite a ((a, oe3) :: (X.pn ++ pins))) S3 hg hm (LM.here ?_) hdb
    refine codeAny_handlers_suite_as (HandSPX.lands_againZ fl3 fun h4 fl4 up4 => ?_)
    have J4 : Inv X pins σ' H' { s' with heap := h4 } := J.landed nb fl4.1 ((up.trans up3).trans up4) os ag
    obtain ⟨oe4, vs4, he4, hz4, hd4⟩ := fl4.there
    have S4 := J4.suite he4 hd4 na nL nF
    refine store_ok (X := X.suite a ((a, oe4) :: (X.pn ++ pins))) (v := .ref a) S4 hN hi (.inl hln) rfl (fun s5 S5 => ?_) (.inr hln)
    have li : i < σ'.length := by rw [J4.len]; exact (List.getElem?_eq_some_iff.mp hi).1
    have hsu : PSs (X.suite a ((a, oe4) :: (X.pn ++ pins))) [.Assign [.Name y yp] (.Name n ep) ap] _ := pss_one (ps_set (i := j) hN hj (.inl hly) (pv i hi (.inl hln) nd1 nd2) hsw (.inr hly))
    refine wpAny_mono (hsu.run [] s5 _ H' { nx := fun σ6 H6 => D.nx (σ6.set i none) (upd H6 a (ExT C a)), rt := fun _ _ => False, bk := fun _ _ => False, ct := fun _ _ => False } S5 ⟨_, List.getElem?_set_self li, q a na⟩) (fun f s6 hsp => ?_) (fun _ _ z => False.elim z)
    cases f with
    | next =>
      obtain ⟨σ6, H6, S6, q6⟩ := hsp
      exact gone_ok (S6.outOf ok) hN hi hln fun s7 J7 => ⟨_, _, J7.tell hz4 hd4 a0 np', q6⟩
    | brk => obtain ⟨_, _, _, z⟩ := hsp; exact z.elim
    | cont => obtain ⟨_, _, _, z⟩ := hsp; exact z.elim
    | ret u => obtain ⟨_, _, _, _, _, z⟩ := hsp; exact z.elim
  · cases f with
    | next => obtain ⟨σ', H', J', q⟩ := hsp; exact wpAny_execs_nil ⟨σ', H', J'.ofTry ok, q⟩
    | brk => obtain ⟨σ', H', J', q⟩ := hsp; exact ⟨σ', H', J'.ofTry ok, q⟩
    | cont => obtain ⟨σ', H', J', q⟩ := hsp; exact ⟨σ', H', J'.ofTry ok, q⟩
    | ret u => obtain ⟨v, σ', H', J', r, q⟩ := hsp; exact ⟨v, σ', H', J'.ofTry ok, r, q⟩
end
end L2
namespace Mb
open PySem L2
/-! ### isinstance of a kept exception -/
def rIsX (K : PySem.W.Frag) : List V → Hp → VK → Prop := fun xs H Q => ∃ (a C : Addr) (c : V) (u : Value) (b : Bool), xs = [.ref a, c] ∧ H a = some (ExT C a) ∧ ExcC K C ∧ ClsV c u ∧ PySem.W.kitOne K (.ref C) u = some b ∧ Q (.bl b) H
theorem call_isX {X : Cx} : CallR X (.builtin "isinstance") (rIsX X.K) := by
  intro pins s σ H xs us Q I r h
  obtain ⟨a, C, c, u, b, rfl, ha, ex, k, e, q⟩ := h
  obtain ⟨u1, u2, rfl, r1, r2⟩ := vals2 r
  cases r1
  have e2 := k.eq r2
  subst e2
  obtain ⟨⟨oe, vs, hget, ⟨z1, z2⟩, hv⟩, _⟩ := (show ObjOk X.prog X.w H s.heap a (ExT C a) from I.hok a _ ha)
  have J : PySem.W.InstAt s.heap a oe C none := by
    obtain ⟨oc, od, oda, osl⟩ := oe
    dsimp only at z1 z2 hv
    subst z1 z2 hv
    exact ⟨hget, rfl, rfl, trivial⟩
  exact PySem.W.kia_one (PySem.W.handS_kitx_exc ex.hg ex.hk ex.hs ex.hd ex.ha ex.hn ex.ht ex.hm) I.kIn J e (fun z => nomatch z) fun tk => ⟨.bl b, H, I.tok tk, rfl, q⟩
/-- isinstance(x, T), x an exception kept in slot i -/
def vIsE (i : Nat) (fn : Nat → Bool) : Envt → Tr D := fun env => match env[i]? with
  | some (.ex c) => if c < 6 then .ret (.bool (fn c)) else .bad
  | _ => .bad
section
variable {cl : Nat → Addr} {X : Cx} {E : XK} {e a b c : Expr} {f g h : Envt → Tr D} {pos : Pos}
theorem de_isE_core (i : Nat) {x y : Str} {p p1 p2 : Pos} {fn : Nat → Bool} {cv : V} {u : Value} {tt : TE} (hm : X.mg "isinstance" = none) (pT : PE X (.Name y p2) (tC cv)) (hcv : ClsV cv u) (hE : ∀ c, c < 6 → ExcC X.K (cl c) ∧ PySem.W.kitOne X.K (.ref (cl c)) u = some (fn c))
    (hg : Gl X "isinstance" := by rfl) (hN : X.N[i]? = some x := by rfl) (hv : Vis X.env.scope x := by first | exact Or.inl rfl | exact Or.inr (Or.inl rfl) | exact Or.inr (Or.inr rfl)) (hd : (x == ("__debug__" : Str)) = false := by decide) (hcd : (x == ("__classdict__" : Str)) = false := by decide)
    (he : starEach [.Name x p1, .Name y p2] X.env = (false, eval (.Name x p1) X.env) :: starEach [.Name y p2] X.env := by rfl) (he2 : starEach [.Name y p2] X.env = (false, eval (.Name y p2) X.env) :: starEach [] X.env := by rfl)
    (hpl : (backTo pos (starEach [.Name y p2] X.env)).any (·.1) = false := by rfl) : DE cl X E (.Call (.Name "isinstance" p) [.Name x p1, .Name y p2] [] pos) (vIsE i fn) := by
  refine ⟨_, pe_callB call_isX hg hm (by decide +kernel) (pa_cons (pe_var (i := i) hN hv hd hcd) (pa_cons pT pa_nil he2) he) (by decide) (by decide) he hpl, fun F B ad σ H env Q hk' hc o k => ?_⟩
  unfold vIsE at k
  split at k
  · rename_i c he
    obtain ⟨oa, sv, e1, e2, q1, a, q2, q3⟩ := o.at_ he
    subst q2
    split at k
    · rename_i hlt
      obtain ⟨h1, h2⟩ := hE c hlt
      refine ⟨_, e2, a, F.cl c, cv, u, fn c, rfl, mask_le _ _ _ _ q3, by rw [hc]; exact h1, hcv, by rw [hc]; exact h2, ?_⟩
      exact k _ _ (Kx.refl o.k0.dr) (.bl _)
    · exact k.elim
  · exact k.elim
/-- an exception of its slot as an argument -/
def aEx (i : Nat) (g : Envt → Tr (List Ent)) : Envt → Tr (List Ent) := fun env => match env[i]? with
  | some (.ex c) => (g env).bind fun es => .ret (.ex c :: es)
  | _ => .bad
theorem da_ex (i : Nat) {x : Str} {es : List Expr} {g : Envt → Tr (List Ent)} (hr : DA cl X E es g) (hN : X.N[i]? = some x := by rfl) (hv : Vis X.env.scope x := by first | exact Or.inl rfl | exact Or.inr (Or.inl rfl) | exact Or.inr (Or.inr rfl))
    (hd : (x == ("__debug__" : Str)) = false := by decide) (hcd : (x == ("__classdict__" : Str)) = false := by decide) (hs : starEach (.Name x pos :: es) X.env = (false, eval (.Name x pos) X.env) :: starEach es X.env := by rfl) : DA cl X E (.Name x pos :: es) (aEx i g) := by
  obtain ⟨u, q, s⟩ := hr
  refine ⟨_, pa_cons (pe_var (i := i) hN hv hd hcd) q hs, fun F B ad σ H env Q hk hc o k => ?_⟩
  unfold aEx at k
  split at k
  · rename_i c he
    obtain ⟨oa, sv, e1, e2, q1, a, q2, q3⟩ := o.at_ he
    subst q2
    refine ⟨_, e2, s F B ad σ H env _ hk hc o (Tr.all_mono (fun es z xs H2 k2 rs => ?_) (fun _ z => z) (Tr.all_bind k))⟩
    exact z _ H2 k2 (.cons ⟨a, rfl, k2.msame _ _ q3⟩ rs)
  · exact k.elim
/-- x is None, x perhaps an exception -/
def bNoE (i : Nat) : Envt → Tr Bool := fun env => match env[i]? with
  | some (.fz .none) => .ret true
  | some (.ex _) => .ret false
  | _ => .bad
theorem dt_noE (i : Nat) {x : Str} {j : Nat} {p1 p2 : Pos} (hN : X.N[i]? = some x := by rfl) (hv : Vis X.env.scope x := by first | exact Or.inl rfl | exact Or.inr (Or.inl rfl) | exact Or.inr (Or.inr rfl))
    (hd : (x == ("__debug__" : Str)) = false := by decide) (hcd : (x == ("__classdict__" : Str)) = false := by decide) : DT cl X E (.Compare (.Name x p1) [.Is] [.Constant .none j p2] pos) (bNoE i) := by
  refine ⟨_, pt_cmpR op_isD (pe_var (i := i) hN hv hd hcd) pe_non (nomark _), fun F B ad σ H env Q hk hc o k => ?_⟩
  unfold bNoE at k
  split at k
  · rename_i he
    obtain ⟨oa, sv, e1, e2, q1, v, q2, q3⟩ := o.at_ he
    subst q2
    cases q3
    exact ⟨_, e2, .inl ⟨rfl, _, rfl, k _ (Kx.refl o.k0.dr)⟩⟩
  · rename_i c he
    obtain ⟨oa, sv, e1, e2, q1, a, q2, q3⟩ := o.at_ he
    subst q2
    exact ⟨_, e2, .inl ⟨rfl, _, rfl, k _ (Kx.refl o.k0.dr)⟩⟩
  · exact k.elim
/-! ### try: body / except x as n: y = n -/
/-- no list of one's own -/
def noOwA (env : Envt) : Bool := env.all fun e => match e with
  | .ow _ => false
  | .od _ => false
  | _ => true
def tryC : Tr Out → (Nat → Tr Out) → Tr Out
  | .ret a, _ => .ret a
  | .exc c, h => h c
  | .bad, _ => .bad
  | .draw n k, h => .draw n fun r => tryC (k r) h
theorem tryC_all {P : Out → Prop} {E E' : Nat → Prop} {h : Nat → Tr Out} (hh : ∀ c, (h c).all P E → E' c) : ∀ {t : Tr Out}, (tryC t h).all P E → t.all P E'
  | .ret _, k => k
  | .exc _, k => hh _ k
  | .bad, k => k
  | .draw _ _, k => fun r hr => tryC_all hh (k r hr)
def sTry (m : Nat) (g : Stm) (j : Nat) : Stm := fun env => if noOwA env then tryC (g env) (fun c => if c < 6 then .ret (.nx ((List.replicate m .un).set j (.ex c))) else .bad) else .bad
theorem Ok.noAd {F : Fx} {B : Hp} {ad : Ads} {σ : St} {H : Hp} {env : Envt} (o : Ok F B ad σ H env) (h : noOwA env = true) (i : Nat) (a : Addr) : ad[i]? ≠ some (some a) := o.noOw (fun ds q => by
  have := List.all_eq_true.mp h _ (List.mem_of_getElem? q)
  cases this) (fun ds q => by
  have := List.all_eq_true.mp h _ (List.mem_of_getElem? q)
  cases this) a
/-- the body's own ground: the heap as it is -/
def Fx.here (F : Fx) (H : Hp) (h1 : ∀ a, F.O a → ∃ o, H a = some o) (h2 : DrOk F.dt H) : Fx := { F with H0 := H, oin := h1, d0 := h2 }
theorem ds_try (i j m : Nat) {x n y : Str} {M : Addr} {body : List Stmt} {np yp ep ap pos' : Pos} {gb : Stm} (hN : X.N.Nodup) (hm : X.mg x = some (.ref M)) (hE : ∀ c, c < 6 → PySem.W.exmOne X.K (.ref (cl c)) (.ref M) = some true)
    (hb : ∀ (pn : List (Addr × Obj)) (xe : Value → Shared → Prop) (E' : XK), Passes (L2.CX X.prog X.w) (X.tr pn xe) E' → DSs cl (X.tr pn xe) E' body gb)
    (hs : X.stack = X.env :: X.outer := by rfl) (hf : X.env.frame = some X.env.locals := by rfl) (hi : X.N[i]? = some n := by rfl) (hj : X.N[j]? = some y := by rfl) (hij : i ≠ j := by decide) (hml : X.N.length = m := by rfl) (hln : X.env.kindOf n = some .local := by rfl) (hly : X.env.kindOf y = some .local := by rfl) (hg : Gl X x := by rfl) (hdb : (x == ("__debug__" : Str)) = false := by decide)
    (hex : X.ex = [] := by rfl) (nd1 : (n == ("__debug__" : Str)) = false := by decide) (nd2 : (n == ("__classdict__" : Str)) = false := by decide) (hsw : swapsWith (.Name n ep) (some (.Name y yp)) ap.line X.env = pure false := by rfl) :
    DS cl X E (.Try body [.ExceptHandler (some (.Name x np)) (some n) [.Assign [.Name y yp] (.Name n ep) ap] pos'] [] [] pos) (sTry m gb j) := by
  refine ⟨_, ps_try_keep (tb := fun W D σ H => ∃ (F : Fx) (B : Hp) (ad : Ads) (env : Envt), F.K = X.K ∧ F.cl = cl ∧ Ok F B ad σ H env ∧ (gb env).all (SPost F B D) (EOk F fun cls d H => ∀ σ' : St, σ'.length = X.N.length → W cls d σ' H)) hs hf hN hi hj hln hly hg hdb hm hex nd1 nd2 hsw (fun W pn xe tk po => ?_), fun F B ad σ H env N hk hc o k => ?_⟩
  · obtain ⟨t, p, r⟩ := hb pn xe (fun cls d H => ∀ σ' : St, σ'.length = X.N.length → W cls d σ' H) (fun pins σ H s e s' I c => tk e s' (XE.of_call I (fun cls d H' z => z σ I.len) c))
    exact ⟨fun pins s σ H D I ⟨F, B, ad, env, hk, hc, o, k⟩ => p.run pins s σ H D I (r F B ad σ H env D hk hc o k)⟩
  · unfold sTry at k
    split at k
    · rename_i hno
      have nad := o.noAd hno
      have mmO : ∀ {a}, Mm F ad a → F.O a := fun {a} q => q.elim id fun m => by
        obtain ⟨i, hi, e⟩ := List.getElem_of_mem m
        exact (nad i a (by rw [List.getElem?_eq_getElem hi, e])).elim
      have hO : ∀ a, F.O a → ∃ o, H a = some o := fun a q => o.Msome (.inl q)
      have ms0 : Same B (mask H F.O) := o.hb.trans (mask_same fun a x n e => ⟨fun q => n (.inl q), e⟩)
      refine ⟨F.here H hO o.k0.dr, mask H F.O, ad, env, hk, hc, ⟨mask_same fun a x n e => ⟨fun q => n (mmO q), e⟩, Kx.refl o.k0.dr, o.ls, o.la, o.ent, o.inj, fun i a q => (nad i a q).elim⟩, ?_⟩
      refine Tr.all_mono (fun ou z => ?_) (fun c z => z) (tryC_all (E' := EOk (F.here H hO o.k0.dr) _) (fun c z => ?_) k)
      · have back : ∀ {ad' σ' H' env'}, Ok (F.here H hO o.k0.dr) (mask H F.O) ad' σ' H' env' → Ok F B ad' σ' H' env' := fun {ad' σ' H' env'} o' =>
          ⟨ms0.trans o'.hb, o.k0.trans o'.k0, o'.ls, o'.la, o'.ent, o'.inj, fun i a q => o.k0.free F.d0 (o'.new i a q)⟩
        cases ou with
        | nx env' => exact fun ad' σ' H' o' => z ad' σ' H' (back o')
        | bk env' => exact fun ad' σ' H' o' => z ad' σ' H' (back o')
        | ct env' => exact fun ad' σ' H' o' => z ad' σ' H' (back o')
        | rt d => exact fun v H' k' rv => z v H' (o.k0.trans k') rv
      · intro H' k' σ' hl
        split at z
        · rename_i hlt
          have k' : Kx F.dt H H' := k'
          refine ⟨F.cl c, rfl, rfl, by show PySem.W.exmOne X.K (.ref (F.cl c)) _ = _; rw [hc]; exact hE c hlt, fun a na => ?_⟩
          have nO : ¬ F.O a := fun q => by
            obtain ⟨x, e⟩ := hO a q
            by_cases hd : dl F.dt a
            · obtain ⟨x, e⟩ := k'.dr.some hd
              rw [na] at e; cases e
            · rw [k'.keep a x e hd] at na; cases na
          have mn : ∀ {a}, Mm F (List.replicate m none) a → F.O a := fun {a} q => q.elim id fun w => by cases List.eq_of_mem_replicate w
          have jl : j < m := by rw [← hml]; exact (List.getElem?_eq_some_iff.mp hj).1
          refine z (List.replicate m none) _ _ ⟨?_, ?_, ?_, ?_, ?_, ?_, ?_⟩
          · refine ms0.trans (mask_same fun b x n e => ⟨fun q => n (mn q), ?_⟩)
            have e1 := k'.keep b x e (fun q => n (F.odl b q))
            rw [upd_ne (ne_of_none e1 na)]; exact e1
          · exact (o.k0.trans k').trans (Kx.of_same k'.dr (same_new na))
          · simp [hl, hml]
          · simp
          · intro l oa sv e h1 h2 h3
            have ho := List.eq_of_mem_replicate (List.mem_of_getElem? h1)
            subst ho
            by_cases hjl : j = l
            · subst hjl
              rw [List.getElem?_set_self (by simpa using jl)] at h3
              cases h3
              rw [List.getElem?_set_ne hij, List.getElem?_set_self (by simp [hl, hml, jl])] at h2
              cases h2
              exact ⟨rfl, a, rfl, (mask_out fun q => nO (mn q)).trans upd_same⟩
            · rw [List.getElem?_set_ne hjl] at h3
              have := List.eq_of_mem_replicate (List.mem_of_getElem? h3)
              subst this
              exact rfl
          · intro i j a q1 q2
            have := List.eq_of_mem_replicate (List.mem_of_getElem? q1)
            cases this
          · intro i a q
            have := List.eq_of_mem_replicate (List.mem_of_getElem? q)
            cases this
        · exact z.elim
    · exact k.elim
end
/-- the six errors and their base (place 6) -/
structure ErrAt (K : PySem.W.Frag) (mg : Str → Option Value) (cl : Nat → Addr) : Prop where
  m : ∀ c, c < 6 → PySem.W.exmOne K (.ref (cl c)) (.ref (cl 6)) = some true
  x : ∀ c, c < 6 → ExcC K (cl c)
  k : ∀ d, d < 6 → ∀ c, c < 6 → PySem.W.kitOne K (.ref (cl c)) (.ref (cl d)) = some (c == d)
  b : ∀ c, c < 6 → PySem.W.kitOne K (.ref (cl c)) (.ref (cl 6)) = some true
  v : ∀ c, c < 6 → PySem.W.kitOne K (.ref (cl c)) (.type "ValueError") = some true
  n0 : mg "BadRule" = some (.ref (cl 0))
  n1 : mg "BadRally" = some (.ref (cl 1))
  n2 : mg "BadBoards" = some (.ref (cl 2))
  n3 : mg "BadNumber" = some (.ref (cl 3))
  n4 : mg "BadText" = some (.ref (cl 4))
  n5 : mg "NotFound" = some (.ref (cl 5))
  n6 : mg "MatchError" = some (.ref (cl 6))
theorem all6 {P : Nat → Prop} (h0 : P 0) (h1 : P 1) (h2 : P 2) (h3 : P 3) (h4 : P 4) (h5 : P 5) : ∀ c, c < 6 → P c
  | 0, _ => h0
  | 1, _ => h1
  | 2, _ => h2
  | 3, _ => h3
  | 4, _ => h4
  | 5, _ => h5
  | n + 6, h => absurd h (by omega)
section
variable {cl : Nat → Addr} {X : Cx} {E : XK} {pos : Pos}
theorem de_isE (i d : Nat) {x y : Str} {p p1 p2 : Pos} (A : ErrAt X.K X.mg cl) (hm : X.mg "isinstance" = none) (hy : X.mg y = some (.ref (cl d))) (hd6 : d < 6 := by decide) (hgT : Gl X y := by rfl) (hdb : (y == ("__debug__" : Str)) = false := by decide)
    (hg : Gl X "isinstance" := by rfl) (hN : X.N[i]? = some x := by rfl) (hv : Vis X.env.scope x := by first | exact Or.inl rfl | exact Or.inr (Or.inl rfl) | exact Or.inr (Or.inr rfl)) (hd : (x == ("__debug__" : Str)) = false := by decide) (hcd : (x == ("__classdict__" : Str)) = false := by decide)
    (he : starEach [.Name x p1, .Name y p2] X.env = (false, eval (.Name x p1) X.env) :: starEach [.Name y p2] X.env := by rfl) (he2 : starEach [.Name y p2] X.env = (false, eval (.Name y p2) X.env) :: starEach [] X.env := by rfl)
    (hpl : (backTo pos (starEach [.Name y p2] X.env)).any (·.1) = false := by rfl) : DE cl X E (.Call (.Name "isinstance" p) [.Name x p1, .Name y p2] [] pos) (vIsE i (fun c => c == d)) :=
  de_isE_core i (tt := tC .non) hm (pe_glob (v := .ref (cl d)) hgT hy rfl hdb) (.own _) (fun c h => ⟨A.x c h, A.k d hd6 c h⟩) hg hN hv hd hcd he he2 hpl
theorem de_isEm (i : Nat) {x y : Str} {p p1 p2 : Pos} (A : ErrAt X.K X.mg cl) (hm : X.mg "isinstance" = none) (hy : X.mg y = some (.ref (cl 6))) (hgT : Gl X y := by rfl) (hdb : (y == ("__debug__" : Str)) = false := by decide)
    (hg : Gl X "isinstance" := by rfl) (hN : X.N[i]? = some x := by rfl) (hv : Vis X.env.scope x := by first | exact Or.inl rfl | exact Or.inr (Or.inl rfl) | exact Or.inr (Or.inr rfl)) (hd : (x == ("__debug__" : Str)) = false := by decide) (hcd : (x == ("__classdict__" : Str)) = false := by decide)
    (he : starEach [.Name x p1, .Name y p2] X.env = (false, eval (.Name x p1) X.env) :: starEach [.Name y p2] X.env := by rfl) (he2 : starEach [.Name y p2] X.env = (false, eval (.Name y p2) X.env) :: starEach [] X.env := by rfl)
    (hpl : (backTo pos (starEach [.Name y p2] X.env)).any (·.1) = false := by rfl) : DE cl X E (.Call (.Name "isinstance" p) [.Name x p1, .Name y p2] [] pos) (vIsE i (fun _ => true)) :=
  de_isE_core i (tt := tC .non) hm (pe_glob (v := .ref (cl 6)) hgT hy rfl hdb) (.own _) (fun c h => ⟨A.x c h, A.b c h⟩) hg hN hv hd hcd he he2 hpl
theorem de_isEv (i : Nat) {x : Str} {p p1 p2 : Pos} (A : ErrAt X.K X.mg cl) (hm : X.mg "isinstance" = none) (hy : X.mg "ValueError" = none) (hgT : Gl X "ValueError" := by rfl)
    (hg : Gl X "isinstance" := by rfl) (hN : X.N[i]? = some x := by rfl) (hv : Vis X.env.scope x := by first | exact Or.inl rfl | exact Or.inr (Or.inl rfl) | exact Or.inr (Or.inr rfl)) (hd : (x == ("__debug__" : Str)) = false := by decide) (hcd : (x == ("__classdict__" : Str)) = false := by decide)
    (he : starEach [.Name x p1, .Name "ValueError" p2] X.env = (false, eval (.Name x p1) X.env) :: starEach [.Name "ValueError" p2] X.env := by rfl) (he2 : starEach [.Name "ValueError" p2] X.env = (false, eval (.Name "ValueError" p2) X.env) :: starEach [] X.env := by rfl)
    (hpl : (backTo pos (starEach [.Name "ValueError" p2] X.env)).any (·.1) = false := by rfl) : DE cl X E (.Call (.Name "isinstance" p) [.Name x p1, .Name "ValueError" p2] [] pos) (vIsE i (fun _ => true)) :=
  de_isE_core i (tt := tC .non) hm (pe_bltn (v := .ty "ValueError") hgT hy (by decide +kernel) rfl (by decide) (by decide)) (.ty _) (fun c h => ⟨A.x c h, A.v c h⟩) hg hN hv hd hcd he he2 hpl
end
end Mb

/-! enumerate(zip(a, b)) -/
namespace Mb
open PySem PySem.W PyProof.Rows
open AutoSeq1 (wpAny_loadPart')
def Zo (f0 : Value) (f : Bool) (TI TO : Addr) : Obj := { cls := .type "zip", dict := none, data := .fields #[f0, .bool f, .bool false, .ref TI, .ref TO], slots := #[] }
def Zf (f0 : Value) : Prop := f0 = .none ∨ ∃ T : Addr, f0 = rawInt T
section
variable {prog : Program} {w : World} {A : Around} {E : Value → Shared → Prop} {s : Shared} {z TI TO i1 i2 l1 l2 : Addr} {f0 : Value} {f : Bool}
theorem alive_any {a : Addr} {Q : Option Obj → Shared → Prop} (h : Q (s.heap.get? a) s) : wpAny (model prog w) A (loadIfAlive a) Q E s := fun _ _ _ => h
theorem zfree {Q : Bool → Shared → Prop} (hz : s.heap.get? z = some (Zo f0 f TI TO)) (hf : Zf f0) (q1 : Q true s)
    (q0 : ∀ h', h'.get? z = some (Zo f0 true TI TO) → Heap.SameBut z s.heap h' → Q false { s with heap := h' }) : wpAny (model prog w) A (Builtin.SmallTypes.ownedTupleIsFree (.ref z)) Q E s := by
  unfold Builtin.SmallTypes.ownedTupleIsFree
  refine wpAny_bind (wpAny_field hz rfl (x := f0) rfl ?_)
  rcases hf with rfl | ⟨T, rfl⟩
  · exact wpAny_pure q1
  · show wpAny _ _ (loadIfAlive ((T : Int).toNat) >>= _) _ _ _
    refine wpAny_bind (alive_any ?_)
    cases s.heap.get? (T : Int).toNat with
    | none => exact wpAny_pure q1
    | some oT =>
      simp only [Option.isNone_some, Bool.false_eq_true, if_false]
      refine wpAny_bind (wpAny_field hz rfl (x := .bool f) rfl ?_)
      cases f with
      | true =>
        rw [if_neg (show ¬ ((Value.bool true != Value.bool true) = true) by decide)]
        exact wpAny_pure (q0 s.heap hz (Heap.SameBut.refl _ _))
      | false =>
        rw [if_pos (show (Value.bool false != Value.bool true) = true by decide)]
        exact wpAny_bind (wpAny_setField_rec hz (by simp) fun g1 e1 k1 => wpAny_pure (q0 g1 e1 k1))
/-- the next pair of a zip of two lists, its own tuple free or not -/
theorem znext {k1 k2 : Nat} {xs ys : Array Value} {x y a b : Value} {Q : Value → Shared → Prop} (D : ZipApart z TI TO i1 i2 l1 l2) (hz : s.heap.get? z = some (Zo f0 f TI TO)) (hf : Zf f0)
    (pI : IsPair s.heap TI (.ref i1) (.ref i2)) (pO : IsPair s.heap TO a b) (t1 : s.heap.IsListIter i1 l1 k1) (t2 : s.heap.IsListIter i2 l2 k2) (L1 : s.heap.IsList l1 xs) (L2 : s.heap.IsList l2 ys) (hx : xs[k1]? = some x) (hy : ys[k2]? = some y)
    (hQ : ∀ g e0 e, g.get? z = some (Zo e0 e TI TO) → Zf e0 → (∃ u v, IsPair g TO u v) → g.IsListIter i1 l1 (k1 + 1) → g.IsListIter i2 l2 (k2 + 1) → IsPair g s.heap.objs.size x y → g.objs.size = s.heap.objs.size + 1 →
      (∀ c o, c ≠ z → c ≠ TO → c ≠ i1 → c ≠ i2 → s.heap.get? c = some o → g.get? c = some o) → Q (.ref s.heap.objs.size) { s with heap := g }) :
    wpAny (model prog w) A (Builtin.«zip.__next__» ⟨[.ref z], []⟩) (fun fin s' => ∃ v, fin = .done (.ret v) ∧ Q v s') E s := by
  show wpAny _ _ (field (Value.ref z) 2 >>= _) _ _ _
  refine wpAny_bind (wpAny_field hz rfl (x := .bool false) (by rfl) ?_)
  show wpAny _ _ (field (Value.ref z) 3 >>= _) _ _ _
  refine wpAny_bind (wpAny_field hz rfl (x := .ref TI) (by rfl) ?_)
  refine wpAny_bind (wpAny_seqItems pI (by rfl) ?_)
  refine wpAny_bind (zfree hz hf ?free fun g1 z1 s1 => ?held)
  case free =>
    simp only [if_true]
    refine wpAny_bind (wpAny_rule ?_)
    refine wpAny_bind (wpAny_field hz rfl (x := .ref TO) (by rfl) ?_)
    refine wpAny_bind (wpAny_setField_rec hz (by simp) fun g1 z1 s1 => ?_)
    have z1 : g1.get? z = some (Zo .ellipsis f TI TO) := z1
    refine wpAny_bind ?_
    simp only [List.zipIdx_cons, List.zipIdx_nil, List.forIn_cons, List.forIn_nil]
    refine wpAny_bind (wpAny_bind (wpAny_onRaise ?_))
    show wpAny _ _ (Builtin.SmallTypes.nextOf (Value.ref i1) >>= _) _ _ _
    refine wpAny_bind (wpAny_nextOf_list_item (t1.extBut s1.extBut D.i1z) (L1.extBut s1.extBut D.l1z) hx fun g2 u2 s2 => wpAny_pure ?_)
    have o2 : IsPair g2 TO a b := s2.extBut _ _ D.TOi1 (s1.extBut _ _ D.TOz pO)
    refine wpAny_bind (wpAny_seqItems o2 (by rfl) ?_)
    refine wpAny_bind (wpAny_updateSeq_pair o2 fun g3 o3 s3 => ?_)
    have o3 : IsPair g3 TO x b := o3
    refine wpAny_bind (wpAny_letGo (wpAny_pure ?_))
    refine wpAny_bind (wpAny_bind (wpAny_onRaise ?_))
    show wpAny _ _ (Builtin.SmallTypes.nextOf (Value.ref i2) >>= _) _ _ _
    refine wpAny_bind (wpAny_nextOf_list_item (((t2.extBut s1.extBut D.i2z).extBut s2.extBut D.i12.symm).extBut s3.extBut D.TOi2.symm) (((L2.extBut s1.extBut D.l2z).extBut s2.extBut D.l2i1).extBut s3.extBut D.l2TO) hy fun g4 u4 s4 => wpAny_pure ?_)
    have o4 : IsPair g4 TO x b := s4.extBut _ _ D.TOi2 o3
    refine wpAny_bind (wpAny_seqItems o4 (by rfl) ?_)
    refine wpAny_bind (wpAny_updateSeq_pair o4 fun g5 o5 s5 => ?_)
    have o5 : IsPair g5 TO x y := o5
    refine wpAny_bind (wpAny_letGo (wpAny_pure (wpAny_pure ?_)))
    refine wpAny_bind (wpAny_seqItems o5 (by rfl) ?_)
    refine wpAny_bind (wpAny_newTuple ?_)
    have ez : g5.objs.size = s.heap.objs.size := by rw [s5.1, s4.1, s3.1, s2.1, s1.1]
    have z5 : g5.get? z = some (Zo .ellipsis f TI TO) := s5.extBut _ _ D.TOz.symm (s4.extBut _ _ D.i2z.symm (s3.extBut _ _ D.TOz.symm (s2.extBut _ _ D.i1z.symm z1)))
    have kp : ∀ c o, c ≠ z → c ≠ TO → c ≠ i1 → c ≠ i2 → s.heap.get? c = some o → g5.get? c = some o := fun c o c1 c2 c3 c4 e =>
      s5.extBut c o c2 (s4.extBut c o c4 (s3.extBut c o c2 (s2.extBut c o c3 (s1.extBut c o c1 e))))
    have w1 : g5.IsListIter i1 l1 (k1 + 1) := ((u2.extBut s3.extBut D.TOi1.symm).extBut s4.extBut D.i12).extBut s5.extBut D.TOi1.symm
    have w2 : g5.IsListIter i2 l2 (k2 + 1) := u4.extBut s5.extBut D.TOi2.symm
    have lz : z < g5.objs.size := Heap.lt_size z5
    show wpAny _ _ (Builtin.SmallTypes.ownedTupleHandOut (Value.ref z) (Value.ref g5.objs.size) >>= _) _ _ _
    refine wpAny_bind ?_
    unfold Builtin.SmallTypes.ownedTupleHandOut
    have z6 : (g5.push { cls := .type "tuple", data := .seq #[x, y] }).get? z = some (Zo .ellipsis f TI TO) := Heap.get?_push_of_some _ z5
    refine wpAny_bind (wpAny_setField_rec z6 (by simp) fun g7 z7 s7 => ?_)
    have z7 : g7.get? z = some (Zo (rawInt g5.objs.size) f TI TO) := z7
    refine wpAny_setField_rec z7 (by simp) fun g8 z8 s8 => ?_
    have z8 : g8.get? z = some (Zo (rawInt g5.objs.size) false TI TO) := z8
    have up : ∀ c o, c ≠ z → g5.get? c = some o → g8.get? c = some o := fun c o c1 e => s8.extBut c o c1 (s7.extBut c o c1 (Heap.get?_push_of_some _ e))
    have p8 : IsPair g8 g5.objs.size x y := s8.extBut _ _ (Nat.ne_of_gt lz) (s7.extBut _ _ (Nat.ne_of_gt lz) (Heap.get?_push_size _ rfl))
    have e8 : g8.objs.size = g5.objs.size + 1 := by rw [s8.1, s7.1, Heap.size_push]
    rw [ez] at p8 e8
    refine wpAny_pure ⟨_, rfl, ?_⟩
    show Q (Value.ref g5.objs.size) _
    rw [ez]
    exact hQ g8 _ _ z8 (.inr ⟨_, rfl⟩) ⟨x, y, up _ _ D.TOz o5⟩ (w1.at fun o e => up _ o D.i1z e) (w2.at fun o e => up _ o D.i2z e) p8 e8 fun c o c1 c2 c3 c4 e => up c o c1 (kp c o c1 c2 c3 c4 e)
  case held =>
    simp only [Bool.false_eq_true, if_false]
    refine wpAny_bind ?_
    rw [← Array.forIn_toList]
    simp only [List.forIn_cons, List.forIn_nil]
    refine wpAny_bind (wpAny_bind (wpAny_holding ?_))
    show wpAny _ _ (Builtin.SmallTypes.nextOf (Value.ref i1) >>= _) _ _ _
    refine wpAny_bind (wpAny_nextOf_list_item (s := { s with heap := g1 }) (t1.extBut s1.extBut D.i1z) (L1.extBut s1.extBut D.l1z) hx fun g2 u2 s2 => wpAny_pure ?_)
    refine wpAny_pure ?_
    refine wpAny_bind (wpAny_bind (wpAny_holding ?_))
    show wpAny _ _ (Builtin.SmallTypes.nextOf (Value.ref i2) >>= _) _ _ _
    refine wpAny_bind (wpAny_nextOf_list_item (s := { s with heap := g2 }) ((t2.extBut s1.extBut D.i2z).extBut s2.extBut D.i12.symm) ((L2.extBut s1.extBut D.l2z).extBut s2.extBut D.l2i1) hy fun g3 u3 s3 => wpAny_pure ?_)
    refine wpAny_pure (wpAny_pure ?_)
    show wpAny _ _ (newTuple [x, y] >>= _) _ _ _
    refine wpAny_bind (wpAny_newTuple ?_)
    have ez : g3.objs.size = s.heap.objs.size := by rw [s3.1, s2.1, s1.1]
    have z3 : g3.get? z = some (Zo f0 true TI TO) := s3.extBut _ _ D.i2z.symm (s2.extBut _ _ D.i1z.symm z1)
    have kp : ∀ c o, c ≠ z → c ≠ i1 → c ≠ i2 → s.heap.get? c = some o → g3.get? c = some o := fun c o c1 c3 c4 e => s3.extBut c o c4 (s2.extBut c o c3 (s1.extBut c o c1 e))
    have w1 : g3.IsListIter i1 l1 (k1 + 1) := u2.extBut s3.extBut D.i12
    have p3 : IsPair (g3.push { cls := .type "tuple", data := .seq #[x, y] }) g3.objs.size x y := Heap.get?_push_size _ rfl
    have e3 : (g3.push { cls := .type "tuple", data := .seq #[x, y] }).objs.size = g3.objs.size + 1 := Heap.size_push ..
    refine wpAny_pure ⟨_, rfl, ?_⟩
    show Q (Value.ref g3.objs.size) _
    rw [ez] at p3 e3 ⊢
    exact hQ _ _ _ (Heap.get?_push_of_some _ z3) hf ⟨a, b, Heap.get?_push_of_some _ (kp _ _ D.TOz D.TOi1 D.TOi2 pO)⟩ (w1.at fun o e => Heap.get?_push_of_some _ e) (u3.at fun o e => Heap.get?_push_of_some _ e) p3 e3 fun c o c1 _ c3 c4 e => Heap.get?_push_of_some _ (kp c o c1 c3 c4 e)
theorem znext_end {k1 k2 : Nat} {xs ys : Array Value} {a b : Value} {Q : Fin → Shared → Prop} (hh : A.handled = none) (D : ZipApart z TI TO i1 i2 l1 l2) (hz : s.heap.get? z = some (Zo f0 f TI TO)) (hf : Zf f0)
    (pI : IsPair s.heap TI (.ref i1) (.ref i2)) (pO : IsPair s.heap TO a b) (t1 : s.heap.IsListIter i1 l1 k1) (t2 : s.heap.IsListIter i2 l2 k2) (L1 : s.heap.IsList l1 xs) (L2 : s.heap.IsList l2 ys) (hend : xs[k1]? = none ∨ ys[k2]? = none)
    (hE : ∀ g e, (∀ c o, c ≠ z → c ≠ TO → c ≠ i1 → c ≠ i2 → s.heap.get? c = some o → g.get? c = some o) → (∃ o, g.get? e = some o ∧ o.cls = .type "StopIteration") → E (.ref e) { s with heap := g }) :
    wpAny (model prog w) A (Builtin.«zip.__next__» ⟨[.ref z], []⟩) Q E s := by
  show wpAny _ _ (field (Value.ref z) 2 >>= _) _ _ _
  refine wpAny_bind (wpAny_field hz rfl (x := .bool false) (by rfl) ?_)
  show wpAny _ _ (field (Value.ref z) 3 >>= _) _ _ _
  refine wpAny_bind (wpAny_field hz rfl (x := .ref TI) (by rfl) ?_)
  refine wpAny_bind (wpAny_seqItems pI (by rfl) ?_)
  refine wpAny_bind (zfree hz hf ?free fun g1 z1 s1 => ?held)
  case free =>
    simp only [if_true]
    refine wpAny_bind (wpAny_rule ?_)
    refine wpAny_bind (wpAny_field hz rfl (x := .ref TO) (by rfl) ?_)
    refine wpAny_bind (wpAny_setField_rec hz (by simp) fun g1 z1 s1 => ?_)
    have z1 : g1.get? z = some (Zo .ellipsis f TI TO) := z1
    refine wpAny_bind ?_
    simp only [List.zipIdx_cons, List.zipIdx_nil, List.forIn_cons, List.forIn_nil]
    refine wpAny_bind (wpAny_bind (wpAny_onRaise ?_))
    show wpAny _ _ (Builtin.SmallTypes.nextOf (Value.ref i1) >>= _) _ _ _
    cases hx : xs[k1]? with
    | none =>
      refine wpAny_bind (wpAny_nextOf_list_end hh (t1.extBut s1.extBut D.i1z) (L1.extBut s1.extBut D.l1z) hx fun g2 e s2 he => ?_)
      obtain ⟨oe, e1, e2⟩ := he
      have z2 : g2.get? z = some (Zo .ellipsis f TI TO) := s2 _ _ D.i1z.symm z1
      have ne : e ≠ z := fun q => by
        subst q
        rw [z2] at e1
        cases e1
        exact absurd e2 (by simp [Zo])
      exact wpAny_setField_rec z2 (by simp) fun g3 _ s3 => hE g3 e (fun c o c1 _ c3 _ q => s3.extBut c o c1 (s2 c o c3 (s1.extBut c o c1 q))) ⟨oe, s3.extBut _ _ ne e1, e2⟩
    | some x =>
      have hy : ys[k2]? = none := hend.resolve_left fun q => by rw [hx] at q; cases q
      refine wpAny_bind (wpAny_nextOf_list_item (t1.extBut s1.extBut D.i1z) (L1.extBut s1.extBut D.l1z) hx fun g2 u2 s2 => wpAny_pure ?_)
      have o2 : IsPair g2 TO a b := s2.extBut _ _ D.TOi1 (s1.extBut _ _ D.TOz pO)
      refine wpAny_bind (wpAny_seqItems o2 (by rfl) ?_)
      refine wpAny_bind (wpAny_updateSeq_pair o2 fun g3 o3 s3 => ?_)
      refine wpAny_bind (wpAny_letGo (wpAny_pure ?_))
      refine wpAny_bind (wpAny_bind (wpAny_onRaise ?_))
      show wpAny _ _ (Builtin.SmallTypes.nextOf (Value.ref i2) >>= _) _ _ _
      refine wpAny_bind (wpAny_nextOf_list_end hh (((t2.extBut s1.extBut D.i2z).extBut s2.extBut D.i12.symm).extBut s3.extBut D.TOi2.symm) (((L2.extBut s1.extBut D.l2z).extBut s2.extBut D.l2i1).extBut s3.extBut D.l2TO) hy fun g4 e s4 he => ?_)
      obtain ⟨oe, e1, e2⟩ := he
      have z4 : g4.get? z = some (Zo .ellipsis f TI TO) := s4 _ _ D.i2z.symm (s3.extBut _ _ D.TOz.symm (s2.extBut _ _ D.i1z.symm z1))
      have ne : e ≠ z := fun q => by
        subst q
        rw [z4] at e1
        cases e1
        exact absurd e2 (by simp [Zo])
      exact wpAny_setField_rec z4 (by simp) fun g5 _ s5 => hE g5 e (fun c o c1 c2 c3 c4 q => s5.extBut c o c1 (s4 c o c4 (s3.extBut c o c2 (s2.extBut c o c3 (s1.extBut c o c1 q))))) ⟨oe, s5.extBut _ _ ne e1, e2⟩
  case held =>
    simp only [Bool.false_eq_true, if_false]
    refine wpAny_bind ?_
    rw [← Array.forIn_toList]
    simp only [List.forIn_cons, List.forIn_nil]
    refine wpAny_bind (wpAny_bind (wpAny_holding ?_))
    show wpAny _ _ (Builtin.SmallTypes.nextOf (Value.ref i1) >>= _) _ _ _
    cases hx : xs[k1]? with
    | none =>
      refine wpAny_bind (wpAny_nextOf_list_end (s := { s with heap := g1 }) hh (t1.extBut s1.extBut D.i1z) (L1.extBut s1.extBut D.l1z) hx fun g2 e s2 he => ?_)
      exact hE g2 e (fun c o c1 _ c3 _ q => s2 c o c3 (s1.extBut c o c1 q)) he
    | some x =>
      have hy : ys[k2]? = none := hend.resolve_left fun q => by rw [hx] at q; cases q
      refine wpAny_bind (wpAny_nextOf_list_item (s := { s with heap := g1 }) (t1.extBut s1.extBut D.i1z) (L1.extBut s1.extBut D.l1z) hx fun g2 u2 s2 => wpAny_pure ?_)
      refine wpAny_pure ?_
      refine wpAny_bind (wpAny_bind (wpAny_holding ?_))
      show wpAny _ _ (Builtin.SmallTypes.nextOf (Value.ref i2) >>= _) _ _ _
      refine wpAny_bind (wpAny_nextOf_list_end (s := { s with heap := g2 }) hh ((t2.extBut s1.extBut D.i2z).extBut s2.extBut D.i12.symm) ((L2.extBut s1.extBut D.l2z).extBut s2.extBut D.l2i1) hy fun g3 e s3 he => ?_)
      exact hE g3 e (fun c o c1 _ c3 c4 q => s3 c o c4 (s2.extBut c o c3 (s1.extBut c o c1 q))) he
/-- next(zip) as the enumerate asks it -/
theorem znextOf {k1 k2 : Nat} {xs ys : Array Value} {x y a b : Value} {Q : Value → Shared → Prop} (D : ZipApart z TI TO i1 i2 l1 l2) (hz : s.heap.get? z = some (Zo f0 f TI TO)) (hf : Zf f0)
    (pI : IsPair s.heap TI (.ref i1) (.ref i2)) (pO : IsPair s.heap TO a b) (t1 : s.heap.IsListIter i1 l1 k1) (t2 : s.heap.IsListIter i2 l2 k2) (L1 : s.heap.IsList l1 xs) (L2 : s.heap.IsList l2 ys) (hx : xs[k1]? = some x) (hy : ys[k2]? = some y)
    (hQ : ∀ g e0 e, g.get? z = some (Zo e0 e TI TO) → Zf e0 → (∃ u v, IsPair g TO u v) → g.IsListIter i1 l1 (k1 + 1) → g.IsListIter i2 l2 (k2 + 1) → IsPair g s.heap.objs.size x y → g.objs.size = s.heap.objs.size + 1 →
      (∀ c o, c ≠ z → c ≠ TO → c ≠ i1 → c ≠ i2 → s.heap.get? c = some o → g.get? c = some o) → Q (.ref s.heap.objs.size) { s with heap := g }) :
    wpAny (model prog w) A (Builtin.SmallTypes.nextOf (.ref z)) Q E s := by
  have ht : s.TypeIs (.ref z) "zip" := ⟨_, hz, rfl⟩
  unfold Builtin.SmallTypes.nextOf
  refine wpAny_bind (wpAny_callSpecial?_slot (name := Str.ofString "__next__") ht F.slot_zip_next (wpAny_call_entry F.slot_zip_next ht F.entry_zip_next ?_ (F.args_zip_next_1 _)))
  exact znext D hz hf pI pO t1 t2 L1 L2 hx hy fun g e0 e b1 b2 b3 b4 b5 b6 b7 b8 => wpAny_pure (hQ g e0 e b1 b2 b3 b4 b5 b6 b7 b8)
theorem znextOf_end {k1 k2 : Nat} {xs ys : Array Value} {a b : Value} {Q : Value → Shared → Prop} (hh : A.handled = none) (D : ZipApart z TI TO i1 i2 l1 l2) (hz : s.heap.get? z = some (Zo f0 f TI TO)) (hf : Zf f0)
    (pI : IsPair s.heap TI (.ref i1) (.ref i2)) (pO : IsPair s.heap TO a b) (t1 : s.heap.IsListIter i1 l1 k1) (t2 : s.heap.IsListIter i2 l2 k2) (L1 : s.heap.IsList l1 xs) (L2 : s.heap.IsList l2 ys) (hend : xs[k1]? = none ∨ ys[k2]? = none)
    (hE : ∀ g e, (∀ c o, c ≠ z → c ≠ TO → c ≠ i1 → c ≠ i2 → s.heap.get? c = some o → g.get? c = some o) → (∃ o, g.get? e = some o ∧ o.cls = .type "StopIteration") → E (.ref e) { s with heap := g }) :
    wpAny (model prog w) A (Builtin.SmallTypes.nextOf (.ref z)) Q E s := by
  have ht : s.TypeIs (.ref z) "zip" := ⟨_, hz, rfl⟩
  unfold Builtin.SmallTypes.nextOf
  exact wpAny_bind (wpAny_callSpecial?_slot (name := Str.ofString "__next__") ht F.slot_zip_next (wpAny_call_entry F.slot_zip_next ht F.entry_zip_next (znext_end hh D hz hf pI pO t1 t2 L1 L2 hend hE) (F.args_zip_next_1 _)))
/-- what an enumerate over a zip holds -/
structure EzAt (h : Heap) (e z TI TO i1 i2 l1 l2 : Addr) (i : Nat) (old : Value) : Prop where
  en : IsEnum h e z (i : Int) old
  zp : ∃ f0 f, h.get? z = some (Zo f0 f TI TO) ∧ Zf f0
  pI : IsPair h TI (.ref i1) (.ref i2)
  pO : ∃ a b, IsPair h TO a b
  t1 : h.IsListIter i1 l1 i
  t2 : h.IsListIter i2 l2 i
variable {e : Addr}
theorem eznext {i : Nat} {old : Value} {xs ys : Array Value} {x y : Value} {Q : Option Value → Shared → Prop} (D : ZipApart z TI TO i1 i2 l1 l2) (ne : ∀ c, c = z ∨ c = TI ∨ c = TO ∨ c = i1 ∨ c = i2 → e ≠ c) (st : EzAt s.heap e z TI TO i1 i2 l1 l2 i old)
    (L1 : s.heap.IsList l1 xs) (L2 : s.heap.IsList l2 ys) (hx : xs[i]? = some x) (hy : ys[i]? = some y)
    (hQ : ∀ g, IsEnumOut g e z ((i : Int) + 1) (.ref s.heap.objs.size) (s.heap.objs.size + 1) → (∀ g', Heap.SameBut e g g' → IsEnum g' e z ((i : Int) + 1) (.ref s.heap.objs.size) → EzAt g' e z TI TO i1 i2 l1 l2 (i + 1) (.ref s.heap.objs.size)) →
      IsPair g (s.heap.objs.size + 1) (.int i s.toks) (.ref s.heap.objs.size) → (∃ g1 : Heap, IsPair g1 s.heap.objs.size x y ∧ g1.objs.size = s.heap.objs.size + 1 ∧ (∀ c o, c ≠ z → c ≠ TO → c ≠ i1 → c ≠ i2 → s.heap.get? c = some o → g1.get? c = some o) ∧ ∀ c o, c ≠ e → g1.get? c = some o → g.get? c = some o) → Q (some (.ref (s.heap.objs.size + 1))) { s with heap := g, toks := s.toks + 1 }) :
    wpAny (model prog w) A (pyNext (.ref e)) Q E s := by
  obtain ⟨hp, gg, dd, tk, os⟩ := s
  obtain ⟨en, ⟨f0, f, hz, hf⟩, pI, ⟨a, b, pO⟩, t1, t2⟩ := st
  have ht : Shared.TypeIs ⟨hp, gg, dd, tk, os⟩ (.ref e) "enumerate" := ⟨_, en, rfl⟩
  unfold pyNext
  refine wpAny_bind (wpAny_attempt (wpAny_callSpecial?_slot (name := Str.ofString "__next__") ht F.slot_enumerate_next (wpAny_call_entry F.slot_enumerate_next ht F.entry_enumerate_next ?_ (F.args_enumerate_next_1 _))))
  show wpAny _ _ (field (Value.ref e) 2 >>= _) _ _ _
  refine wpAny_bind (wpAny_field en rfl (x := .ref z) (by rfl) ?_)
  refine wpAny_bind (znextOf D hz hf pI pO t1 t2 L1 L2 hx hy fun g1 e0 f1 z1 zf1 o1 u1 u2 p1 n1 k1 => ?_)
  have el : e < hp.objs.size := Heap.lt_size en
  have k1 : ∀ c o, c ≠ z → c ≠ TO → c ≠ i1 → c ≠ i2 → hp.get? c = some o → g1.get? c = some o := k1
  have n1 : g1.objs.size = hp.objs.size + 1 := n1
  have p1 : IsPair g1 hp.objs.size x y := p1
  have en1 : IsEnum g1 e z (i : Int) old := k1 _ _ (ne _ (.inl rfl)) (ne _ (.inr (.inr (.inl rfl)))) (ne _ (.inr (.inr (.inr (.inl rfl))))) (ne _ (.inr (.inr (.inr (.inr rfl))))) en
  have pI1 : IsPair g1 TI (.ref i1) (.ref i2) := k1 _ _ D.TIz D.TITO D.TIi1 D.TIi2 pI
  show wpAny _ _ (field (Value.ref e) 3 >>= _) _ _ ⟨g1, gg, dd, tk, os⟩
  refine wpAny_bind (wpAny_field en1 rfl (x := rawInt (i : Int)) (by rfl) ?_)
  show wpAny _ _ (field (Value.ref e) 4 >>= _) _ _ ⟨g1, gg, dd, tk, os⟩
  refine wpAny_bind (wpAny_field en1 rfl (x := .none) (by rfl) ?_)
  show wpAny _ _ (mkInt (i : Int) >>= _) _ _ ⟨g1, gg, dd, tk, os⟩
  refine wpAny_bind (wpAny_mkInt ?_)
  show wpAny _ _ (setField (Value.ref e) 3 (rawInt ((i : Int) + 1)) >>= _) _ _ ⟨g1, gg, dd, tk + 1, os⟩
  refine wpAny_bind (wpAny_setField_rec en1 (by simp) fun g2 en2 s2 => ?_)
  have s2 : Heap.SameBut e g1 g2 := s2
  have en2 : IsEnum g2 e z ((i : Int) + 1) old := en2
  show wpAny _ _ (setField (Value.ref e) 4 Value.none >>= _) _ _ ⟨g2, gg, dd, tk + 1, os⟩
  refine wpAny_bind (wpAny_setField_rec en2 (by simp) fun g3 en3 s3 => ?_)
  have s3 : Heap.SameBut e g2 g3 := s3
  have en3 : IsEnum g3 e z ((i : Int) + 1) old := en3
  have n3 : g3.objs.size = hp.objs.size + 1 := by rw [s3.1, s2.1, n1]
  show wpAny _ _ (newTuple [Value.int (i : Int) tk, Value.ref hp.objs.size] >>= _) _ _ ⟨g3, gg, dd, tk + 1, os⟩
  refine wpAny_bind (wpAny_newTuple ?_)
  have en4 : IsEnum (g3.push { cls := .type "tuple", data := .seq #[.int (i : Int) tk, .ref hp.objs.size] }) e z ((i : Int) + 1) old := Heap.get?_push_of_some _ en3
  have up4 : ∀ c o, c ≠ e → g1.get? c = some o → (g3.push { cls := .type "tuple", data := .seq #[.int (i : Int) tk, .ref hp.objs.size] }).get? c = some o := fun c o c1 q => Heap.get?_push_of_some _ (s3.extBut c o c1 (s2.extBut c o c1 q))
  have p4 : IsPair (g3.push { cls := .type "tuple", data := .seq #[.int (i : Int) tk, .ref hp.objs.size] }) (hp.objs.size + 1) (.int (i : Int) tk) (.ref hp.objs.size) := by rw [← n3]; exact Heap.get?_push_size _ rfl
  have n4 : (g3.push { cls := .type "tuple", data := .seq #[.int (i : Int) tk, .ref hp.objs.size] }).objs.size = hp.objs.size + 2 := by rw [Heap.size_push, n3]
  rw [n3]
  generalize g3.push { cls := .type "tuple", data := .seq #[.int (i : Int) tk, .ref hp.objs.size] } = g4 at en4 up4 p4 n4
  show wpAny _ _ (Builtin.SmallTypes.ownedTupleIsFree (Value.ref e) >>= _) _ _ ⟨g4, gg, dd, tk + 1, os⟩
  refine wpAny_bind ?_
  unfold Builtin.SmallTypes.ownedTupleIsFree
  refine wpAny_bind (wpAny_field en4 rfl (x := .none) (by rfl) (wpAny_pure ?_))
  simp only [if_true]
  refine wpAny_bind (wpAny_rule ?_)
  refine wpAny_bind (wpAny_field en4 rfl (x := old) (by rfl) ?_)
  refine wpAny_bind (wpAny_setField_rec en4 (by simp) fun g5 en5 s5 => ?_)
  have s5 : Heap.SameBut e g4 g5 := s5
  have en5 : IsEnum g5 e z ((i : Int) + 1) (.ref hp.objs.size) := en5
  show wpAny _ _ (Builtin.SmallTypes.ownedTupleHandOut (Value.ref e) (Value.ref (hp.objs.size + 1)) >>= _) _ _ ⟨g5, gg, dd, tk + 1, os⟩
  refine wpAny_bind ?_
  unfold Builtin.SmallTypes.ownedTupleHandOut
  refine wpAny_bind (wpAny_setField_rec en5 (by simp) fun g6 en6 s6 => ?_)
  have s6 : Heap.SameBut e g5 g6 := s6
  have en6 : IsEnumOut g6 e z ((i : Int) + 1) (.ref hp.objs.size) (hp.objs.size + 1) := en6
  refine wpAny_setField_rec en6 (by simp) fun g7 en7 s7 => ?_
  have s7 : Heap.SameBut e g6 g7 := s7
  have en7 : IsEnumOut g7 e z ((i : Int) + 1) (.ref hp.objs.size) (hp.objs.size + 1) := en7
  have up7 : ∀ c o, c ≠ e → g4.get? c = some o → g7.get? c = some o := fun c o c1 q => s7.extBut c o c1 (s6.extBut c o c1 (s5.extBut c o c1 q))
  have up : ∀ c o, c ≠ e → g1.get? c = some o → g7.get? c = some o := fun c o c1 q => up7 c o c1 (up4 c o c1 q)
  have cz : ∀ c, c = z ∨ c = TI ∨ c = TO ∨ c = i1 ∨ c = i2 → c ≠ e := fun c hc => (ne c hc).symm
  obtain ⟨a1, b1, o1⟩ := o1
  refine wpAny_bind (wpAny_letGo ?_)
  refine wpAny_pure ⟨_, rfl, wpAny_pure (hQ g7 en7 (fun g' sb en' => ?_) (up7 _ _ (Nat.ne_of_gt (Nat.lt_succ_of_lt el)) p4) ⟨g1, p1, n1, k1, up⟩)⟩
  have e1 : ((i : Int) + 1) = ((i + 1 : Nat) : Int) := by omega
  exact ⟨by rw [← e1]; exact en', ⟨e0, f1, sb.extBut _ _ (cz _ (.inl rfl)) (up _ _ (cz _ (.inl rfl)) z1), zf1⟩, sb.extBut _ _ (cz _ (.inr (.inl rfl))) (up _ _ (cz _ (.inr (.inl rfl))) pI1),
      ⟨a1, b1, sb.extBut _ _ (cz _ (.inr (.inr (.inl rfl)))) (up _ _ (cz _ (.inr (.inr (.inl rfl)))) o1)⟩, u1.at fun o q => sb.extBut _ _ (cz _ (.inr (.inr (.inr (.inl rfl))))) (up _ _ (cz _ (.inr (.inr (.inr (.inl rfl))))) q),
      u2.at fun o q => sb.extBut _ _ (cz _ (.inr (.inr (.inr (.inr rfl))))) (up _ _ (cz _ (.inr (.inr (.inr (.inr rfl))))) q)⟩
theorem eznext_end {i : Nat} {old : Value} {xs ys : Array Value} {Q : Option Value → Shared → Prop} (hh : A.handled = none) (D : ZipApart z TI TO i1 i2 l1 l2) (st : EzAt s.heap e z TI TO i1 i2 l1 l2 i old)
    (L1 : s.heap.IsList l1 xs) (L2 : s.heap.IsList l2 ys) (hend : xs[i]? = none ∨ ys[i]? = none)
    (hQ : ∀ g, (∀ c o, c ≠ z → c ≠ TO → c ≠ i1 → c ≠ i2 → s.heap.get? c = some o → g.get? c = some o) → Q none { s with heap := g }) :
    wpAny (model prog w) A (pyNext (.ref e)) Q E s := by
  obtain ⟨en, ⟨f0, f, hz, hf⟩, pI, ⟨a, b, pO⟩, t1, t2⟩ := st
  have ht : s.TypeIs (.ref e) "enumerate" := ⟨_, en, rfl⟩
  unfold pyNext
  refine wpAny_bind (wpAny_attempt (wpAny_callSpecial?_slot (name := Str.ofString "__next__") ht F.slot_enumerate_next (wpAny_call_entry F.slot_enumerate_next ht F.entry_enumerate_next ?_ (F.args_enumerate_next_1 _))))
  show wpAny _ _ (field (Value.ref e) 2 >>= _) _ _ _
  refine wpAny_bind (wpAny_field en rfl (x := .ref z) (by rfl) ?_)
  refine wpAny_bind (znextOf_end hh D hz hf pI pO t1 t2 L1 L2 hend fun g ee k he => ?_)
  obtain ⟨oe, e1, e2⟩ := he
  refine wpAny_bind (wpAny_isInstance (T := "StopIteration") (b := true) ⟨oe, e1, e2⟩ isSubtype_stop ?_)
  exact wpAny_pure (hQ g k)
/-- enumerate(z), z an iterator that is its own -/
theorem meets_enum_self (z : Addr) (oz : Obj) (hi : ∀ (prog : Program) (w : World) (A : Around) (E : Value → Shared → Prop) (s : Shared) (Q : Value → Shared → Prop), s.heap.get? z = some oz → Q (.ref z) s → wpAny (model prog w) A (pyIter (.ref z)) Q E s) :
    Meets (Builtin.«enumerate.__new__» ⟨[.type "enumerate", .ref z], []⟩) (fun _ R s => s.heap.get? z = some oz ∧
      R (.ok (.ret (.ref s.heap.objs.size))) { s with heap := s.heap.push { cls := .type "enumerate", data := .fields #[.none, .bool false, .ref z, rawInt 0, .none, .none] } }) :=
  .of_wp fun prog w A R s h => by
    obtain ⟨hp, g, d, tk, os⟩ := s
    obtain ⟨hl, h⟩ := h
    have hsub := sub_enumerate
    have q1 : ∀ {A' : Around} {E : Value → Shared → Prop} {Q : Value → Shared → Prop}, Q (.ref z) ⟨hp, g, d, tk, os⟩ → wpAny (model prog w) A' (pyIter (.ref z)) Q E ⟨hp, g, d, tk, os⟩ := fun q => hi prog w _ _ ⟨hp, g, d, tk, os⟩ _ hl q
    wp_walk using wpAny_loadPart' hl
    refine wpAny_stack_any fun st => wpAny_pure ?_
    split
    · rename_i c _ _ _ _ _
      cases (c == Value.type "enumerate") <;> (wp_walk using wpAny_loadPart' hl, q1; exact ⟨_, rfl, h⟩)
    · wp_walk using wpAny_loadPart' hl, q1
      exact ⟨_, rfl, h⟩
theorem call_enum_self {z : Addr} {oz : Obj} {Q : Value → Shared → Prop} (hi : ∀ (prog : Program) (w : World) (A : Around) (E : Value → Shared → Prop) (s : Shared) (Q : Value → Shared → Prop), s.heap.get? z = some oz → Q (.ref z) s → wpAny (model prog w) A (pyIter (.ref z)) Q E s) (hz : s.heap.get? z = some oz)
    (h : Q (.ref s.heap.objs.size) { s with heap := s.heap.push { cls := .type "enumerate", data := .fields #[.none, .bool false, .ref z, rawInt 0, .none, .none] } }) : wpAny (model prog w) A (call (.type "enumerate") [.ref z]) Q E s := by
  refine callType_new F.called_enumerate (by decide) (F.typeCall_enumerate_1 _) (F.newCall_enumerate_1 _) (fun obj => F.args_object_init_2 obj _) F.entry_enumerate_new (meets_enum_self z oz hi) ⟨hz, ?_⟩
  exact ⟨⟨_, Heap.get?_push_size _ rfl, rfl⟩, h⟩
end
section
open L2
/-- the lists at a and b, their items in new pairs with a number -/
def Itez (K : PySem.W.Frag) (a b : Addr) : It :=
  ⟨(Itz K a b).go, fun i H v H' => ∃ T T2 x y, v = .ref T2 ∧ H T = none ∧ H T2 = none ∧ T ≠ T2 ∧ H' = upd (upd H T (.tup [x, y])) T2 (.tup [.int (i : Nat), .ref T]) ∧ (∀ xs, SqL K H a xs → xs[i]? = some x) ∧ ∀ ys, SqL K H b ys → ys[i]? = some y, (Itz K a b).stop⟩
theorem turn_ez {P : Program} {w : World} {K : PySem.W.Frag} {elts : List Expr} {kk : Nat} {tpos : Pos} {a b e z TI TO i1 i2 : Addr} (D : ZipApart z TI TO i1 i2 a b) (ne : ∀ c, c = z ∨ c = TI ∨ c = TO ∨ c = i1 ∨ c = i2 → e ≠ c) :
    Turn P w K (.Tuple elts kk tpos) (Itez K a b) [e, z, TI, TO, i1, i2] e (fun i h => ∃ old, EzAt h e z TI TO i1 i2 a b i old) where
  mem := by simp
  obj := fun i h st c hc => by
    obtain ⟨old, en, ⟨f0, f, hz, hf⟩, pI, ⟨u, v, pO⟩, ⟨o1, e1, _, d1⟩, ⟨o2, e2, _, d2⟩⟩ := st
    have e' : c = e ∨ c = z ∨ c = TI ∨ c = TO ∨ c = i1 ∨ c = i2 := by simpa using hc
    rcases e' with q | q | q | q | q | q
    · rw [q]; exact ⟨_, en, fun v q => nomatch q⟩
    · rw [q]; exact ⟨_, hz, fun v q => nomatch q⟩
    · rw [q]; exact ⟨_, pI, fun v q => nomatch q⟩
    · rw [q]; exact ⟨_, pO, fun v q => nomatch q⟩
    · rw [q]; exact ⟨o1, e1, fun v q => by rw [d1] at q; cases q⟩
    · rw [q]; exact ⟨o2, e2, fun v q => by rw [d2] at q; cases q⟩
  keep := fun i h h' st k => by
    obtain ⟨old, en, ⟨f0, f, hz, hf⟩, pI, ⟨u, v, pO⟩, t1, t2⟩ := st
    exact ⟨old, k e (by simp) _ en, ⟨f0, f, k z (by simp) _ hz, hf⟩, k TI (by simp) _ pI, ⟨u, v, k TO (by simp) _ pO⟩, t1.at fun o q => k i1 (by simp) o q, t2.at fun o q => k i2 (by simp) o q⟩
  item := by
    intro X hP hw hK hc i pins s σ H E I hf st hg
    subst hP hw hK
    obtain ⟨old, st⟩ := st
    obtain ⟨xs, ys, x, y, hqx, hqy, hx, hy⟩ := hg
    obtain ⟨its, rv, p, _⟩ := I.list hqx
    obtain ⟨its2, rv2, p2, _⟩ := I.list hqy
    obtain ⟨u, hu, ru⟩ := rv.get hx
    obtain ⟨u2, hu2, ru2⟩ := rv2.get hy
    have el : e < s.heap.objs.size := Heap.lt_size st.en
    have lt : ∀ c, c ∈ [e, z, TI, TO, i1, i2] → c < s.heap.objs.size := fun c hc => by
      obtain ⟨en, ⟨f0, f, hz, hf⟩, pI, ⟨u, v, pO⟩, ⟨o1, e1, _, d1⟩, ⟨o2, e2, _, d2⟩⟩ := st
      have e' : c = e ∨ c = z ∨ c = TI ∨ c = TO ∨ c = i1 ∨ c = i2 := by simpa using hc
      rcases e' with q | q | q | q | q | q
      · rw [q]; exact Heap.lt_size en
      · rw [q]; exact Heap.lt_size hz
      · rw [q]; exact Heap.lt_size pI
      · rw [q]; exact Heap.lt_size pO
      · rw [q]; exact Heap.lt_size e1
      · rw [q]; exact Heap.lt_size e2
    refine eznext D ne st p.isList p2.isList (x := u) (y := u2) (by simpa using hu) (by simpa using hu2) fun g eo mk pT2 ⟨g1, pT, n1, k1, k2⟩ => ?_
    refine ⟨_, rfl, wpAny_letOwnedTupleGo_enum (s := { s with heap := g, toks := s.toks + 1 }) eo fun g' en' sb => ?_⟩
    have sb : Heap.SameBut e g g' := sb
    have new1 : ObjOk X.prog X.w (upd H s.heap.objs.size (.tup [x, y])) g1 s.heap.objs.size (.tup [x, y]) :=
      ⟨by show 2 ≤ sizeLine; decide, [u, u2], .cons ru (.cons ru2 .nil), ⟨_, pT, rfl, _, rfl⟩⟩
    have I1 : Inv X pins σ (upd H s.heap.objs.size (.tup [x, y])) { s with heap := g1, toks := s.toks + 1 } :=
      I.turnedNew (ch := [z, TO, i1, i2]) (fun c o hb q => k1 c o (fun q' => hb (by simp [q'])) (fun q' => hb (by simp [q'])) (fun q' => hb (by simp [q'])) (fun q' => hb (by simp [q'])) q) (fun c hcm => hf c (by
        have e' : c = z ∨ c = TO ∨ c = i1 ∨ c = i2 := by simpa using hcm
        rcases e' with q | q | q | q <;> simp [q])) (Nat.le_refl _) new1
    have pT2' : IsPair g' (s.heap.objs.size + 1) (.int i s.toks) (.ref s.heap.objs.size) := sb.extBut _ _ (Nat.ne_of_gt (Nat.lt_succ_of_lt el)) pT2
    have new2 : ObjOk X.prog X.w (upd (upd H s.heap.objs.size (.tup [x, y])) (s.heap.objs.size + 1) (.tup [.int (i : Nat), .ref s.heap.objs.size])) g' (s.heap.objs.size + 1) (.tup [.int (i : Nat), .ref s.heap.objs.size]) :=
      ⟨by show 2 ≤ sizeLine; decide, [.int i s.toks, .ref s.heap.objs.size], .cons ⟨_, rfl⟩ (.cons rfl .nil), ⟨_, pT2', rfl, _, rfl⟩⟩
    have I2 : Inv X pins σ (upd (upd H s.heap.objs.size (.tup [x, y])) (s.heap.objs.size + 1) (.tup [.int (i : Nat), .ref s.heap.objs.size])) { s with heap := g', toks := s.toks + 1 } :=
      I1.turnedNew (t' := s.toks + 1) (ch := [e]) (fun c o hb q => sb.extBut c o (by simpa using hb) (k2 c o (by simpa using hb) q)) (fun c hcm => by
        have e' : c = e := by simpa using hcm
        subst e'
        obtain ⟨f0, f1⟩ := hf c (by simp)
        exact ⟨by rw [upd_ne (Nat.ne_of_lt el)]; exact f0, f1⟩) (by show g1.objs.size ≤ _; rw [n1]; exact Nat.le_refl _) new2
    refine ⟨.ref (s.heap.objs.size + 1), _, I2, rfl, ⟨s.heap.objs.size, s.heap.objs.size + 1, x, y, rfl, I.hok.fresh (Nat.le_refl _), I.hok.fresh (Nat.le_succ _), Nat.ne_of_lt (Nat.lt_succ_self _), rfl, fun l hl => by rw [I.list_inj hl hqx]; exact hx, fun l hl => by rw [I.list_inj hl hqy]; exact hy⟩, ⟨_, mk g' sb en'⟩, fun c hcm => ?_⟩
    have hlt := lt c hcm
    rw [upd_ne (Nat.ne_of_lt (Nat.lt_succ_of_lt hlt)), upd_ne (Nat.ne_of_lt hlt)]
    exact (hf c hcm).1
  done := by
    intro X hP hw hK hc i pins s σ H E I hf st hg
    subst hP hw hK
    obtain ⟨old, st⟩ := st
    obtain ⟨xs, ys, hqx, hqy, hend⟩ := hg
    obtain ⟨its, rv, p, _⟩ := I.list hqx
    obtain ⟨its2, rv2, p2, _⟩ := I.list hqy
    have n1 := rv.length
    have n2 := rv2.length
    have he : its.toArray[i]? = none ∨ its2.toArray[i]? = none := hend.elim (fun q => .inl (by simp; omega)) fun q => .inr (by simp; omega)
    exact eznext_end (I.ok.hd hc) D st p.isList p2.isList he fun g k => ⟨rfl, I.turnedL (t' := s.toks) (ch := [z, TO, i1, i2]) (fun c o hb q =>
      k c o (fun q' => hb (by simp [q'])) (fun q' => hb (by simp [q'])) (fun q' => hb (by simp [q'])) (fun q' => hb (by simp [q'])) q) (fun c hcm => hf c (by
        have e' : c = z ∨ c = TO ∨ c = i1 ∨ c = i2 := by simpa using hcm
        rcases e' with q | q | q | q <;> simp [q]))⟩
  self := fun A i s Q E st h => let ⟨_, st⟩ := st; wpAny_pyIter_enum st.en h
def iEz (K : PySem.W.Frag) (ta : TA) : TI := fun σ H R => ta σ H fun vs H1 => ∃ a b xs ys, vs = [.ref a, .ref b] ∧ SqL K H1 a xs ∧ SqL K H1 b ys ∧ R (Itez K a b) H1
theorem pi_ez {X : Cx} {e e2 : Expr} {ta : TA} {p pos p1 pos1 tpos : Pos} {elts : List Expr} {kk : Nat} (hg : Gl X "zip") (hm : X.mg "zip" = none) (hg1 : Gl X "enumerate") (hm1 : X.mg "enumerate" = none) (ha : PA X [e, e2] ta)
    (hs : starEach [e, e2] X.env = (false, eval e X.env) :: starEach [e2] X.env := by rfl) (hpl : (backTo pos (starEach [e2] X.env)).any (·.1) = false := by rfl) (hs1 : starEach [.Call (.Name "zip" p) [e, e2] [] pos] X.env = [(false, eval (.Call (.Name "zip" p) [e, e2] [] pos) X.env)] := by rfl) :
    PI X (.Tuple elts kk tpos) (.Call (.Name "enumerate" p1) [.Call (.Name "zip" p) [e, e2] [] pos] [] pos1) (iEz X.K ta) := by
  refine ⟨fun pins s σ H R I h => ?_⟩
  refine Call_ (ld_blt I hg1 hm1 boot_enumerate (PyProof.Rows.callWith_type1 ?_ hs1 rfl))
  rw [hs1]
  refine PySem.Calls.spliced_cons ?_
  refine Call_ (ld_blt I hg hm PyProof.Rows.boot_zip (PyProof.Rows.callWith_type1 (thn (ha.run pos pins s σ H _ I h) fun us s1 ⟨vs, H1, I1, r1, q1⟩ => ?_) hs hpl))
  obtain ⟨a, b, xs, ys, ex, hqx, hqy, q⟩ := q1
  subst ex
  cases r1 with
  | cons r rr =>
    cases rr with
    | cons r' rr =>
      cases rr
      cases r
      cases r'
      obtain ⟨its, rv, p1, _⟩ := I1.list hqx
      obtain ⟨its2, rv2, p2, _⟩ := I1.list hqy
      refine call_zip_2 p1.isList p2.isList fun h' hz hTI hTO u1 u2 hsz hk => ?_
      refine PySem.Calls.spliced_nil ?_
      refine call_enum_self (s := { s1 with heap := h' }) (z := s1.heap.objs.size + 4) (oz := Zo .none false (s1.heap.objs.size + 2) (s1.heap.objs.size + 3)) (fun prog w A E s Q e1 e2 => wpAny_pyIter_zip e1 e2) hz ?_
      have hsz : h'.objs.size = s1.heap.objs.size + 5 := hsz
      have hk : ∀ c o, s1.heap.get? c = some o → h'.get? c = some o := hk
      show wpAny _ _ (pyIter (Value.ref h'.objs.size)) _ _ _
      have en : IsEnum (h'.push { cls := .type "enumerate", data := .fields #[.none, .bool false, .ref (s1.heap.objs.size + 4), rawInt 0, .none, .none] }) h'.objs.size (s1.heap.objs.size + 4) 0 .none := Heap.get?_push_size _ rfl
      refine wpAny_pyIter_enum en ?_
      have pu : ∀ c o, h'.get? c = some o → (h'.push { cls := .type "enumerate", data := .fields #[.none, .bool false, .ref (s1.heap.objs.size + 4), rawInt 0, .none, .none] }).get? c = some o := fun c o e => Heap.get?_push_of_some _ e
      have I2 : Inv X pins σ H1 { s1 with heap := h'.push { cls := .type "enumerate", data := .fields #[.none, .bool false, .ref (s1.heap.objs.size + 4), rawInt 0, .none, .none] } } := I1.kept (t' := s1.toks) fun c o e => pu c o (hk c o e)
      refine ⟨h'.objs.size, [h'.objs.size, s1.heap.objs.size + 4, s1.heap.objs.size + 2, s1.heap.objs.size + 3, s1.heap.objs.size, s1.heap.objs.size + 1], _, _, H1, rfl, I2, turn_ez (PySem.W.ktu_apart s1.heap.objs.size a b p1.lt p2.lt) (fun c hc => ?_), ⟨.none, en, ⟨.none, false, pu _ _ hz, .inl rfl⟩, pu _ _ hTI, ⟨_, _, pu _ _ hTO⟩, u1.at fun o e => pu _ o e, u2.at fun o e => pu _ o e⟩, fun c hcm => ?_, q⟩
      · rw [hsz]
        rcases hc with z | z | z | z | z <;> rw [z] <;> exact Nat.ne_of_gt (by omega)
      · have hle : s1.heap.objs.size ≤ c := by
          have e' : c = h'.objs.size ∨ c = s1.heap.objs.size + 4 ∨ c = s1.heap.objs.size + 2 ∨ c = s1.heap.objs.size + 3 ∨ c = s1.heap.objs.size ∨ c = s1.heap.objs.size + 1 := by simpa using hcm
          rw [hsz] at e'
          rcases e' with z | z | z | z | z | z <;> rw [z] <;> omega
        exact I1.fpOk hle (I1.hok.fresh hle)
/-- .. as data -/
def ezD : List D → Option (List D)
  | [.list xs, .list ys] => some (((List.range (xs.zip ys).length).zip (xs.zip ys)).map fun p => .tuple [.int (p.1 : Nat), .tuple [p.2.1, p.2.2]])
  | _ => none
theorem yl_ez {K : PySem.W.Frag} {dt : Dl} {HB : Hp} {a b : Addr} {xs ys : List V} {ds es : List D} (h : HB a = some (.lst xs)) (r : RepAll K HB xs ds) (h' : HB b = some (.lst ys)) (r' : RepAll K HB ys es) : Yields K dt (Itez K a b) HB (((List.range (ds.zip es).length).zip (ds.zip es)).map fun p => .tuple [.int (p.1 : Nat), .tuple [p.2.1, p.2.2]]) := fun i H M s hd hp => by
  have hq : SqL K H a xs := SqL.of (mask_some (s _ _ h)).2
  have hq' : SqL K H b ys := SqL.of (mask_some (s _ _ h')).2
  refine ⟨fun d e => ?_, fun hl => ⟨xs, ys, hq, hq', ?_⟩⟩
  · rw [List.getElem?_map] at e
    cases hz : ((List.range (ds.zip es).length).zip (ds.zip es))[i]? with
    | none => rw [hz] at e; cases e
    | some p =>
      rw [hz] at e; cases e
      obtain ⟨h0, hzz⟩ := List.getElem?_zip_eq_some.mp hz
      obtain ⟨h1, h2⟩ := List.getElem?_zip_eq_some.mp hzz
      obtain ⟨v, e1, e2⟩ := r.getD h1
      obtain ⟨v', e1', e2'⟩ := r'.getD h2
      have hi : p.1 = i := by
        rw [List.getElem?_range (List.getElem?_eq_some_iff.mp hzz).1] at h0
        exact (Option.some.inj h0).symm
      refine ⟨⟨xs, ys, v, v', hq, hq', e1, e1'⟩, fun x H' ⟨T, T2, y, y', q1, q2, q2', q3, q4, q5, q6⟩ => ?_⟩
      subst q1 q4
      have := q5 xs hq
      rw [e1] at this; cases this
      have := q6 ys hq'
      rw [e1'] at this; cases this
      have n2 : upd H T (.tup [v, v']) T2 = none := by rw [upd_ne (Ne.symm q3)]; exact q2'
      have kx1 : Kx dt H (upd H T (.tup [v, v'])) := Kx.new hd q2
      refine ⟨kx1.trans (Kx.new kx1.dr n2), ?_⟩
      show Rep K _ _ (PyData.tuple [.int (p.1 : Nat), .tuple [p.2.1, p.2.2]])
      rw [hi]
      exact rep_pair n2 (hp T2 q2') (.int _) (rep_pair q2 (hp T q2) (e2.mono s) (e2'.mono s))
  · rw [List.length_map, List.length_zip, List.length_range, Nat.min_self, List.length_zip] at hl
    rw [r.length, r'.length]
    omega
variable {cl : Nat → Addr} {X : Cx} {E : XK} {e a b c : Expr} {pos : Pos}
theorem di_ez {elts : List Expr} {kk : Nat} {tpos p p1 pos1 : Pos} {g : Envt → Tr (List Ent)} (hm : X.mg "zip" = none) (hm1 : X.mg "enumerate" = none) (ha : DA cl X E [a, b] g) (hg : Gl X "zip" := by rfl) (hg1 : Gl X "enumerate" := by rfl) (hs : starEach [a, b] X.env = (false, eval a X.env) :: starEach [b] X.env := by rfl) (hpl : (backTo pos (starEach [b] X.env)).any (·.1) = false := by rfl)
    (hs1 : starEach [.Call (.Name "zip" p) [a, b] [] pos] X.env = [(false, eval (.Call (.Name "zip" p) [a, b] [] pos) X.env)] := by rfl) :
    DI cl X E (.Tuple elts kk tpos) (.Call (.Name "enumerate" p1) [.Call (.Name "zip" p) [a, b] [] pos] [] pos1) (wArg ezD g) := by
  obtain ⟨u, q, s⟩ := ha
  refine ⟨_, pi_ez hg hm hg1 hm1 q hs hpl hs1, fun F B ad σ H env R hk hc o k => ?_⟩
  refine s F B ad σ H env _ hk hc o (Tr.all_mono (fun es z xs H1 k1 rs => ?_) (fun _ z => z) (Tr.all_bind k))
  obtain ⟨ds, w, e1, e2, z⟩ := args_fz z
  have r := fzs_rep rs e1
  match ds, e2 with
  | [.list l, .list l2], e2 =>
    cases e2
    cases r with
    | cons r rr =>
      cases rr with
      | cons r' rr =>
        cases rr
        cases r with
        | lst h1 h2 =>
          cases r' with
          | lst h3 h4 => exact ⟨_, _, _, _, rfl, SqL.of (mask_some h1).2, SqL.of (mask_some h3).2, by rw [← hk]; exact z _ H1 k1 (yl_ez h1 h2 h3 h4)⟩
end
end Mb

namespace Mb
open PySem L2
/-! ### a def that returns a new list -/
def spN (K : PySem.W.Frag) (cl : Nat → Addr) (n : Nat) (m : List Ent → Tr (List D)) : Sp := fun vs H Q E => ∃ (O : Addr → Prop) (dt : Dl) (es : List Ent), es.length = n ∧ (∀ a, O a → ∃ o, H a = some o) ∧ (∀ a, dl dt a → O a) ∧ DrOk dt H ∧ ArgsOk K cl dt (mask H O) vs es ∧
  (m es).all (fun ds => ∀ p H' xs, Kx dt H H' → H p = none → H' p = some (.lst xs) → RepAll K (mask H' fun a => O a ∨ a = p) xs ds → Q (.ref p) H') (fun c => ∀ H', Kx dt H H' → E (.ref (cl c)) none H')
def runN (N n : Nat) (f : Envt → Tr (List D)) : List Ent → Tr (List D) := fun es => f (es ++ List.replicate (N - n) .un)
structure CalN (P : Program) (w : World) (K : PySem.W.Frag) (mg : Str → Option Value) (base : Heap) (cl : Nat → Addr) (x : Str) (k n : Nat) (m : List Ent → Tr (List D)) : Prop where
  ex : ∃ f fd ps, FnOk P w K mg base (L2.CX P w) k f fd ps (spN K cl n m) ∧ mg x = some (.ref f) ∧ PySem.W.keepIn K (.ref f) = true ∧ Binds K fd ps []
section
variable {P : Program} {w : World} {K : PySem.W.Frag} {mg : Str → Option Value} {base : Heap} {cl : Nat → Addr}
open PySem.Spec PyProof.Rows in
theorem calN_of {x : Str} {st : Stmt} {N ps : List Str} {k n : Nat} {e : Expr} {pos : Pos} {u : Envt → Tr (List D)} (T : DefAt K mg x st ps) (S : FnScope N ps (defScope st)) (hps : ps.length = n) (hst : defBody st = [.Return (some e) pos])
    (hbody : ∀ (f : Addr) (cdv : Value) (A : Around) (outer : List Env) (s : Shared) (H : Hp) (E : XK), Room k (A.deeper (envOfC x (defScope st) s.heap.objs.size f cdv)) →
      DN cl (cxOf (L2.CX P w) P w K mg base N x (defScope st) f cdv A outer s H E) E e u) : CalN P w K mg base cl x (k + 1) n (runN N.length n u) := by
  obtain ⟨f, fd, F, g, b⟩ := T.ex
  refine ⟨f, fd, ps, F.okX S (fun vs H Q E h => ?_) (fun cdv A outer s H vs Q E hr h => ?_), g, F.kp, b⟩
  · obtain ⟨O, dt, es, hl, _, _, _, ha, _⟩ := h
    rw [ha.length, hl, hps]
  · obtain ⟨O, dt, es, hl, h1, h2, h3, ha, hm⟩ := h
    obtain ⟨t, p, r⟩ := hbody f cdv A outer s H E hr
    rw [hst]
    refine ⟨_, pss_one (ps_ret p), ?_⟩
    have o := start_ok (F := ⟨K, cl, H, O, dt, h1, h2, h3⟩) (N := N) (vs := vs) (es := es) ha
    have hM : Mm ⟨K, cl, H, O, dt, h1, h2, h3⟩ (List.replicate (es.length + (N.length - es.length)) none) = O := by
      funext a
      apply propext
      constructor
      · rintro (q | q)
        · exact q
        · cases List.eq_of_mem_replicate q
      · exact .inl
    refine r ⟨K, cl, H, O, dt, h1, h2, h3⟩ _ _ _ H _ _ rfl rfl o (Tr.all_mono (fun ds z p H' xs kx hn hp rp => ?_) (fun c z => z) (by unfold runN at hm; rw [← hl] at hm; exact hm))
    rw [hM] at rp
    exact z p H' xs kx hn hp rp
end
section
variable {cl : Nat → Addr} {X : Cx} {E : XK} {e a b c : Expr} {f g h : Envt → Tr D} {pos : Pos}
def nCall (n : Nat) (m : List Ent → Tr (List D)) (g : Envt → Tr (List Ent)) : Envt → Tr (List D) := fun env => (g env).bind fun es => if es.length == n then m es else .bad
theorem dn_fn {k n : Nat} {m : List Ent → Tr (List D)} {x : Str} {es : List Expr} {p : Pos} {g : Envt → Tr (List Ent)} (G : CalN X.prog X.w X.K X.mg X.base cl x k n m) (hr : Room k X.A) (hx : Passes (L2.CX X.prog X.w) X E) (ha : DA cl X E (e :: es) g) (hg : Gl X x := by rfl) (hdb : (x == ("__debug__" : Str)) = false := by decide)
    (he : starEach (e :: es) X.env = (false, eval e X.env) :: starEach es X.env := by rfl) (hpl : (backTo pos (starEach es X.env)).any (·.1) = false := by rfl) : DN cl X E (.Call (.Name x p) (e :: es) [] pos) (nCall n m g) := by
  obtain ⟨f, fd, ps, G, g, kp, b⟩ := G.ex
  obtain ⟨t, pa, s⟩ := ha
  refine ⟨_, pe_call G hr hg g kp b .nil hx pa hdb he hpl, fun F B ad σ H env Q hk hc o k => ?_⟩
  refine s F B ad σ H env _ hk hc o (Tr.all_mono (fun es z vs H1 k1 rs => ?_) (fun _ z => z) (Tr.all_bind k))
  cases hl : es.length == n with
  | false => rw [hl] at z; exact z.elim
  | true =>
    rw [hl] at z
    have o1 := o.kx k1
    rw [List.append_nil]
    refine ⟨Mm F ad, F.dt, es, of_decide_eq_true hl, fun a q => o1.Msome q, fun a q => Mm_dl q, k1.dr, by rw [← hk, ← hc]; exact rs, Tr.all_mono (fun ds zd q H' xs k2 hn hq rv => ?_) (fun c zc H' k2 => ?_) z⟩
    · exact zd q H' xs (k1.trans k2) (k1.free o.k0.dr hn) hq (by rw [hk]; exact rv)
    · rw [← hc]; exact zc H' (o1.k0.trans k2)
/-! ### a def that reads a list of a slot's own -/
mutual
/-- no list, no dict within -/
def lf : D → Bool
  | .list _ => false
  | .dict _ => false
  | .tuple xs => lfs xs
  | _ => true
def lfs : List D → Bool
  | [] => true
  | d :: ds => lf d && lfs ds
end
mutual
theorem Rep.lf {K : PySem.W.Frag} {H H' : Hp} (hh : ∀ a xs, H a = some (.tup xs) → H' a = some (.tup xs)) (hf : ∀ a o xs, H a = some (.frz o (.tup xs)) → H' a = some (.frz o (.tup xs))) : ∀ {v : V} {d : D}, Rep K H v d → Mb.lf d = true → Rep K H' v d
  | _, _, .non, _ => .non
  | _, _, .bl b, _ => .bl b
  | _, _, .int i, _ => .int i
  | _, _, .str x, _ => .str x
  | _, _, .lst h r, q => by simp [Mb.lf] at q
  | _, _, .dic _ _ _ _ _ _ _ _ _ _ _, q => by simp [Mb.lf] at q
  | _, _, .tup h r, q => .tup (by
      rcases h with (h | ⟨o, h⟩) | h
      · exact .inl (.inl (hh _ _ h))
      · exact .inl (.inr ⟨o, hf _ _ _ h⟩)
      · exact .inr h) (RepAll.lf hh hf r (by simpa only [Mb.lf] using q))
theorem RepAll.lf {K : PySem.W.Frag} {H H' : Hp} (hh : ∀ a xs, H a = some (.tup xs) → H' a = some (.tup xs)) (hf : ∀ a o xs, H a = some (.frz o (.tup xs)) → H' a = some (.frz o (.tup xs))) : ∀ {vs : List V} {ds : List D}, RepAll K H vs ds → Mb.lfs ds = true → RepAll K H' vs ds
  | _, _, .nil, _ => .nil
  | _, _, .cons h r, q => by
    simp only [Mb.lfs, Bool.and_eq_true] at q
    exact .cons (Rep.lf hh hf h q.1) (RepAll.lf hh hf r q.2)
end
/-- the own lists are lists -/
theorem Ok.ownLst {F : Fx} {B : Hp} {ad : Ads} {σ : St} {H : Hp} {env : Envt} (o : Ok F B ad σ H env) {a : Addr} (h : some a ∈ ad) : (∃ vs, H a = some (.lst vs)) ∨ ∃ ob, H a = some (DicO a ob) := by
  obtain ⟨i, hi, e⟩ := List.getElem_of_mem h
  have he : ad[i]? = some (some a) := by rw [List.getElem?_eq_getElem hi, e]
  obtain ⟨oa, sv, e1, e2, q⟩ := o.at_ (List.getElem?_eq_getElem (show i < env.length by rw [← o.la]; exact hi))
  rw [he] at e1; cases e1
  cases hq : env[i]'(by rw [← o.la]; exact hi) with
  | un => rw [hq] at q; cases q
  | fz d => rw [hq] at q; cases q.1
  | ow ds =>
    rw [hq] at q
    obtain ⟨a', vs, r, _, r', _⟩ := q
    cases r
    exact .inl ⟨_, r'⟩
  | od ds =>
    rw [hq] at q
    obtain ⟨a', vs, r, _, r', _⟩ := q
    cases r
    exact .inr ⟨_, r'⟩
  | dr => rw [hq] at q; cases q.1
  | ex c => rw [hq] at q; cases q.1
theorem Ok.lf {F : Fx} {B : Hp} {ad : Ads} {σ : St} {H : Hp} {env : Envt} (o : Ok F B ad σ H env) {v : V} {d : D} (r : Rep F.K (mask H F.O) v d) (q : Mb.lf d = true) : Rep F.K (mask H (Mm F ad)) v d := by
  refine Rep.lf (fun a xs e => ?_) (fun a u xs e => ?_) r q
  · obtain ⟨n, e⟩ := mask_some e
    have nm : ¬ Mm F ad a := fun m => m.elim n fun m => by
      rcases o.ownLst m with ⟨vs, e'⟩ | ⟨vs, e'⟩
      · rw [e] at e'; cases e'
      · rw [e] at e'; cases e'
    rw [mask_out nm]; exact e
  · obtain ⟨n, e⟩ := mask_some e
    have nm : ¬ Mm F ad a := fun m => m.elim n fun m => by
      rcases o.ownLst m with ⟨vs, e'⟩ | ⟨vs, e'⟩
      · rw [e] at e'; cases e'
      · rw [e] at e'; cases e'
    rw [mask_out nm]; exact e
def PostAB (F : Fx) (ad : Ads) (H : Hp) (Q : List V → Hp → Prop) (es : List Ent) : Prop := ∀ vs H', Kx F.dt H H' → ArgsOk F.K F.cl F.dt (mask H' F.O) vs es → Q vs H'
def DAB (cl : Nat → Addr) (X : Cx) (E : XK) (es : List Expr) (f : Envt → Tr (List Ent)) : Prop := ∃ t, PA X es t ∧ ∀ (F : Fx) (B : Hp) (ad : Ads) (σ : St) (H : Hp) (env : Envt) (Q : List V → Hp → Prop), F.K = X.K → F.cl = cl → Ok F B ad σ H env →
  (f env).all (PostAB F ad H Q) (EOk F E) → t σ H Q
theorem DA.dab {es : List Expr} {g : Envt → Tr (List Ent)} (h : DA cl X E es g) : DAB cl X E es g := by
  obtain ⟨t, p, r⟩ := h
  exact ⟨t, p, fun F B ad σ H env Q hk hc o k => r F B ad σ H env Q hk hc o (Tr.all_mono (fun es z vs H' kx rs => z vs H' kx (rs.mono (mm_O _ _))) (fun _ z => z) k)⟩
/-- an own list as an argument -/
def aBor (i : Nat) (g : Envt → Tr (List Ent)) : Envt → Tr (List Ent) := fun env => (vBor i env).bind fun d => (g env).bind fun es => .ret (.fz d :: es)
theorem dab_bor (i : Nat) {x : Str} {es : List Expr} {g : Envt → Tr (List Ent)} (hr : DAB cl X E es g) (hN : X.N[i]? = some x := by rfl) (hv : Vis X.env.scope x := by first | exact Or.inl rfl | exact Or.inr (Or.inl rfl) | exact Or.inr (Or.inr rfl))
    (hd : (x == ("__debug__" : Str)) = false := by decide) (hcd : (x == ("__classdict__" : Str)) = false := by decide) (hs : starEach (.Name x pos :: es) X.env = (false, eval (.Name x pos) X.env) :: starEach es X.env := by rfl) : DAB cl X E (.Name x pos :: es) (aBor i g) := by
  obtain ⟨u, q, s⟩ := hr
  obtain ⟨t, p, r⟩ := db_var (cl := cl) (E := E) (X := X) (pos := pos) i hN hv hd hcd
  refine ⟨_, pa_cons p q hs, fun F B ad σ H env Q hk hc o k => ?_⟩
  refine r F B ad σ H env _ hk hc o (Tr.all_mono (fun d z x H1 k1 rx => ?_) (fun _ z => z) (Tr.all_bind k))
  refine s F B ad σ H1 env _ hk hc (o.kx k1) (Tr.all_mono (fun es z xs H2 k2 rs => ?_) (fun _ z => z) (Tr.all_bind z))
  exact z _ H2 (k1.trans k2) (.cons (rx.mono (kxO k2)) rs)
theorem dab_cons {es : List Expr} {g : Envt → Tr (List Ent)} (ha : DE cl X E a f) (hr : DAB cl X E es g) (hs : starEach (a :: es) X.env = (false, eval a X.env) :: starEach es X.env := by rfl) : DAB cl X E (a :: es) (aCons f g) := by
  obtain ⟨t, p, r⟩ := ha
  obtain ⟨u, q, s⟩ := hr
  refine ⟨_, pa_cons p q hs, fun F B ad σ H env Q hk hc o k => ?_⟩
  refine r F B ad σ H env _ hk hc o (Tr.all_mono (fun d z x H1 k1 rx => ?_) (fun _ z => z) (Tr.all_bind k))
  refine s F B ad σ H1 env _ hk hc (o.kx k1) (Tr.all_mono (fun es z xs H2 k2 rs => ?_) (fun _ z => z) (Tr.all_bind z))
  exact z _ H2 (k1.trans k2) (.cons ((rx.mono k2.msame).mono (mm_O _ _)) rs)
theorem dab_dr (i : Nat) {x : Str} {es : List Expr} {g : Envt → Tr (List Ent)} (hr : DAB cl X E es g) (hN : X.N[i]? = some x := by rfl) (hv : Vis X.env.scope x := by first | exact Or.inl rfl | exact Or.inr (Or.inl rfl) | exact Or.inr (Or.inr rfl))
    (hd : (x == ("__debug__" : Str)) = false := by decide) (hcd : (x == ("__classdict__" : Str)) = false := by decide) (hs : starEach (.Name x pos :: es) X.env = (false, eval (.Name x pos) X.env) :: starEach es X.env := by rfl) : DAB cl X E (.Name x pos :: es) (aDr i g) := by
  obtain ⟨u, q, s⟩ := hr
  refine ⟨_, pa_cons (pe_var (i := i) hN hv hd hcd) q hs, fun F B ad σ H env Q hk hc o k => ?_⟩
  unfold aDr at k
  split at k
  · rename_i he
    obtain ⟨oa, sv, e1, e2, q1, a, n, q2, rfl⟩ := o.at_ he
    refine ⟨_, e2, s F B ad σ H env _ hk hc o (Tr.all_mono (fun es z xs H2 k2 rs => ?_) (fun _ z => z) (Tr.all_bind k))⟩
    exact z _ H2 k2 (.cons ⟨a, n, q2, rfl⟩ rs)
  · exact k.elim
/-- its value must hold no list -/
def vCallB (n : Nat) (m : List Ent → Tr D) (g : Envt → Tr (List Ent)) : Envt → Tr D := fun env => (g env).bind fun es => if es.length == n then (m es).bind fun d => if lf d then .ret d else .bad else .bad
theorem de_fnB {k n : Nat} {m : List Ent → Tr D} {x : Str} {es : List Expr} {p : Pos} {g : Envt → Tr (List Ent)} (G : Cal X.prog X.w X.K X.mg X.base cl x k n m) (hr : Room k X.A) (hx : Passes (L2.CX X.prog X.w) X E) (ha : DAB cl X E (e :: es) g) (hg : Gl X x := by rfl) (hdb : (x == ("__debug__" : Str)) = false := by decide)
    (he : starEach (e :: es) X.env = (false, eval e X.env) :: starEach es X.env := by rfl) (hpl : (backTo pos (starEach es X.env)).any (·.1) = false := by rfl) : DE cl X E (.Call (.Name x p) (e :: es) [] pos) (vCallB n m g) := by
  obtain ⟨f, fd, ps, G, g, kp, b⟩ := G.ex
  obtain ⟨t, pa, s⟩ := ha
  refine ⟨_, pe_call G hr hg g kp b .nil hx pa hdb he hpl, fun F B ad σ H env Q hk hc o k => ?_⟩
  refine s F B ad σ H env _ hk hc o (Tr.all_mono (fun es z vs H1 k1 rs => ?_) (fun _ z => z) (Tr.all_bind k))
  cases hl : es.length == n with
  | false => rw [hl] at z; exact z.elim
  | true =>
    rw [hl] at z
    have o1 := o.kx k1
    rw [List.append_nil]
    refine ⟨F.O, F.dt, es, of_decide_eq_true hl, fun a q => o1.Msome (.inl q), F.odl, k1.dr, by rw [← hk, ← hc]; exact rs, Tr.all_mono (fun d zd v H' k2 rv => ?_) (fun c zc H' k2 => ?_) (Tr.all_bind z)⟩
    · cases hd : lf d with
      | false => rw [hd] at zd; exact zd.elim
      | true =>
        rw [hd] at zd
        exact zd v H' (k1.trans k2) ((o1.kx k2).lf (by rw [hk]; exact rv) hd)
    · rw [← hc]; exact zc H' (o1.k0.trans k2)
end
section
variable (env : Envt) (ga : Envt → Tr (List Ent)) (i : Nat)
theorem ap_nCall (n : Nat) (m : List Ent → Tr (List D)) : nCall n m ga env = (ga env).bind fun es => if es.length == n then m es else .bad := rfl
theorem ap_vCallB (n : Nat) (m : List Ent → Tr D) : vCallB n m ga env = (ga env).bind fun es => if es.length == n then (m es).bind fun d => if lf d then .ret d else .bad else .bad := rfl
theorem ap_aBor : aBor i ga env = (vBor i env).bind fun d => (ga env).bind fun es => .ret (.fz d :: es) := rfl
end
/-- the law answers True at all draws -/
structure LawOk (u : Stm) (n : Nat) : Prop where
  h : (u (env0 n)).all (fun o => o = .rt (.bool true)) (fun _ => False)
end Mb

/-! dicts: what the model does with them -/
namespace Mb
open PySem L2
section
variable {X : Cx} {pins : List (Addr × Obj)} {σ : St} {H : Hp} {s : Shared}
mutual
theorem nested_of (I : Inv X pins σ H s) : ∀ {v : V} {d : D} {u : Value}, Rep X.K H v d → RelV v u → kin d = true → NestedIs s.heap (nk d) u
  | _, _, _, .non, r, _ => by cases r; exact .none
  | _, _, _, .int i, r, _ => by obtain ⟨t, rfl⟩ := r; exact .int i t
  | _, _, _, .bl _, _, h => by simp [kin] at h
  | _, _, _, .str _, _, h => by simp [kin] at h
  | _, _, _, .lst _ _, _, h => by simp [kin] at h
  | _, _, _, .dic _ _ _ _ _ _ _ _ _ _ _, _, h => by simp [kin] at h
  | _, _, _, .tup hs rs, r, h => by
    cases r
    obtain ⟨its, rv, ⟨o, e, c, n, dd⟩, _⟩ := I.tuple hs
    refine .tup e c dd ?_
    simpa using nesteds_of I rs rv (by simpa only [kin] using h)
theorem nesteds_of (I : Inv X pins σ H s) : ∀ {vs : List V} {ds : List D} {us : List Value}, RepAll X.K H vs ds → Vals vs us → kins ds = true → NestedAll s.heap (nks ds) us
  | _, _, _, .nil, r, _ => by cases r; exact .nil
  | _, _, _, .cons h rs, r, k => by
    cases r with
    | cons r1 r2 =>
      simp only [kins, Bool.and_eq_true] at k
      exact .cons (nested_of I h r1 k.1) (nesteds_of I rs r2 k.2)
end
theorem tkey_is (I : Inv X pins σ H s) {v : V} {d : D} {u : Value} (r : Rep X.K H v d) (ru : RelV v u) (h : tkey d = true) : ∃ a, u = .ref a ∧ v = .ref a ∧ (nestedKind X.prog X.w).is s.heap (nk d) a := by
  cases d with
  | tuple ds =>
    simp only [tkey, Bool.and_eq_true, decide_eq_true_eq] at h
    have n := nested_of I r ru (by simpa only [kin] using h.1)
    cases r with
    | @tup a _ _ hs rs =>
      cases ru
      refine ⟨a, rfl, rfl, n, ?_⟩
      rw [nk_dep]
      show kdeps ds + 1 ≤ 8
      omega
  | _ => cases h
theorem ikey_is {v : V} {d : D} {u : Value} (r : Rep X.K H v d) (ru : RelV v u) (h : ikey d = true) : ∃ i t, d = .int i ∧ v = .int i ∧ u = .int i t := by
  cases d with
  | int i =>
    cases r
    obtain ⟨t, rfl⟩ := ru
    exact ⟨i, t, rfl, rfl, rfl⟩
  | _ => cases h
/-! keys that are tuples -/
def XR (K : PySem.W.Frag) (H : Hp) (x : NestedKey × Addr × Value) (p : D × D) : Prop := x.1 = nk p.1 ∧ Rep K H (.ref x.2.1) p.1 ∧ ∃ vv, RelV vv x.2.2 ∧ Rep K H vv p.2
theorem paired_T (I : Inv X pins σ H s) {HM : Hp} (sm : Same HM H) : ∀ {es : List DictEntry} {kvs : List (D × D)}, Paired (EnR X.K HM) es kvs → (kvs.map (·.1)).all tkey = true → ∃ xs : List (NestedKey × Addr × Value), es = xs.map (entryOfKey (nestedKind X.prog X.w)) ∧ Paired (XR X.K HM) xs kvs
  | _, _, .nil, _ => ⟨[], rfl, .nil⟩
  | e :: es, p :: kvs, .cons h t, k => by
    rw [List.map_cons, List.all_cons, Bool.and_eq_true] at k
    obtain ⟨xs, q1, q2⟩ := paired_T I sm t k.2
    obtain ⟨kv, vv, a, b, c, d, hh⟩ := h
    obtain ⟨ad, r1, r2, r3⟩ := tkey_is I (c.mono sm) a k.1
    refine ⟨(nk p.1, ad, e.val) :: xs, ?_, .cons ⟨rfl, by rw [← r2]; exact c, vv, b, d⟩ q2⟩
    rw [List.map_cons, ← q1]
    congr 1
    obtain ⟨eh, ek, ev⟩ := e
    simp only at r1 hh
    subst r1 hh
    show DictEntry.mk (hD p.1) (.ref ad) ev = ⟨(nk p.1).hash X.w, .ref ad, ev⟩
    unfold hD
    rw [h0_eq X.w]
theorem paired_back (w : World) {P : Program} : ∀ {K : PySem.W.Frag} {H : Hp} {xs : List (NestedKey × Addr × Value)} {kvs : List (D × D)}, Paired (XR K H) xs kvs → Paired (EnR K H) (xs.map (entryOfKey (nestedKind P w))) kvs
  | _, _, _, _, .nil => .nil
  | K, H, x :: xs, p :: kvs, .cons h t => by
    obtain ⟨a, b, vv, c, d⟩ := h
    refine .cons ⟨.ref x.2.1, vv, rfl, c, b, d, ?_⟩ (paired_back w t)
    show x.1.hash w = hD p.1
    rw [a]
    exact (h0_eq w p.1).symm
theorem xr_keys {K : PySem.W.Frag} {H : Hp} : ∀ {xs : List (NestedKey × Addr × Value)} {kvs : List (D × D)}, Paired (XR K H) xs kvs → xs.map (·.1) = (kvs.map (·.1)).map nk
  | _, _, .nil => rfl
  | _, _, .cons h t => by rw [List.map_cons, List.map_cons, List.map_cons, h.1, xr_keys t]
theorem nodup_nk : ∀ {l : List D}, l.Nodup → l.all tkey = true → (l.map nk).Nodup
  | [], _, _ => List.nodup_nil
  | d :: l, h, k => by
    rw [List.nodup_cons] at h
    rw [List.all_cons, Bool.and_eq_true] at k
    rw [List.map_cons, List.nodup_cons]
    refine ⟨fun m => ?_, nodup_nk h.2 k.2⟩
    obtain ⟨e, he, z⟩ := List.mem_map.mp m
    have := nk_inj e d (tkey_kin (List.all_eq_true.mp k.2 e he)) (tkey_kin k.1) z
    exact h.1 (this ▸ he)
theorem xr_is (I : Inv X pins σ H s) {HM : Hp} (sm : Same HM H) : ∀ {xs : List (NestedKey × Addr × Value)} {kvs : List (D × D)}, Paired (XR X.K HM) xs kvs → (kvs.map (·.1)).all tkey = true → ∀ x ∈ xs, (nestedKind X.prog X.w).is s.heap x.1 x.2.1
  | _, _, .nil, _ => fun x h => by simp at h
  | y :: xs, p :: kvs, .cons h t, k => fun x hx => by
    rw [List.map_cons, List.all_cons, Bool.and_eq_true] at k
    rcases List.mem_cons.mp hx with z | z
    · subst z
      obtain ⟨a, r1, r2, r3⟩ := tkey_is I (h.2.1.mono sm) (show RelV (.ref x.2.1) (.ref x.2.1) from rfl) k.1
      injection r1 with r1
      rw [h.1, r1]; exact r3
    · exact xr_is I sm t k.2 x z
theorem dat_T (I : Inv X pins σ H s) {HM : Hp} (sm : Same HM H) {a : Addr} {o : Obj} {kvs : List (D × D)} (e : H a = some (DicO a o)) (r : RDk X.K HM o kvs) (k : (kvs.map (·.1)).all tkey = true) : (a == sysModules) = false ∧ ∃ xs, s.heap.DictOfH (nestedKind X.prog X.w) a xs ∧ Paired (XR X.K HM) xs kvs := by
  obtain ⟨h1, ⟨es, ep, h2, h3⟩, h4, h5, h6⟩ := r
  obtain ⟨⟨q1, q2⟩, _, _⟩ := I.hok a _ e
  obtain ⟨xs, p1, p2⟩ := paired_T I sm h3 k
  exact ⟨q2, xs, ⟨o, es, ep, q1, h1, h2, p1, xr_is I sm p2 k, by rw [xr_keys p2]; exact nodup_nk h4 k⟩, p2⟩
theorem xr_at {K : PySem.W.Frag} {H : Hp} {k : D} (hk : tkey k = true) : ∀ {xs : List (NestedKey × Addr × Value)} {kvs : List (D × D)}, Paired (XR K H) xs kvs → (kvs.map (·.1)).all tkey = true →
    (atKey xs (nk k) = none ∧ lkD kvs k = none) ∨ ∃ p d vv, atKey xs (nk k) = some p ∧ lkD kvs k = some d ∧ RelV vv p.2 ∧ Rep K H vv d
  | _, _, .nil, _ => .inl ⟨rfl, rfl⟩
  | x :: xs, p :: kvs, .cons h t, q => by
    rw [List.map_cons, List.all_cons, Bool.and_eq_true] at q
    have ih := xr_at hk t q.2
    obtain ⟨a, b, vv, c, d⟩ := h
    by_cases z : p.1 = k
    · refine .inr ⟨x.2, p.2, vv, ?_, ?_, c, d⟩
      · simp [atKey, List.find?_cons, a, z]
      · have : PyData.eqv p.1 k = true := (eqv_kin _ _ (tkey_kin q.1) (tkey_kin hk)).mpr z
        simp [lkD, List.find?_cons, this]
    · have z1 : ¬ x.1 = nk k := fun e => z (nk_inj _ _ (tkey_kin q.1) (tkey_kin hk) (a.symm.trans e))
      have z2 : PyData.eqv p.1 k = false := by
        cases e : PyData.eqv p.1 k with
        | false => rfl
        | true => exact absurd ((eqv_kin _ _ (tkey_kin q.1) (tkey_kin hk)).mp e) z
      have e1 : atKey (x :: xs) (nk k) = atKey xs (nk k) := by simp [atKey, List.find?_cons, z1]
      have e2 : lkD (p :: kvs) k = lkD kvs k := by simp [lkD, List.find?_cons, z2]
      rw [e1, e2]
      exact ih
theorem xr_put {K : PySem.W.Frag} {H : Hp} {k v : D} {a : Addr} {vv : V} {u : Value} (hk : tkey k = true) (ra : Rep K H (.ref a) k) (rv : RelV vv u) (rd : Rep K H vv v) {xs : List (NestedKey × Addr × Value)} {kvs : List (D × D)} (h : Paired (XR K H) xs kvs) (q : (kvs.map (·.1)).all tkey = true) :
    Paired (XR K H) (storedH xs (nk k) a u) (putD kvs k v) := by
  have main : ∀ {xs : List (NestedKey × Addr × Value)} {kvs : List (D × D)}, Paired (XR K H) xs kvs → (kvs.map (·.1)).all tkey = true → Paired (XR K H) (xs.map (putAt (nk k) u)) (kvs.map fun p => if PyData.eqv p.1 k then (p.1, v) else p) := by
    intro xs kvs h
    induction h with
    | nil => intro _; exact .nil
    | @cons x p xs kvs h t ih =>
      intro q
      rw [List.map_cons, List.all_cons, Bool.and_eq_true] at q
      rw [List.map_cons, List.map_cons]
      refine .cons ?_ (ih q.2)
      obtain ⟨h1, h2, h3⟩ := h
      by_cases z : p.1 = k
      · have e1 : PyData.eqv p.1 k = true := (eqv_kin _ _ (tkey_kin q.1) (tkey_kin hk)).mpr z
        rw [e1, if_pos rfl, putAt, if_pos (by rw [h1, z])]
        exact ⟨h1, h2, vv, rv, rd⟩
      · have z2 : PyData.eqv p.1 k = false := by
          cases e : PyData.eqv p.1 k with
          | false => rfl
          | true => exact absurd ((eqv_kin _ _ (tkey_kin q.1) (tkey_kin hk)).mp e) z
        rw [z2, if_neg (by decide), putAt, if_neg fun e => z (nk_inj _ _ (tkey_kin q.1) (tkey_kin hk) (h1.symm.trans e))]
        exact ⟨h1, h2, h3⟩
  have app : ∀ {xs : List (NestedKey × Addr × Value)} {kvs : List (D × D)}, Paired (XR K H) xs kvs → Paired (XR K H) (xs ++ [(nk k, a, u)]) (kvs ++ [(k, v)]) := by
    intro xs kvs h
    induction h with
    | nil => exact .cons ⟨rfl, ra, vv, rv, rd⟩ .nil
    | cons h t ih => exact .cons h ih
  unfold storedH putD
  rcases xr_at hk h q with ⟨e1, e2⟩ | ⟨p, d, vv, e1, e2, _⟩
  · rw [e1, e2]; exact app h
  · rw [e1, e2]; exact main h q
/-! keys that are ints -/
def XI (K : PySem.W.Frag) (H : Hp) (x : Int × Value) (p : D × D) : Prop := p.1 = .int x.1 ∧ ∃ vv, RelV vv x.2 ∧ Rep K H vv p.2
theorem paired_I {P : Program} {w : World} {K : PySem.W.Frag} {HM : Hp} : ∀ {es : List DictEntry} {kvs : List (D × D)}, Paired (EnR K HM) es kvs → (kvs.map (·.1)).all ikey = true → ∃ xs : List (Int × Value), Pairs (intKind P w) es xs ∧ (∀ e ∈ es, ∃ k, (intKind P w).is k e.key = true ∧ e.hash = (intKind P w).hash k) ∧ Paired (XI K HM) xs kvs
  | _, _, .nil, _ => ⟨[], .nil, fun e h => by simp at h, .nil⟩
  | e :: es, p :: kvs, .cons h t, k => by
    rw [List.map_cons, List.all_cons, Bool.and_eq_true] at k
    obtain ⟨xs, q1, q2, q3⟩ := paired_I (P := P) (w := w) t k.2
    obtain ⟨kv, vv, a, b, c, d, hh⟩ := h
    obtain ⟨pk, pv⟩ := p
    cases pk with
    | int i =>
      cases c
      obtain ⟨t', a⟩ := a
      have is : (intKind P w).is i e.key = true := by
        show Value.isInt i e.key = true
        rw [a]; simp [Value.isInt]
      refine ⟨(i, e.val) :: xs, .cons is rfl q1, fun x hx => ?_, .cons ⟨rfl, vv, b, d⟩ q3⟩
      rcases List.mem_cons.mp hx with z | z
      · subst z; exact ⟨i, is, hh⟩
      · exact q2 x z
    | _ => simp [ikey] at k
theorem pairedI_back {P : Program} {w : World} {K : PySem.W.Frag} {HM : Hp} : ∀ {es : List DictEntry} {xs : List (Int × Value)} {kvs : List (D × D)}, Pairs (intKind P w) es xs → (∀ e ∈ es, ∃ k, (intKind P w).is k e.key = true ∧ e.hash = (intKind P w).hash k) → Paired (XI K HM) xs kvs → Paired (EnR K HM) es kvs
  | _, _, _, .nil, _, h => by cases h; exact .nil
  | e :: es, x :: xs, _, .cons h1 h2 t, hh, h => by
    cases h with
    | cons h r =>
      rename_i p kvs
      obtain ⟨a, vv, b, c⟩ := h
      refine .cons ⟨.int x.1, vv, ?_, ?_, ?_, c, ?_⟩ (pairedI_back t (fun e he => hh e (List.mem_cons_of_mem _ he)) r)
      · obtain ⟨t', q⟩ := Value.isInt_shape h1
        exact ⟨t', q⟩
      · rw [h2]; exact b
      · rw [a]; exact .int _
      · obtain ⟨k, q1, q2⟩ := hh e List.mem_cons_self
        have : k = x.1 := (intKind P w).inj _ _ _ q1 h1
        rw [q2, this, a]; rfl
theorem xi_keys {K : PySem.W.Frag} {H : Hp} : ∀ {xs : List (Int × Value)} {kvs : List (D × D)}, Paired (XI K H) xs kvs → (xs.map (·.1)).map PyData.int = kvs.map (·.1)
  | _, _, .nil => rfl
  | _, _, .cons h t => by rw [List.map_cons, List.map_cons, List.map_cons, h.1, xi_keys t]
theorem dat_I (I : Inv X pins σ H s) {HM : Hp} {a : Addr} {o : Obj} {kvs : List (D × D)} (e : H a = some (DicO a o)) (r : RDk X.K HM o kvs) (k : (kvs.map (·.1)).all ikey = true) : (a == sysModules) = false ∧ ∃ xs, s.heap.DictOf (intKind X.prog X.w) a xs ∧ Paired (XI X.K HM) xs kvs := by
  obtain ⟨h1, ⟨es, ep, h2, h3⟩, h4, h5, h6⟩ := r
  obtain ⟨⟨q1, q2⟩, _, _⟩ := I.hok a _ e
  obtain ⟨xs, p1, p2, p3⟩ := paired_I (P := X.prog) (w := X.w) h3 k
  refine ⟨q2, xs, ⟨o, es, ep, q1, h1, h2, fun e he => p2 e (Array.mem_toList_iff.mpr he), p1, ?_⟩, p3⟩
  rw [← xi_keys p3] at h4
  exact List.Pairwise.of_map _ (fun a b h z => h (by rw [z])) h4
theorem xi_at {K : PySem.W.Frag} {H : Hp} (i : Int) : ∀ {xs : List (Int × Value)} {kvs : List (D × D)}, Paired (XI K H) xs kvs →
    (valueAt xs i = none ∧ lkD kvs (.int i) = none) ∨ ∃ u d vv, valueAt xs i = some u ∧ lkD kvs (.int i) = some d ∧ RelV vv u ∧ Rep K H vv d
  | _, _, .nil => .inl ⟨rfl, rfl⟩
  | x :: xs, p :: kvs, .cons h t => by
    have ih := xi_at i t
    obtain ⟨a, vv, c, d⟩ := h
    by_cases z : x.1 = i
    · refine .inr ⟨x.2, p.2, vv, ?_, ?_, c, d⟩
      · simp [valueAt, List.find?_cons, z]
      · simp [lkD, List.find?_cons, a, z, PyData.eqv]
    · have e1 : valueAt (x :: xs) i = valueAt xs i := by simp [valueAt, List.find?_cons, z]
      have e2 : lkD (p :: kvs) (.int i) = lkD kvs (.int i) := by simp [lkD, List.find?_cons, a, z, PyData.eqv]
      rw [e1, e2]
      exact ih
theorem xi_any {K : PySem.W.Frag} {H : Hp} (i : Int) {xs : List (Int × Value)} {kvs : List (D × D)} (h : Paired (XI K H) xs kvs) : xs.any (fun kv => kv.1 = i) = (lkD kvs (.int i)).isSome := by
  have : ∀ {xs : List (Int × Value)}, xs.any (fun kv => kv.1 = i) = (valueAt xs i).isSome := by
    intro xs
    induction xs with
    | nil => rfl
    | cons x xs ih =>
      by_cases z : x.1 = i
      · simp [valueAt, List.find?_cons, z]
      · simp only [List.any_cons, z, decide_false, Bool.false_or, ih]
        simp [valueAt, List.find?_cons, z]
  rw [this]
  rcases xi_at i h with ⟨e1, e2⟩ | ⟨u, d, vv, e1, e2, _⟩ <;> rw [e1, e2] <;> rfl
theorem xi_put {K : PySem.W.Frag} {H : Hp} {i : Int} {v : D} {vv : V} {u : Value} (rv : RelV vv u) (rd : Rep K H vv v) {xs : List (Int × Value)} {kvs : List (D × D)} (h : Paired (XI K H) xs kvs) : Paired (XI K H) (stored xs i u) (putD kvs (.int i) v) := by
  have main : ∀ {xs : List (Int × Value)} {kvs : List (D × D)}, Paired (XI K H) xs kvs → Paired (XI K H) (xs.map fun kv => if kv.1 = i then (kv.1, u) else kv) (kvs.map fun p => if PyData.eqv p.1 (.int i) then (p.1, v) else p) := by
    intro xs kvs h
    induction h with
    | nil => exact .nil
    | @cons x p xs kvs h t ih =>
      rw [List.map_cons, List.map_cons]
      refine .cons ?_ ih
      obtain ⟨h1, h3⟩ := h
      by_cases z : x.1 = i
      · rw [if_pos z, if_pos (by rw [h1, z]; simp [PyData.eqv])]
        exact ⟨h1, vv, rv, rd⟩
      · rw [if_neg z, if_neg (by rw [h1]; simp [PyData.eqv, z])]
        exact ⟨h1, h3⟩
  have app : ∀ {xs : List (Int × Value)} {kvs : List (D × D)}, Paired (XI K H) xs kvs → Paired (XI K H) (xs ++ [(i, u)]) (kvs ++ [(.int i, v)]) := by
    intro xs kvs h
    induction h with
    | nil => exact .cons ⟨rfl, vv, rv, rd⟩ .nil
    | cons h t ih => exact .cons h ih
  unfold stored putD
  rw [xi_any i h]
  cases (lkD kvs (.int i)).isSome with
  | true => exact main h
  | false => exact app h
end
end Mb

/-! dicts: the operations -/
namespace Mb
open PySem L2
theorem lkD_none {k : D} : ∀ {kvs : List (D × D)}, lkD kvs k = none → ∀ p ∈ kvs, PyData.eqv p.1 k = false
  | [], _ => fun p h => by simp at h
  | q :: kvs, h => fun p hp => by
    cases e : PyData.eqv q.1 k with
    | true => simp [lkD, List.find?_cons, e] at h
    | false =>
      have h' : lkD kvs k = none := by simpa [lkD, List.find?_cons, e] using h
      rcases List.mem_cons.mp hp with z | z
      · rw [z]; exact e
      · exact lkD_none h' p z
theorem putD_keys (kvs : List (D × D)) (k v : D) : (putD kvs k v).map (·.1) = if (lkD kvs k).isSome then kvs.map (·.1) else kvs.map (·.1) ++ [k] := by
  unfold putD
  cases (lkD kvs k).isSome with
  | true =>
    simp only [if_true]
    rw [List.map_map]
    apply List.map_congr_left
    intro p _
    simp only [Function.comp]
    split <;> rfl
  | false => simp
theorem kindK_A {ks : List D} {k : D} (h : kindK ks k = true) : kindA ks = true ∧ kindA (ks ++ [k]) = true ∧ kin k = true ∧ ∀ x ∈ ks, kin x = true := by
  unfold kindK at h
  unfold kindA
  rw [Bool.or_eq_true] at h
  rcases h with h | h
  · rw [Bool.and_eq_true] at h
    exact ⟨by rw [h.1]; rfl, by rw [List.all_append, h.1]; simp [h.2], tkey_kin h.2, fun x hx => tkey_kin (List.all_eq_true.mp h.1 x hx)⟩
  · rw [Bool.and_eq_true] at h
    exact ⟨by rw [h.1]; simp, by rw [List.all_append (f := ikey), h.1]; simp [h.2], ikey_kin h.2, fun x hx => ikey_kin (List.all_eq_true.mp h.1 x hx)⟩
theorem putD_len (kvs : List (D × D)) (k v : D) : (putD kvs k v).length ≤ kvs.length + 1 := by
  unfold putD
  split <;> simp
theorem putD_ok {kvs : List (D × D)} {k v : D} (hk : kindK (kvs.map (·.1)) k = true) (hn : (kvs.map (·.1)).Nodup) : ((putD kvs k v).map (·.1)).Nodup ∧ kindA ((putD kvs k v).map (·.1)) = true := by
  obtain ⟨k1, k2, k3, k4⟩ := kindK_A hk
  rw [putD_keys]
  cases e : lkD kvs k with
  | some d => exact ⟨hn, k1⟩
  | none =>
    refine ⟨?_, k2⟩
    simp only [Option.isSome_none, Bool.false_eq_true, if_false]
    refine List.nodup_append.mpr ⟨hn, List.nodup_cons.mpr ⟨by simp, List.nodup_nil⟩, fun x hx y hy => ?_⟩
    have hy : y = k := by simpa using hy
    subst hy
    intro z
    obtain ⟨p, hp, hq⟩ := List.mem_map.mp hx
    have := lkD_none e p hp
    rw [hq, z, (eqv_kin y y k3 k3).mpr rfl] at this
    cases this
section
variable {X : Cx} {pins : List (Addr × Obj)} {σ : St} {H HM : Hp} {s : Shared} {A : Around} {E : Value → Shared → Prop} {a : Addr} {o : Obj} {kvs : List (D × D)} {kv vv : V} {uk uv : Value} {k v : D}
theorem isI {P : Program} {w : World} (i : Int) (t : Tok) : (intKind P w).is i (.int i t) = true := by
  show Value.isInt i (.int i t) = true
  simp [Value.isInt]
theorem room8 (hu : A.units + 64 < cLine) : (nestedKind X.prog X.w).room A.in1 := by
  show A.units + 1 + 8 < cLine
  omega
theorem kindK_cases {ks : List D} (h : kindK ks k = true) : (ks.all tkey = true ∧ tkey k = true) ∨ (ks.all ikey = true ∧ ikey k = true) := by
  unfold kindK at h
  rw [Bool.or_eq_true, Bool.and_eq_true, Bool.and_eq_true] at h
  exact h
theorem dk_in {Q : Value → Shared → Prop} (hu : A.units + 64 < cLine) (I : Inv X pins σ H s) (sm : Same HM H) (e : H a = some (DicO a o)) (r : RDk X.K HM o kvs) (hk : kindK (kvs.map (·.1)) k = true) (rk : Rep X.K HM kv k) (ru : RelV kv uk)
    (h : ∀ s', Inv X pins σ H s' → Q (.bool (lkD kvs k).isSome) s') : wpAny (model X.prog X.w) A (compareOp .In uk (.ref a)) Q E s := by
  rcases kindK_cases hk with ⟨h1, h2⟩ | ⟨h1, h2⟩
  · obtain ⟨b, r1, r2, r3⟩ := tkey_is I (rk.mono sm) ru h2
    subst r1
    obtain ⟨hd, xs, d, p⟩ := dat_T I sm e r h1
    refine wpAny_in_heap (room8 hu) r3 hd d ?_
    rcases xr_at h2 p h1 with ⟨e1, e2⟩ | ⟨q, dd, ww, e1, e2, _⟩
    · rw [e1]; rw [e2] at h; exact h _ (I.tok _)
    · rw [e1]; rw [e2] at h; exact h _ (I.tok _)
  · obtain ⟨i, t, r1, r2, r3⟩ := ikey_is rk ru h2
    subst r1 r3
    obtain ⟨hd, xs, d, p⟩ := dat_I I e r h1
    refine wpAny_in_of (knd := intKind X.prog X.w) (k := i) (isI i t) hd d.mapOf ?_
    rcases xi_at i p with ⟨e1, e2⟩ | ⟨q, dd, ww, e1, e2, _⟩
    · rw [e1]; rw [e2] at h; exact h _ (I.tok _)
    · rw [e1]; rw [e2] at h; exact h _ (I.tok _)
theorem dk_notIn {Q : Value → Shared → Prop} (hu : A.units + 64 < cLine) (I : Inv X pins σ H s) (sm : Same HM H) (e : H a = some (DicO a o)) (r : RDk X.K HM o kvs) (hk : kindK (kvs.map (·.1)) k = true) (rk : Rep X.K HM kv k) (ru : RelV kv uk)
    (h : ∀ s', Inv X pins σ H s' → Q (.bool (!(lkD kvs k).isSome)) s') : wpAny (model X.prog X.w) A (compareOp .NotIn uk (.ref a)) Q E s := by
  rcases kindK_cases hk with ⟨h1, h2⟩ | ⟨h1, h2⟩
  · obtain ⟨b, r1, r2, r3⟩ := tkey_is I (rk.mono sm) ru h2
    subst r1
    obtain ⟨hd, xs, d, p⟩ := dat_T I sm e r h1
    refine PyProof.Rows.wpAny_notIn_heap (room8 hu) r3 hd d ?_
    rcases xr_at h2 p h1 with ⟨e1, e2⟩ | ⟨q, dd, ww, e1, e2, _⟩
    · rw [e1]; rw [e2] at h; exact h _ (I.tok _)
    · rw [e1]; rw [e2] at h; exact h _ (I.tok _)
  · obtain ⟨i, t, r1, r2, r3⟩ := ikey_is rk ru h2
    subst r1 r3
    obtain ⟨hd, xs, d, p⟩ := dat_I I e r h1
    refine wpAny_notIn_of (knd := intKind X.prog X.w) (k := i) (isI i t) hd d.mapOf ?_
    rcases xi_at i p with ⟨e1, e2⟩ | ⟨q, dd, ww, e1, e2, _⟩
    · rw [e1]; rw [e2] at h; exact h _ (I.tok _)
    · rw [e1]; rw [e2] at h; exact h _ (I.tok _)
theorem dk_get {Q : Value → Shared → Prop} (hu : A.units + 64 < cLine) (I : Inv X pins σ H s) (sm : Same HM H) (e : H a = some (DicO a o)) (r : RDk X.K HM o kvs) (hk : kindK (kvs.map (·.1)) k = true) (rk : Rep X.K HM kv k) (ru : RelV kv uk) (hl : lkD kvs k = some v)
    (h : ∀ s' w u, Inv X pins σ H s' → RelV w u → Rep X.K HM w v → Q u s') : wpAny (model X.prog X.w) A (getItem (.ref a) uk) Q E s := by
  rcases kindK_cases hk with ⟨h1, h2⟩ | ⟨h1, h2⟩
  · obtain ⟨b, r1, r2, r3⟩ := tkey_is I (rk.mono sm) ru h2
    subst r1
    obtain ⟨hd, xs, d, p⟩ := dat_T I sm e r h1
    rcases xr_at h2 p h1 with ⟨e1, e2⟩ | ⟨q, dd, ww, e1, e2, e3, e4⟩
    · rw [e2] at hl; cases hl
    · rw [e2] at hl; cases hl
      exact wpAny_getItem_heap (room8 hu) r3 d e1 (h _ _ _ (I.tok _) e3 e4)
  · obtain ⟨i, t, r1, r2, r3⟩ := ikey_is rk ru h2
    subst r1 r3
    obtain ⟨hd, xs, d, p⟩ := dat_I I e r h1
    rcases xi_at i p with ⟨e1, e2⟩ | ⟨q, dd, ww, e1, e2, e3, e4⟩
    · rw [e2] at hl; cases hl
    · rw [e2] at hl; cases hl
      exact wpAny_getItem_of (knd := intKind X.prog X.w) (k := i) (isI i t) d.mapOf e1 (h _ _ _ (I.tok _) e3 e4)
theorem dicO_ok {P : Program} {w : World} {H : Hp} {h : Heap} (e : h.get? a = some o) (n : (a == sysModules) = false) : ObjOk P w H h a (DicO a o) := ⟨⟨e, n⟩, ⟨o, e⟩, fun h1 h2 q z => ⟨z _ q.1, q.2⟩⟩
theorem lim_room {n : Nat} (h : n ≤ lim) : n ≤ sizeLine := Nat.le_trans h lim_le
theorem dk_set {Q : Unit → Shared → Prop} (hu : A.units + 64 < cLine) (I : Inv X pins σ H s) (sm : Same HM H) (e : H a = some (DicO a o)) (r : RDk X.K HM o kvs) (hk : kindK (kvs.map (·.1)) k = true) (rk : Rep X.K HM kv k) (ru : RelV kv uk) (rv : Rep X.K HM vv v) (rw' : RelV vv uv) (hl : kvs.length < lim)
    (h : ∀ s' o', Inv X pins σ (upd H a (DicO a o')) s' → RDk X.K HM o' (putD kvs k v) → Q () s') : wpAny (model X.prog X.w) A (setItem (.ref a) uk uv) Q E s := by
  have n2 := putD_ok (v := v) hk r.nd
  have n3 : (putD kvs k v).length ≤ lim := Nat.le_trans (putD_len _ _ _) hl
  rcases kindK_cases hk with ⟨h1, h2⟩ | ⟨h1, h2⟩
  · obtain ⟨b, r1, r2, r3⟩ := tkey_is I (rk.mono sm) ru h2
    subst r1 r2
    obtain ⟨hd, xs, d, p⟩ := dat_T I sm e r h1
    have hz : xs.length ≤ sizeLine := by rw [Paired.length p]; exact lim_room r.le
    refine wpAny_setItem_heap (hsz := hz) (room8 hu) r3 d fun h' dd' hs => ?_
    obtain ⟨q, es, ep, hq, q2, q3, q4, q5, q6⟩ := dd'
    refine h _ q (d_write I (by rw [e]; exact True.intro) hs ⟨q, hq⟩ (dicO_ok hq hd)) ⟨q2, ⟨es, ep, q3, ?_⟩, n2.1, n2.2, n3⟩
    rw [q4]
    exact paired_back X.w (xr_put h2 rk rw' rv p h1)
  · obtain ⟨i, t, r1, r2, r3⟩ := ikey_is rk ru h2
    subst r1 r3
    obtain ⟨hd, xs, d, p⟩ := dat_I I e r h1
    have hz : xs.length ≤ sizeLine := by rw [Paired.length p]; exact lim_room r.le
    refine wpAny_setItem_pairs (knd := intKind X.prog X.w) (k := i) (hsz := hz) (isI i t) d fun h' dd' hs => ?_
    obtain ⟨q, es, ep, hq, q2, q3, q4, q5, q6⟩ := dd'
    refine h _ q (d_write I (by rw [e]; exact True.intro) hs ⟨q, hq⟩ (dicO_ok hq hd)) ⟨q2, ⟨es, ep, q3, ?_⟩, n2.1, n2.2, n3⟩
    exact pairedI_back q5 (fun e he => q4 e (Array.mem_toList_iff.mp he)) (xi_put rw' rv p)
theorem dk_len {Q : Value → Shared → Prop} (I : Inv X pins σ H s) (sm : Same HM H) (e : H a = some (DicO a o)) (r : RDk X.K HM o kvs) (h : ∀ t s', Inv X pins σ H s' → Q (.int kvs.length t) s') : wpAny (model X.prog X.w) A (call (.builtin "len") [.ref a]) Q E s := by
  have hk := r.kd
  have hs : kvs.length ≤ sizeLine := lim_room r.le
  rw [sizeLine_eq] at hs
  unfold kindA at hk
  rw [Bool.or_eq_true] at hk
  rcases hk with h1 | h1
  · obtain ⟨hd, xs, d, p⟩ := dat_T I sm e r h1
    refine call_len_dictH hd d (by rw [Paired.length p]; omega) ?_
    rw [Paired.length p]
    exact h _ _ (I.tok _)
  · obtain ⟨hd, xs, d, p⟩ := dat_I I e r h1
    refine call_len_dict hd d (by rw [Paired.length p]; omega) ?_
    rw [Paired.length p]
    exact h _ _ (I.tok _)
/-- d.get(k, x) -/
theorem dk_dget {Q : Value → Shared → Prop} (hu : A.units + 64 < cLine) (I : Inv X pins σ H s) (sm : Same HM H) (e : H a = some (DicO a o)) (r : RDk X.K HM o kvs) (hk : kindK (kvs.map (·.1)) k = true) (rk : Rep X.K HM kv k) (ru : RelV kv uk) (rv : Rep X.K HM vv v) (rw' : RelV vv uv)
    (h : ∀ s' w u, Inv X pins σ H s' → RelV w u → Rep X.K HM w ((lkD kvs k).getD v) → Q u s') : wpAny (model X.prog X.w) A (call (.builtin "dict.get") [.ref a, uk, uv]) Q E s := by
  rcases kindK_cases hk with ⟨h1, h2⟩ | ⟨h1, h2⟩
  · obtain ⟨b, r1, r2, r3⟩ := tkey_is I (rk.mono sm) ru h2
    subst r1
    obtain ⟨hd, xs, d, p⟩ := dat_T I sm e r h1
    refine call_meetsIn PySem.F.slot_dict_get d.typeIs PySem.F.entry_dict_get (PySem.F.args_dict_get_3 _ _ _) (meetsH_dict_get_default (nestedKind X.prog X.w) a b hd uv) ⟨room8 hu, nk k, xs, r3, d, ?_⟩
    rcases xr_at h2 p h1 with ⟨e1, e2⟩ | ⟨q, dd, ww, e1, e2, e3, e4⟩
    · rw [e1]; rw [e2] at h; exact h _ _ _ (I.tok _) rw' rv
    · rw [e1]; rw [e2] at h; exact h _ _ _ (I.tok _) e3 e4
  · obtain ⟨i, t, r1, r2, r3⟩ := ikey_is rk ru h2
    subst r1 r3
    obtain ⟨hd, xs, d, p⟩ := dat_I I e r h1
    refine call_meetsIn PySem.F.slot_dict_get d.typeIs PySem.F.entry_dict_get (PySem.F.args_dict_get_3 _ _ _) (meets_dict_get_default (intKind X.prog X.w) a (k := i) (isI i t) hd uv) ⟨_, d.mapOf, ?_⟩
    rcases xi_at i p with ⟨e1, e2⟩ | ⟨q, dd, ww, e1, e2, e3, e4⟩
    · rw [e1]; rw [e2] at h; exact h _ _ _ (I.tok _) rw' rv
    · rw [e1]; rw [e2] at h; exact h _ _ _ (I.tok _) e3 e4
theorem dk_dget1 {Q : Value → Shared → Prop} (hu : A.units + 64 < cLine) (I : Inv X pins σ H s) (sm : Same HM H) (e : H a = some (DicO a o)) (r : RDk X.K HM o kvs) (hk : kindK (kvs.map (·.1)) k = true) (rk : Rep X.K HM kv k) (ru : RelV kv uk)
    (h : ∀ s' w u, Inv X pins σ H s' → RelV w u → Rep X.K HM w ((lkD kvs k).getD .none) → Q u s') : wpAny (model X.prog X.w) A (call (.builtin "dict.get") [.ref a, uk]) Q E s := by
  rcases kindK_cases hk with ⟨h1, h2⟩ | ⟨h1, h2⟩
  · obtain ⟨b, r1, r2, r3⟩ := tkey_is I (rk.mono sm) ru h2
    subst r1
    obtain ⟨hd, xs, d, p⟩ := dat_T I sm e r h1
    refine call_meetsIn PySem.F.slot_dict_get d.typeIs PySem.F.entry_dict_get (PySem.F.args_dict_get_2 _ _) (meetsH_dict_get (nestedKind X.prog X.w) a b hd) ⟨room8 hu, nk k, xs, r3, d, ?_⟩
    rcases xr_at h2 p h1 with ⟨e1, e2⟩ | ⟨q, dd, ww, e1, e2, e3, e4⟩
    · rw [e1]; rw [e2] at h; exact h _ .non _ (I.tok _) rfl .non
    · rw [e1]; rw [e2] at h; exact h _ _ _ (I.tok _) e3 e4
  · obtain ⟨i, t, r1, r2, r3⟩ := ikey_is rk ru h2
    subst r1 r3
    obtain ⟨hd, xs, d, p⟩ := dat_I I e r h1
    refine call_meetsIn PySem.F.slot_dict_get d.typeIs PySem.F.entry_dict_get (PySem.F.args_dict_get_2 _ _) (meets_dict_get (intKind X.prog X.w) a (k := i) (isI i t) hd) ⟨_, d.mapOf, ?_⟩
    rcases xi_at i p with ⟨e1, e2⟩ | ⟨q, dd, ww, e1, e2, e3, e4⟩
    · rw [e1]; rw [e2] at h; exact h _ .non _ (I.tok _) rfl .non
    · rw [e1]; rw [e2] at h; exact h _ _ _ (I.tok _) e3 e4
end
end Mb

/-! dicts: the rules -/
namespace Mb
open PySem L2
/-! ### a dict is read -/
def PostR (F : Fx) (ad : Ads) (H : Hp) (Q : VK) (kvs : List (D × D)) : Prop := ∀ a o H', Kx F.dt H H' → ¬ dl F.dt a → H' a = some (DicO a o) → RDk F.K (mask H' (Mm F ad)) o kvs → Q (.ref a) H'
def DR (cl : Nat → Addr) (X : Cx) (E : XK) (e : Expr) (f : Envt → Tr (List (D × D))) : Prop := ∃ t, PE X e t ∧ ∀ (F : Fx) (B : Hp) (ad : Ads) (σ : St) (H : Hp) (env : Envt) (Q : VK), F.K = X.K → F.cl = cl → Ok F B ad σ H env →
  (f env).all (PostR F ad H Q) (EOk F E) → t σ H Q
def kVar (i : Nat) : Envt → Tr (List (D × D)) := fun env => match env[i]? with
  | some (.fz (.dict kvs)) => .ret kvs
  | some (.od kvs) => .ret kvs
  | _ => .bad
def kOf (f : Envt → Tr D) : Envt → Tr (List (D × D)) := fun env => (f env).bind fun d => match d with
  | .dict kvs => .ret kvs
  | _ => .bad
section
variable {cl : Nat → Addr} {X : Cx} {E : XK} {e a b c : Expr} {f g h : Envt → Tr D} {pos : Pos}
theorem dr_var (i : Nat) {x : Str} (hN : X.N[i]? = some x := by rfl) (hv : Vis X.env.scope x := by first | exact Or.inl rfl | exact Or.inr (Or.inl rfl) | exact Or.inr (Or.inr rfl)) (hd : (x == ("__debug__" : Str)) = false := by decide)
    (hcd : (x == ("__classdict__" : Str)) = false := by decide) : DR cl X E (.Name x pos) (kVar i) := by
  refine ⟨_, pe_var (i := i) hN hv hd hcd, fun F B ad σ H env Q hk hc o k => ?_⟩
  unfold kVar at k
  split at k
  · rename_i kvs he
    obtain ⟨oa, sv, e1, e2, q1, v, rfl, r⟩ := o.at_ he
    obtain ⟨a, ob, rfl, h1, h2⟩ := r.rdk
    obtain ⟨n, h1⟩ := mask_some h1
    exact ⟨_, e2, k a ob H (Kx.refl o.k0.dr) (fun q => n (Mm_dl q)) h1 h2⟩
  · rename_i kvs he
    obtain ⟨oa, sv, e1, e2, p, ob, rfl, rfl, hp, r⟩ := o.at_ he
    exact ⟨_, e2, k p ob H (Kx.refl o.k0.dr) (o.notdl e1) hp r⟩
  · exact k.elim
theorem dr_e (h : DE cl X E e f) : DR cl X E e (kOf f) := by
  obtain ⟨t, p, r⟩ := h
  refine ⟨t, p, fun F B ad σ H env Q hk hc o k => r F B ad σ H env _ hk hc o (Tr.all_mono (fun d z v H1 k1 rv => ?_) (fun _ z => z) (Tr.all_bind k))⟩
  cases d with
  | dict kvs =>
    obtain ⟨a, ob, rfl, h1, h2⟩ := rv.rdk
    obtain ⟨n, h1⟩ := mask_some h1
    exact z a ob H1 k1 (fun q => n (Mm_dl q)) h1 h2
  | _ => exact z.elim
/-! ### in -/
def vInK (f : Envt → Tr D) (g : Envt → Tr (List (D × D))) : Envt → Tr D := fun env => (f env).bind fun d => (g env).bind fun kvs => if kindK (kvs.map (·.1)) d then .ret (.bool (lkD kvs d).isSome) else .bad
def vNiK (f : Envt → Tr D) (g : Envt → Tr (List (D × D))) : Envt → Tr D := fun env => (f env).bind fun d => (g env).bind fun kvs => if kindK (kvs.map (·.1)) d then .ret (.bool (!(lkD kvs d).isSome)) else .bad
def rInK (K : PySem.W.Frag) (neg : Bool) : R2 := fun x y H Q => ∃ a o kvs k HM, y = .ref a ∧ Same HM H ∧ H a = some (DicO a o) ∧ RDk K HM o kvs ∧ kindK (kvs.map (·.1)) k = true ∧ Rep K HM x k ∧ Q (.bl (if neg then !(lkD kvs k).isSome else (lkD kvs k).isSome)) H
theorem op_inK (hu : X.A.units + 64 < cLine) : OpR X (compareOp .In) (rInK X.K false) := by
  intro pins s σ H x y v u Q I rx ry h
  obtain ⟨a, o, kvs, k, HM, rfl, sm, e, r, hk, rk, q⟩ := h
  cases ry
  exact dk_in hu I sm e r hk rk rx fun s' I' => ⟨.bl _, H, I', rfl, q⟩
theorem op_niK (hu : X.A.units + 64 < cLine) : OpR X (compareOp .NotIn) (rInK X.K true) := by
  intro pins s σ H x y v u Q I rx ry h
  obtain ⟨a, o, kvs, k, HM, rfl, sm, e, r, hk, rk, q⟩ := h
  cases ry
  exact dk_notIn hu I sm e r hk rk rx fun s' I' => ⟨.bl _, H, I', rfl, q⟩
theorem inK_core {neg : Bool} {gk : Envt → Tr (List (D × D))} {ta tb : TE} (ra : ∀ (F : Fx) (B : Hp) (ad : Ads) (σ : St) (H : Hp) (env : Envt) (Q : VK), F.K = X.K → F.cl = cl → Ok F B ad σ H env → (f env).all (Post F ad H Q) (EOk F E) → ta σ H Q)
    (rb : ∀ (F : Fx) (B : Hp) (ad : Ads) (σ : St) (H : Hp) (env : Envt) (Q : VK), F.K = X.K → F.cl = cl → Ok F B ad σ H env → (gk env).all (PostR F ad H Q) (EOk F E) → tb σ H Q)
    {F : Fx} {B : Hp} {ad : Ads} {σ : St} {H : Hp} {env : Envt} {Q : VK} (hk : F.K = X.K) (hc : F.cl = cl) (o : Ok F B ad σ H env)
    (k : ((f env).bind fun d => (gk env).bind fun kvs => if kindK (kvs.map (·.1)) d then Tr.ret (PyData.bool (if neg then !(lkD kvs d).isSome else (lkD kvs d).isSome)) else .bad).all (Post F ad H Q) (EOk F E)) : tOp (rInK X.K neg) ta tb σ H Q := by
  refine ra F B ad σ H env _ hk hc o (Tr.all_mono (fun d z x H1 k1 rx => ?_) (fun _ z => z) (Tr.all_bind k))
  refine rb F B ad σ H1 env _ hk hc (o.kx k1) (Tr.all_mono (fun kvs z a ob H2 k2 nd ha rd => ?_) (fun _ z => z) (Tr.all_bind z))
  cases hq : kindK (kvs.map (·.1)) d with
  | false => rw [hq] at z; exact z.elim
  | true =>
    rw [hq] at z
    exact ⟨a, ob, kvs, d, mask H2 (Mm F ad), rfl, mask_le _ _, ha, by rw [← hk]; exact rd, hq, by rw [← hk]; exact rx.mono k2.msame, z _ H2 (k1.trans k2) (.bl _)⟩
theorem de_inK {k : Nat} {gk : Envt → Tr (List (D × D))} (hr : Room k X.A) (ha : DE cl X E a f) (hb : DR cl X E b gk) (hm : behindInMarks .In b = false := by rfl) : DE cl X E (.Compare a [.In] [b] pos) (vInK f gk) := by
  obtain ⟨ta, pa, ra⟩ := ha
  obtain ⟨tb, pb, rb⟩ := hb
  exact ⟨_, pe_cmpR (op_inK hr.units) pa pb hm, fun F B ad σ H env Q hk hc o k => inK_core (neg := false) ra rb hk hc o k⟩
theorem de_niK {k : Nat} {gk : Envt → Tr (List (D × D))} (hr : Room k X.A) (ha : DE cl X E a f) (hb : DR cl X E b gk) (hm : behindInMarks .NotIn b = false := by rfl) : DE cl X E (.Compare a [.NotIn] [b] pos) (vNiK f gk) := by
  obtain ⟨ta, pa, ra⟩ := ha
  obtain ⟨tb, pb, rb⟩ := hb
  exact ⟨_, pe_cmpR (op_niK hr.units) pa pb hm, fun F B ad σ H env Q hk hc o k => inK_core (neg := true) ra rb hk hc o k⟩
theorem dt_inK {k : Nat} {gk : Envt → Tr (List (D × D))} (hr : Room k X.A) (ha : DE cl X E a f) (hb : DR cl X E b gk) (hm : behindInMarks .In b = false := by rfl) : DT cl X E (.Compare a [.In] [b] pos) (vT (vInK f gk)) := by
  obtain ⟨ta, pa, ra⟩ := ha
  obtain ⟨tb, pb, rb⟩ := hb
  exact ⟨_, pt_cmpR (op_inK hr.units) pa pb hm, fun F B ad σ H env Q hk hc o k => tt_core (cl := cl) (fun F B ad σ H env Q hk hc o k => inK_core (neg := false) ra rb hk hc o k) hk hc o k⟩
theorem dt_niK {k : Nat} {gk : Envt → Tr (List (D × D))} (hr : Room k X.A) (ha : DE cl X E a f) (hb : DR cl X E b gk) (hm : behindInMarks .NotIn b = false := by rfl) : DT cl X E (.Compare a [.NotIn] [b] pos) (vT (vNiK f gk)) := by
  obtain ⟨ta, pa, ra⟩ := ha
  obtain ⟨tb, pb, rb⟩ := hb
  exact ⟨_, pt_cmpR (op_niK hr.units) pa pb hm, fun F B ad σ H env Q hk hc o k => tt_core (cl := cl) (fun F B ad σ H env Q hk hc o k => inK_core (neg := true) ra rb hk hc o k) hk hc o k⟩
/-! ### an item -/
def vIxK (g : Envt → Tr (List (D × D))) (f : Envt → Tr D) : Envt → Tr D := fun env => (g env).bind fun kvs => (f env).bind fun d => if kindK (kvs.map (·.1)) d then ofO (lkD kvs d) else .bad
def rIxK (K : PySem.W.Frag) : R2 := fun x y H Q => ∃ a o kvs k v HM, x = .ref a ∧ Same HM H ∧ H a = some (DicO a o) ∧ RDk K HM o kvs ∧ kindK (kvs.map (·.1)) k = true ∧ Rep K HM y k ∧ lkD kvs k = some v ∧ ∀ w, Rep K HM w v → Q w H
open PySem.Spec PyProof.Rows in
theorem ix_K (hu : X.A.units + 64 < cLine) : IxR X (rIxK X.K) := by
  intro value slice pins s σ H x y v u Q I rx ry h hs
  obtain ⟨a, o, kvs, k, d, HM, rfl, sm, e, r, hk, rk, hl, q⟩ := h
  cases rx
  have hT : s.TypeIs (.ref a) "dict" := by
    obtain ⟨⟨q1, q2⟩, _, _⟩ := I.hok a _ e
    exact ⟨o, q1, r.ex.1⟩
  exact tail_any hT slot_dict_getitem.lookup (dk_get hu I sm e r hk rk ry hl fun s' w u I' rw' rd => ⟨w, H, I', rw', q w rd⟩) hs
theorem de_ixK {k : Nat} {gk : Envt → Tr (List (D × D))} (hr : Room k X.A) (ha : DR cl X E a gk) (hb : DE cl X E b f) (hs : PlainIx b := by exact fun _ _ => rfl) : DE cl X E (.Subscript a b pos) (vIxK gk f) := by
  obtain ⟨ta, pa, ra⟩ := ha
  obtain ⟨tb, pb, rb⟩ := hb
  refine ⟨_, pe_ix (ix_K hr.units) pa pb hs, fun F B ad σ H env Q hk hc o k => ?_⟩
  refine ra F B ad σ H env _ hk hc o (Tr.all_mono (fun kvs z a ob H1 k1 nd ha rd => ?_) (fun _ z => z) (Tr.all_bind k))
  refine rb F B ad σ H1 env _ hk hc (o.kx k1) (Tr.all_mono (fun d z y H2 k2 ry => ?_) (fun _ z => z) (Tr.all_bind z))
  cases hq : kindK (kvs.map (·.1)) d with
  | false => rw [hq] at z; exact z.elim
  | true =>
    rw [hq] at z
    cases hl : lkD kvs d with
    | none => rw [hl] at z; exact z.elim
    | some v =>
      rw [hl] at z
      exact ⟨a, ob, kvs, d, v, mask H2 (Mm F ad), rfl, mask_le _ _, k2.keep _ _ ha nd, by rw [← hk]; exact rd.mono k2.msame, hq, by rw [← hk]; exact ry, hl, fun w rw' => z w H2 (k1.trans k2) (by rw [hk]; exact rw')⟩
/-! ### x[k] = v of an own dict -/
def sPutK (i : Nat) (gi f : Envt → Tr D) : Stm := fun env => (f env).bind fun d => match env[i]? with
  | some (.od kvs) => (gi env).bind fun k => if kindK (kvs.map (·.1)) k && decide (kvs.length < lim) then .ret (.nx (env.set i (.od (putD kvs k d)))) else .bad
  | _ => .bad
def rSetK (K : PySem.W.Frag) : V → V → V → Hp → (Hp → Prop) → Prop := fun x y v H Q => ∃ a o kvs k d HM, x = .ref a ∧ Same HM H ∧ H a = some (DicO a o) ∧ RDk K HM o kvs ∧ kindK (kvs.map (·.1)) k = true ∧ Rep K HM y k ∧ Rep K HM v d ∧ kvs.length < lim ∧
  ∀ o', RDk K HM o' (putD kvs k d) → Q (upd H a (DicO a o'))
theorem set_K (hu : X.A.units + 64 < cLine) : PSet X (rSetK X.K) := by
  intro pins s σ H o i v ov iv u Q I ro ri rv h
  obtain ⟨a, ob, kvs, k, d, HM, rfl, sm, e, r, hk, rk, rd, hl, q⟩ := h
  cases ro
  exact dk_set hu I sm e r hk rk ri rd rv hl fun s' o' I' r' => ⟨_, I', q o' r'⟩
theorem ds_putK (i : Nat) {k : Nat} {x : Str} {p p2 : Pos} (hr : Room k X.A) (he : DE cl X E e f) (hi : DE cl X E b g) (hN : X.N[i]? = some x := by rfl) (hv : Vis X.env.scope x := by first | exact Or.inl rfl | exact Or.inr (Or.inl rfl) | exact Or.inr (Or.inr rfl)) (hd : (x == ("__debug__" : Str)) = false := by decide)
    (hcd : (x == ("__classdict__" : Str)) = false := by decide) (ha : ∀ v, assign (.Subscript (.Name x p) b p2) X.env v = (do
      let ov ← holding [v] (eval (.Name x p) X.env)
      let iv ← holding [v, ov] (eval b X.env)
      standAt p2
      holding [v, ov, iv] (setItem ov iv v)
      release [v, ov, iv] []) := by intro _; rfl) (hs : swapsWithSole [.Subscript (.Name x p) b p2] e pos.line X.env = pure false := by rfl) (hw : swappedStores [.Subscript (.Name x p) b p2] e X.env = pure none := by rfl)
    (h1 : (assignEach [.Subscript (.Name x p) b p2] X.env).map (·.2) = [assign (.Subscript (.Name x p) b p2) X.env] := by rfl) : DS cl X E (.Assign [.Subscript (.Name x p) b p2] e pos) (sPutK i g f) := by
  obtain ⟨t, pe, r⟩ := he
  obtain ⟨ti, pi, ri⟩ := hi
  refine ⟨_, ps_asg pe (pg_sub (pe_var (i := i) hN hv hd hcd) pi (set_K hr.units) ha) hs hw h1, fun F B ad σ H env N hk hc o k => ?_⟩
  refine r F B ad σ H env _ hk hc o (Tr.all_mono (fun d z v H1 k1 rv => ?_) (fun _ z => z) (Tr.all_bind k))
  have o1 := o.kx k1
  split at z
  · rename_i kvs he
    obtain ⟨oa, sv, e1, e2, p, ob, rfl, rfl, hp, rp⟩ := o1.at_ he
    refine ⟨_, e2, ri F B ad σ H1 env _ hk hc o1 (Tr.all_mono (fun j z y H2 k2 ry => ?_) (fun _ z => z) (Tr.all_bind z))⟩
    have o2 := o1.kx k2
    have hp2 : H2 p = some (DicO p ob) := k2.keep _ _ hp (o1.notdl e1)
    cases hq : kindK (kvs.map (·.1)) j && decide (kvs.length < lim) with
    | false => rw [hq] at z; exact z.elim
    | true =>
      rw [hq] at z
      rw [Bool.and_eq_true] at hq
      refine ⟨p, ob, kvs, j, d, mask H2 (Mm F ad), rfl, mask_le _ _, hp2, by rw [← hk]; exact rp.mono k2.msame, hq.1, by rw [← hk]; exact ry, by rw [← hk]; exact rv.mono k2.msame, of_decide_eq_true hq.2, fun o' r' => ?_⟩
      have z : SPost F B N (.nx (env.set i (.od (putD kvs j d)))) := z
      exact z ad σ _ (o2.putOd he e1 (by rw [hk]; exact r'))
  · exact z.elim
end
end Mb

/-! dicts: methods, displays, loops -/
namespace Mb
open PySem L2
section
variable {cl : Nat → Addr} {X : Cx} {E : XK} {e a b c : Expr} {f g h : Envt → Tr D} {pos : Pos}
/-! ### methods -/
def tBK (r : V → List V → Hp → VK → Prop) (to : TE) (t : TA) : TE := fun σ H Q => to σ H fun x H1 => (∃ a o, x = .ref a ∧ H1 a = some (DicO a o) ∧ o.ExactDict) ∧ t σ H1 fun xs H2 => r x xs H2 Q
open PySem.Spec PyProof.Rows in
theorem pe_bmK {o : Expr} {es : List Expr} {to : TE} {t : TA} {name : Str} {apos cpos : Pos} {id : String} {r : V → List V → Hp → VK → Prop} (slot : Slot "dict" name id) (hty : typeOf (.builtin id) = pure (.type "method_descriptor")) (hm : MtR X id r) (ho : PE X o to) (ha : PA X (e :: es) t)
    (hbase : attributeBase o name X.env (eval o X.env) = eval o X.env := by rfl)
    (hfew : ((backTo cpos (starEach (e :: es) X.env)).all (fun x => !x.1) && (backToKw cpos (keywordEach [] X.env)).all (fun x => x.1.isSome)
      && decide ((e :: es).length + ([] : List Keyword).length + (if ([] : List Keyword).isEmpty then 0 else 1) < 30)) = true := by rfl)
    (hline : (apos.endLine == cpos.line) = true := by rfl) (hs : starEach (e :: es) X.env = (false, eval e X.env) :: starEach es X.env := by rfl) (hplain : (backTo cpos (starEach es X.env)).any (·.1) = false := by rfl) :
    PE X (.Call (.Attribute o name apos) (e :: es) [] cpos) (tBK r to t) := by
  refine ⟨fun pins s σ H Q I h => ?_⟩
  refine wpAny_Call_method_late hbase hfew hline rfl (thn (ho.run pins s σ H _ I h) fun v s1 ⟨x, H1, I1, r1, ⟨p, ob, ex, hp, hx⟩, q1⟩ => ?_)
  subst ex
  cases r1
  obtain ⟨⟨z1, z2⟩, _, _⟩ := I1.hok p _ hp
  refine ⟨"dict", id, PySem.F.plainAttrs_dict, slot, hty, ⟨ob, z1, hx.1⟩, fun b hb => ?_, ?_⟩
  · injection hb with hb; subst hb; exact ⟨ob, z1, hx.2.1⟩
  have hA := ha.run cpos pins s1 σ H1 _ I1 q1
  rw [hs] at hA ⊢
  refine Calls.callWith_builtin (by show (false || (backTo cpos (starEach es X.env)).any (·.1)) = false; rw [hplain] <;> rfl) (Calls.evalArgs_plain ?_)
  exact thn hA fun us s2 ⟨vs, H2, I2, r2, q2⟩ => hm pins s2 σ H2 (.ref p) vs (.ref p) us Q I2 (show RelV (.ref p) (.ref p) from rfl) r2 q2
def rGetK (K : PySem.W.Frag) : V → List V → Hp → VK → Prop := fun x xs H Q => ∃ a o kvs k y z d HM, x = .ref a ∧ xs = [y, z] ∧ Same HM H ∧ H a = some (DicO a o) ∧ RDk K HM o kvs ∧ kindK (kvs.map (·.1)) k = true ∧ Rep K HM y k ∧ Rep K HM z d ∧ ∀ w, Rep K HM w ((lkD kvs k).getD d) → Q w H
theorem mt_getK (hu : X.A.units + 64 < cLine) : MtR X "dict.get" (rGetK X.K) := by
  intro pins s σ H x xs v us Q I rx rs h
  obtain ⟨a, o, kvs, k, y, z, d, HM, rfl, rfl, sm, e, r, hk, rk, rz, q⟩ := h
  cases rx
  obtain ⟨u1, u2, rfl, r1, r2⟩ := Vals.two rs
  exact dk_dget hu I sm e r hk rk r1 rz r2 fun s' w u I' rw' rd => ⟨w, H, I', rw', q w rd⟩
def rGet1 (K : PySem.W.Frag) : V → List V → Hp → VK → Prop := fun x xs H Q => ∃ a o kvs k y HM, x = .ref a ∧ xs = [y] ∧ Same HM H ∧ H a = some (DicO a o) ∧ RDk K HM o kvs ∧ kindK (kvs.map (·.1)) k = true ∧ Rep K HM y k ∧ ∀ w, Rep K HM w ((lkD kvs k).getD .none) → Q w H
theorem mt_get1 (hu : X.A.units + 64 < cLine) : MtR X "dict.get" (rGet1 X.K) := by
  intro pins s σ H x xs v us Q I rx rs h
  obtain ⟨a, o, kvs, k, y, HM, rfl, rfl, sm, e, r, hk, rk, q⟩ := h
  cases rx
  obtain ⟨u1, rfl, r1⟩ := Vals.one rs
  exact dk_dget1 hu I sm e r hk rk r1 fun s' w u I' rw' rd => ⟨w, H, I', rw', q w rd⟩
/-- d.get(k, x) -/
def vGetK (g : Envt → Tr (List (D × D))) (f h : Envt → Tr D) : Envt → Tr D := fun env => (g env).bind fun kvs => (f env).bind fun k => (h env).bind fun d => if kindK (kvs.map (·.1)) k then .ret ((lkD kvs k).getD d) else .bad
def vGet1 (g : Envt → Tr (List (D × D))) (f : Envt → Tr D) : Envt → Tr D := fun env => (g env).bind fun kvs => (f env).bind fun k => if kindK (kvs.map (·.1)) k then .ret ((lkD kvs k).getD .none) else .bad
theorem de_getK {k : Nat} {o : Expr} {gk : Envt → Tr (List (D × D))} {apos : Pos} (hr : Room k X.A) (ho : DR cl X E o gk) (ha : DE cl X E a f) (hb : DE cl X E b h)
    (hbase : attributeBase o "get" X.env (eval o X.env) = eval o X.env := by rfl)
    (hfew : ((backTo pos (starEach [a, b] X.env)).all (fun x => !x.1) && (backToKw pos (keywordEach [] X.env)).all (fun x => x.1.isSome)
      && decide ([a, b].length + ([] : List Keyword).length + (if ([] : List Keyword).isEmpty then 0 else 1) < 30)) = true := by rfl)
    (hline : (apos.endLine == pos.line) = true := by rfl) (hs : starEach [a, b] X.env = (false, eval a X.env) :: starEach [b] X.env := by rfl) (hs2 : starEach [b] X.env = (false, eval b X.env) :: starEach [] X.env := by rfl) (hplain : (backTo pos (starEach [b] X.env)).any (·.1) = false := by rfl) :
    DE cl X E (.Call (.Attribute o "get" apos) [a, b] [] pos) (vGetK gk f h) := by
  obtain ⟨to, po, ro⟩ := ho
  obtain ⟨ta, pa, ra⟩ := ha
  obtain ⟨tb, pb, rb⟩ := hb
  refine ⟨_, pe_bmK PySem.F.slot_dict_get PySem.F.type_dict_get (mt_getK hr.units) po (pa_cons pa (pa_cons pb pa_nil hs2) hs) hbase hfew hline hs hplain, fun F B ad σ H env Q hk hc o k => ?_⟩
  refine ro F B ad σ H env _ hk hc o (Tr.all_mono (fun kvs z p ob H1 k1 nd hp rd => ?_) (fun _ z => z) (Tr.all_bind k))
  refine ⟨⟨p, ob, rfl, hp, rd.ex⟩, ?_⟩
  refine ra F B ad σ H1 env _ hk hc (o.kx k1) (Tr.all_mono (fun d z y H2 k2 ry => ?_) (fun _ z => z) (Tr.all_bind z))
  refine rb F B ad σ H2 env _ hk hc ((o.kx k1).kx k2) (Tr.all_mono (fun d' z y' H3 k3 ry' => ?_) (fun _ z => z) (Tr.all_bind z))
  cases hq : kindK (kvs.map (·.1)) d with
  | false => rw [hq] at z; exact z.elim
  | true =>
    rw [hq] at z
    exact ⟨p, ob, kvs, d, y, y', d', mask H3 (Mm F ad), rfl, rfl, mask_le _ _, k3.keep _ _ (k2.keep _ _ hp nd) nd, by rw [← hk]; exact (rd.mono k2.msame).mono k3.msame, hq, by rw [← hk]; exact ry.mono k3.msame, by rw [← hk]; exact ry', fun w rw' => z w H3 (k1.trans (k2.trans k3)) (by rw [hk]; exact rw')⟩
theorem de_get1 {k : Nat} {o : Expr} {gk : Envt → Tr (List (D × D))} {apos : Pos} (hr : Room k X.A) (ho : DR cl X E o gk) (ha : DE cl X E a f)
    (hbase : attributeBase o "get" X.env (eval o X.env) = eval o X.env := by rfl)
    (hfew : ((backTo pos (starEach [a] X.env)).all (fun x => !x.1) && (backToKw pos (keywordEach [] X.env)).all (fun x => x.1.isSome)
      && decide ([a].length + ([] : List Keyword).length + (if ([] : List Keyword).isEmpty then 0 else 1) < 30)) = true := by rfl)
    (hline : (apos.endLine == pos.line) = true := by rfl) (hs : starEach [a] X.env = (false, eval a X.env) :: starEach [] X.env := by rfl) (hplain : (backTo pos (starEach [] X.env)).any (·.1) = false := by rfl) :
    DE cl X E (.Call (.Attribute o "get" apos) [a] [] pos) (vGet1 gk f) := by
  obtain ⟨to, po, ro⟩ := ho
  obtain ⟨ta, pa, ra⟩ := ha
  refine ⟨_, pe_bmK PySem.F.slot_dict_get PySem.F.type_dict_get (mt_get1 hr.units) po (pa_cons pa pa_nil hs) hbase hfew hline hs hplain, fun F B ad σ H env Q hk hc o k => ?_⟩
  refine ro F B ad σ H env _ hk hc o (Tr.all_mono (fun kvs z p ob H1 k1 nd hp rd => ?_) (fun _ z => z) (Tr.all_bind k))
  refine ⟨⟨p, ob, rfl, hp, rd.ex⟩, ?_⟩
  refine ra F B ad σ H1 env _ hk hc (o.kx k1) (Tr.all_mono (fun d z y H2 k2 ry => ?_) (fun _ z => z) (Tr.all_bind z))
  cases hq : kindK (kvs.map (·.1)) d with
  | false => rw [hq] at z; exact z.elim
  | true =>
    rw [hq] at z
    exact ⟨p, ob, kvs, d, y, mask H2 (Mm F ad), rfl, rfl, mask_le _ _, k2.keep _ _ hp nd, by rw [← hk]; exact rd.mono k2.msame, hq, by rw [← hk]; exact ry, fun w rw' => z w H2 (k1.trans k2) (by rw [hk]; exact rw')⟩
/-! ### len -/
def vLenK (g : Envt → Tr (List (D × D))) : Envt → Tr D := fun env => (g env).bind fun kvs => .ret (.int (kvs.length : Nat))
def rLenK (K : PySem.W.Frag) : List V → Hp → VK → Prop := fun xs H Q => ∃ a o kvs HM, xs = [.ref a] ∧ Same HM H ∧ H a = some (DicO a o) ∧ RDk K HM o kvs ∧ Q (.int (kvs.length : Nat)) H
theorem call_lenK : CallR X (.builtin "len") (rLenK X.K) := by
  intro pins s σ H xs us Q I rs h
  obtain ⟨a, o, kvs, HM, rfl, sm, e, r, q⟩ := h
  obtain ⟨u, rfl, ru⟩ := Vals.one rs
  cases ru
  exact dk_len I sm e r fun t s' I' => ⟨.int _, H, I', ⟨t, rfl⟩, q⟩
theorem de_lenK {p : Pos} {gk : Envt → Tr (List (D × D))} (hm : X.mg "len" = none) (ha : DR cl X E a gk) (hg : Gl X "len" := by rfl) (he : starEach [a] X.env = (false, eval a X.env) :: starEach [] X.env := by rfl) (hpl : (backTo pos (starEach [] X.env)).any (·.1) = false := by rfl) : DE cl X E (.Call (.Name "len" p) [a] [] pos) (vLenK gk) := by
  obtain ⟨ta, pa, ra⟩ := ha
  refine ⟨_, pe_callB call_lenK hg hm PySem.boot_len (pa_cons pa pa_nil he) (by decide) (by decide) he hpl, fun F B ad σ H env Q hk hc o k => ?_⟩
  refine ra F B ad σ H env _ hk hc o (Tr.all_mono (fun kvs z p ob H1 k1 nd hp rd => ?_) (fun _ z => z) (Tr.all_bind k))
  exact ⟨p, ob, kvs, mask H1 (Mm F ad), rfl, mask_le _ _, hp, by rw [← hk]; exact rd, z _ H1 k1 (.int _)⟩
end
/-! ### for k in d -/
def Itdk (d : Addr) (o : Obj) (ks : List V) : It :=
  ⟨fun i H => H d = some (DicO d o) ∧ i < ks.length, fun i H x H' => H' = H ∧ ks[i]? = some x, fun i H => H d = some (DicO d o) ∧ ks.length ≤ i⟩
theorem turn_dk {P : Program} {w : World} {K : PySem.W.Frag} {tg : Expr} {d : Addr} {o : Obj} {es : Array DictEntry} {ep : Nat} {ks : List V} (it : Addr) (hod : o.data = .dict es ep) (hv : Vals ks (es.toList.map (·.key))) : Turn P w K tg (Itdk d o ks) [it] it (fun i h => h.IsKeyIter it d i ks.length ep) where
  mem := by simp
  obj := fun i h st b hb => by
    have e : b = it := by simpa using hb
    subst e
    obtain ⟨oi, e, c, dd⟩ := st
    exact ⟨oi, e, fun v z => by rw [dd] at z; cases z⟩
  keep := fun i h h' st k => st.at fun oi e => k it (by simp) oi e
  item := by
    intro X hP hw hK hc i pins s σ H E I hf st hg
    subst hP hw hK
    obtain ⟨hd, hi⟩ := hg
    obtain ⟨f0, f1, f2, f3, f4, f5⟩ := hf it (by simp)
    obtain ⟨⟨z1, z2⟩, _, _⟩ := I.hok d _ hd
    have hsz : es.size = ks.length := by
      have := hv.length
      simpa using this.symm
    obtain ⟨x, hx⟩ : ∃ x, ks[i]? = some x := ⟨ks[i], List.getElem?_eq_getElem hi⟩
    obtain ⟨u, hu, ru⟩ := hv.get hx
    rw [List.getElem?_map] at hu
    cases he : es.toList[i]? with
    | none => rw [he] at hu; cases hu
    | some en =>
      rw [he] at hu; cases hu
      rw [Array.getElem?_toList] at he
      refine next_key_item st z1 hod hsz he fun h' st' sb => ?_
      have I1 : Inv X pins σ H { s with heap := h' } := I.turned (t' := s.toks) (fun b ob hb e => (sb.2 b hb).trans e) f0 f1 f3 f4 f5
      obtain ⟨oi, e, c, dd⟩ := id st'
      exact ⟨en.key, rfl, go_of (s := { s with heap := h' }) e c dd (by decide) ⟨x, H, I1, ru, ⟨rfl, hx⟩, st', fun b hb => (hf b hb).1⟩⟩
  done := by
    intro X hP hw hK hc i pins s σ H E I hf st hg
    subst hP hw hK
    obtain ⟨hd, hi⟩ := hg
    obtain ⟨f0, f1, f2, f3, f4, f5⟩ := hf it (by simp)
    obtain ⟨⟨z1, z2⟩, _, _⟩ := I.hok d _ hd
    have hsz : es.size = ks.length := by
      have := hv.length
      simpa using this.symm
    exact next_key_end (I.ok.hd hc) st z1 hod hsz hi fun h' eb => ⟨rfl, I.turned (t' := s.toks) (fun b ob hb e => eb b ob hb e) f0 f1 f3 f4 f5⟩
  self := fun A i s Q E st h => by
    refine wpAny_pyIter_slot st.typeIs PySem.F.slot_dict_keyiterator_iter (wpAny_call_entry PySem.F.slot_dict_keyiterator_iter st.typeIs PySem.F.entry_dict_keyiterator_iter ?_ (PySem.F.args_dict_keyiterator_iter_1 _))
    show wpAny _ _ (ret (.ref it)) _ _ s
    exact wpAny_pure ⟨_, rfl, "dict_keyiterator", _, st.typeIs, PySem.F.slot_dict_keyiterator_next.lookup, h⟩
def iDk (td : TE) : TI := fun σ H R => td σ H fun x H1 => ∃ d o es ep ks, x = .ref d ∧ H1 d = some (DicO d o) ∧ o.ExactDict ∧ o.data = .dict es ep ∧ Vals ks (es.toList.map (·.key)) ∧ R (Itdk d o ks) H1
theorem pi_dk {X : Cx} {tg e : Expr} {td : TE} (he : PE X e td) : PI X tg e (iDk td) := by
  refine ⟨fun pins s σ H R I h => ?_⟩
  refine thn (he.run pins s σ H _ I h) fun u s1 ⟨x, H1, I1, rx, d, o, es, ep, ks, ex, hd, hx, hdt, hv, q⟩ => ?_
  subst ex
  obtain rfl : u = Value.ref d := rx
  obtain ⟨⟨z1, z2⟩, _, _⟩ := I1.hok d _ hd
  refine iter_keys z2 z1 hx hdt (pi_one (tk := s1.toks) I1 _ (turn_dk _ hdt hv) ⟨_, Heap.get?_push_size _ rfl, rfl, ?_⟩ q)
  have : ks.length = es.size := by simpa using hv.length
  rw [this]
  rfl
theorem yl_dk {K : PySem.W.Frag} {dt : Dl} {HB : Hp} {d : Addr} {o : Obj} {ks : List V} {ds : List D} (h : HB d = some (DicO d o)) (r : RepAll K HB ks ds) : Yields K dt (Itdk d o ks) HB ds := fun i H M s hd hp => by
  have hq : H d = some (DicO d o) := (mask_some (s _ _ h)).2
  refine ⟨fun x e => ?_, fun hl => ⟨hq, by rw [r.length]; exact hl⟩⟩
  obtain ⟨v, e1, e2⟩ := r.getD e
  refine ⟨⟨hq, (List.getElem?_eq_some_iff.mp e1).1⟩, fun y H' ⟨q1, q2⟩ => ?_⟩
  subst q1
  rw [e1] at q2; cases q2
  exact ⟨Kx.refl hd, e2.mono s⟩
/-- the keys of a dict that is not changed -/
def wKeys (f : Envt → Tr D) : Envt → Tr (List D) := fun env => (f env).bind fun d => match d with
  | .dict kvs => .ret (kvs.map (·.1))
  | _ => .bad
theorem di_keys {cl : Nat → Addr} {X : Cx} {E : XK} {a tg : Expr} {f : Envt → Tr D} (ha : DE cl X E a f) : DI cl X E tg a (wKeys f) := by
  obtain ⟨ta, pa, ra⟩ := ha
  refine ⟨_, pi_dk pa, fun F B ad σ H env R hk hc o k => ?_⟩
  refine ra F B ad σ H env _ hk hc o (Tr.all_mono (fun d z x H1 k1 rx => ?_) (fun _ z => z) (Tr.all_bind k))
  cases d with
  | dict kvs =>
    obtain ⟨p, ob, rfl, h1, h2⟩ := rx.rdk
    obtain ⟨es, ep, hd, hp⟩ := h2.en
    obtain ⟨ks, vs, q1, q2, q3, q4, q5⟩ := paired_split hp
    exact ⟨p, ob, es, ep, ks, rfl, (mask_some h1).2, h2.ex, hd, q1, z _ H1 k1 (yl_dk h1 q4)⟩
  | _ => exact z.elim
end Mb

/-! dicts: new ones -/
namespace Mb
open PySem L2
def dE : Obj := { cls := .type "dict", data := .dict #[] }
theorem rdk_nil {K : PySem.W.Frag} {H : Hp} : RDk K H dE [] := ⟨⟨rfl, rfl, rfl⟩, ⟨#[], 0, rfl, .nil⟩, List.nodup_nil, rfl, Nat.zero_le _⟩
def PostK (F : Fx) (ad : Ads) (H : Hp) (Q : VK) (kvs : List (D × D)) : Prop := ∀ p ob H', Kx F.dt H H' → H p = none → H' p = some (DicO p ob) → RDk F.K (mask H' fun a => Mm F ad a ∨ a = p) ob kvs → Q (.ref p) H'
/-- an expression: a new dict -/
def DK (cl : Nat → Addr) (X : Cx) (E : XK) (e : Expr) (f : Envt → Tr (List (D × D))) : Prop := ∃ t, PE X e t ∧ ∀ (F : Fx) (B : Hp) (ad : Ads) (σ : St) (H : Hp) (env : Envt) (Q : VK), F.K = X.K → F.cl = cl → Ok F B ad σ H env →
  (f env).all (PostK F ad H Q) (EOk F E) → t σ H Q
section
variable {X : Cx} {pins : List (Addr × Obj)} {σ : St} {H HM : Hp} {s : Shared} {A : Around} {E : Value → Shared → Prop} {a : Addr} {o : Obj} {kvs : List (D × D)} {kv vv : V} {uk uv : Value} {k v : D}
theorem dk_dset {Q : Unit → Shared → Prop} (hu : A.units + 64 < cLine) (I : Inv X pins σ H s) (sm : Same HM H) (e : H a = some (DicO a o)) (r : RDk X.K HM o kvs) (hk : kindK (kvs.map (·.1)) k = true) (rk : Rep X.K HM kv k) (ru : RelV kv uk) (rv : Rep X.K HM vv v) (rw' : RelV vv uv) (hl : kvs.length < lim)
    (h : ∀ s' o', Inv X pins σ (upd H a (DicO a o')) s' → RDk X.K HM o' (putD kvs k v) → Q () s') : wpAny (model X.prog X.w) A (dictSet a uk uv) Q E s := by
  have n2 := putD_ok (v := v) hk r.nd
  have n3 : (putD kvs k v).length ≤ lim := Nat.le_trans (putD_len _ _ _) hl
  have rm : (nestedKind X.prog X.w).room A := by
    show A.units + 8 < cLine
    omega
  rcases kindK_cases hk with ⟨h1, h2⟩ | ⟨h1, h2⟩
  · obtain ⟨b, r1, r2, r3⟩ := tkey_is I (rk.mono sm) ru h2
    subst r1 r2
    obtain ⟨hd, xs, d, p⟩ := dat_T I sm e r h1
    have hz : xs.length ≤ sizeLine := by rw [Paired.length p]; exact lim_room r.le
    refine wpAny_dictSet_heap (hsz := hz) rm r3 d fun h' dd' hs => ?_
    obtain ⟨q, es, ep, hq, q2, q3, q4, q5, q6⟩ := dd'
    refine h _ q (d_write I (by rw [e]; exact True.intro) hs ⟨q, hq⟩ (dicO_ok hq hd)) ⟨q2, ⟨es, ep, q3, ?_⟩, n2.1, n2.2, n3⟩
    rw [q4]
    exact paired_back X.w (xr_put h2 rk rw' rv p h1)
  · obtain ⟨i, t, r1, r2, r3⟩ := ikey_is rk ru h2
    subst r1 r3
    obtain ⟨hd, xs, d, p⟩ := dat_I I e r h1
    have hz : xs.length ≤ sizeLine := by rw [Paired.length p]; exact lim_room r.le
    refine wpAny_dictSet_pairs (knd := intKind X.prog X.w) (k := i) (hsz := hz) (isI i t) d fun h' dd' hs => ?_
    obtain ⟨q, es, ep, hq, q2, q3, q4, q5, q6⟩ := dd'
    refine h _ q (d_write I (by rw [e]; exact True.intro) hs ⟨q, hq⟩ (dicO_ok hq hd)) ⟨q2, ⟨es, ep, q3, ?_⟩, n2.1, n2.2, n3⟩
    exact pairedI_back q5 (fun e he => q4 e (Array.mem_toList_iff.mp he)) (xi_put rw' rv p)
end
section
variable {cl : Nat → Addr} {X : Cx} {E : XK} {e a b c : Expr} {f g h : Envt → Tr D} {pos : Pos}
def kNil : Envt → Tr (List (D × D)) := fun _ => .ret []
def tDNw : TE := fun σ H Q => ∀ p, H p = none → Q (.ref p) (upd H p (DicO p dE))
theorem big_ne {pins : List (Addr × Obj)} {σ : St} {H : Hp} {s : Shared} (I : Inv X pins σ H s) : (s.heap.objs.size == sysModules) = false := by
  have := I.big
  cases h : s.heap.objs.size == sysModules with
  | false => rfl
  | true =>
    have h' : s.heap.objs.size = sysModules := of_decide_eq_true h
    rw [h'] at this
    exact absurd this (Nat.lt_irrefl _)
theorem lay_dE {pins : List (Addr × Obj)} {σ : St} {H : Hp} {s : Shared} (I : Inv X pins σ H s) : Inv X pins σ (upd H s.heap.objs.size (DicO s.heap.objs.size dE)) { s with heap := s.heap.push dE } :=
  I.laid (a := s.heap.objs.size) (o := DicO s.heap.objs.size dE) (t' := s.toks) (fun _ _ q => Heap.get?_push_of_some _ q) (Nat.le_refl _) (dicO_ok (Heap.get?_push_size _ rfl) (big_ne I))
theorem pe_dnw : PE X (.Dict [] [] pos) tDNw := ⟨fun pins s σ H Q I h =>
  wpAny_Dict_empty ⟨.ref s.heap.objs.size, _, lay_dE I, rfl, h _ (I.hok.fresh (Nat.le_refl _))⟩⟩
theorem kx_new {dt : Dl} {H : Hp} {p : Addr} {o : HO} (hd : DrOk dt H) (h : H p = none) : Kx dt H (upd H p o) := ⟨fun b x e _ => same_new h b x e, hd.same (same_new h)⟩
theorem dk_nil : DK cl X E (.Dict [] [] pos) kNil := by
  refine ⟨_, pe_dnw, fun F B ad σ H env Q hk hc o k => fun p hp => ?_⟩
  exact k p dE _ (kx_new o.k0.dr hp) hp upd_same rdk_nil
/-- {k: v} -/
def kOne (f g : Envt → Tr D) : Envt → Tr (List (D × D)) := fun env => (f env).bind fun k => (g env).bind fun d => if kindK [] k then .ret [(k, d)] else .bad
def tD1 (K : PySem.W.Frag) (tk tv : TE) : TE := fun σ H Q => ∀ p, H p = none → tk σ (upd H p (DicO p dE)) fun x H1 => tv σ H1 fun y H2 => H2 p = some (DicO p dE) ∧ ∃ k d HM, Same HM H2 ∧ Rep K HM x k ∧ Rep K HM y d ∧ kindK [] k = true ∧ ∀ o', RDk K HM o' [(k, d)] → Q (.ref p) (upd H2 p (DicO p o'))
theorem pe_d1 {tk tv : TE} (hu : X.A.units + 64 < cLine) (ha : PE X a tk) (hb : PE X b tv) : PE X (.Dict [some a] [b] pos) (tD1 X.K tk tv) := by
  refine ⟨fun pins s σ H Q I q => ?_⟩
  have hn := I.hok.fresh (Nat.le_refl s.heap.objs.size)
  refine wpAny_Dict_any rfl rfl (by simp) (Nat.le_of_ble_eq_true rfl) (pairTrees_cons_walk ?_)
  refine thn (ha.run pins _ σ _ _ (lay_dE I) (q _ hn)) fun u1 s1 ⟨x, H1, I1, rx, q1⟩ => ?_
  refine thn (hb.run pins _ σ _ _ I1 q1) fun u2 s2 ⟨y, H2, I2, ry, e, k, d, HM, sm, rk, rd, hk, q2⟩ => ?_
  refine pairTrees_nil_walk ?_
  unfold storeAll
  rw [List.forIn_cons]
  refine wpAny_bind (wpAny_bind (dk_dset hu I2 sm e rdk_nil hk rk rx rd ry (by decide) fun s3 o' I3 r3 => wpAny_pure ?_))
  show wpAny _ _ (forIn ([] : List (Value × Value)) PUnit.unit _) _ _ _
  rw [List.forIn_nil]
  exact wpAny_pure ⟨.ref s.heap.objs.size, _, I3, rfl, q2 o' r3⟩
theorem kx_upd {dt : Dl} {H H2 : Hp} {p : Addr} {o : HO} (k : Kx dt H H2) (h : H p = none) (n : ¬ dl dt p) : Kx dt H (upd H2 p o) := by
  refine ⟨fun b x e m => ?_, fun a n' e => ?_⟩
  · rw [upd_ne (ne_of_none e h)]; exact k.keep b x e m
  · obtain ⟨h', c, ns, h1, h2, h3, h4⟩ := k.dr a n' e
    have na : a ≠ p := fun z => n (z ▸ ⟨a, n', e, .inl rfl⟩)
    have nn : n' ≠ p := fun z => n (z ▸ ⟨a, n', e, .inr rfl⟩)
    exact ⟨h', c, ns, by rw [upd_ne na]; exact h1, h2, by rw [upd_ne nn]; exact h3, h4⟩
theorem ndl_new {F : Fx} {B : Hp} {ad : Ads} {σ : St} {H : Hp} {env : Envt} {p : Addr} (o : Ok F B ad σ H env) (h : H p = none) : ¬ dl F.dt p := fun q => by
  obtain ⟨y, e⟩ := o.k0.dr.some q
  rw [h] at e; cases e
theorem dk_one {k : Nat} (hr : Room k X.A) (ha : DE cl X E a f) (hb : DE cl X E b g) : DK cl X E (.Dict [some a] [b] pos) (kOne f g) := by
  obtain ⟨ta, pa, ra⟩ := ha
  obtain ⟨tb, pb, rb⟩ := hb
  refine ⟨_, pe_d1 hr.units pa pb, fun F B ad σ H env Q hk hc o k => fun p hp => ?_⟩
  have h0 := o.H0none hp
  have k0 : Kx F.dt H (upd H p (DicO p dE)) := kx_new o.k0.dr hp
  have nd := ndl_new o hp
  have o1 := o.plus k0 hp upd_same h0
  refine ra (F.plus p (DicO p dE) h0) B ad σ _ env _ hk hc o1 (Tr.all_mono (fun d z x H1 k1 rx => ?_) (fun _ z => z.plus) (Tr.all_bind k))
  refine rb (F.plus p (DicO p dE) h0) B ad σ _ env _ hk hc (o1.kx k1) (Tr.all_mono (fun d' z y H2 k2 ry => ?_) (fun _ z => z.plus) (Tr.all_bind z))
  rw [Mm_plus] at ry
  have rx2 := rx.mono (Kx.msame (F := F.plus p (DicO p dE) h0) (ad := ad) k2)
  rw [Mm_plus] at rx2
  cases hq : kindK [] d with
  | false => rw [hq] at z; exact z.elim
  | true =>
    rw [hq] at z
    refine ⟨k2.keep _ _ (k1.keep _ _ upd_same nd) nd, d, d', mask H2 fun a => Mm F ad a ∨ a = p, mask_le _ _, by rw [← hk]; exact rx2, by rw [← hk]; exact ry, hq, fun o' r' => ?_⟩
    refine z p o' _ (kx_upd (k0.trans (k1.trans k2)) hp nd) hp upd_same ?_
    rw [hk]
    exact r'.mono (mask_same fun a y n e => ⟨n, by rw [upd_ne (fun q => n (.inr q))]; exact e⟩)
theorem DK.de {f : Envt → Tr (List (D × D))} (q : DK cl X E e f) : DE cl X E e (fun env => (f env).bind fun kvs => .ret (.dict kvs)) := by
  obtain ⟨t, p, r⟩ := q
  refine ⟨t, p, fun F B ad σ H env Q hk hc o k => r F B ad σ H env Q hk hc o (Tr.all_mono (fun kvs z p ob H' kx hn hp rp => z _ H' kx ?_) (fun _ z => z) (Tr.all_bind k))⟩
  exact (rp.mono (mask_same fun a x n e => ⟨fun m => n (.inl m), e⟩)).rep (by rw [mask_out (o.notM hn)]; exact hp)
def vD (f : Envt → Tr (List (D × D))) : Envt → Tr D := fun env => (f env).bind fun kvs => .ret (.dict kvs)
theorem DK.dl {f : Envt → Tr (List (D × D))} (q : DK cl X E e f) : DE cl X E e (vD f) := q.de
def sOwnK (i : Nat) (f : Envt → Tr (List (D × D))) : Stm := fun env => (f env).bind fun kvs => .ret (.nx (env.set i (.od kvs)))
theorem ds_ownK (i : Nat) {x : Str} {p2 : Pos} {f : Envt → Tr (List (D × D))} (hN : X.N.Nodup) (he : DK cl X E e f) (hi : X.N[i]? = some x := by rfl) (hx : Loc X.env.scope x := by first | exact Or.inl rfl | exact Or.inr rfl) (hs : swapsWith e (some (.Name x p2)) pos.line X.env = pure false := by rfl)
    (hf : X.fn x = true ∨ X.env.scope.names.lookup x = some .local := by first | exact .inl rfl | exact .inr rfl | assumption) : DS cl X E (.Assign [.Name x p2] e pos) (sOwnK i f) := by
  obtain ⟨t, p, r⟩ := he
  refine ⟨_, ps_set (i := i) hN hi hx p hs hf, fun F B ad σ H env N hk hc o k => ?_⟩
  refine r F B ad σ H env _ hk hc o (Tr.all_mono (fun kvs z p ob H1 k1 hn hp rv => ?_) (fun _ z => z) (Tr.all_bind k))
  exact z _ _ H1 (o.setOd k1 hn hp rv)
def aOwnK (f : Envt → Tr (List (D × D))) (g : Envt → Tr (List Ent)) : Envt → Tr (List Ent) := fun env => (f env).bind fun kvs => (g env).bind fun es => .ret (.od kvs :: es)
theorem dps_od {es : List Expr} {f : Envt → Tr (List (D × D))} {g : Envt → Tr (List Ent)} (ha : DK cl X E a f) (hr : DPs cl X E es g) (hs : starEach (a :: es) X.env = (false, eval a X.env) :: starEach es X.env := by rfl) : DPs cl X E (a :: es) (aOwnK f g) := by
  obtain ⟨t, p, r⟩ := ha
  obtain ⟨u, q, s⟩ := hr
  refine ⟨_, pa_cons p q hs, fun F B ad σ H env Q hk hc o k => ?_⟩
  refine r F B ad σ H env _ hk hc o (Tr.all_mono (fun kvs z p ob H1 k1 hn hp rp => ?_) (fun _ z => z) (Tr.all_bind k))
  have h0 := o.H0none hn
  refine s (F.plus p (DicO p ob) h0) B ad σ H1 env _ hk hc (o.plus k1 hn hp h0) (Tr.all_mono (fun es z xs H2 ps => ?_) (fun _ z => z.plus) (Tr.all_bind z))
  rw [Mm_plus] at ps
  exact z _ H2 (.od k1 hn hp rp ps)
end
end Mb

/-! texts: str(), int(), join, split, a text times a number -/
namespace Mb
open PySem L2
section
variable {cl : Nat → Addr} {X : Cx} {E : XK} {e a b c : Expr} {f g h : Envt → Tr D} {pos : Pos}
/-! ### str, int -/
def fnStr : List D → Option D
  | [.int i] => if decide (i.natAbs.log2 < 1920) then some (.str (toString i)) else none
  | [.str x] => some (.str x)
  | _ => none
theorem sem_str {K : PySem.W.Frag} : SemC K (fun xs H Q => (∃ i, xs = [.int i] ∧ i.natAbs.log2 < 1920 ∧ Q (.str (toString i)) H) ∨ ∃ a, xs = [.str a] ∧ Q (.str a) H) fnStr := by
  intro dt M H vs ds z Q hd hm hp rs hz q
  match ds, hz with
  | [.int i], hz =>
    obtain ⟨h1, rfl⟩ := if_some hz
    cases rs with
    | cons r rr =>
      cases rr
      cases r
      exact .inl ⟨i, rfl, of_decide_eq_true h1, q _ H (Kx.refl hd) (.str _)⟩
  | [.str x], hz =>
    cases hz
    cases rs with
    | cons r rr =>
      cases rr
      cases r
      exact .inr ⟨x, rfl, q _ H (Kx.refl hd) (.str _)⟩
theorem de_str1 {p : Pos} {g : Envt → Tr (List Ent)} (hm : X.mg "str" = none) (ha : DA cl X E [a] g) (hg : Gl X "str" := by rfl) (he : starEach [a] X.env = (false, eval a X.env) :: starEach [] X.env := by rfl) (hpl : (backTo pos (starEach [] X.env)).any (·.1) = false := by rfl) : DE cl X E (.Call (.Name "str" p) [a] [] pos) (vB fnStr g) :=
  de_callTy (callr_or call_str_int SkE.call_str_str) sem_str hm (by decide +kernel) ha hg (by decide) (by decide) he hpl
def fnInt : List D → Option D
  | [.str x] => if decide (x.length ≤ 640) then (PySem.intText? x).map .int else none
  | _ => none
theorem sem_int {K : PySem.W.Frag} : SemC K (fun xs H Q => ∃ a n, xs = [.str a] ∧ PySem.intText? a = some n ∧ a.length ≤ 640 ∧ Q (.int n) H) fnInt := by
  intro dt M H vs ds z Q hd hm hp rs hz q
  match ds, hz with
  | [.str x], hz =>
    have hz : (if decide (x.length ≤ 640) then (PySem.intText? x).map PyData.int else none) = some z := hz
    cases h1 : decide (x.length ≤ 640) with
    | false => rw [h1] at hz; cases hz
    | true =>
      rw [h1] at hz
      obtain ⟨n, h2, rfl⟩ := Option.map_eq_some_iff.mp hz
      cases rs with
      | cons r rr =>
        cases rr
        cases r
        exact ⟨x, n, rfl, h2, of_decide_eq_true h1, q _ H (Kx.refl hd) (.int _)⟩
theorem de_int1 {p : Pos} {g : Envt → Tr (List Ent)} (hm : X.mg "int" = none) (ha : DA cl X E [a] g) (hg : Gl X "int" := by rfl) (he : starEach [a] X.env = (false, eval a X.env) :: starEach [] X.env := by rfl) (hpl : (backTo pos (starEach [] X.env)).any (·.1) = false := by rfl) : DE cl X E (.Call (.Name "int" p) [a] [] pos) (vB fnInt g) :=
  de_callTy call_int_str sem_int hm (by decide +kernel) ha hg (by decide) (by decide) he hpl
/-! ### join -/
def asStrs : List D → Option (List Str)
  | [] => some []
  | .str x :: ds => (asStrs ds).map (x :: ·)
  | _ => none
theorem asStrs_map : ∀ {ds : List D} {ys : List Str}, asStrs ds = some ys → ds = ys.map PyData.str
  | [], ys, h => by cases h; rfl
  | .str x :: ds, ys, h => by
    obtain ⟨zs, h1, rfl⟩ := Option.map_eq_some_iff.mp (show (asStrs ds).map (x :: ·) = some ys from h)
    rw [asStrs_map h1]; rfl
  | .none :: _, _, h => by cases h
  | .bool _ :: _, _, h => by cases h
  | .int _ :: _, _, h => by cases h
  | .list _ :: _, _, h => by cases h
  | .tuple _ :: _, _, h => by cases h
  | .dict _ :: _, _, h => by cases h
theorem asStrs_of : ∀ ys : List Str, asStrs (ys.map PyData.str) = some ys
  | [] => rfl
  | y :: ys => by
    show (asStrs (ys.map PyData.str)).map (y :: ·) = _
    rw [asStrs_of ys]; rfl
def dJoin (d e : D) : Option D := match d, e with
  | .str a, .list ds => (asStrs ds).bind fun ys => if decide ((ys.map (·.length)).sum + ys.length * a.length ≤ 16777216) then some (.str (Txt.join a ys)) else none
  | _, _ => none
theorem de_join {p : Pos} (ha : DE cl X E a f) (hb : DE cl X E b g) (hs : starEach [b] X.env = [(false, eval b X.env)] := by rfl) (hbase : attributeBase a "join" X.env (eval a X.env) = eval a X.env := by rfl) (hline : (p.endLine == pos.line) = true := by rfl) :
    DE cl X E (.Call (.Attribute a "join" p) [b] [] pos) (vMeth isStr dJoin f g) := by
  obtain ⟨ta, pa, ra⟩ := ha
  obtain ⟨tb, pb, rb⟩ := hb
  refine ⟨_, pe_join pa pb hs hbase hline, fun F B ad σ H env Q hk hc o k => ?_⟩
  refine ra F B ad σ H env _ hk hc o (Tr.all_mono (fun d z x H1 k1 rx => ?_) (fun _ z => z) (Tr.all_bind k))
  cases rx with
  | str s =>
    refine ⟨⟨s, rfl⟩, rb F B ad σ H1 env _ hk hc (o.kx k1) (Tr.all_mono (fun e z y H2 k2 ry => ?_) (fun _ z => z) (Tr.all_bind z))⟩
    cases ry with
    | @lst p xs ds h1 h2 =>
      have z : (ofO ((asStrs ds).bind fun ys => if decide ((ys.map (·.length)).sum + ys.length * s.length ≤ 16777216) then some (PyData.str (Txt.join s ys)) else none)).all (Post F ad H Q) (EOk F E) := z
      cases hy : asStrs ds with
      | none => rw [hy] at z; exact z.elim
      | some ys =>
        rw [hy] at z
        have z : (ofO (if decide ((ys.map (·.length)).sum + ys.length * s.length ≤ 16777216) then some (PyData.str (Txt.join s ys)) else none)).all (Post F ad H Q) (EOk F E) := z
        cases hl : decide ((ys.map (·.length)).sum + ys.length * s.length ≤ 16777216) with
        | false => rw [hl] at z; exact z.elim
        | true =>
          rw [hl] at z
          have z : Post F ad H Q (.str (Txt.join s ys)) := z
          have fin := z _ H2 (k1.trans k2) (.str _)
          have ex := asStrs_map hy
          subst ex
          have e := h2.strs
          subst e
          exact ⟨s, p, ys, rfl, rfl, .inl (SqL.of (mask_some h1).2), of_decide_eq_true hl, fin⟩
    | _ => exact z.elim
  | _ => exact z.elim
/-! ### split -/
def nSplit (f g : Envt → Tr D) : Envt → Tr (List D) := fun env => (f env).bind fun x => match x with
  | .str s => (g env).bind fun y => match y with
    | .str t => if !(t.length == 0) && small s.length then .ret ((Txt.split s t).map .str) else .bad
    | _ => .bad
  | _ => .bad
theorem repStrs {K : PySem.W.Frag} {H : Hp} : ∀ ys : List Str, RepAll K H (ys.map V.str) (ys.map PyData.str)
  | [] => .nil
  | y :: ys => .cons (.str y) (repStrs ys)
theorem dn_split {p : Pos} (ha : DE cl X E a f) (hb : DE cl X E b g) (hs : starEach [b] X.env = [(false, eval b X.env)] := by rfl) (hbase : attributeBase a "split" X.env (eval a X.env) = eval a X.env := by rfl) (hline : (p.endLine == pos.line) = true := by rfl) :
    DN cl X E (.Call (.Attribute a "split" p) [b] [] pos) (nSplit f g) := by
  obtain ⟨ta, pa, ra⟩ := ha
  obtain ⟨tb, pb, rb⟩ := hb
  refine ⟨_, pe_split pa pb hs hbase hline, fun F B ad σ H env Q hk hc o k => ?_⟩
  refine ra F B ad σ H env _ hk hc o (Tr.all_mono (fun d z x H1 k1 rx => ?_) (fun _ z => z) (Tr.all_bind k))
  cases rx with
  | str s =>
    refine ⟨⟨s, rfl⟩, rb F B ad σ H1 env _ hk hc (o.kx k1) (Tr.all_mono (fun e z y H2 k2 ry => ?_) (fun _ z => z) (Tr.all_bind z))⟩
    cases ry with
    | str t =>
      have z : (if !(t.length == 0) && small s.length then Tr.ret ((Txt.split s t).map PyData.str) else .bad).all (PostN F ad H Q) (EOk F E) := z
      cases hl : !(t.length == 0) && small s.length with
      | false => rw [hl] at z; exact z.elim
      | true =>
        rw [hl] at z
        rw [Bool.and_eq_true] at hl
        have h2 : s.length ≤ 100000 := of_decide_eq_true hl.2
        have h3 : 100002 ≤ sizeLine := by decide
        refine ⟨s, t, rfl, rfl, by simpa using hl.1, by omega, fun l hn => ?_⟩
        have k3 : Kx F.dt H2 (upd H2 l (.lst ((Txt.split s t).map V.str))) := Kx.of_same k2.dr (same_new hn)
        exact z l _ _ ((k1.trans k2).trans k3) ((k1.trans k2).free o.k0.dr hn) upd_same (repStrs _)
    | _ => exact z.elim
  | _ => exact z.elim
/-! ### a text times a number -/
def rMulS : R2 := fun x y H Q => ∃ (z : Str) (n : Int), x = .str z ∧ y = .int n ∧ 2 ≤ n ∧ n ≤ 100000 ∧ z.length = 1 ∧ Q (.str ⟨(List.replicate n.toNat z.cps).foldl (· ++ ·) #[]⟩) H
theorem mulS_len (z : Str) (h1 : z.length = 1) : ∀ (n : Nat) (a : Array Nat), ((List.replicate n z.cps).foldl (· ++ ·) a).size = a.size + n
  | 0, a => rfl
  | n + 1, a => by
    rw [List.replicate_succ, List.foldl_cons, mulS_len z h1 n, Array.size_append]
    have : z.cps.size = 1 := h1
    omega
theorem op_mulS : OpR X (binaryOp .Mult) rMulS := by
  intro pins s σ H x y v u Q I rx ry h
  obtain ⟨z, n, rfl, rfl, h2, hm, h1, q⟩ := h
  obtain ⟨t, rfl⟩ := rx
  obtain ⟨t', rfl⟩ := ry
  have e1 : ¬ n < 1 := by omega
  have e2 : (n == 1 || z.length == 0) = false := by
    rw [h1]
    simp
    omega
  refine PySem.P.mul_str ?_ (fun _ _ => ?_) (fun _ _ => ?_) ?_
  · rw [decide_eq_false (by omega), decide_eq_false (by omega)]; rfl
  · rw [h1]
    have : (1 : Int) ≤ (2 ^ 63 - 1) / n := (Int.le_ediv_iff_mul_le (by omega)).mpr (by omega)
    omega
  · rw [h1]
    unfold Builtin.Str.tooLong
    have : (100000 : Nat) ≤ sizeLine := by decide
    simp
    omega
  · rw [if_neg e1, e2]
    refine ⟨?_, .str _, H, I.tok _, ⟨_, rfl⟩, q⟩
    show ((List.replicate n.toNat z.cps).foldl (· ++ ·) #[]).size ≤ sizeLine
    rw [mulS_len z h1]
    have : (100000 : Nat) ≤ sizeLine := by decide
    show 0 + n.toNat ≤ sizeLine
    omega
def dMulS : D → D → Option D
  | .str z, .int n => if decide (2 ≤ n) && decide (n ≤ 100000) && decide (z.length = 1) then some (.str ⟨(List.replicate n.toNat z.cps).foldl (· ++ ·) #[]⟩) else none
  | _, _ => none
theorem sem_mulS {K : PySem.W.Frag} : Sem2 K rMulS dMulS := by
  intro dt M H x y d e z Q hd hm hp rx ry hz q
  match d, e, hz with
  | .str s, .int n, hz =>
    obtain ⟨h1, rfl⟩ := if_some hz
    rw [Bool.and_eq_true, Bool.and_eq_true] at h1
    cases rx
    cases ry
    exact ⟨s, n, rfl, rfl, of_decide_eq_true h1.1.1, of_decide_eq_true h1.1.2, of_decide_eq_true h1.2, q _ H (Kx.refl hd) (.str _)⟩
theorem de_mulS (ha : DE cl X E a f) (hb : DE cl X E b g) : DE cl X E (.BinOp a .Mult b pos) (v2 dMulS f g) := de_bin op_mulS sem_mulS ha hb
end
end Mb

namespace Mb
open PySem L2
inductive Ld | one | two | cap deriving DecidableEq
inductive Dc | same | longer deriving DecidableEq
inductive Sv | games | twos | winner | only deriving DecidableEq
def Ld.s : Ld → Str | .one => "one" | .two => "two" | .cap => "cap"
def Dc.s : Dc → Str | .same => "same" | .longer => "longer"
def Sv.s : Sv → Str | .games => "games" | .twos => "twos" | .winner => "winner" | .only => "only"
structure Ru where
  p : Int
  l : Ld
  g : Int
  d : Dc
  s : Sv
structure Sta where
  sv : Int
  p0 : Int
  p1 : Int
  g0 : Int
  g1 : Int
  tn : Int
deriving DecidableEq
def Ru.e (r : Ru) : D := .tuple [.int r.p, .str r.l.s, .int r.g, .str r.d.s, .str r.s.s]
def Sta.e (s : Sta) : D := .tuple [.int s.sv, .int s.p0, .int s.p1, .int s.g0, .int s.g1, .int s.tn]
theorem r0 (r : Ru) : dIx r.e (.int 0) = some (.int r.p) := rfl
theorem r1 (r : Ru) : dIx r.e (.int 1) = some (.str r.l.s) := rfl
theorem r2 (r : Ru) : dIx r.e (.int 2) = some (.int r.g) := rfl
theorem r3 (r : Ru) : dIx r.e (.int 3) = some (.str r.d.s) := rfl
theorem r4 (r : Ru) : dIx r.e (.int 4) = some (.str r.s.s) := rfl
theorem s0 (s : Sta) : dIx s.e (.int 0) = some (.int s.sv) := rfl
theorem s3 (s : Sta) : dIx s.e (.int 3) = some (.int s.g0) := rfl
theorem s5 (s : Sta) : dIx s.e (.int 5) = some (.int s.tn) := rfl
theorem s13 (s : Sta) : dSl s.e (some 1) (some 3) = some (.tuple [.int s.p0, .int s.p1]) := rfl
theorem s35 (s : Sta) : dSl s.e (some 3) (some 5) = some (.tuple [.int s.g0, .int s.g1]) := rfl
theorem eq_ii (i j : Int) : dEq (.int i) (.int j) = some (.bool (i == j)) := rfl
theorem ne_ii (i j : Int) : dNe (.int i) (.int j) = some (.bool (!(i == j))) := rfl
theorem sub_ii (i j : Int) : dSub (.int i) (.int j) = some (.int (i - j)) := rfl
theorem add_ii (i j : Int) : dAdd (.int i) (.int j) = some (.int (i + j)) := rfl
theorem ge_ii (i j : Int) : dGe (.int i) (.int j) = some (.bool (decide (j ≤ i))) := rfl
theorem gt_ii (i j : Int) : dGt (.int i) (.int j) = some (.bool (decide (j < i))) := rfl
theorem lt_ii (i j : Int) : dLt (.int i) (.int j) = some (.bool (decide (i < j))) := rfl
theorem in2 (i a b : Int) : dIn (.int i) (.tuple [.int a, .int b]) = some (.bool (a == i || b == i)) := by
  show some (PyData.bool (a == i || (b == i || false))) = _
  rw [Bool.or_false]
theorem ld_one (l : Ld) : dEq (.str l.s) (.str "one") = some (.bool (l = .one)) := by cases l <;> rfl
theorem ld_two (l : Ld) : dEq (.str l.s) (.str "two") = some (.bool (l = .two)) := by cases l <;> rfl
theorem ld_cap (l : Ld) : dEq (.str l.s) (.str "cap") = some (.bool (l = .cap)) := by cases l <;> rfl
theorem dc_longer (l : Dc) : dEq (.str l.s) (.str "longer") = some (.bool (l = .longer)) := by cases l <;> rfl
theorem sv_only (l : Sv) : dEq (.str l.s) (.str "only") = some (.bool (l = .only)) := by cases l <;> rfl
theorem sv_onlyN (l : Sv) : dNe (.str l.s) (.str "only") = some (.bool (!(l = .only))) := by cases l <;> rfl
theorem sv_games (l : Sv) : dEq (.str l.s) (.str "games") = some (.bool (l = .games)) := by cases l <;> rfl
theorem sv_in (l : Sv) : dIn (.str l.s) (.tuple [.str "winner", .str "only"]) = some (.bool (l = .winner || l = .only)) := by cases l <;> rfl

/-! the mirror -/
def endedM (r : Ru) (s : Sta) : Bool := s.g0 == r.g || s.g1 == r.g
def wantedM (r : Ru) (s : Sta) : Int := r.p + (if (r.d = .longer) && (s.g0 == r.g - 1 || s.g1 == r.g - 1) then 1 else 0)
def winsM (l : Ld) (many own other : Int) : Bool := match l with
  | .one => decide (many ≤ own)
  | .two => decide (many ≤ own) && decide (2 ≤ own - other)
  | .cap => decide (many ≤ own) && decide (2 ≤ own - other) || decide (many < own)
def makerM (r : Ru) (s : Sta) (b : Int) : Bool := !endedM r s && !(r.s = .only && !(b == s.sv))
def foldM (many a b : Int) : Int × Int := if min a b < many - 1 then (a, b) else (many - 1 + (if b < a then 1 else 0), many - 1 + (if a < b then 1 else 0))
def servM (r : Ru) (s : Sta) (b g0 g1 : Int) (over : Bool) : Int × Int := if (r.s = .winner || r.s = .only) then (b, 0) else if (r.s = .games || over) then ((g0 + g1) % 2, 0) else if s.tn == 0 then (s.sv, 1) else (1 - s.sv, 0)
theorem min_ii (a b : Int) : fnMin2 [.int a, .int b] = some (.int (min a b)) := by
  show some (PyData.int (if b < a then b else a)) = _
  rw [Int.min_def]
  split <;> split <;> first | rfl | (congr 2; omega)
theorem sum2 (a b : Int) : fnSum [.list [.int a, .int b]] = some (.int (a + b)) := by
  show some (PyData.int ([a, b] : List Int).sum) = _
  simp
theorem sum2t (a b : Int) : fnSum [.tuple [.int a, .int b]] = some (.int (a + b)) := by
  show some (PyData.int ([a, b] : List Int).sum) = _
  simp
theorem mod2 (a : Int) : dMod (.int a) (.int 2) = some (.int (a % 2)) := rfl
def rb (b : Bool) : Int := if b then 1 else 0
theorem rb_t : rb true = 1 := rfl
theorem rb_f : rb false = 0 := rfl
def stepM (r : Ru) (s : Sta) (b : Bool) : Sta :=
  if endedM r s then s
  else if makerM r s (rb b) then
    let a0 := if b then s.p0 else s.p0 + 1
    let a1 := if b then s.p1 + 1 else s.p1
    if winsM r.l (wantedM r s) (if b then a1 else a0) (if b then a0 else a1) then
      let h0 := if b then s.g0 else s.g0 + 1
      let h1 := if b then s.g1 + 1 else s.g1
      let z := servM r s (rb b) h0 h1 true
      ⟨z.1, 0, 0, h0, h1, z.2⟩
    else
      let z := servM r s (rb b) s.g0 s.g1 false
      if decide (r.l = .two) then ⟨z.1, (foldM (wantedM r s) a0 a1).1, (foldM (wantedM r s) a0 a1).2, s.g0, s.g1, z.2⟩
      else ⟨z.1, a0, a1, s.g0, s.g1, z.2⟩
  else
    let z := servM r s (rb b) s.g0 s.g1 false
    ⟨z.1, s.p0, s.p1, s.g0, s.g1, z.2⟩
theorem ixl0 (a b : D) : dIx (.list [a, b]) (.int 0) = some a := rfl
theorem ixl1 (a b : D) : dIx (.list [a, b]) (.int 1) = some b := rfl
theorem isN_n : dIsNot .none .none = some (.bool false) := rfl
theorem isN_i (i : Int) : dIsNot (.int i) .none = some (.bool true) := rfl
theorem tup_l (ds : List D) : fnTuple [.list ds] = some (.tuple ds) := rfl
theorem tadd1 (a b c : D) : dAdd (.tuple [a]) (.tuple [b, c]) = some (.tuple [a, b, c]) := rfl
theorem tadd2 (a b c d e : D) : dAdd (.tuple [a, b, c]) (.tuple [d, e]) = some (.tuple [a, b, c, d, e]) := rfl
theorem tadd3 (a b c d e f : D) : dAdd (.tuple [a, b, c, d, e]) (.tuple [f]) = some (.tuple [a, b, c, d, e, f]) := rfl
theorem sm1 : small 1 = true := rfl
theorem sm2 : small 2 = true := rfl

theorem le_ii (i j : Int) : dLe (.int i) (.int j) = some (.bool (decide (i ≤ j))) := rfl
theorem isI_i (i : Int) : isInt (.int i) = true := rfl
theorem isB_i (i : Int) : isBool (.int i) = false := rfl
theorem isL_l (l : List D) : isList (.list l) = true := rfl
theorem isS_s (x : Str) : isStr (.str x) = true := rfl
theorem isT_r (r : Ru) : isTuple r.e = true := rfl
theorem len_l (l : List D) : fnLen [.list l] = some (.int (l.length : Nat)) := rfl
theorem len_r (r : Ru) : fnLen [r.e] = some (.int 5) := rfl
theorem ld_in (l : Ld) : dIn (.str l.s) (.tuple [.str "one", .str "two", .str "cap"]) = some (.bool true) := by cases l <;> rfl
theorem dc_in (l : Dc) : dIn (.str l.s) (.tuple [.str "same", .str "longer"]) = some (.bool true) := by cases l <;> rfl
theorem sv_inA (l : Sv) : dIn (.str l.s) (.tuple [.str "games", .str "twos", .str "winner", .str "only"]) = some (.bool true) := by cases l <;> rfl
def Ru.ok (r : Ru) : Prop := 2 ≤ r.p ∧ r.p ≤ 4 ∧ 1 ≤ r.g ∧ r.g ≤ 3
/-! ### rows and states -/
def Ro (bs : List Bool) : D := .list (bs.map fun b => .int (rb b))
def Sta.start : Sta := ⟨0, 0, 0, 0, 0, 0⟩
def runM (r : Ru) : Sta → List Bool → List Sta
  | _, [] => []
  | s, b :: bs => stepM r s b :: runM r (stepM r s b) bs
def stsM (r : Ru) (bs : List Bool) : List Sta := Sta.start :: runM r .start bs
def afterM (r : Ru) (s : Sta) (bs : List Bool) : Sta := bs.foldl (stepM r) s
theorem runM_length (r : Ru) : ∀ (bs : List Bool) (s : Sta), (runM r s bs).length = bs.length
  | [], _ => rfl
  | b :: bs, s => by simp [runM, runM_length r bs]
theorem runM_last (r : Ru) : ∀ (bs : List Bool) (s : Sta), (s :: runM r s bs).getLast (List.cons_ne_nil _ _) = afterM r s bs
  | [], _ => rfl
  | b :: bs, s => by
    have := runM_last r bs (stepM r s b)
    simp only [runM, afterM, List.foldl_cons] at this ⊢
    rw [List.getLast_cons (List.cons_ne_nil _ _)]
    exact this
theorem stsM_get (r : Ru) : ∀ (bs : List Bool) (s : Sta) (k : Nat), k ≤ bs.length → (s :: runM r s bs)[k]? = some (afterM r s (bs.take k))
  | _, s, 0, _ => rfl
  | [], _, k + 1, h => absurd h (by simp)
  | b :: bs, s, k + 1, h => by
    have := stsM_get r bs (stepM r s b) k (by simpa using h)
    simpa [runM, afterM] using this
def Rs (r : Ru) (bs : List Bool) : D := .list ((stsM r bs).map Sta.e)
/-! ### lists -/
theorem noExc_ret {α : Type} (a : α) : noExc (.ret a) = Tr.ret a := rfl
theorem lc_map {i : Nat} {f : Envt → Tr D} {env : Envt} (g : D → D) : ∀ {xs : List D}, (∀ x ∈ xs, f (env.set i (.fz x)) = .ret (g x)) → lcRun (tgName i) bYes f env xs = .ret (xs.map g)
  | [], _ => rfl
  | x :: xs, h => by
    have h1 := h x List.mem_cons_self
    have h2 := lc_map g (xs := xs) fun y hy => h y (List.mem_cons_of_mem _ hy)
    show (f (env.set i (.fz x))).bind (fun y => (lcRun (tgName i) bYes f env xs).bind fun ys => .ret (y :: ys)) = _
    rw [h1, h2]; rfl
/-- .. of encoded things -/
theorem lc_enc {α : Type} {i : Nat} {f : Envt → Tr D} {env : Envt} (en : α → D) (g : α → D) {xs : List α} (h : ∀ x ∈ xs, f (env.set i (.fz (en x))) = .ret (g x)) : lcRun (tgName i) bYes f env (xs.map en) = .ret (xs.map g) := by
  induction xs with
  | nil => rfl
  | cons x xs ih =>
    have h1 := h x List.mem_cons_self
    have h2 := ih fun y hy => h y (List.mem_cons_of_mem _ hy)
    show (f (env.set i (.fz (en x)))).bind (fun y => (lcRun (tgName i) bYes f env (xs.map en)).bind fun ys => .ret (y :: ys)) = _
    rw [h1, h2]; rfl
theorem asBools_map {α : Type} (p : α → Bool) : ∀ xs : List α, asBools (xs.map fun x => .bool (p x)) = some (xs.map p)
  | [] => rfl
  | x :: xs => by
    show (asBools (xs.map fun x => .bool (p x))).map (p x :: ·) = _
    rw [asBools_map p xs]; rfl
theorem small_of {n : Nat} (h : n ≤ 100000) : small n = true := decide_eq_true h
theorem atI_lastD (xs : List D) (d : D) : dIx (.list (xs ++ [d])) (.int (-1)) = some d := atI_last xs d
theorem dIx_nat {xs : List D} {k : Nat} {d : D} (h : xs[k]? = some d) : dIx (.list xs) (.int (k : Int)) = some d := atI_nat h
theorem okAt_st (n : Nat) (s : Sta) : okAt (n + 1) s.e = true := by
  unfold Sta.e
  rw [okAt]
  simp [okAt]
theorem cut_to {α : Type} (xs : List α) (m : Nat) : cutD xs none (some (m : Int)) = xs.take m := by
  unfold cutD
  rw [HT.sIx_none, HT.sIx_nat, List.drop_zero, Nat.sub_zero]
  by_cases h : m ≤ xs.length
  · rw [Nat.min_eq_left h]
  · rw [Nat.min_eq_right (by omega), List.take_length, List.take_of_length_le (by omega)]
theorem cut_from {α : Type} (xs : List α) (m : Nat) : cutD xs (some (m : Int)) none = xs.drop m := by
  unfold cutD
  rw [HT.sIx_none, HT.sIx_nat]
  by_cases h : m ≤ xs.length
  · rw [Nat.min_eq_left h, List.take_of_length_le (by rw [List.length_drop]; omega)]
  · rw [Nat.min_eq_right (by omega), List.drop_length, List.drop_of_length_le (by omega), List.take_nil]
theorem Ro_take (bs : List Bool) (m : Nat) : dSl (Ro bs) none (some (m : Int)) = some (Ro (bs.take m)) := by
  show some (PyData.list (cutD _ _ _)) = _
  rw [cut_to]
  unfold Ro
  rw [List.map_take]
theorem Ro_add (xs ys : List Bool) (h : xs.length + ys.length ≤ 1000) : dAdd (Ro xs) (Ro ys) = some (Ro (xs ++ ys)) := by
  show (if small ((xs.map _).length + (ys.map _).length) then some (PyData.list _) else none) = _
  rw [List.length_map, List.length_map, small_of (by omega)]
  unfold Ro
  rw [List.map_append]
  rfl
theorem Ro_len (bs : List Bool) : fnLen [Ro bs] = some (.int (bs.length : Nat)) := by show some (PyData.int _) = _; rw [List.length_map]
theorem bit_of {k : Int} (h0 : 0 ≤ k) (h1 : k < 2) : ∃ b : Bool, PyData.int k = .int (rb b) := by
  have : k = 0 ∨ k = 1 := by omega
  rcases this with rfl | rfl
  · exact ⟨false, rfl⟩
  · exact ⟨true, rfl⟩
theorem Ro_mul1 (b : Bool) : dMul (.list [.int (rb b)]) (.int 1) = some (Ro [b]) := rfl
theorem Ro_mul2 (b : Bool) : dMul (.list [.int (rb b)]) (.int 2) = some (Ro [b, b]) := rfl
theorem Ro_mul3 (b : Bool) : dMul (.list [.int (rb b)]) (.int 3) = some (Ro [b, b, b]) := rfl
end Mb

namespace Mb
open PySem L2
/-! ### the plain law of k23 -/
structure Mir (s t : Sta) : Prop where
  a : t.p0 = s.p1
  b : t.p1 = s.p0
  c : t.g0 = s.g1
  d : t.g1 = s.g0
theorem foldM_swap (m a b : Int) : foldM m b a = ((foldM m a b).2, (foldM m a b).1) := by
  unfold foldM
  rw [Int.min_comm b a]
  split <;> rfl
theorem ended_mir {r : Ru} {s t : Sta} (h : Mir s t) : endedM r t = endedM r s := by
  unfold endedM
  rw [h.c, h.d, Bool.or_comm]
theorem wanted_mir {r : Ru} {s t : Sta} (h : Mir s t) : wantedM r t = wantedM r s := by
  unfold wantedM
  rw [h.c, h.d, Bool.or_comm (s.g1 == r.g - 1)]
theorem maker_plain {r : Ru} (hn : r.s ≠ .only) (s : Sta) (b : Int) : makerM r s b = !endedM r s := by
  unfold makerM
  rw [decide_eq_false hn]
  simp
theorem step_mir {r : Ru} {s t : Sta} (h : Mir s t) (b : Bool) (hm : makerM r t (rb !b) = makerM r s (rb b)) : Mir (stepM r s b) (stepM r t (!b)) := by
  have e1 := ended_mir (r := r) h
  have e2 := wanted_mir (r := r) h
  obtain ⟨ha, hb, hc, hd⟩ := id h
  cases b with
  | false =>
    have hm' : makerM r t (rb true) = makerM r s (rb false) := hm
    simp only [stepM, e1, e2, hm', Bool.not_false, if_true, Bool.false_eq_true, if_false, ha, hb, hc, hd]
    split
    · exact h
    · split
      · split
        · exact ⟨rfl, rfl, rfl, rfl⟩
        · split
          · refine ⟨?_, ?_, rfl, rfl⟩
            · show (foldM (wantedM r s) s.p1 (s.p0 + 1)).1 = _
              rw [foldM_swap]
            · show (foldM (wantedM r s) s.p1 (s.p0 + 1)).2 = _
              rw [foldM_swap]
          · exact ⟨rfl, rfl, rfl, rfl⟩
      · exact ⟨rfl, rfl, rfl, rfl⟩
  | true =>
    have hm' : makerM r t (rb false) = makerM r s (rb true) := hm
    simp only [stepM, e1, e2, hm', Bool.not_true, if_true, Bool.false_eq_true, if_false, ha, hb, hc, hd]
    split
    · exact h
    · split
      · split
        · exact ⟨rfl, rfl, rfl, rfl⟩
        · split
          · refine ⟨?_, ?_, rfl, rfl⟩
            · show (foldM (wantedM r s) (s.p1 + 1) s.p0).1 = _
              rw [foldM_swap]
            · show (foldM (wantedM r s) (s.p1 + 1) s.p0).2 = _
              rw [foldM_swap]
          · exact ⟨rfl, rfl, rfl, rfl⟩
      · exact ⟨rfl, rfl, rfl, rfl⟩
theorem step_mirP {r : Ru} {s t : Sta} (hn : r.s ≠ .only) (h : Mir s t) (b : Bool) : Mir (stepM r s b) (stepM r t (!b)) := step_mir h b (by rw [maker_plain hn, maker_plain hn, ended_mir h])
theorem run_mirP {r : Ru} (hn : r.s ≠ .only) : ∀ (bs : List Bool) {s t : Sta}, Mir s t → Mir (afterM r s bs) (afterM r t (bs.map (!·)))
  | [], _, _, h => h
  | b :: bs, _, _, h => run_mirP hn bs (step_mirP hn h b)
/-! serve "only" -/
structure MirO (s t : Sta) : Prop where
  m : Mir s t
  v : t.sv = 1 - s.sv
  w : s.sv = 0 ∨ s.sv = 1
theorem step_sv_only {r : Ru} (ho : r.s = .only) (s : Sta) (b : Bool) : (stepM r s b).sv = if endedM r s then s.sv else rb b := by
  have hs : ∀ b' g0 g1 o, servM r s b' g0 g1 o = (b', 0) := fun _ _ _ _ => by simp [servM, ho]
  cases he : endedM r s <;> cases hm : makerM r s (rb b) <;> simp only [stepM, he, hm, hs, if_true, if_false, Bool.false_eq_true]
  (repeat' split) <;> rfl
theorem step_mirO {r : Ru} (ho : r.s = .only) {s t : Sta} (h : MirO s t) (b : Bool) : MirO (stepM r s b) (stepM r t (!b)) := by
  have hm : makerM r t (rb !b) = makerM r s (rb b) := by
    unfold makerM
    rw [ended_mir h.m, h.v]
    rcases h.w with w | w <;> rw [w] <;> cases b <;> rfl
  refine ⟨step_mir h.m b hm, ?_, ?_⟩
  · rw [step_sv_only ho, step_sv_only ho, ended_mir h.m, h.v]
    cases endedM r s <;> cases b <;> rfl
  · rw [step_sv_only ho]
    cases endedM r s
    · cases b
      · exact .inl rfl
      · exact .inr rfl
    · exact h.w
theorem run_mirO {r : Ru} (ho : r.s = .only) : ∀ (bs : List Bool) {s t : Sta}, MirO s t → MirO (afterM r s bs) (afterM r t (bs.map (!·)))
  | [], _, _, h => h
  | b :: bs, _, _, h => run_mirO ho bs (step_mirO ho h b)
/-! the invariant of games and points -/
structure Iv (r : Ru) (s : Sta) : Prop where
  p0 : 0 ≤ s.p0
  p1 : 0 ≤ s.p1
  g0 : 0 ≤ s.g0
  g1 : 0 ≤ s.g1
  a : s.g0 ≤ r.g
  b : s.g1 ≤ r.g
  c : s.g0 + s.g1 ≤ 2 * r.g - 1
theorem iv_start {r : Ru} (hr : r.ok) : Iv r .start := by
  obtain ⟨_, _, h, _⟩ := hr
  exact ⟨by decide, by decide, by decide, by decide, by show (0 : Int) ≤ r.g; omega, by show (0 : Int) ≤ r.g; omega, by show (0 : Int) + 0 ≤ 2 * r.g - 1; omega⟩
theorem wanted_ge {r : Ru} (s : Sta) : r.p ≤ wantedM r s := by
  unfold wantedM
  split <;> omega
theorem fold_le {m a b : Int} : 0 ≤ a → 0 ≤ b → 1 ≤ m → (foldM m a b).1 + (foldM m a b).2 ≤ a + b ∧ 0 ≤ (foldM m a b).1 ∧ 0 ≤ (foldM m a b).2 := by
  intro ha hb hm
  unfold foldM
  split
  · exact ⟨Int.le_refl _, ha, hb⟩
  · rename_i h
    have : m - 1 ≤ min a b := by omega
    have h1 : m - 1 ≤ a := Int.le_trans this (Int.min_le_left _ _)
    have h2 : m - 1 ≤ b := Int.le_trans this (Int.min_le_right _ _)
    dsimp only
    split <;> split <;> omega
theorem wins_ge {l : Ld} {m a b : Int} (h : winsM l m a b = true) : m ≤ a := by
  cases l with
  | one => exact of_decide_eq_true h
  | two =>
    simp only [winsM, Bool.and_eq_true, decide_eq_true_eq] at h
    exact h.1
  | cap =>
    simp only [winsM, Bool.and_eq_true, Bool.or_eq_true, decide_eq_true_eq] at h
    omega
/-- one step: games, points, what is made -/
theorem step_iv {r : Ru} (hr : r.ok) {s : Sta} (i : Iv r s) (b : Bool) : Iv r (stepM r s b) ∧
    ((stepM r s b).g0 = s.g0 ∧ (stepM r s b).g1 = s.g1 ∧ (stepM r s b).p0 + (stepM r s b).p1 ≤ s.p0 + s.p1 + (if makerM r s (rb b) then 1 else 0) ∨
     makerM r s (rb b) = true ∧ (stepM r s b).g0 = s.g0 + (if b then 0 else 1) ∧ (stepM r s b).g1 = s.g1 + (if b then 1 else 0) ∧ (stepM r s b).p0 + (stepM r s b).p1 + r.p ≤ s.p0 + s.p1 + 1) := by
  obtain ⟨i1, i2, i3, i4, i5, i6, i7⟩ := id i
  obtain ⟨r1, r2, r3, r4⟩ := id hr
  have hw := wanted_ge (r := r) s
  cases he : endedM r s with
  | true =>
    have e : stepM r s b = s := by simp [stepM, he]
    rw [e]
    exact ⟨i, .inl ⟨by first | rfl | trivial, by first | rfl | trivial, by split <;> omega⟩⟩
  | false =>
    have hg : s.g0 ≠ r.g ∧ s.g1 ≠ r.g := by
      unfold endedM at he
      rw [Bool.or_eq_false_iff] at he
      exact ⟨by simpa using he.1, by simpa using he.2⟩
    cases hm : makerM r s (rb b) with
    | false =>
      simp only [stepM, he, hm, Bool.false_eq_true, if_false]
      exact ⟨⟨i1, i2, i3, i4, i5, i6, i7⟩, .inl ⟨by first | rfl | trivial, by first | rfl | trivial, by first | (simp; done) | omega⟩⟩
    | true =>
      cases b with
      | true =>
        cases hwin : winsM r.l (wantedM r s) (s.p1 + 1) s.p0 with
        | true =>
          have := wins_ge hwin
          simp only [stepM, he, hm, hwin, Bool.false_eq_true, if_false, if_true]
          exact ⟨⟨by simp, by simp, i3, by show 0 ≤ s.g1 + 1; omega, i5, by show s.g1 + 1 ≤ r.g; omega, by show s.g0 + (s.g1 + 1) ≤ 2 * r.g - 1; omega⟩, .inr ⟨by trivial, by first | omega | trivial, by first | rfl | trivial, by first | omega | (simp; omega)⟩⟩
        | false =>
          simp only [stepM, he, hm, hwin, Bool.false_eq_true, if_false, if_true]
          split
          · obtain ⟨f1, f2, f3⟩ := fold_le (m := wantedM r s) (a := s.p0) (b := s.p1 + 1) i1 (by omega) (by omega)
            exact ⟨⟨f2, f3, i3, i4, i5, i6, i7⟩, .inl ⟨by first | rfl | trivial, by first | rfl | trivial, by show (foldM _ _ _).1 + (foldM _ _ _).2 ≤ _; omega⟩⟩
          · exact ⟨⟨i1, by show 0 ≤ s.p1 + 1; omega, i3, i4, i5, i6, i7⟩, .inl ⟨by first | rfl | trivial, by first | rfl | trivial, by show s.p0 + (s.p1 + 1) ≤ _; omega⟩⟩
      | false =>
        cases hwin : winsM r.l (wantedM r s) (s.p0 + 1) s.p1 with
        | true =>
          have := wins_ge hwin
          simp only [stepM, he, hm, hwin, Bool.false_eq_true, if_false, if_true]
          exact ⟨⟨by simp, by simp, by show 0 ≤ s.g0 + 1; omega, i4, by show s.g0 + 1 ≤ r.g; omega, i6, by show s.g0 + 1 + s.g1 ≤ 2 * r.g - 1; omega⟩, .inr ⟨by trivial, by first | rfl | trivial, by first | omega | trivial, by first | omega | (simp; omega)⟩⟩
        | false =>
          simp only [stepM, he, hm, hwin, Bool.false_eq_true, if_false, if_true]
          split
          · obtain ⟨f1, f2, f3⟩ := fold_le (m := wantedM r s) (a := s.p0 + 1) (b := s.p1) (by omega) i2 (by omega)
            exact ⟨⟨f2, f3, i3, i4, i5, i6, i7⟩, .inl ⟨by first | rfl | trivial, by first | rfl | trivial, by show (foldM _ _ _).1 + (foldM _ _ _).2 ≤ _; omega⟩⟩
          · exact ⟨⟨by show 0 ≤ s.p0 + 1; omega, i2, i3, i4, i5, i6, i7⟩, .inl ⟨by first | rfl | trivial, by first | rfl | trivial, by show s.p0 + 1 + s.p1 ≤ _; omega⟩⟩
end Mb

namespace Mb
open PySem L2
/-! ### counts -/
def mkD (r : Ru) (s : Sta) (b : Bool) : D := if makerM r s (rb b) then .int (rb b) else .none
def mksM (r : Ru) : Sta → List Bool → List D
  | _, [] => []
  | s, b :: bs => mkD r s b :: mksM r (stepM r s b) bs
def cK (r : Ru) (s : Sta) (bs : List Bool) (k : Int) : Int := (((mksM r s bs).countP fun z => PyData.eqv z (.int k) : Nat) : Int)
theorem cK_nil (r : Ru) (s : Sta) (k : Int) : cK r s [] k = 0 := rfl
theorem eqv_ii (i j : Int) : PyData.eqv (.int i) (.int j) = (i == j) := by simp only [PyData.eqv]
theorem eqv_ni (j : Int) : PyData.eqv .none (.int j) = false := by simp only [PyData.eqv]
theorem cK_cons (r : Ru) (s : Sta) (b : Bool) (bs : List Bool) (k : Int) : cK r s (b :: bs) k = cK r (stepM r s b) bs k + (if makerM r s (rb b) && (rb b == k) then 1 else 0) := by
  show (((mkD r s b :: mksM r (stepM r s b) bs).countP fun z => PyData.eqv z (.int k) : Nat) : Int) = (((mksM r (stepM r s b) bs).countP fun z => PyData.eqv z (.int k) : Nat) : Int) + _
  rw [List.countP_cons]
  unfold mkD
  cases makerM r s (rb b) with
  | false => simp [eqv_ni]
  | true =>
    simp only [if_true, eqv_ii, Bool.true_and]
    split <;> simp
theorem cK_mir {r : Ru} (hn : r.s ≠ .only) : ∀ (bs : List Bool) {s t : Sta}, Mir s t → cK r t (bs.map (!·)) 0 = cK r s bs 1 ∧ cK r t (bs.map (!·)) 1 = cK r s bs 0
  | [], _, _, _ => ⟨rfl, rfl⟩
  | b :: bs, s, t, h => by
    obtain ⟨h1, h2⟩ := cK_mir hn bs (step_mirP hn h b)
    rw [List.map_cons, cK_cons, cK_cons, cK_cons, cK_cons, h1, h2, maker_plain hn, maker_plain hn, ended_mir h]
    cases b <;> exact ⟨rfl, rfl⟩
def Wt (r : Ru) (s : Sta) : Int := (s.g0 + s.g1) * r.p + s.p0 + s.p1
theorem step_wt {r : Ru} (hr : r.ok) {s : Sta} (i : Iv r s) (b : Bool) : Wt r (stepM r s b) ≤ Wt r s + (if makerM r s (rb b) then 1 else 0) := by
  obtain ⟨_, h⟩ := step_iv hr i b
  unfold Wt
  rcases h with ⟨h1, h2, h3⟩ | ⟨h0, h1, h2, h3⟩
  · rw [h1, h2]; omega
  · rw [h0, h1, h2]
    have e : (s.g0 + (if b then 0 else 1) + (s.g1 + (if b then 1 else 0))) * r.p = (s.g0 + s.g1) * r.p + r.p := by
      have : s.g0 + (if b then 0 else 1) + (s.g1 + (if b then 1 else 0)) = (s.g0 + s.g1) + 1 := by cases b <;> simp <;> omega
      rw [this, Int.add_mul, Int.one_mul]
    rw [e]
    simp only [if_true]
    omega
theorem run_wt {r : Ru} (hr : r.ok) : ∀ (bs : List Bool) {s : Sta}, Iv r s → Wt r (afterM r s bs) ≤ Wt r s + cK r s bs 0 + cK r s bs 1
  | [], s, _ => by rw [cK_nil, cK_nil]; exact Int.le_of_eq (by simp [afterM])
  | b :: bs, s, i => by
    have h1 := run_wt hr bs (step_iv hr i b).1
    have h2 := step_wt hr i b
    rw [cK_cons, cK_cons]
    show Wt r (afterM r (stepM r s b) bs) ≤ _
    cases hm : makerM r s (rb b) with
    | false =>
      rw [hm] at h2
      simp only [Bool.false_and, Bool.false_eq_true, if_false] at h2 ⊢
      omega
    | true =>
      rw [hm] at h2
      cases b <;> simp [rb] at h2 ⊢ <;> omega
theorem run_iv {r : Ru} (hr : r.ok) : ∀ (bs : List Bool) {s : Sta}, Iv r s → Iv r (afterM r s bs)
  | [], _, i => i
  | b :: bs, _, i => run_iv hr bs (step_iv hr i b).1
theorem after_snoc (r : Ru) (s : Sta) (bs : List Bool) (b : Bool) : afterM r s (bs ++ [b]) = stepM r (afterM r s bs) b := by
  unfold afterM
  rw [List.foldl_append]
  rfl
theorem after_take (r : Ru) (s : Sta) (bs : List Bool) (k : Nat) (h : k < bs.length) : afterM r s (bs.take (k + 1)) = stepM r (afterM r s (bs.take k)) bs[k] := by
  rw [List.take_succ_eq_append_getElem h, after_snoc]
/-! the serves "games", "twos" do the same to points and games -/
structure SamePG (s t : Sta) : Prop where
  a : t.p0 = s.p0
  b : t.p1 = s.p1
  c : t.g0 = s.g0
  d : t.g1 = s.g1
theorem step_pg {r q : Ru} (e1 : q.p = r.p) (e2 : q.l = r.l) (e3 : q.g = r.g) (e4 : q.d = r.d) (n1 : r.s ≠ .only) (n2 : q.s ≠ .only) {s t : Sta} (h : SamePG s t) (b : Bool) : SamePG (stepM r s b) (stepM q t b) := by
  obtain ⟨a, b', c, d⟩ := id h
  have he : endedM q t = endedM r s := by unfold endedM; rw [c, d, e3]
  have hw : wantedM q t = wantedM r s := by unfold wantedM; rw [c, d, e1, e3, e4]
  have hm : makerM q t (rb b) = makerM r s (rb b) := by rw [maker_plain n1, maker_plain n2, he]
  cases b <;> simp only [stepM, he, hw, hm, e2, a, b', c, d, if_true, if_false, Bool.false_eq_true]
  all_goals split
  all_goals first | exact h | skip
  all_goals (repeat' split) <;> exact ⟨rfl, rfl, rfl, rfl⟩
theorem run_pg {r q : Ru} (e1 : q.p = r.p) (e2 : q.l = r.l) (e3 : q.g = r.g) (e4 : q.d = r.d) (n1 : r.s ≠ .only) (n2 : q.s ≠ .only) : ∀ (bs : List Bool) {s t : Sta}, SamePG s t → SamePG (afterM r s bs) (afterM q t bs)
  | [], _, _, h => h
  | b :: bs, _, _, h => run_pg e1 e2 e3 e4 n1 n2 bs (step_pg e1 e2 e3 e4 n1 n2 h b)
/-! ### loops that only look -/
theorem for_inv {i : Nat} {u : Stm} (I : Envt → Prop) : ∀ {ds : List D}, (∀ env, ∀ d ∈ ds, I env → ∃ env', u (env.set i (.fz d)) = .ret (.nx env') ∧ I env') → ∀ env, I env → ∃ env', sForL (tgName i) u ds env = .ret (.nx env') ∧ I env'
  | [], _, env, h => ⟨env, rfl, h⟩
  | d :: ds, h, env, hi => by
    obtain ⟨env1, e1, i1⟩ := h env d List.mem_cons_self hi
    obtain ⟨env2, e2, i2⟩ := for_inv I (ds := ds) (fun env d hd => h env d (List.mem_cons_of_mem _ hd)) env1 i1
    refine ⟨env2, ?_, i2⟩
    show (u (env.set i (.fz d))).bind _ = _
    rw [e1]
    exact e2
theorem mem_range {lo : Int} {n : Nat} {d : D} (h : d ∈ rangeD lo n) : ∃ k : Nat, k < n ∧ d = .int (lo + (k : Nat)) := by
  unfold rangeD at h
  obtain ⟨k, hk, rfl⟩ := List.mem_map.mp h
  exact ⟨k, List.mem_range.mp hk, rfl⟩
def gE (s : Sta) : D := .tuple [.int s.g0, .int s.g1]
def pgE (s : Sta) : D := .tuple [.int s.p0, .int s.p1, .int s.g0, .int s.g1]
theorem s15 (s : Sta) : dSl s.e (some 1) (some 5) = some (pgE s) := rfl
theorem s35g (s : Sta) : dSl s.e (some 3) (some 5) = some (gE s) := rfl
theorem sx0 (s : Sta) : dIx s.e (.int 0) = some (.int s.sv) := rfl
theorem sx1 (s : Sta) : dIx s.e (.int 1) = some (.int s.p0) := rfl
theorem sx2 (s : Sta) : dIx s.e (.int 2) = some (.int s.p1) := rfl
theorem sx3 (s : Sta) : dIx s.e (.int 3) = some (.int s.g0) := rfl
theorem sx4 (s : Sta) : dIx s.e (.int 4) = some (.int s.g1) := rfl
theorem gx0 (s : Sta) : dIx (gE s) (.int 0) = some (.int s.g0) := rfl
theorem gx1 (s : Sta) : dIx (gE s) (.int 1) = some (.int s.g1) := rfl
theorem Rs_ix (r : Ru) (bs : List Bool) (k : Nat) (h : k ≤ bs.length) : dIx (Rs r bs) (.int (k : Nat)) = some (afterM r .start (bs.take k)).e := by
  refine dIx_nat ?_
  rw [List.getElem?_map]
  have := stsM_get r bs .start k h
  unfold stsM
  rw [this]; rfl
theorem Rs_it (r : Ru) (bs : List Bool) : itD (Rs r bs) = some ((stsM r bs).map Sta.e) := rfl
theorem sts_length (r : Ru) (bs : List Bool) : (stsM r bs).length = bs.length + 1 := by simp [stsM, runM_length]
theorem ne_pg (s t : Sta) : dNe (.tuple [.int s.p1, .int s.p0, .int s.g1, .int s.g0]) (pgE t) = some (.bool (!(s.p1 == t.p0 && (s.p0 == t.p1 && (s.g1 == t.g0 && (s.g0 == t.g1 && true)))))) := rfl
theorem ne_g (s t : Sta) : dNe (gE s) (gE t) = some (.bool (!(s.g0 == t.g0 && (s.g1 == t.g1 && true)))) := rfl
end Mb

namespace Mb
open PySem L2
/-! ### the law's own scorer, that keeps all points -/
def wonL (l : Ld) (many own other : Int) : Bool := match l with
  | .one => own == many
  | .two => decide (many ≤ own) && decide (other + 2 ≤ own)
  | .cap => decide (many ≤ own) && decide (other + 2 ≤ own) || own == many + 1
def foldL (l : Ld) (many a b : Int) : Int × Int := if !(decide (l = .two)) || decide (min a b < many - 1) then (a, b) else (many - 1 + (if 0 < a - b then 1 else 0), many - 1 + (if a - b < 0 then 1 else 0))
structure Al where
  a : Int
  b : Int
  g0 : Int
  g1 : Int
  sv : Int
  tn : Int
  m0 : Int
  m1 : Int
  en : Option Int
def wantG (r : Ru) (g0 g1 : Int) : Int := r.p + (if (r.d = .longer) && (g0 == r.g - 1 || g1 == r.g - 1) then 1 else 0)
def Al.mk? (r : Ru) (x : Al) (b : Bool) : Bool := !(decide (r.s = .only)) || rb b == x.sv
def i0 (b : Bool) : Int := if b then 0 else 1
def i1 (b : Bool) : Int := if b then 1 else 0
/-- a rally's point -/
def Al.pt (r : Ru) (x : Al) (b : Bool) : Al := if x.mk? r b then { x with a := x.a + i0 b, b := x.b + i1 b, m0 := x.m0 + i0 b, m1 := x.m1 + i1 b } else x
def Al.over (r : Ru) (x : Al) (b : Bool) : Bool := x.mk? r b && (if b then wonL r.l (wantG r x.g0 x.g1) (x.b + 1) x.a else wonL r.l (wantG r x.g0 x.g1) (x.a + 1) x.b)
/-- a game's end -/
def Al.gm (r : Ru) (x : Al) (b : Bool) (ov : Bool) (k : Int) : Al := if ov then { x with a := 0, b := 0, g0 := x.g0 + i0 b, g1 := x.g1 + i1 b, en := if x.g0 + i0 b == r.g || x.g1 + i1 b == r.g then some (k + 1) else none } else x
def Al.srv (r : Ru) (x : Al) (b : Bool) (ov : Bool) : Al := if (r.s = .winner || r.s = .only) then { x with sv := rb b } else if (r.s = .games || ov) then { x with sv := (x.g0 + x.g1) % 2, tn := 0 } else { x with sv := if x.tn == 0 then x.sv else 1 - x.sv, tn := 1 - x.tn }
def Al.go (r : Ru) (x : Al) (b : Bool) (k : Int) : Al := (((x.pt r b).gm r b (x.over r b) k).srv r b (x.over r b))
def Al.st (r : Ru) (x : Al) (many : Int) : Sta := ⟨x.sv, (foldL r.l many x.a x.b).1, (foldL r.l many x.a x.b).2, x.g0, x.g1, x.tn⟩
def Al.start : Al := ⟨0, 0, 0, 0, 0, 0, 0, 0, none⟩
/-- what holds between the rallies -/
structure AlI (r : Ru) (x : Al) : Prop where
  a0 : 0 ≤ x.a
  b0 : 0 ≤ x.b
  one : r.l = .one → x.a < wantG r x.g0 x.g1 ∧ x.b < wantG r x.g0 x.g1
  cap : r.l = .cap → x.a ≤ wantG r x.g0 x.g1 ∧ x.b ≤ wantG r x.g0 x.g1
  two : r.l = .two → ¬ (wantG r x.g0 x.g1 ≤ x.a ∧ x.b + 2 ≤ x.a) ∧ ¬ (wantG r x.g0 x.g1 ≤ x.b ∧ x.a + 2 ≤ x.b)
  tn : x.tn = 0 ∨ x.tn = 1
  wo : (r.s = .winner ∨ r.s = .only ∨ r.s = .games) → x.tn = 0
theorem want_ge {r : Ru} (hr : r.ok) (g0 g1 : Int) : 2 ≤ wantG r g0 g1 ∧ wantG r g0 g1 ≤ 5 := by
  have := hr.1; have := hr.2.1
  unfold wantG; split <;> omega
theorem want_st (r : Ru) (x : Al) (m : Int) : wantedM r (x.st r m) = wantG r x.g0 x.g1 := rfl
theorem al_start {r : Ru} (hr : r.ok) : AlI r .start := by
  have h := (want_ge hr 0 0).1
  refine ⟨Int.le_refl _, Int.le_refl _, fun _ => ?_, fun _ => ?_, fun _ => ?_, .inl rfl, fun _ => rfl⟩ <;> (show _; simp only [Al.start]; omega)
theorem won_eq {r : Ru} (hr : r.ok) {x : Al} (i : AlI r x) (b : Bool) :
    (if b then wonL r.l (wantG r x.g0 x.g1) (x.b + 1) x.a else wonL r.l (wantG r x.g0 x.g1) (x.a + 1) x.b) =
    winsM r.l (wantG r x.g0 x.g1) (if b then (foldL r.l (wantG r x.g0 x.g1) x.a x.b).2 + 1 else (foldL r.l (wantG r x.g0 x.g1) x.a x.b).1 + 1) (if b then (foldL r.l (wantG r x.g0 x.g1) x.a x.b).1 else (foldL r.l (wantG r x.g0 x.g1) x.a x.b).2) := by
  have hw := (want_ge hr x.g0 x.g1).1
  have h1 := i.one; have h2 := i.cap; have h3 := i.two
  have a0 := i.a0; have b0 := i.b0
  generalize wantG r x.g0 x.g1 = m at *
  cases hl : r.l with
  | one =>
    have h := h1 hl
    cases b <;> simp [wonL, winsM, foldL, -decide_eq_decide] <;> (rw [Bool.eq_iff_iff]; simp; omega)
  | cap =>
    have h := h2 hl
    cases b <;> simp [wonL, winsM, foldL, -decide_eq_decide] <;> (rw [Bool.eq_iff_iff]; simp; omega)
  | two =>
    have h := h3 hl
    cases b <;> simp [wonL, winsM, foldL, -decide_eq_decide] <;> (rw [Bool.eq_iff_iff]; split <;> (try split) <;> (try split) <;> simp <;> omega)
theorem fold_next {r : Ru} (hr : r.ok) {x : Al} (i : AlI r x) (hl : r.l = .two) (b : Bool) (hn : winsM .two (wantG r x.g0 x.g1) (if b then (foldL .two (wantG r x.g0 x.g1) x.a x.b).2 + 1 else (foldL .two (wantG r x.g0 x.g1) x.a x.b).1 + 1) (if b then (foldL .two (wantG r x.g0 x.g1) x.a x.b).1 else (foldL .two (wantG r x.g0 x.g1) x.a x.b).2) = false) :
    foldL .two (wantG r x.g0 x.g1) (x.a + i0 b) (x.b + i1 b) = foldM (wantG r x.g0 x.g1) ((foldL .two (wantG r x.g0 x.g1) x.a x.b).1 + i0 b) ((foldL .two (wantG r x.g0 x.g1) x.a x.b).2 + i1 b) := by
  have hw := (want_ge hr x.g0 x.g1).1
  have h := i.two hl
  have a0 := i.a0; have b0 := i.b0
  generalize wantG r x.g0 x.g1 = m at *
  have emin : ∀ a b : Int, min a b = if a ≤ b then a else b := fun a b => Int.min_def a b
  cases b <;> simp only [i0, i1, if_true, if_false, Bool.false_eq_true, foldL, foldM, emin, decide_true, Bool.not_true, Bool.false_or, decide_eq_true_eq] <;> (repeat' split) <;> (try simp only [Prod.mk.injEq]) <;> (try omega) <;> (simp_all <;> omega)
end Mb

namespace Mb
open PySem L2
theorem fold00 (l : Ld) {m : Int} (h : 2 ≤ m) : foldL l m 0 0 = (0, 0) := by
  have : decide (min (0 : Int) 0 < m - 1) = true := decide_eq_true (by rw [Int.min_def]; split <;> omega)
  unfold foldL
  rw [this, Bool.or_true, if_pos rfl]
theorem maker_al {r : Ru} {x : Al} {m : Int} (he : endedM r (x.st r m) = false) (b : Bool) : makerM r (x.st r m) (rb b) = x.mk? r b := by
  unfold makerM Al.mk?
  rw [he]
  show (!false && !(decide (r.s = .only) && !(rb b == x.sv))) = _
  cases decide (r.s = .only) <;> cases (rb b == x.sv) <;> rfl
theorem fold_id {l : Ld} (h : l ≠ .two) (m a b : Int) : foldL l m a b = (a, b) := by
  unfold foldL
  rw [decide_eq_false h]; rfl
theorem srv_eq (r : Ru) (x y : Al) (b ov : Bool) (s : Sta) (i : AlI r x) (h1 : s.sv = x.sv) (h2 : s.tn = x.tn) (h3 : y.sv = x.sv) (h4 : y.tn = x.tn) :
    (y.srv r b ov).sv = (servM r s (rb b) y.g0 y.g1 ov).1 ∧ (y.srv r b ov).tn = (servM r s (rb b) y.g0 y.g1 ov).2 ∧ ((y.srv r b ov).tn = 0 ∨ (y.srv r b ov).tn = 1) ∧ ((r.s = .winner ∨ r.s = .only ∨ r.s = .games) → (y.srv r b ov).tn = 0) := by
  have t := i.tn
  have w := i.wo
  unfold Al.srv servM
  rw [h1, h2, ← h3, ← h4]
  rw [← h4] at t w
  by_cases c1 : (decide (r.s = .winner) || decide (r.s = .only)) = true
  · have c1' : r.s = .winner ∨ r.s = .only := by simpa using c1
    rw [if_pos c1, if_pos c1]
    have z := w (c1'.elim .inl (fun e => .inr (.inl e)))
    exact ⟨rfl, z, .inl z, fun _ => z⟩
  · rw [if_neg c1, if_neg c1]
    by_cases c2 : (decide (r.s = .games) || ov) = true
    · rw [if_pos c2, if_pos c2]
      exact ⟨rfl, rfl, .inl rfl, fun _ => rfl⟩
    · rw [if_neg c2, if_neg c2]
      have n : ¬ (r.s = .winner ∨ r.s = .only ∨ r.s = .games) := by
        simp at c1 c2
        simp [c1, c2]
      rcases t with t | t
      · have : (y.tn == 0) = true := by rw [t]; rfl
        rw [if_pos this, if_pos this]
        exact ⟨rfl, by show 1 - y.tn = 1; omega, .inr (by show 1 - y.tn = 1; omega), fun q => (n q).elim⟩
      · have : ¬ (y.tn == 0) = true := by rw [t]; decide
        rw [if_neg this, if_neg this]
        exact ⟨rfl, by show 1 - y.tn = 0; omega, .inl (by show 1 - y.tn = 0; omega), fun q => (n q).elim⟩
theorem srv_keeps (r : Ru) (y : Al) (b ov : Bool) : (y.srv r b ov).a = y.a ∧ (y.srv r b ov).b = y.b ∧ (y.srv r b ov).g0 = y.g0 ∧ (y.srv r b ov).g1 = y.g1 ∧ (y.srv r b ov).m0 = y.m0 ∧ (y.srv r b ov).m1 = y.m1 ∧ (y.srv r b ov).en = y.en := by
  unfold Al.srv
  (repeat' split) <;> exact ⟨rfl, rfl, rfl, rfl, rfl, rfl, rfl⟩
/-- the state that a rally appends -/
def Al.app (r : Ru) (x : Al) (b : Bool) (k : Int) : Sta := (x.go r b k).st r (if x.over r b then 9 else wantG r x.g0 x.g1)
theorem al_go {r : Ru} (hr : r.ok) {x : Al} (i : AlI r x) (he : endedM r (x.st r (wantG r x.g0 x.g1)) = false) (b : Bool) (k : Int) :
    AlI r (x.go r b k) ∧ x.app r b k = stepM r (x.st r (wantG r x.g0 x.g1)) b ∧ (x.go r b k).st r (wantG r (x.go r b k).g0 (x.go r b k).g1) = stepM r (x.st r (wantG r x.g0 x.g1)) b ∧
    (x.go r b k).m0 = x.m0 + (if x.mk? r b then i0 b else 0) ∧ (x.go r b k).m1 = x.m1 + (if x.mk? r b then i1 b else 0) := by
  have hmk := maker_al he b
  have hw := want_ge hr x.g0 x.g1
  have won := won_eq hr i b
  have sv := fun (y : Al) (ov : Bool) h3 h4 => srv_eq r x y b ov (x.st r (wantG r x.g0 x.g1)) i rfl rfl h3 h4
  cases hm : x.mk? r b with
  | false =>
    have ov : x.over r b = false := by unfold Al.over; rw [hm]; rfl
    have pt : x.pt r b = x := by unfold Al.pt; rw [hm]; rfl
    have go : x.go r b k = x.srv r b false := by unfold Al.go; rw [ov, pt]; rfl
    obtain ⟨s1, s2, s3, s4⟩ := sv x false rfl rfl
    obtain ⟨q1, q2, q3, q4, q5, q6, q7⟩ := srv_keeps r x b false
    have stp : stepM r (x.st r (wantG r x.g0 x.g1)) b = ⟨(servM r (x.st r (wantG r x.g0 x.g1)) (rb b) x.g0 x.g1 false).1, (foldL r.l (wantG r x.g0 x.g1) x.a x.b).1, (foldL r.l (wantG r x.g0 x.g1) x.a x.b).2, x.g0, x.g1, (servM r (x.st r (wantG r x.g0 x.g1)) (rb b) x.g0 x.g1 false).2⟩ := by
      unfold stepM
      rw [he, hmk, hm]; rfl
    unfold Al.app
    rw [go, ov, stp]
    refine ⟨⟨by rw [q1]; exact i.a0, by rw [q2]; exact i.b0, ?_, ?_, ?_, s3, s4⟩, ?_, ?_, ?_, ?_⟩
    · rw [q1, q2, q3, q4]; exact i.one
    · rw [q1, q2, q3, q4]; exact i.cap
    · rw [q1, q2, q3, q4]; exact i.two
    · unfold Al.st; rw [q1, q2, q3, q4, s1, s2]; rfl
    · unfold Al.st; rw [q1, q2, q3, q4, s1, s2]; rfl
    · rw [q5]; simp
    · rw [q6]; simp
  | true =>
    have pt : x.pt r b = { x with a := x.a + i0 b, b := x.b + i1 b, m0 := x.m0 + i0 b, m1 := x.m1 + i1 b } := by unfold Al.pt; rw [hm]; rfl
    have ove : x.over r b = winsM r.l (wantG r x.g0 x.g1) (if b then (foldL r.l (wantG r x.g0 x.g1) x.a x.b).2 + 1 else (foldL r.l (wantG r x.g0 x.g1) x.a x.b).1 + 1) (if b then (foldL r.l (wantG r x.g0 x.g1) x.a x.b).1 else (foldL r.l (wantG r x.g0 x.g1) x.a x.b).2) := by
      unfold Al.over; rw [hm, Bool.true_and, won]
    have stp : ∀ ov, x.over r b = ov → stepM r (x.st r (wantG r x.g0 x.g1)) b = if ov then ⟨(servM r (x.st r (wantG r x.g0 x.g1)) (rb b) (x.g0 + i0 b) (x.g1 + i1 b) true).1, 0, 0, x.g0 + i0 b, x.g1 + i1 b, (servM r (x.st r (wantG r x.g0 x.g1)) (rb b) (x.g0 + i0 b) (x.g1 + i1 b) true).2⟩
        else if decide (r.l = .two) then ⟨(servM r (x.st r (wantG r x.g0 x.g1)) (rb b) x.g0 x.g1 false).1, (foldM (wantG r x.g0 x.g1) ((foldL r.l (wantG r x.g0 x.g1) x.a x.b).1 + i0 b) ((foldL r.l (wantG r x.g0 x.g1) x.a x.b).2 + i1 b)).1, (foldM (wantG r x.g0 x.g1) ((foldL r.l (wantG r x.g0 x.g1) x.a x.b).1 + i0 b) ((foldL r.l (wantG r x.g0 x.g1) x.a x.b).2 + i1 b)).2, x.g0, x.g1, (servM r (x.st r (wantG r x.g0 x.g1)) (rb b) x.g0 x.g1 false).2⟩
        else ⟨(servM r (x.st r (wantG r x.g0 x.g1)) (rb b) x.g0 x.g1 false).1, (foldL r.l (wantG r x.g0 x.g1) x.a x.b).1 + i0 b, (foldL r.l (wantG r x.g0 x.g1) x.a x.b).2 + i1 b, x.g0, x.g1, (servM r (x.st r (wantG r x.g0 x.g1)) (rb b) x.g0 x.g1 false).2⟩ := by
      intro ov e
      rw [ove] at e
      unfold stepM
      rw [he, hmk, hm, want_st]
      cases b <;> simp only [if_true, if_false, Bool.false_eq_true, i0, i1, Int.add_zero] at e ⊢
      · show (if winsM r.l (wantG r x.g0 x.g1) ((foldL r.l (wantG r x.g0 x.g1) x.a x.b).1 + 1) (foldL r.l (wantG r x.g0 x.g1) x.a x.b).2 then _ else _) = _
        rw [e]; rfl
      · show (if winsM r.l (wantG r x.g0 x.g1) ((foldL r.l (wantG r x.g0 x.g1) x.a x.b).2 + 1) (foldL r.l (wantG r x.g0 x.g1) x.a x.b).1 then _ else _) = _
        rw [e]; rfl
    cases ho : x.over r b with
    | true =>
      have stp := stp true ho
      rw [if_pos rfl] at stp
      have go : x.go r b k = ({ x with a := 0, b := 0, m0 := x.m0 + i0 b, m1 := x.m1 + i1 b, g0 := x.g0 + i0 b, g1 := x.g1 + i1 b, en := if x.g0 + i0 b == r.g || x.g1 + i1 b == r.g then some (k + 1) else none } : Al).srv r b true := by
        unfold Al.go; rw [ho, pt]; rfl
      obtain ⟨s1, s2, s3, s4⟩ := sv { x with a := 0, b := 0, m0 := x.m0 + i0 b, m1 := x.m1 + i1 b, g0 := x.g0 + i0 b, g1 := x.g1 + i1 b, en := if x.g0 + i0 b == r.g || x.g1 + i1 b == r.g then some (k + 1) else none } true rfl rfl
      obtain ⟨q1, q2, q3, q4, q5, q6, q7⟩ := srv_keeps r { x with a := 0, b := 0, m0 := x.m0 + i0 b, m1 := x.m1 + i1 b, g0 := x.g0 + i0 b, g1 := x.g1 + i1 b, en := if x.g0 + i0 b == r.g || x.g1 + i1 b == r.g then some (k + 1) else none } b true
      rw [← go] at s1 s2 s3 s4 q1 q2 q3 q4 q5 q6 q7
      have hw2 := (want_ge hr (x.g0 + i0 b) (x.g1 + i1 b)).1
      unfold Al.app
      rw [ho, stp]
      dsimp only at q1 q2 q3 q4 q5 q6 s1 s2
      refine ⟨⟨by rw [q1]; exact Int.le_refl _, by rw [q2]; exact Int.le_refl _, fun _ => ?_, fun _ => ?_, fun _ => ?_, s3, s4⟩, ?_, ?_, ?_, ?_⟩
      · rw [q1, q2, q3, q4]; omega
      · rw [q1, q2, q3, q4]; omega
      · rw [q1, q2, q3, q4]; omega
      · unfold Al.st; rw [q1, q2, q3, q4, s1, s2, if_pos rfl, fold00 _ (by decide)]; rfl
      · unfold Al.st; rw [q1, q2, q3, q4, s1, s2, fold00 _ hw2]; rfl
      · rw [q5]; simp
      · rw [q6]; simp
    | false =>
      have stp := stp false ho
      rw [if_neg (by decide)] at stp
      have go : x.go r b k = ({ x with a := x.a + i0 b, b := x.b + i1 b, m0 := x.m0 + i0 b, m1 := x.m1 + i1 b } : Al).srv r b false := by
        unfold Al.go; rw [ho, pt]; rfl
      obtain ⟨s1, s2, s3, s4⟩ := sv { x with a := x.a + i0 b, b := x.b + i1 b, m0 := x.m0 + i0 b, m1 := x.m1 + i1 b } false rfl rfl
      obtain ⟨q1, q2, q3, q4, q5, q6, q7⟩ := srv_keeps r { x with a := x.a + i0 b, b := x.b + i1 b, m0 := x.m0 + i0 b, m1 := x.m1 + i1 b } b false
      rw [← go] at s1 s2 s3 s4 q1 q2 q3 q4 q5 q6 q7
      dsimp only at q1 q2 q3 q4 q5 q6 s1 s2
      have hov : (if b then wonL r.l (wantG r x.g0 x.g1) (x.b + 1) x.a else wonL r.l (wantG r x.g0 x.g1) (x.a + 1) x.b) = false := by
        have := ho
        unfold Al.over at this
        rw [hm, Bool.true_and] at this
        exact this
      have a0 := i.a0
      have b0 := i.b0
      have key : (x.go r b k).st r (wantG r x.g0 x.g1) = stepM r (x.st r (wantG r x.g0 x.g1)) b := by
        rw [stp]
        unfold Al.st
        rw [q1, q2, q3, q4, s1, s2]
        by_cases h2 : r.l = .two
        · rw [if_pos (decide_eq_true h2)]
          have hn := ove.symm.trans ho
          rw [h2] at hn
          have := fold_next hr i h2 b hn
          rw [h2, this]; rfl
        · rw [if_neg (by simpa using h2), fold_id h2, fold_id h2]; rfl
      unfold Al.app
      rw [ho, if_neg (by decide), q3, q4]
      refine ⟨⟨by rw [q1]; cases b <;> simp [i0] <;> omega, by rw [q2]; cases b <;> simp [i1] <;> omega, fun h => ?_, fun h => ?_, fun h => ?_, s3, s4⟩, key, key, ?_, ?_⟩
      · have o := i.one h
        rw [q1, q2, q3, q4]
        rw [h] at hov
        cases b <;> simp [wonL, i0, i1] at hov ⊢ <;> omega
      · have o := i.cap h
        rw [q1, q2, q3, q4]
        rw [h] at hov
        cases b <;> simp [wonL, i0, i1] at hov ⊢ <;> omega
      · have o := i.two h
        rw [q1, q2, q3, q4]
        rw [h] at hov
        cases b <;> simp [wonL, i0, i1] at hov ⊢ <;> omega
      · rw [q5]; simp
      · rw [q6]; simp
end Mb

namespace Mb
open PySem L2
/-! ### states that come: the own scorer at folded points -/
def alOf (s : Sta) : Al := ⟨s.p0, s.p1, s.g0, s.g1, s.sv, s.tn, 0, 0, none⟩
structure StI (r : Ru) (s : Sta) : Prop where
  i : AlI r (alOf s)
  s : (alOf s).st r (wantG r s.g0 s.g1) = s
theorem ended_step {r : Ru} {s : Sta} (h : endedM r s = true) (b : Bool) : stepM r s b = s := by
  unfold stepM; rw [h]; rfl
theorem fold_two {m a b : Int} (hm : 2 ≤ m) (a0 : 0 ≤ a) (b0 : 0 ≤ b) (h : ¬ (m ≤ a ∧ b + 2 ≤ a) ∧ ¬ (m ≤ b ∧ a + 2 ≤ b)) :
    0 ≤ (foldL .two m a b).1 ∧ 0 ≤ (foldL .two m a b).2 ∧ (¬ (m ≤ (foldL .two m a b).1 ∧ (foldL .two m a b).2 + 2 ≤ (foldL .two m a b).1) ∧ ¬ (m ≤ (foldL .two m a b).2 ∧ (foldL .two m a b).1 + 2 ≤ (foldL .two m a b).2)) ∧ foldL .two m (foldL .two m a b).1 (foldL .two m a b).2 = foldL .two m a b := by
  have emin : ∀ a b : Int, min a b = if a ≤ b then a else b := fun a b => Int.min_def a b
  simp only [foldL, emin, decide_true, Bool.not_true, Bool.false_or, decide_eq_true_eq]
  (repeat' split) <;> (try simp only [Prod.mk.injEq]) <;> (try omega) <;> (simp_all <;> omega)
theorem sti_of {r : Ru} (hr : r.ok) {x : Al} (i : AlI r x) : StI r (x.st r (wantG r x.g0 x.g1)) := by
  have hw := (want_ge hr x.g0 x.g1).1
  by_cases hl : r.l = .two
  · obtain ⟨h1, h2, h3, h4⟩ := fold_two hw i.a0 i.b0 (i.two hl)
    refine ⟨⟨?_, ?_, fun h => ?_, fun h => ?_, fun h => ?_, i.tn, i.wo⟩, ?_⟩
    · show 0 ≤ (foldL r.l _ _ _).1; rw [hl]; exact h1
    · show 0 ≤ (foldL r.l _ _ _).2; rw [hl]; exact h2
    · rw [hl] at h; cases h
    · rw [hl] at h; cases h
    · show ¬ (wantG r x.g0 x.g1 ≤ (foldL r.l _ _ _).1 ∧ (foldL r.l _ _ _).2 + 2 ≤ (foldL r.l _ _ _).1) ∧ ¬ (wantG r x.g0 x.g1 ≤ (foldL r.l _ _ _).2 ∧ (foldL r.l _ _ _).1 + 2 ≤ (foldL r.l _ _ _).2)
      rw [hl]; exact h3
    · show Sta.mk _ (foldL r.l (wantG r x.g0 x.g1) (foldL r.l (wantG r x.g0 x.g1) x.a x.b).1 (foldL r.l (wantG r x.g0 x.g1) x.a x.b).2).1 (foldL r.l (wantG r x.g0 x.g1) (foldL r.l (wantG r x.g0 x.g1) x.a x.b).1 (foldL r.l (wantG r x.g0 x.g1) x.a x.b).2).2 _ _ _ = _
      rw [hl, h4, ← hl]; rfl
  · have e := fold_id hl (wantG r x.g0 x.g1) x.a x.b
    refine ⟨⟨?_, ?_, fun h => ?_, fun h => ?_, fun h => absurd h hl, i.tn, i.wo⟩, ?_⟩
    · show 0 ≤ (foldL r.l _ _ _).1; rw [e]; exact i.a0
    · show 0 ≤ (foldL r.l _ _ _).2; rw [e]; exact i.b0
    · show (foldL r.l _ _ _).1 < wantG r x.g0 x.g1 ∧ (foldL r.l _ _ _).2 < wantG r x.g0 x.g1
      rw [e]; exact i.one h
    · show (foldL r.l _ _ _).1 ≤ wantG r x.g0 x.g1 ∧ (foldL r.l _ _ _).2 ≤ wantG r x.g0 x.g1
      rw [e]; exact i.cap h
    · show Sta.mk _ (foldL r.l (wantG r x.g0 x.g1) (foldL r.l (wantG r x.g0 x.g1) x.a x.b).1 (foldL r.l (wantG r x.g0 x.g1) x.a x.b).2).1 (foldL r.l (wantG r x.g0 x.g1) (foldL r.l (wantG r x.g0 x.g1) x.a x.b).1 (foldL r.l (wantG r x.g0 x.g1) x.a x.b).2).2 _ _ _ = _
      rw [fold_id hl, ]; rfl
theorem sti_start {r : Ru} (hr : r.ok) : StI r .start := by
  have := sti_of hr (al_start hr)
  have e : Al.st r .start (wantG r Al.start.g0 Al.start.g1) = Sta.start := by
    unfold Al.st Al.start
    rw [fold00 _ (want_ge hr _ _).1]; rfl
  rw [e] at this
  exact this
theorem sti_step {r : Ru} (hr : r.ok) {s : Sta} (h : StI r s) (b : Bool) : StI r (stepM r s b) := by
  cases he : endedM r s with
  | true => rw [ended_step he]; exact h
  | false =>
    have q := al_go hr h.i (by show endedM r ((alOf s).st r (wantG r s.g0 s.g1)) = false; rw [h.s]; exact he) b 0
    have e := q.2.2.1
    have e2 : (alOf s).st r (wantG r (alOf s).g0 (alOf s).g1) = s := h.s
    rw [e2] at e
    rw [← e]
    exact sti_of hr q.1
theorem sti_run {r : Ru} (hr : r.ok) : ∀ (bs : List Bool) {s : Sta}, StI r s → StI r (afterM r s bs)
  | [], _, h => h
  | b :: bs, s, h => by
    show StI r (afterM r (stepM r s b) bs)
    exact sti_run hr bs (sti_step hr h b)
theorem app_step {r : Ru} (hr : r.ok) {s : Sta} (h : StI r s) (he : endedM r s = false) (b : Bool) : (alOf s).app r b 0 = stepM r s b := by
  have q := al_go hr h.i (by show endedM r ((alOf s).st r (wantG r s.g0 s.g1)) = false; rw [h.s]; exact he) b 0
  have e2 : (alOf s).st r (wantG r (alOf s).g0 (alOf s).g1) = s := h.s
  have e := q.2.1
  rw [e2] at e
  exact e
/-! ### boards -/
def brdM (k : Int) (s : Sta) : D := if k == 2 then .tuple [.int s.g0, .int s.g1] else if k == 0 then .tuple [.int s.sv, .int s.p0, .int s.p1, .int s.g0, .int s.g1] else .int s.sv
theorem s05 (s : Sta) : dSl s.e none (some 5) = some (.tuple [.int s.sv, .int s.p0, .int s.p1, .int s.g0, .int s.g1]) := rfl
theorem okAt_brd (n : Nat) (k : Int) (s : Sta) : okAt (n + 1) (brdM k s) = true := by
  unfold brdM
  split
  · rw [okAt]; simp [okAt]
  · split
    · rw [okAt]; simp [okAt]
    · simp [okAt]
def Bds (r : Ru) (bs : List Bool) (k : Int) : D := .list ((runM r .start bs).map (brdM k))
theorem Rs_tail (r : Ru) (bs : List Bool) : dSl (Rs r bs) (some 1) none = some (.list ((runM r .start bs).map Sta.e)) := by
  show some (PyData.list (cutD _ (some ((1 : Nat) : Int)) none)) = _
  rw [cut_from]; rfl
theorem shp_list {ds : List D} (h : ∀ d ∈ ds, okAt 39 d = true) : shp (.list ds) = true := by
  unfold shp
  rw [okAt, List.all_eq_true]
  exact h
theorem shp_tup {ds : List D} (h : ∀ d ∈ ds, okAt 39 d = true) : shp (.tuple ds) = true := by
  unfold shp
  rw [okAt, List.all_eq_true]
  exact h
theorem shp_Bds (r : Ru) (bs : List Bool) (k : Int) : shp (Bds r bs k) = true := shp_list fun d h => by
  obtain ⟨s, _, rfl⟩ := List.mem_map.mp h
  exact okAt_brd 38 k s
theorem shp_Rs (r : Ru) (bs : List Bool) : shp (Rs r bs) = true := shp_list fun d h => by
  obtain ⟨s, _, rfl⟩ := List.mem_map.mp h
  exact okAt_st 38 s
theorem shp_Ro (bs : List Bool) : shp (Ro bs) = true := shp_list fun d h => by
  obtain ⟨s, _, rfl⟩ := List.mem_map.mp h
  rfl
theorem shp_st (s : Sta) : shp s.e = true := okAt_st 39 s
theorem ne_self {d : D} (h : shp d = true) : dNe d d = some (.bool false) := by
  unfold dNe
  rw [h, SeqAt.eqv_refl _ (shp_lay h)]; rfl
theorem eq_self {d : D} (h : shp d = true) : dEq d d = some (.bool true) := by
  unfold dEq
  rw [h, SeqAt.eqv_refl _ (shp_lay h)]; rfl
/-! ### lists by a test -/
theorem lc_filt {gd : Tgt} {t : Envt → Tr Bool} {f : Envt → Tr D} {env : Envt} (p : D → Bool) (g : D → D) (en : D → Envt) : ∀ {xs : List D}, (∀ x ∈ xs, gd x env = some (en x)) → (∀ x ∈ xs, t (en x) = .ret (p x)) → (∀ x ∈ xs, p x = true → f (en x) = .ret (g x)) → lcRun gd t f env xs = .ret ((xs.filter p).map g)
  | [], _, _, _ => rfl
  | x :: xs, h1, h2, h3 => by
    have ih := lc_filt p g en (xs := xs) (fun y hy => h1 y (List.mem_cons_of_mem _ hy)) (fun y hy => h2 y (List.mem_cons_of_mem _ hy)) (fun y hy => h3 y (List.mem_cons_of_mem _ hy))
    show (ofO (gd x env)).bind (fun env1 => (t env1).bind fun b => if b then (f env1).bind fun y => (lcRun gd t f env xs).bind fun ys => .ret (y :: ys) else lcRun gd t f env xs) = _
    rw [h1 x List.mem_cons_self]
    show (t (en x)).bind _ = _
    rw [h2 x List.mem_cons_self]
    show (if p x then _ else _) = _
    cases hp : p x with
    | false => rw [List.filter_cons_of_neg (by rw [hp]; exact Bool.false_ne_true)]; exact ih
    | true =>
      rw [List.filter_cons_of_pos hp]
      show (f (en x)).bind _ = _
      rw [h3 x List.mem_cons_self hp, ih]; rfl
/-- .. of encoded things -/
theorem lc_filtE {α : Type} {gd : Tgt} {t : Envt → Tr Bool} {f : Envt → Tr D} {env : Envt} (e : α → D) (p : α → Bool) (g : α → D) (en : α → Envt) : ∀ {xs : List α}, (∀ x ∈ xs, gd (e x) env = some (en x)) → (∀ x ∈ xs, t (en x) = .ret (p x)) → (∀ x ∈ xs, p x = true → f (en x) = .ret (g x)) → lcRun gd t f env (xs.map e) = .ret ((xs.filter p).map g)
  | [], _, _, _ => rfl
  | x :: xs, h1, h2, h3 => by
    have ih := lc_filtE e p g en (xs := xs) (fun y hy => h1 y (List.mem_cons_of_mem _ hy)) (fun y hy => h2 y (List.mem_cons_of_mem _ hy)) (fun y hy => h3 y (List.mem_cons_of_mem _ hy))
    show (ofO (gd (e x) env)).bind (fun env1 => (t env1).bind fun b => if b then (f env1).bind fun y => (lcRun gd t f env (xs.map e)).bind fun ys => .ret (y :: ys) else lcRun gd t f env (xs.map e)) = _
    rw [h1 x List.mem_cons_self]
    show (t (en x)).bind _ = _
    rw [h2 x List.mem_cons_self]
    show (if p x then _ else _) = _
    cases hp : p x with
    | false => rw [List.filter_cons_of_neg (by rw [hp]; exact Bool.false_ne_true)]; exact ih
    | true =>
      rw [List.filter_cons_of_pos hp]
      show (f (en x)).bind _ = _
      rw [h3 x List.mem_cons_self hp, ih]; rfl
/-! ### all ends of the combinators -/
section
variable {P : Out → Prop} {Q : D → Prop} {R : List Ent → Prop} {E : Nat → Prop} {env : Envt} {f g : Envt → Tr D} {ga : Envt → Tr (List Ent)} {u v : Stm} {i n : Nat} {m : List Ent → Tr D}
theorem all_ret {α : Type} {t : Tr α} {a : α} {S : α → Prop} (h : t = .ret a) (k : S a) : t.all S E := by rw [h]; exact k
theorem all_sSeq (h : (u env).all (fun o => match o with | .nx e => (v e).all P E | .rt d => P (.rt d) | .bk e => P (.bk e) | .ct e => P (.ct e)) E) : (sSeq u v env).all P E := by
  rw [ap_sSeq]
  exact Tr.bind_all (Tr.all_mono (fun o z => by cases o <;> exact z) (fun _ z => z) h)
theorem all_sPar {is : List Nat} (h : (ga env).all (fun es => es.length = is.length ∧ P (.nx (setAll env is es))) E) : (sPar is ga env).all P E := by
  rw [ap_sPar]
  exact Tr.bind_all (Tr.all_mono (fun es z => by rw [z.1, beq_self_eq_true, if_pos rfl]; exact z.2) (fun _ z => z) h)
theorem all_sSet (h : (f env).all (fun d => P (.nx (env.set i (.fz d)))) E) : (sSet i f env).all P E := by
  rw [ap_sSet]
  exact Tr.bind_all h
theorem all_sRet (h : (f env).all (fun d => P (.rt d)) E) : (sRet f env).all P E := by
  rw [ap_sRet]
  exact Tr.bind_all h
theorem all_sIf {c : Envt → Tr Bool} (h : (c env).all (fun b => if b then (u env).all P E else (v env).all P E) E) : (sIf c u v env).all P E := by
  rw [ap_sIf]
  exact Tr.bind_all (Tr.all_mono (fun b z => by cases b <;> exact z) (fun _ z => z) h)
theorem all_aCons (h : (f env).all (fun d => (ga env).all (fun es => R (.fz d :: es)) E) E) : (aCons f ga env).all R E := by
  rw [ap_aCons]
  exact Tr.bind_all (Tr.all_mono (fun d z => Tr.bind_all z) (fun _ z => z) h)
theorem all_aNil (h : R []) : (aNil env).all R E := h
theorem all_aDr (hd : env[i]? = some .dr) (h : (ga env).all (fun es => R (.dr :: es)) E) : (aDr i ga env).all R E := by
  rw [ap_aDr, hd]
  exact Tr.bind_all h
theorem all_vCall (h : (ga env).all (fun es => es.length = n ∧ (m es).all Q E) E) : (vCall n m ga env).all Q E := by
  rw [ap_vCall]
  exact Tr.bind_all (Tr.all_mono (fun es z => by rw [z.1, beq_self_eq_true, if_pos rfl]; exact z.2) (fun _ z => z) h)
theorem all_v2 {op : D → D → Option D} (h : (f env).all (fun d => (g env).all (fun e => ∃ z, op d e = some z ∧ Q z) E) E) : (v2 op f g env).all Q E := by
  rw [ap_v2]
  exact Tr.bind_all (Tr.all_mono (fun d z => Tr.bind_all (Tr.all_mono (fun e ⟨w, h1, h2⟩ => by rw [h1]; exact h2) (fun _ z => z) z)) (fun _ z => z) h)
theorem all_vIf {c : Envt → Tr Bool} (h : (c env).all (fun b => if b then (f env).all Q E else (g env).all Q E) E) : (vIf c f g env).all Q E := by
  rw [ap_vIf]
  exact Tr.bind_all (Tr.all_mono (fun b z => by cases b <;> exact z) (fun _ z => z) h)
theorem all_vT {S : Bool → Prop} (h : (f env).all (fun d => ∃ b, d = .bool b ∧ S b) E) : (vT f env).all S E := by
  rw [ap_vT]
  exact Tr.bind_all (Tr.all_mono (fun d ⟨b, h1, h2⟩ => by rw [h1]; exact h2) (fun _ z => z) h)
theorem all_vTup (h : (ga env).all (fun es => ∃ ds, fzs es = some ds ∧ ds.length ≤ 1000 ∧ Q (.tuple ds)) E) : (vTup ga env).all Q E := by
  rw [ap_vTup]
  exact Tr.bind_all (Tr.all_mono (fun es ⟨ds, h1, h2, h3⟩ => by rw [h1, Option.bind_some, small_of (by omega)]; exact h3) (fun _ z => z) h)
/-- f(draws), f(draws, x) -/
theorem all_dr1 (hd : env[i]? = some .dr) (h : (m [.dr]).all Q E) : (vCall 1 m (aDr i aNil) env).all Q E := all_vCall (all_aDr hd (all_aNil ⟨rfl, h⟩))
theorem all_dr2 (hd : env[i]? = some .dr) (h : (f env).all (fun d => (m [.dr, .fz d]).all Q E) E) : (vCall 2 m (aDr i (aCons f aNil)) env).all Q E :=
  all_vCall (all_aDr hd (all_aCons (Tr.all_mono (fun _ z => all_aNil ⟨rfl, z⟩) (fun _ z => z) h)))
end
end Mb

namespace Mb
open PySem L2
/-! ### data without bools: == is equality -/
mutual
def nob : D → Bool
  | .bool _ => false
  | .dict _ => false
  | .list xs => nobs xs
  | .tuple xs => nobs xs
  | _ => true
def nobs : List D → Bool
  | [] => true
  | d :: ds => nob d && nobs ds
end
theorem str_beq (x y : Str) : (x == y) = true ↔ x = y := by
  constructor
  · intro h; exact eq_of_beq h
  · rintro rfl; exact beq_self_eq_true _
mutual
theorem eqv_iff : ∀ (d e : D), nob d = true → nob e = true → (PyData.eqv d e = true ↔ d = e)
  | .none, .none, _, _ => by simp [PyData.eqv]
  | .int i, .int j, _, _ => by simp [PyData.eqv]
  | .str x, .str y, _, _ => by simp only [PyData.eqv, PyData.str.injEq]; exact str_beq x y
  | .list xs, .list ys, h, k => by
    simp only [nob] at h k
    simp only [PyData.eqv, PyData.list.injEq]
    exact eqvs_iff xs ys h k
  | .tuple xs, .tuple ys, h, k => by
    simp only [nob] at h k
    simp only [PyData.eqv, PyData.tuple.injEq]
    exact eqvs_iff xs ys h k
  | .bool _, _, h, _ => by simp [nob] at h
  | .dict _, _, h, _ => by simp [nob] at h
  | _, .bool _, _, h => by simp [nob] at h
  | _, .dict _, _, h => by simp [nob] at h
  | .none, .int _, _, _ => by simp [PyData.eqv]
  | .none, .str _, _, _ => by simp [PyData.eqv]
  | .none, .list _, _, _ => by simp [PyData.eqv]
  | .none, .tuple _, _, _ => by simp [PyData.eqv]
  | .int _, .none, _, _ => by simp [PyData.eqv]
  | .int _, .str _, _, _ => by simp [PyData.eqv]
  | .int _, .list _, _, _ => by simp [PyData.eqv]
  | .int _, .tuple _, _, _ => by simp [PyData.eqv]
  | .str _, .none, _, _ => by simp [PyData.eqv]
  | .str _, .int _, _, _ => by simp [PyData.eqv]
  | .str _, .list _, _, _ => by simp [PyData.eqv]
  | .str _, .tuple _, _, _ => by simp [PyData.eqv]
  | .list _, .none, _, _ => by simp [PyData.eqv]
  | .list _, .int _, _, _ => by simp [PyData.eqv]
  | .list _, .str _, _, _ => by simp [PyData.eqv]
  | .list _, .tuple _, _, _ => by simp [PyData.eqv]
  | .tuple _, .none, _, _ => by simp [PyData.eqv]
  | .tuple _, .int _, _, _ => by simp [PyData.eqv]
  | .tuple _, .str _, _, _ => by simp [PyData.eqv]
  | .tuple _, .list _, _, _ => by simp [PyData.eqv]
theorem eqvs_iff : ∀ (xs ys : List D), nobs xs = true → nobs ys = true → (PyData.eqvAll xs ys = true ↔ xs = ys)
  | [], [], _, _ => by simp [PyData.eqvAll]
  | [], _ :: _, _, _ => by simp [PyData.eqvAll]
  | _ :: _, [], _, _ => by simp [PyData.eqvAll]
  | x :: xs, y :: ys, h, k => by
    simp only [nobs, Bool.and_eq_true] at h k
    simp only [PyData.eqvAll, Bool.and_eq_true, List.cons.injEq]
    rw [eqv_iff x y h.1 k.1, eqvs_iff xs ys h.2 k.2]
end
theorem nobs_all : ∀ {ds : List D}, nobs ds = true ↔ ∀ d ∈ ds, nob d = true
  | [] => by simp [nobs]
  | d :: ds => by simp [nobs, nobs_all (ds := ds)]
/-! ### valid boards -/
structure Bi (s : Sta) : Prop where
  sv : s.sv = 0 ∨ s.sv = 1
  p0 : 0 ≤ s.p0 ∧ s.p0 ≤ 5
  p1 : 0 ≤ s.p1 ∧ s.p1 ≤ 5
  g0 : 0 ≤ s.g0 ∧ s.g0 ≤ 3
  g1 : 0 ≤ s.g1 ∧ s.g1 ≤ 3
  tn : s.tn = 0 ∨ s.tn = 1
inductive Brd : Int → D → Prop
  | two {a b : Int} : 0 ≤ a → a ≤ 3 → 0 ≤ b → b ≤ 3 → Brd 2 (.tuple [.int a, .int b])
  | one {a : Int} : 0 ≤ a → a ≤ 1 → Brd 1 (.int a)
  | all {a b c d e : Int} : 0 ≤ a → a ≤ 1 → 0 ≤ b → b ≤ 5 → 0 ≤ c → c ≤ 5 → 0 ≤ d → d ≤ 3 → 0 ≤ e → e ≤ 3 → Brd 0 (.tuple [.int a, .int b, .int c, .int d, .int e])
theorem Brd.nob {k : Int} {d : D} (h : Brd k d) : Mb.nob d = true := by cases h <;> rfl
theorem Brd.lf {k : Int} {d : D} (h : Brd k d) : Mb.lf d = true := by cases h <;> rfl
theorem Brd.ok {k : Int} {d : D} (h : Brd k d) (n : Nat) : okAt (n + 1) d = true := by cases h <;> simp [okAt]
theorem Brd.k {k : Int} {d : D} (h : Brd k d) : 0 ≤ k ∧ k ≤ 2 := by cases h <;> decide
theorem Bi.brd {s : Sta} (h : Bi s) {k : Int} (h0 : 0 ≤ k) (h1 : k ≤ 2) : Brd k (brdM k s) := by
  have hs : 0 ≤ s.sv ∧ s.sv ≤ 1 := by rcases h.sv with q | q <;> rw [q] <;> decide
  have : k = 0 ∨ k = 1 ∨ k = 2 := by omega
  rcases this with rfl | rfl | rfl
  · exact .all hs.1 hs.2 h.p0.1 h.p0.2 h.p1.1 h.p1.2 h.g0.1 h.g0.2 h.g1.1 h.g1.2
  · exact .one hs.1 hs.2
  · exact .two h.g0.1 h.g0.2 h.g1.1 h.g1.2
theorem serv_sv (r : Ru) (s : Sta) (b : Bool) (g0 g1 : Int) (ov : Bool) (h : s.sv = 0 ∨ s.sv = 1) : (servM r s (rb b) g0 g1 ov).1 = 0 ∨ (servM r s (rb b) g0 g1 ov).1 = 1 := by
  unfold servM
  split
  · cases b
    · exact .inl rfl
    · exact .inr rfl
  · split
    · show (g0 + g1) % 2 = 0 ∨ (g0 + g1) % 2 = 1
      omega
    · split
      · exact h
      · show 1 - s.sv = 0 ∨ 1 - s.sv = 1
        omega
theorem step_sv {r : Ru} {s : Sta} (h : s.sv = 0 ∨ s.sv = 1) (b : Bool) : (stepM r s b).sv = 0 ∨ (stepM r s b).sv = 1 := by
  have q := fun g0 g1 ov => serv_sv r s b g0 g1 ov h
  unfold stepM
  cases b <;> simp only [Bool.false_eq_true, if_false, if_true] <;> (repeat' split) <;> first | exact h | exact q _ _ _
theorem run_sv {r : Ru} : ∀ (bs : List Bool) {s : Sta}, (s.sv = 0 ∨ s.sv = 1) → ((afterM r s bs).sv = 0 ∨ (afterM r s bs).sv = 1)
  | [], _, h => h
  | b :: bs, s, h => by
    show (afterM r (stepM r s b) bs).sv = 0 ∨ (afterM r (stepM r s b) bs).sv = 1
    exact run_sv bs (step_sv h b)
/-- a state that comes -/
structure Com (r : Ru) (s : Sta) : Prop where
  i : StI r s
  v : Iv r s
  sv : s.sv = 0 ∨ s.sv = 1
theorem com_start {r : Ru} (hr : r.ok) : Com r .start := ⟨sti_start hr, iv_start hr, .inl rfl⟩
theorem com_step {r : Ru} (hr : r.ok) {s : Sta} (h : Com r s) (b : Bool) : Com r (stepM r s b) := ⟨sti_step hr h.i b, (step_iv hr h.v b).1, step_sv h.sv b⟩
theorem com_run {r : Ru} (hr : r.ok) : ∀ (bs : List Bool) {s : Sta}, Com r s → Com r (afterM r s bs)
  | [], _, h => h
  | b :: bs, s, h => by
    show Com r (afterM r (stepM r s b) bs)
    exact com_run hr bs (com_step hr h b)
theorem fold_le_m {m a b : Int} (h : ¬ (m ≤ a ∧ b + 2 ≤ a) ∧ ¬ (m ≤ b ∧ a + 2 ≤ b)) : (foldL .two m a b).1 ≤ m ∧ (foldL .two m a b).2 ≤ m := by
  have emin : ∀ a b : Int, min a b = if a ≤ b then a else b := fun a b => Int.min_def a b
  simp only [foldL, emin, decide_true, Bool.not_true, Bool.false_or, decide_eq_true_eq]
  (repeat' split) <;> (try dsimp only) <;> (try omega) <;> (constructor <;> (repeat' split) <;> omega)
theorem Com.bi {r : Ru} (hr : r.ok) {s : Sta} (h : Com r s) : Bi s := by
  have hw := want_ge hr s.g0 s.g1
  have hg := hr.2.2.2
  have i := h.i.i
  have pm : s.p0 ≤ wantG r s.g0 s.g1 ∧ s.p1 ≤ wantG r s.g0 s.g1 := by
    cases hl : r.l with
    | one => have := i.one hl; exact ⟨Int.le_of_lt this.1, Int.le_of_lt this.2⟩
    | cap => exact i.cap hl
    | two =>
      have q := fold_le_m (i.two hl)
      have e := h.i.s
      have e0 : (foldL r.l (wantG r s.g0 s.g1) s.p0 s.p1).1 = s.p0 := congrArg Sta.p0 e
      have e1 : (foldL r.l (wantG r s.g0 s.g1) s.p0 s.p1).2 = s.p1 := congrArg Sta.p1 e
      rw [hl] at e0 e1
      have q : (foldL .two (wantG r s.g0 s.g1) s.p0 s.p1).1 ≤ wantG r s.g0 s.g1 ∧ (foldL .two (wantG r s.g0 s.g1) s.p0 s.p1).2 ≤ wantG r s.g0 s.g1 := q
      rw [e0, e1] at q
      exact q
  exact ⟨h.sv, ⟨h.v.p0, by omega⟩, ⟨h.v.p1, by omega⟩, ⟨h.v.g0, by have := h.v.a; omega⟩, ⟨h.v.g1, by have := h.v.b; omega⟩, i.tn⟩
/-- the boards of a row -/
def bdL (r : Ru) (bs : List Bool) (k : Int) : List D := (runM r .start bs).map (brdM k)
theorem bdL_length (r : Ru) (bs : List Bool) (k : Int) : (bdL r bs k).length = bs.length := by rw [bdL, List.length_map, runM_length]
theorem bdL_get (r : Ru) (bs : List Bool) (k : Int) (j : Nat) (h : j < bs.length) : (bdL r bs k)[j]? = some (brdM k (afterM r .start (bs.take (j + 1)))) := by
  unfold bdL
  rw [List.getElem?_map]
  have := stsM_get r bs .start (j + 1) (by omega)
  rw [List.getElem?_cons_succ] at this
  rw [this]; rfl
theorem bdL_brd {r : Ru} (hr : r.ok) (bs : List Bool) {k : Int} (h0 : 0 ≤ k) (h1 : k ≤ 2) : ∀ d ∈ bdL r bs k, Brd k d := by
  intro d hd
  obtain ⟨j, hj, e⟩ := List.getElem_of_mem hd
  have hj' : j < bs.length := by rw [bdL_length] at hj; exact hj
  have q := bdL_get r bs k j hj'
  rw [List.getElem?_eq_getElem hj, e] at q
  cases q
  exact ((com_run hr (bs.take (j + 1)) (com_start hr)).bi hr).brd h0 h1
/-- the first place at which two lists differ -/
def fne : Nat → List D → List D → Option Nat
  | i, a :: as, b :: bs => if PyData.eqv a b then fne (i + 1) as bs else some i
  | _, _, _ => none
def optD : Option Nat → D
  | some n => .int (n : Nat)
  | none => .none
theorem fne_head : ∀ (as bs : List D) (i : Nat), as.length = bs.length → fne i as bs = ((List.range' i as.length).filter fun j => !PyData.eqv (as.getD (j - i) .none) (bs.getD (j - i) .none)).head?
  | [], [], _, _ => rfl
  | [], _ :: _, _, h => by simp at h
  | _ :: _, [], _, h => by simp at h
  | a :: as, b :: bs, i, h => by
    have ih := fne_head as bs (i + 1) (by simpa using h)
    rw [fne, List.length_cons, List.range'_succ, List.filter_cons]
    simp only [Nat.sub_self, List.getD_cons_zero]
    cases he : PyData.eqv a b with
    | false => simp
    | true =>
      simp only [if_true, Bool.not_true, Bool.false_eq_true, if_false]
      rw [ih]
      congr 1
      apply List.filter_congr
      intro j hj
      have : i + 1 ≤ j := by simp [List.mem_range'] at hj; omega
      rw [show j - i = (j - (i + 1)) + 1 by omega, List.getD_cons_succ, List.getD_cons_succ]
/-- the first that is some -/
def fso : Nat → List (Option Nat) → Option (Nat × Nat)
  | _, [] => none
  | i, none :: r => fso (i + 1) r
  | i, some b :: _ => some (i, b)
def pairD : Option (Nat × Nat) → D
  | some p => .tuple [.int (p.1 : Nat), .int (p.2 : Nat)]
  | none => .none
theorem fso_head : ∀ (us : List (Option Nat)) (i : Nat), (fso i us).map (·.1) = ((List.range' i us.length).filter fun j => (us.getD (j - i) none).isSome).head?
  | [], _ => rfl
  | u :: us, i => by
    have ih := fso_head us (i + 1)
    have tail : ((List.range' (i + 1) us.length).filter fun j => ((u :: us).getD (j - i) none).isSome) = (List.range' (i + 1) us.length).filter fun j => (us.getD (j - (i + 1)) none).isSome := by
      apply List.filter_congr
      intro j hj
      have : i + 1 ≤ j := by simp [List.mem_range'] at hj; omega
      rw [show j - i = (j - (i + 1)) + 1 by omega, List.getD_cons_succ]
    rw [List.length_cons, List.range'_succ, List.filter_cons, tail]
    cases u with
    | none => simp [fso, ih]
    | some b => simp [fso]
theorem fso_get : ∀ (us : List (Option Nat)) (i : Nat) (p : Nat × Nat), fso i us = some p → i ≤ p.1 ∧ us[p.1 - i]? = some (some p.2)
  | [], _, _, h => by cases h
  | none :: us, i, p, h => by
    obtain ⟨h1, h2⟩ := fso_get us (i + 1) p h
    refine ⟨by omega, ?_⟩
    rw [show p.1 - i = (p.1 - (i + 1)) + 1 by omega, List.getElem?_cons_succ]
    exact h2
  | some b :: us, i, p, h => by
    cases h
    simp
theorem fso_none : ∀ (us : List (Option Nat)) (i : Nat), fso i us = none ↔ ∀ u ∈ us, u = none
  | [], _ => by simp [fso]
  | none :: us, i => by simp [fso, fso_none us (i + 1)]
  | some b :: us, i => by simp [fso]
/-- the groups of equal things -/
def grpOf (ts : List D) (d : D) : List Nat := (List.range ts.length).filter fun i => PyData.eqv (ts.getD i .none) d
def fstL (ts : List D) : List Nat := (List.range ts.length).filter fun j => !(ts.take j).any fun z => PyData.eqv z (ts.getD j .none)
def grpL (ts : List D) : List (List Nat) := (fstL ts).map fun j => grpOf ts (ts.getD j .none)
def natsD (ns : List Nat) : D := .list (ns.map fun n => .int (n : Nat))
def grpD (gs : List (List Nat)) : D := .list (gs.map natsD)
theorem okAt_nats (n : Nat) (ns : List Nat) : okAt (n + 1) (natsD ns) = true := by
  unfold natsD
  rw [okAt, List.all_map, List.all_eq_true]
  intro x _
  simp [okAt]
theorem shp_nats (ns : List Nat) : shp (natsD ns) = true := okAt_nats 39 ns
theorem shp_grp (gs : List (List Nat)) : shp (grpD gs) = true := shp_list fun d h => by
  obtain ⟨g, _, rfl⟩ := List.mem_map.mp h
  exact okAt_nats 38 g
/-! ### loops over a list -/
theorem for_gen {gd : Tgt} {u : Stm} (I : Nat → Envt → Prop) : ∀ {ds : List D} (k0 : Nat), (∀ (k : Nat) (hk : k < ds.length) env, I (k0 + k) env → ∃ env1 env', gd ds[k] env = some env1 ∧ u env1 = .ret (.nx env') ∧ I (k0 + k + 1) env') → ∀ env, I k0 env → ∃ env', sForL gd u ds env = .ret (.nx env') ∧ I (k0 + ds.length) env'
  | [], _, _, env, h => ⟨env, rfl, h⟩
  | d :: ds, k0, hu, env, h => by
    obtain ⟨e0, e1, h0, h1, h2⟩ := hu 0 (Nat.zero_lt_succ _) env h
    obtain ⟨e2, h3, h4⟩ := for_gen I (ds := ds) (k0 + 1) (fun k hk env he => by
      have := hu (k + 1) (Nat.succ_lt_succ hk) env (by rw [show k0 + (k + 1) = k0 + 1 + k by omega]; exact he)
      rw [show k0 + (k + 1) + 1 = k0 + 1 + k + 1 by omega] at this
      exact this) e1 h2
    refine ⟨e2, ?_, by rw [List.length_cons, show k0 + (ds.length + 1) = k0 + 1 + ds.length by omega]; exact h4⟩
    have h0 : gd d env = some e0 := h0
    show (ofO (gd d env)).bind _ = _
    rw [h0]
    show (u e0).bind _ = _
    rw [h1]
    exact h3
theorem seq_for_gen {gd : Tgt} {u v : Stm} {src : Envt → Tr (List D)} {env : Envt} {o : Tr Out} (ds : List D) (I : Nat → Envt → Prop) (h1 : src env = .ret ds) (h0 : I 0 env)
    (hu : ∀ (k : Nat) (hk : k < ds.length) env, I k env → ∃ env1 env', gd ds[k] env = some env1 ∧ u env1 = .ret (.nx env') ∧ I (k + 1) env') (hv : ∀ env', I ds.length env' → v env' = o) : sSeq (sFor src gd u) v env = o := by
  obtain ⟨env', e1, e2⟩ := for_gen I (ds := ds) 0 (fun k hk env he => by rw [Nat.zero_add] at he ⊢; exact hu k hk env he) env h0
  rw [Nat.zero_add] at e2
  exact eval_seq env' (eval_for _ h1 e1) (hv env' e2)
/-- .. with draws -/
theorem all_for_gen {gd : Tgt} {u : Stm} {E : Nat → Prop} {P : Out → Prop} (I : Nat → Envt → Prop) : ∀ {ds : List D} (k0 : Nat), (∀ (k : Nat) (hk : k < ds.length) env, I (k0 + k) env → ∃ env1, gd ds[k] env = some env1 ∧ (u env1).all (fun o => ∃ env', o = .nx env' ∧ I (k0 + k + 1) env') E) → (∀ env, I (k0 + ds.length) env → P (.nx env)) → ∀ env, I k0 env → (sForL gd u ds env).all P E
  | [], _, _, hP, env, h => hP env h
  | d :: ds, k0, hu, hP, env, h => by
    obtain ⟨e0, h0, h1⟩ := hu 0 (Nat.zero_lt_succ _) env h
    have h0 : gd d env = some e0 := h0
    show ((ofO (gd d env)).bind _).all P E
    rw [h0]
    show ((u e0).bind _).all P E
    refine Tr.bind_all (Tr.all_mono (fun o z => ?_) (fun _ z => z) h1)
    obtain ⟨e1, rfl, h2⟩ := z
    refine all_for_gen I (ds := ds) (k0 + 1) (fun k hk env he => ?_) (fun env he => hP env ?_) e1 h2
    · have := hu (k + 1) (Nat.succ_lt_succ hk) env (by rw [show k0 + (k + 1) = k0 + 1 + k by omega]; exact he)
      rw [show k0 + (k + 1) + 1 = k0 + 1 + k + 1 by omega] at this
      exact this
    · rw [List.length_cons, show k0 + (ds.length + 1) = k0 + 1 + ds.length by omega]; exact he
theorem all_sFor {gd : Tgt} {u : Stm} {E : Nat → Prop} {P : Out → Prop} {src : Envt → Tr (List D)} {env : Envt} (h : (src env).all (fun ds => (sForL gd u ds env).all P E) E) : (sFor src gd u env).all P E := by
  rw [ap_sFor]
  exact Tr.bind_all h
theorem all_wArg {fn : List D → Option (List D)} {ga : Envt → Tr (List Ent)} {env : Envt} {E : Nat → Prop} {S : List D → Prop} (h : (ga env).all (fun es => ∃ ds, (fzs es).bind fn = some ds ∧ S ds) E) : (wArg fn ga env).all S E := by
  rw [ap_wArg]
  exact Tr.bind_all (Tr.all_mono (fun es ⟨ds, h1, h2⟩ => by rw [h1]; exact h2) (fun _ z => z) h)
/-- a comprehension with draws in it -/
theorem all_lcRun {gd : Tgt} {f : Envt → Tr D} {env : Envt} {S : D → Prop} : ∀ {ds : List D} {P : List D → Prop}, (∀ d ∈ ds, ∃ env1, gd d env = some env1 ∧ (f env1).all S (fun _ => False)) → (∀ ys, ys.length = ds.length → (∀ y ∈ ys, S y) → P ys) → (lcRun gd bYes f env ds).all P (fun _ => False)
  | [], P, _, h => h [] rfl (by simp)
  | d :: ds, P, hd, h => by
    obtain ⟨e1, h1, h2⟩ := hd d List.mem_cons_self
    show ((ofO (gd d env)).bind fun env1 => (bYes env1).bind fun b => if b then (f env1).bind fun y => (lcRun gd bYes f env ds).bind fun ys => .ret (y :: ys) else lcRun gd bYes f env ds).all P _
    rw [h1]
    show ((f e1).bind fun y => (lcRun gd bYes f env ds).bind fun ys => .ret (y :: ys)).all P _
    refine Tr.bind_all (Tr.all_mono (fun y hy => Tr.bind_all ?_) (fun _ z => z) h2)
    exact all_lcRun (fun d hd' => hd d (List.mem_cons_of_mem _ hd')) fun ys hl hys => h (y :: ys) (by simp [hl]) fun z hz => (List.mem_cons.mp hz).elim (fun q => q ▸ hy) (hys z)
theorem noExc_of {α : Type} {P : α → Prop} {E : Nat → Prop} : ∀ {t : Tr α}, t.all P (fun _ => False) → (noExc t).all P E
  | .ret _, h => h
  | .exc _, h => h.elim
  | .bad, h => h
  | .draw _ _, h => fun r hr => noExc_of (h r hr)
theorem all_nLc {vs : List Nat} {src : Envt → Tr (List D)} {gd : Tgt} {f : Envt → Tr D} {env : Envt} {E : Nat → Prop} {P : List D → Prop} (h : (src env).all (fun ds => ds.length ≤ 1000 ∧ noOw env vs = true ∧ (lcRun gd bYes f (wipeE env vs) ds).all P (fun _ => False)) E) : (nLc vs src gd bYes f env).all P E := by
  rw [ap_nLc]
  exact Tr.bind_all (Tr.all_mono (fun ds ⟨h1, h2, h3⟩ => by rw [small_of (by omega), h2]; exact noExc_of h3) (fun _ z => z) h)
theorem all_vL {fl : Envt → Tr (List D)} {env : Envt} {E : Nat → Prop} {Q : D → Prop} (h : (fl env).all (fun ds => Q (.list ds)) E) : (vL fl env).all Q E := by
  rw [ap_vL]
  exact Tr.bind_all h
/-! ### numbered things -/
theorem enum_eq (ds : List D) : enumD [.list ds] = some ((List.range ds.length).map fun j => .tuple [.int (j : Nat), ds.getD j .none]) := by
  show some (((List.range ds.length).zip ds).map fun p => PyData.tuple [.int (p.1 : Nat), p.2]) = _
  congr 1
  apply List.ext_getElem
  · simp
  · intro k h1 h2
    have : k < ds.length := by simp at h2; exact h2
    simp [this]
theorem getD_map {α : Type} (f : α → D) (l : List α) (j : Nat) (h : j < l.length) (x : D) : (l.map f).getD j x = f l[j] := by
  simp [List.getD, h]
theorem dIx_list {ds : List D} {j : Nat} (h : j < ds.length) : dIx (.list ds) (.int (j : Nat)) = some (ds.getD j .none) := by
  refine dIx_nat ?_
  rw [List.getElem?_eq_getElem h]; simp [List.getD, h]
theorem fso_filt : ∀ (us : List (Option Nat)) (i : Nat), ((List.range' i us.length).filter fun j => (us.getD (j - i) none).isSome).head? = (fso i us).map (·.1) := fun us i => (fso_head us i).symm
theorem range'_0 (n : Nat) : List.range' 0 n = List.range n := (List.range_eq_range').symm
theorem fso_nil {us : List (Option Nat)} (h : fso 0 us = none) : ((List.range us.length).filter fun j => (us.getD j none).isSome) = [] := by
  rw [List.filter_eq_nil_iff]
  intro j hj q
  have hj : j < us.length := by simpa using hj
  have := (fso_none us 0).mp h us[j] (List.getElem_mem hj)
  rw [List.getD_eq_getElem?_getD, List.getElem?_eq_getElem hj, this] at q
  cases q
theorem fso_cons {us : List (Option Nat)} {p : Nat × Nat} (h : fso 0 us = some p) : (∃ rest, ((List.range us.length).filter fun j => (us.getD j none).isSome) = p.1 :: rest) ∧ p.1 < us.length ∧ us.getD p.1 none = some p.2 := by
  obtain ⟨_, h2⟩ := fso_get us 0 p h
  rw [Nat.sub_zero] at h2
  have hl := (List.getElem?_eq_some_iff.mp h2).1
  refine ⟨?_, hl, by rw [List.getD_eq_getElem?_getD, h2]; rfl⟩
  have e := fso_head us 0
  rw [h, range'_0] at e
  simp only [Nat.sub_zero, Option.map_some] at e
  cases hq : (List.range us.length).filter fun j => (us.getD j none).isSome with
  | nil => rw [hq] at e; cases e
  | cons a l => rw [hq] at e; cases e; exact ⟨l, rfl⟩
theorem fne_list (as bs : List D) (h : as.length = bs.length) : fne 0 as bs = ((List.range as.length).filter fun j => !PyData.eqv (as.getD j .none) (bs.getD j .none)).head? := by
  have e := fne_head as bs 0 h
  rw [range'_0] at e
  simpa using e
theorem okAt_mono : ∀ {n m : Nat} {d : D}, n ≤ m → okAt n d = true → okAt m d = true := by
  intro n
  induction n with
  | zero =>
    intro m d _ h
    cases d with
    | list _ => simp [okAt] at h
    | tuple _ => simp [okAt] at h
    | dict _ => simp [okAt] at h
    | str x => cases m <;> simpa [okAt] using h
    | _ => cases m <;> simp [okAt]
  | succ n ih =>
    intro m d hm h
    cases m with
    | zero => omega
    | succ m =>
      cases d with
      | list xs =>
        rw [okAt, List.all_eq_true] at h ⊢
        exact fun x hx => ih (by omega) (h x hx)
      | tuple xs =>
        rw [okAt, List.all_eq_true] at h ⊢
        exact fun x hx => ih (by omega) (h x hx)
      | dict _ => simp [okAt] at h
      | str x => simpa [okAt] using h
      | _ => simp [okAt]
theorem dNotIn_l {d : D} {ds : List D} (h1 : shp d = true) (h2 : shp (.list ds) = true) : dNotIn d (.list ds) = some (.bool (!ds.any fun z => PyData.eqv z d)) := by
  have : dNotIn d (.list ds) = if shp d && shp (.list ds) then some (.bool (!ds.any fun z => PyData.eqv z d)) else none := by cases d <;> rfl
  rw [this, h1, h2]; rfl
theorem dIn_l {d : D} {ds : List D} (h1 : shp d = true) (h2 : shp (.list ds) = true) : dIn d (.list ds) = some (.bool (ds.any fun z => PyData.eqv z d)) := by
  have : dIn d (.list ds) = if shp d && shp (.list ds) then some (.bool (ds.any fun z => PyData.eqv z d)) else none := by cases d <;> rfl
  rw [this, h1, h2]; rfl
theorem all_seq_for {gd : Tgt} {u v : Stm} {src : Envt → Tr (List D)} {env : Envt} {P : Out → Prop} {E : Nat → Prop} (ds : List D) (I : Nat → Envt → Prop) (h1 : src env = .ret ds) (h0 : I 0 env)
    (hu : ∀ (k : Nat) (hk : k < ds.length) env, I k env → ∃ env1 env', gd ds[k] env = some env1 ∧ u env1 = .ret (.nx env') ∧ I (k + 1) env') (hv : ∀ env', I ds.length env' → (v env').all P E) : (sSeq (sFor src gd u) v env).all P E := by
  obtain ⟨env', e1, e2⟩ := for_gen I (ds := ds) 0 (fun k hk env he => by rw [Nat.zero_add] at he ⊢; exact hu k hk env he) env h0
  rw [Nat.zero_add] at e2
  exact all_seq env' (eval_for _ h1 e1) (hv env' e2)
/-- a loop with draws, then the rest -/
theorem all_seq_forD {gd : Tgt} {u v : Stm} {src : Envt → Tr (List D)} {env : Envt} {P : Out → Prop} {E : Nat → Prop} (I : Nat → Envt → Prop)
    (h : (src env).all (fun ds => I 0 env ∧ (∀ (k : Nat) (hk : k < ds.length) env, I k env → ∃ env1, gd ds[k] env = some env1 ∧ (u env1).all (fun o => ∃ env', o = .nx env' ∧ I (k + 1) env') E) ∧ ∀ env', I ds.length env' → (v env').all P E) E) : (sSeq (sFor src gd u) v env).all P E := by
  refine all_sSeq (all_sFor (Tr.all_mono (fun ds ⟨h0, hu, hv⟩ => ?_) (fun _ z => z) h))
  refine all_for_gen I 0 (fun k hk env he => ?_) (fun env he => ?_) env h0
  · rw [Nat.zero_add] at he ⊢; exact hu k hk env he
  · rw [Nat.zero_add] at he; exact hv env he
theorem all_sFz {i : Nat} {u : Stm} {env : Envt} {P : Out → Prop} {E : Nat → Prop} {ds : List D} (he : env[i]? = some (.ow ds)) (h : (u (env.set i (.fz (.list ds)))).all P E) : (sFz i u env).all P E := by
  rw [ap_sFz, he]; exact h
theorem all_sFzN {i : Nat} {u : Stm} {env : Envt} {P : Out → Prop} {E : Nat → Prop} {d : D} (he : env[i]? = some (.fz d)) (h : (u env).all P E) : (sFz i u env).all P E := by
  rw [ap_sFz, he]; exact h
theorem ap_sPut (i : Nat) (gi f : Envt → Tr D) (env : Envt) : sPut i gi f env = (f env).bind fun d => match env[i]? with
  | some (.ow ds) => (gi env).bind fun j => match j with
    | .int j => match ixN ds.length j with
      | some n => .ret (.nx (env.set i (.ow (ds.set n d))))
      | none => .bad
    | _ => .bad
  | _ => .bad := rfl
theorem ixN_nat {n j : Nat} (h : j < n) : ixN n (j : Int) = some j := by
  unfold ixN
  rw [if_pos (by omega), if_pos (by omega)]
  rfl
theorem all_sPut {i : Nat} {gi f : Envt → Tr D} {env : Envt} {P : Out → Prop} {E : Nat → Prop} {ds : List D} {j : Nat} (he : env[i]? = some (.ow ds)) (hj : gi env = .ret (.int (j : Nat))) (hl : j < ds.length) (h : (f env).all (fun d => P (.nx (env.set i (.ow (ds.set j d))))) E) : (sPut i gi f env).all P E := by
  rw [ap_sPut]
  refine Tr.bind_all (Tr.all_mono (fun d z => ?_) (fun _ z => z) h)
  simp only [he, hj, bind_ret, ixN_nat hl]
  exact z
theorem all_bAnd {c k : Envt → Tr Bool} {env : Envt} {S : Bool → Prop} {E : Nat → Prop} (h : (c env).all (fun b => if b then (k env).all S E else S false) E) : (bAnd c k env).all S E := by
  rw [ap_bAnd]
  exact Tr.bind_all (Tr.all_mono (fun b z => by cases b <;> exact z) (fun _ z => z) h)
theorem all_bOr {c k : Envt → Tr Bool} {env : Envt} {S : Bool → Prop} {E : Nat → Prop} (h : (c env).all (fun b => if b then S true else (k env).all S E) E) : (bOr c k env).all S E := by
  rw [ap_bOr]
  exact Tr.bind_all (Tr.all_mono (fun b z => by cases b <;> exact z) (fun _ z => z) h)
/-- the draws below a number -/
theorem all_draw {i : Nat} {f : Envt → Tr D} {env : Envt} {Q : D → Prop} {E : Nat → Prop} {n : Nat} (hd : env[i]? = some .dr) (hf : f env = .ret (.int (n : Nat))) (h0 : 0 < n) (h1 : n < 1000000) (h : ∀ k : Nat, k < n → Q (.int (k : Nat))) : (vCall 2 mDraw (aDr i (aCons f aNil)) env).all Q E := by
  refine all_dr2 hd (all_ret hf ?_)
  have e : mDraw [.dr, .fz (.int (n : Nat))] = .draw n fun r => .ret (.int (r : Nat)) := by
    show (if decide (0 < (n : Int)) && decide ((n : Int) < 1073741824) then Tr.draw (n : Int).toNat (fun r => Tr.ret (PyData.int (r : Nat))) else Tr.bad) = _
    rw [decide_eq_true (by omega), decide_eq_true (by omega)]; simp
  rw [e]
  exact fun r hr => h r hr
/-- a list of rules drawn -/
theorem rules_of : ∀ {ys : List D}, (∀ y ∈ ys, ∃ r : Ru, r.ok ∧ y = r.e) → ∃ rs : List Ru, ys = rs.map Ru.e ∧ ∀ r ∈ rs, r.ok
  | [], _ => ⟨[], rfl, by simp⟩
  | y :: ys, h => by
    obtain ⟨r, h1, h2⟩ := h y List.mem_cons_self
    obtain ⟨rs, h3, h4⟩ := rules_of (ys := ys) fun z hz => h z (List.mem_cons_of_mem _ hz)
    exact ⟨r :: rs, by rw [h2, h3]; rfl, fun z hz => (List.mem_cons.mp hz).elim (fun q => q ▸ h1) (h4 z)⟩
theorem rangeD_0 (n : Nat) : rangeD 0 n = (List.range n).map fun i => PyData.int (i : Nat) := by
  unfold rangeD
  apply List.map_congr_left
  intro i _
  rw [Int.zero_add]
theorem eq_shp {a b : D} (ha : shp a = true) (hb : shp b = true) : dEq a b = some (.bool (PyData.eqv a b)) := by
  unfold dEq
  rw [ha, hb]; rfl
theorem ne_shp {a b : D} (ha : shp a = true) (hb : shp b = true) : dNe a b = some (.bool (!PyData.eqv a b)) := by
  unfold dNe
  rw [ha, hb]; rfl
theorem fne_none : ∀ (as bs : List D) (i : Nat), as.length = bs.length → (∀ d ∈ as, nob d = true) → (∀ d ∈ bs, nob d = true) → (fne i as bs = none ↔ as = bs)
  | [], [], _, _, _, _ => by simp [fne]
  | [], _ :: _, _, h, _, _ => by simp at h
  | _ :: _, [], _, h, _, _ => by simp at h
  | a :: as, b :: bs, i, h, ha, hb => by
    have ih := fne_none as bs (i + 1) (by simpa using h) (fun d q => ha d (List.mem_cons_of_mem _ q)) (fun d q => hb d (List.mem_cons_of_mem _ q))
    have e := eqv_iff a b (ha a List.mem_cons_self) (hb b List.mem_cons_self)
    rw [fne]
    cases he : PyData.eqv a b with
    | true =>
      have := e.mp he
      subst this
      simp [ih]
    | false =>
      have ne : a ≠ b := fun q => by rw [e.mpr q] at he; cases he
      simp [ne]
theorem fst_ex (ts : List D) (hn : ∀ d ∈ ts, nob d = true) : ∀ i, i < ts.length → ∃ j, j ∈ fstL ts ∧ ts.getD j .none = ts.getD i .none := by
  intro i
  induction i using Nat.strongRecOn with
  | ind i ih =>
    intro hi
    by_cases hf : i ∈ fstL ts
    · exact ⟨i, hf, rfl⟩
    · have : ((ts.take i).any fun z => PyData.eqv z (ts.getD i .none)) = true := by
        unfold fstL at hf
        rw [List.mem_filter] at hf
        cases hq : (ts.take i).any fun z => PyData.eqv z (ts.getD i .none) with
        | true => rfl
        | false => exact absurd ⟨by simpa using hi, by simp only [hq, Bool.not_false]⟩ hf
      obtain ⟨z, hz, he⟩ := List.any_eq_true.mp this
      obtain ⟨i', hi', ez⟩ := List.getElem_of_mem hz
      have l1 : i' < i := by simp at hi'; omega
      have e2 : z = ts.getD i' .none := by
        rw [← ez, List.getElem_take]
        simp [List.getD, show i' < ts.length by omega]
      have m1 : ts.getD i .none ∈ ts := by simp [List.getD, hi]
      have e3 := (eqv_iff z (ts.getD i .none) (hn z (List.mem_of_mem_take hz)) (hn _ m1)).mp he
      obtain ⟨j, h1, h2⟩ := ih i' l1 (by omega)
      exact ⟨j, h1, by rw [h2, ← e2, e3]⟩
theorem mem_grp (ts : List D) (hn : ∀ d ∈ ts, nob d = true) {i j : Nat} (hi : i < ts.length) (hj : j < ts.length) : i ∈ grpOf ts (ts.getD j .none) ↔ ts.getD i .none = ts.getD j .none := by
  have m1 : ts.getD i .none ∈ ts := by simp [List.getD, hi]
  have m2 : ts.getD j .none ∈ ts := by simp [List.getD, hj]
  unfold grpOf
  rw [List.mem_filter]
  constructor
  · rintro ⟨_, h⟩
    exact (eqv_iff _ _ (hn _ m1) (hn _ m2)).mp h
  · intro h
    exact ⟨by simpa using hi, (eqv_iff _ _ (hn _ m1) (hn _ m2)).mpr h⟩
/-- the groups that hold a place: all are its own -/
theorem grp_hid (ts : List D) (hn : ∀ d ∈ ts, nob d = true) {h : Nat} (hh : h < ts.length) : ∃ rest, (grpL ts).filter (fun g => decide (h ∈ g)) = grpOf ts (ts.getD h .none) :: rest := by
  obtain ⟨j, hj, ej⟩ := fst_ex ts hn h hh
  have all : ∀ g ∈ (grpL ts).filter (fun g => decide (h ∈ g)), g = grpOf ts (ts.getD h .none) := by
    intro g hg
    obtain ⟨h1, h2⟩ := List.mem_filter.mp hg
    obtain ⟨i, hi, rfl⟩ := List.mem_map.mp h1
    have hil : i < ts.length := by
      have := (List.mem_filter.mp hi).1
      simpa using this
    have := (mem_grp ts hn hh hil).mp (of_decide_eq_true h2)
    rw [this]
  have ne : grpOf ts (ts.getD h .none) ∈ (grpL ts).filter (fun g => decide (h ∈ g)) := by
    rw [List.mem_filter]
    refine ⟨List.mem_map.mpr ⟨j, hj, by rw [ej]⟩, decide_eq_true ?_⟩
    exact (mem_grp ts hn hh hh).mpr rfl
  cases hq : (grpL ts).filter (fun g => decide (h ∈ g)) with
  | nil => rw [hq] at ne; cases ne
  | cons g rest =>
    rw [hq] at all
    exact ⟨rest, by rw [all g List.mem_cons_self]⟩
theorem nats_any (g : List Nat) (h : Nat) : ((g.map fun n => PyData.int (n : Nat)).any fun z => PyData.eqv z (.int (h : Nat))) = decide (h ∈ g) := by
  rw [Bool.eq_iff_iff, List.any_eq_true, decide_eq_true_eq]
  constructor
  · rintro ⟨z, hz, he⟩
    obtain ⟨n, hn, rfl⟩ := List.mem_map.mp hz
    simp only [PyData.eqv, beq_iff_eq] at he
    have : n = h := by omega
    rw [← this]; exact hn
  · intro hg
    exact ⟨_, List.mem_map.mpr ⟨h, hg, rfl⟩, by simp [PyData.eqv]⟩
theorem fz1 {fn : List D → Option (List D)} {x : D} {l : List D} (h : fn [x] = some l) : (fzs [.fz x]).bind fn = some l := h
end Mb

namespace Mb
open PySem L2
/-! ### all ends, as a thing of its own -/
structure Tr.ok {α : Type} (t : Tr α) (P : α → Prop) (E : Nat → Prop) : Prop where
  h : t.all P E
theorem Tr.ok_mono {α : Type} {P P' : α → Prop} {E E' : Nat → Prop} {t : Tr α} (hp : ∀ a, P a → P' a) (he : ∀ c, E c → E' c) (h : t.ok P E) : t.ok P' E' := ⟨Tr.all_mono hp he h.h⟩
theorem Tr.ok_bind {α β : Type} {P : β → Prop} {E : Nat → Prop} {f : α → Tr β} {t : Tr α} (h : t.ok (fun a => (f a).ok P E) E) : (t.bind f).ok P E := ⟨Tr.bind_all (Tr.all_mono (fun _ z => z.h) (fun _ z => z) h.h)⟩
section
variable {P : Out → Prop} {Q : D → Prop} {R : List Ent → Prop} {S : Bool → Prop} {E : Nat → Prop} {env : Envt} {f g : Envt → Tr D} {ga : Envt → Tr (List Ent)} {u v : Stm} {i n : Nat} {m : List Ent → Tr D} {c k : Envt → Tr Bool}
theorem ok_ret {α : Type} {t : Tr α} {a : α} {S : α → Prop} (h : t = .ret a) (k : S a) : t.ok S E := ⟨all_ret h k⟩
theorem ok_exc {α : Type} {t : Tr α} {c : Nat} {S : α → Prop} (h : t = .exc c) (k : E c) : t.ok S E := ⟨by rw [h]; exact k⟩
theorem ok_sSeq (h : (u env).ok (fun o => match o with | .nx e => (v e).ok P E | .rt d => P (.rt d) | .bk e => P (.bk e) | .ct e => P (.ct e)) E) : (sSeq u v env).ok P E :=
  ⟨all_sSeq (Tr.all_mono (fun o z => by cases o <;> first | exact Tr.ok.h z | exact z) (fun _ z => z) h.h)⟩
theorem ok_seq (env' : Envt) (h1 : u env = .ret (.nx env')) (h2 : (v env').ok P E) : (sSeq u v env).ok P E := ⟨all_seq env' h1 h2.h⟩
theorem ok_sPar {is : List Nat} (h : (ga env).ok (fun es => es.length = is.length ∧ P (.nx (setAll env is es))) E) : (sPar is ga env).ok P E := ⟨all_sPar h.h⟩
theorem ok_sSet (h : (f env).ok (fun d => P (.nx (env.set i (.fz d)))) E) : (sSet i f env).ok P E := ⟨all_sSet h.h⟩
theorem ok_sRet (h : (f env).ok (fun d => P (.rt d)) E) : (sRet f env).ok P E := ⟨all_sRet h.h⟩
theorem ok_sIf (h : (c env).ok (fun b => if b then (u env).ok P E else (v env).ok P E) E) : (sIf c u v env).ok P E := ⟨all_sIf (Tr.all_mono (fun b z => by cases b <;> exact Tr.ok.h z) (fun _ z => z) h.h)⟩
theorem ok_ifT (h : c env = .ret true) (k : (u env).ok P E) : (sIf c u v env).ok P E := ok_sIf (ok_ret h k)
theorem ok_ifF (h : c env = .ret false) (k : (v env).ok P E) : (sIf c u v env).ok P E := ok_sIf (ok_ret h k)
theorem ok_sNil (h : P (.nx env)) : (sNil env).ok P E := ⟨h⟩
theorem ok_aCons (h : (f env).ok (fun d => (ga env).ok (fun es => R (.fz d :: es)) E) E) : (aCons f ga env).ok R E := ⟨all_aCons (Tr.all_mono (fun _ z => z.h) (fun _ z => z) h.h)⟩
theorem ok_aNil (h : R []) : (aNil env).ok R E := ⟨h⟩
theorem ok_aDr (hd : env[i]? = some .dr) (h : (ga env).ok (fun es => R (.dr :: es)) E) : (aDr i ga env).ok R E := ⟨all_aDr hd h.h⟩
theorem ok_vCall (h : (ga env).ok (fun es => es.length = n ∧ (m es).ok Q E) E) : (vCall n m ga env).ok Q E := ⟨all_vCall (Tr.all_mono (fun _ z => ⟨z.1, z.2.h⟩) (fun _ z => z) h.h)⟩
theorem ok_v2 {op : D → D → Option D} (h : (f env).ok (fun d => (g env).ok (fun e => ∃ z, op d e = some z ∧ Q z) E) E) : (v2 op f g env).ok Q E := ⟨all_v2 (Tr.all_mono (fun _ z => z.h) (fun _ z => z) h.h)⟩
theorem ok_vIf (h : (c env).ok (fun b => if b then (f env).ok Q E else (g env).ok Q E) E) : (vIf c f g env).ok Q E := ⟨all_vIf (Tr.all_mono (fun b z => by cases b <;> exact Tr.ok.h z) (fun _ z => z) h.h)⟩
theorem ok_vT (h : (f env).ok (fun d => ∃ b, d = .bool b ∧ S b) E) : (vT f env).ok S E := ⟨all_vT h.h⟩
theorem ok_vTup (h : (ga env).ok (fun es => ∃ ds, fzs es = some ds ∧ ds.length ≤ 1000 ∧ Q (.tuple ds)) E) : (vTup ga env).ok Q E := ⟨all_vTup h.h⟩
theorem ok_dr1 (hd : env[i]? = some .dr) (h : (m [.dr]).ok Q E) : (vCall 1 m (aDr i aNil) env).ok Q E := ⟨all_dr1 hd h.h⟩
theorem ok_dr2 (hd : env[i]? = some .dr) (h : (f env).ok (fun d => (m [.dr, .fz d]).ok Q E) E) : (vCall 2 m (aDr i (aCons f aNil)) env).ok Q E := ⟨all_dr2 hd (Tr.all_mono (fun _ z => z.h) (fun _ z => z) h.h)⟩
theorem ok_bAnd (h : (c env).ok (fun b => if b then (k env).ok S E else S false) E) : (bAnd c k env).ok S E := ⟨all_bAnd (Tr.all_mono (fun b z => by cases b <;> first | exact Tr.ok.h z | exact z) (fun _ z => z) h.h)⟩
theorem ok_bOr (h : (c env).ok (fun b => if b then S true else (k env).ok S E) E) : (bOr c k env).ok S E := ⟨all_bOr (Tr.all_mono (fun b z => by cases b <;> first | exact z | exact Tr.ok.h z) (fun _ z => z) h.h)⟩
theorem ok_draw (hd : env[i]? = some .dr) (hf : f env = .ret (.int (n : Nat))) (h0 : 0 < n) (h1 : n < 1000000) (h : ∀ k : Nat, k < n → Q (.int (k : Nat))) : (vCall 2 mDraw (aDr i (aCons f aNil)) env).ok Q E := ⟨all_draw hd hf h0 h1 h⟩
theorem ok_sFz {ds : List D} (he : env[i]? = some (.ow ds)) (h : (u (env.set i (.fz (.list ds)))).ok P E) : (sFz i u env).ok P E := ⟨all_sFz he h.h⟩
theorem ok_sFzN {d : D} (he : env[i]? = some (.fz d)) (h : (u env).ok P E) : (sFz i u env).ok P E := ⟨all_sFzN he h.h⟩
theorem ok_sPut {gi : Envt → Tr D} {ds : List D} {j : Nat} (he : env[i]? = some (.ow ds)) (hj : gi env = .ret (.int (j : Nat))) (hl : j < ds.length) (h : (f env).ok (fun d => P (.nx (env.set i (.ow (ds.set j d))))) E) : (sPut i gi f env).ok P E := ⟨all_sPut he hj hl h.h⟩
theorem ok_wArg {fn : List D → Option (List D)} {S : List D → Prop} (h : (ga env).ok (fun es => ∃ ds, (fzs es).bind fn = some ds ∧ S ds) E) : (wArg fn ga env).ok S E := ⟨all_wArg h.h⟩
theorem ok_vL {fl : Envt → Tr (List D)} (h : (fl env).ok (fun ds => Q (.list ds)) E) : (vL fl env).ok Q E := ⟨all_vL h.h⟩
theorem ok_nLc {vs : List Nat} {src : Envt → Tr (List D)} {gd : Tgt} {P : List D → Prop} (h : (src env).ok (fun ds => ds.length ≤ 1000 ∧ noOw env vs = true ∧ (lcRun gd bYes f (wipeE env vs) ds).ok P (fun _ => False)) E) : (nLc vs src gd bYes f env).ok P E :=
  ⟨all_nLc (Tr.all_mono (fun _ z => ⟨z.1, z.2.1, z.2.2.h⟩) (fun _ z => z) h.h)⟩
theorem ok_lcRun {gd : Tgt} {S : D → Prop} {ds : List D} {P : List D → Prop} (h1 : ∀ d ∈ ds, ∃ env1, gd d env = some env1 ∧ (f env1).ok S (fun _ => False)) (h2 : ∀ ys, ys.length = ds.length → (∀ y ∈ ys, S y) → P ys) : (lcRun gd bYes f env ds).ok P (fun _ => False) :=
  ⟨all_lcRun (S := S) (fun d hd => let ⟨e, q1, q2⟩ := h1 d hd; ⟨e, q1, q2.h⟩) h2⟩
theorem ok_seq_for {gd : Tgt} {src : Envt → Tr (List D)} (ds : List D) (I : Nat → Envt → Prop) (h1 : src env = .ret ds) (h0 : I 0 env)
    (hu : ∀ (k : Nat) (hk : k < ds.length) env, I k env → ∃ env1 env', gd ds[k] env = some env1 ∧ u env1 = .ret (.nx env') ∧ I (k + 1) env') (hv : ∀ env', I ds.length env' → (v env').ok P E) : (sSeq (sFor src gd u) v env).ok P E := ⟨all_seq_for ds I h1 h0 hu fun e h => (hv e h).h⟩
theorem ok_seq_forD {gd : Tgt} {src : Envt → Tr (List D)} (I : Nat → Envt → Prop)
    (h : (src env).ok (fun ds => I 0 env ∧ (∀ (k : Nat) (hk : k < ds.length) env, I k env → ∃ env1, gd ds[k] env = some env1 ∧ (u env1).ok (fun o => ∃ env', o = .nx env' ∧ I (k + 1) env') E) ∧ ∀ env', I ds.length env' → (v env').ok P E) E) : (sSeq (sFor src gd u) v env).ok P E :=
  ⟨all_seq_forD I (Tr.all_mono (fun ds z => ⟨z.1, fun k hk e he => let ⟨e1, q1, q2⟩ := z.2.1 k hk e he; ⟨e1, q1, q2.h⟩, fun e he => (z.2.2 e he).h⟩) (fun _ z => z) h.h)⟩
theorem law_ok_of {u : Stm} {n : Nat} (h : (u (env0 n)).ok (fun o => o = .rt (.bool true)) (fun _ => False)) : LawOk u n := ⟨h.h⟩
end
end Mb

namespace Mb
open PySem L2
/-! ### counts, the greatest -/
def cnt (ts : List D) (d : D) : Nat := ts.countP fun z => PyData.eqv z d
theorem range_getD (ts : List D) : (List.range ts.length).map (fun i => ts.getD i .none) = ts := by
  apply List.ext_getElem
  · simp
  · intro i h1 h2
    simp [List.getD, h2]
theorem grp_len (ts : List D) (d : D) : (grpOf ts d).length = cnt ts d := by
  unfold grpOf cnt
  rw [← List.countP_eq_length_filter]
  have e := range_getD ts
  generalize hn : ts.length = n at e ⊢
  conv => rhs; rw [← e]
  rw [List.countP_map]
  rfl
theorem asInts_map : ∀ l : List Int, asInts (l.map PyData.int) = some l
  | [] => rfl
  | x :: l => by
    show (asInts (l.map PyData.int)).map (x :: ·) = _
    rw [asInts_map l]; rfl
theorem maxL_spec {l : List Int} (h : l ≠ []) : ∃ m, maxL l = some m ∧ m ∈ l ∧ ∀ x ∈ l, x ≤ m := by
  cases l with
  | nil => exact absurd rfl h
  | cons x r =>
    obtain ⟨h1, h2⟩ := foldMax r x
    exact ⟨_, rfl, h1, h2⟩
theorem maxL_set {l l' : List Int} (h : l ≠ []) (hs : ∀ x, x ∈ l ↔ x ∈ l') : maxL l = maxL l' := by
  have h' : l' ≠ [] := fun e => by
    cases l with
    | nil => exact h rfl
    | cons x r =>
      have := (hs x).mp List.mem_cons_self
      rw [e] at this; cases this
  obtain ⟨m, e1, m1, b1⟩ := maxL_spec h
  obtain ⟨m', e2, m2, b2⟩ := maxL_spec h'
  have : m = m' := Int.le_antisymm (b2 m ((hs m).mp m1)) (b1 m' ((hs m').mpr m2))
  rw [e1, e2, this]
theorem fnMax_ints (l : List Int) : fnMax [.list (l.map PyData.int)] = (maxL l).map PyData.int := by
  show ((asInts (l.map PyData.int)).bind fun ns => (maxL ns).map PyData.int) = _
  rw [asInts_map]; rfl
def mx (ts : List D) : Int := (maxL (ts.map fun d => ((cnt ts d : Nat) : Int))).getD 0
theorem mx_cnt {ts : List D} (h : ts ≠ []) : maxL (ts.map fun d => ((cnt ts d : Nat) : Int)) = some (mx ts) := by
  obtain ⟨m, e, _⟩ := maxL_spec (l := ts.map fun d => ((cnt ts d : Nat) : Int)) (by simpa using h)
  unfold mx
  rw [e]; rfl
theorem mx_grp {ts : List D} (h : ts ≠ []) (hn : ∀ d ∈ ts, nob d = true) : maxL ((grpL ts).map fun g => ((g.length : Nat) : Int)) = some (mx ts) := by
  have e : (grpL ts).map (fun g => ((g.length : Nat) : Int)) = (fstL ts).map fun j => ((cnt ts (ts.getD j .none) : Nat) : Int) := by
    unfold grpL
    rw [List.map_map]
    apply List.map_congr_left
    intro j _
    show (((grpOf ts _).length : Nat) : Int) = _
    rw [grp_len]
  rw [e, ← mx_cnt h]
  have hp : 0 < ts.length := by
    cases ts with
    | nil => exact absurd rfl h
    | cons _ _ => exact Nat.zero_lt_succ _
  refine maxL_set (fun q => ?_) fun x => ⟨fun hx => ?_, fun hx => ?_⟩
  · obtain ⟨j, hj, _⟩ := fst_ex ts hn 0 hp
    rw [List.map_eq_nil_iff] at q
    rw [q] at hj; cases hj
  · obtain ⟨j, hj, rfl⟩ := List.mem_map.mp hx
    have hl : j < ts.length := by simpa using (List.mem_filter.mp hj).1
    exact List.mem_map.mpr ⟨ts.getD j .none, by simp [List.getD, hl], rfl⟩
  · obtain ⟨d, hd, rfl⟩ := List.mem_map.mp hx
    obtain ⟨i, hi, rfl⟩ := List.getElem_of_mem hd
    obtain ⟨j, hj, ej⟩ := fst_ex ts hn i hi
    refine List.mem_map.mpr ⟨j, hj, ?_⟩
    rw [ej]
    simp [List.getD, hi]
theorem idx_min (a b : Int) : dIndex (.list [.int a, .int b]) (.int (min a b)) = some (.int (if a ≤ b then 0 else 1)) := by
  have e : dIndex (.list [.int a, .int b]) (.int (min a b)) = (([PyData.int a, PyData.int b].findIdx? fun z => PyData.eqv z (.int (min a b))).map fun (j : Nat) => .int (j : Int)) := rfl
  rw [e]
  by_cases h : a ≤ b
  · rw [Int.min_eq_left h, if_pos h]
    simp [List.findIdx?_cons, PyData.eqv]
  · have h' : b ≤ a := by omega
    rw [Int.min_eq_right h', if_neg h]
    have : ¬ a = b := by omega
    simp [List.findIdx?_cons, PyData.eqv, this]
/-- what the rules that are left show behind one more rally -/
def tsM (left : List Ru) (k : Int) (bs : List Bool) (b : Bool) : List D := left.map fun r => brdM k (stepM r (afterM r .start bs) b)
def bestM (left : List Ru) (k : Int) (bs : List Bool) : Int := if mx (tsM left k bs false) ≤ mx (tsM left k bs true) then 0 else 1
theorem tsM_brd {left : List Ru} (h : ∀ r ∈ left, r.ok) {k : Int} (k0 : 0 ≤ k) (k2 : k ≤ 2) (bs : List Bool) (b : Bool) : ∀ d ∈ tsM left k bs b, Brd k d := fun d hd => by
  obtain ⟨r, hr, rfl⟩ := List.mem_map.mp hd
  exact ((com_step (h r hr) (com_run (h r hr) bs (com_start (h r hr))) b).bi (h r hr)).brd k0 k2
theorem bdL_last (r : Ru) (bs : List Bool) (b : Bool) (k : Int) : dIx (.list (bdL r (bs ++ [b]) k)) (.int (-1)) = some (brdM k (stepM r (afterM r .start bs) b)) := by
  have hl : (bdL r (bs ++ [b]) k).length = bs.length + 1 := by rw [bdL_length]; simp
  have g := bdL_get r (bs ++ [b]) k bs.length (by simp)
  have e : bdL r (bs ++ [b]) k = (bdL r (bs ++ [b]) k).dropLast ++ [brdM k (stepM r (afterM r .start bs) b)] := by
    have ne : bdL r (bs ++ [b]) k ≠ [] := fun q => by rw [q] at hl; simp at hl
    have l := (List.dropLast_concat_getLast ne).symm
    have q : (bdL r (bs ++ [b]) k).getLast ne = brdM k (stepM r (afterM r .start bs) b) := by
      rw [List.getLast_eq_getElem]
      obtain ⟨h1, h2⟩ := List.getElem?_eq_some_iff.mp g
      have : (bs ++ [b]).take (bs.length + 1) = bs ++ [b] := List.take_of_length_le (by simp)
      rw [this, after_snoc] at h2
      rw [← h2]
      congr 1
      omega
    rw [q] at l
    exact l
  rw [e]
  exact atI_lastD _ _
theorem eval_run' {N n : Nat} {u : Stm} {es : List Ent} {d : D} {c : Bool} (h : u (es ++ List.replicate (N - n) .un) = if c then .exc 5 else .ret (.rt d)) : runB N n u es = if c then .exc 5 else .ret d := by
  rw [ap_runB, h]
  cases c <;> rfl
end Mb

/-! small facts of the new combinators, applied -/
namespace Mb
open PySem L2
theorem nd_int (i : Int) : notD (.int i) = true := rfl
theorem nd_bool (i : Bool) : notD (.bool i) = true := rfl
theorem nd_str (i : Str) : notD (.str i) = true := rfl
theorem nd_list (i : List D) : notD (.list i) = true := rfl
theorem nd_tup (i : List D) : notD (.tuple i) = true := rfl
theorem nd_none : notD .none = true := rfl
theorem nd_r (r : Ru) : notD r.e = true := rfl
theorem nd_s (s : Sta) : notD s.e = true := rfl
theorem nd_Ro (s : List Bool) : notD (Ro s) = true := rfl
section
variable {i : Nat} {f g h : Envt → Tr D} {gk fk : Envt → Tr (List (D × D))} {env : Envt} {ga : Envt → Tr (List Ent)}
theorem ap_kVar : kVar i env = match env[i]? with | some (.fz (.dict kvs)) => .ret kvs | some (.od kvs) => .ret kvs | _ => .bad := rfl
theorem ap_kOf : kOf f env = (f env).bind fun d => match d with | .dict kvs => .ret kvs | _ => .bad := rfl
theorem ap_vInK : vInK f gk env = (f env).bind fun d => (gk env).bind fun kvs => if kindK (kvs.map (·.1)) d then .ret (.bool (lkD kvs d).isSome) else .bad := rfl
theorem ap_vNiK : vNiK f gk env = (f env).bind fun d => (gk env).bind fun kvs => if kindK (kvs.map (·.1)) d then .ret (.bool (!(lkD kvs d).isSome)) else .bad := rfl
theorem ap_vIxK : vIxK gk f env = (gk env).bind fun kvs => (f env).bind fun d => if kindK (kvs.map (·.1)) d then ofO (lkD kvs d) else .bad := rfl
theorem ap_sPutK : sPutK i g f env = (f env).bind fun d => match env[i]? with | some (.od kvs) => (g env).bind fun k => if kindK (kvs.map (·.1)) k && decide (kvs.length < lim) then .ret (.nx (env.set i (.od (putD kvs k d)))) else .bad | _ => .bad := rfl
theorem ap_vGetK : vGetK gk f h env = (gk env).bind fun kvs => (f env).bind fun k => (h env).bind fun d => if kindK (kvs.map (·.1)) k then .ret ((lkD kvs k).getD d) else .bad := rfl
theorem ap_vGet1 : vGet1 gk f env = (gk env).bind fun kvs => (f env).bind fun k => if kindK (kvs.map (·.1)) k then .ret ((lkD kvs k).getD .none) else .bad := rfl
theorem ap_vLenK : vLenK gk env = (gk env).bind fun kvs => .ret (.int (kvs.length : Nat)) := rfl
theorem ap_wKeys : wKeys f env = (f env).bind fun d => match d with | .dict kvs => .ret (kvs.map (·.1)) | _ => .bad := rfl
theorem ap_kNil : kNil env = .ret [] := rfl
theorem ap_kOne : kOne f g env = (f env).bind fun k => (g env).bind fun d => if kindK [] k then .ret [(k, d)] else .bad := rfl
theorem ap_vD : vD fk env = (fk env).bind fun kvs => .ret (.dict kvs) := rfl
theorem ap_sOwnK : sOwnK i fk env = (fk env).bind fun kvs => .ret (.nx (env.set i (.od kvs))) := rfl
theorem ap_aOwnK : aOwnK fk ga env = (fk env).bind fun kvs => (ga env).bind fun es => .ret (.od kvs :: es) := rfl
end
end Mb

namespace Mb
open PySem L2
/-! ### the text by places -/
def topS (i : Nat) : Stmt := PySem.Challenge.pw_matchboards_k14_whole_texts.main.body.getD i (.Pass ⟨0, 0, 0, 0⟩)
abbrev s_law_draw : Stmt := topS 30
abbrev s_law_error : Stmt := topS 32
abbrev s_check_text : Stmt := topS 24
abbrev s_is_int : Stmt := topS 8
abbrev s_is_rally : Stmt := topS 18
abbrev s_is_row : Stmt := topS 19
abbrev s_parse_row : Stmt := topS 27
abbrev s_is_word : Stmt := topS 14
abbrev s_is_rule : Stmt := topS 15
abbrev s_item_in : Stmt := topS 25
abbrev s_parse_rule : Stmt := topS 26
abbrev s_law_parsed : Stmt := topS 35
abbrev s_law_pick : Stmt := topS 31
abbrev s_law_rejected : Stmt := topS 37
abbrev s_law_row : Stmt := topS 34
abbrev s_law_rule : Stmt := topS 33
abbrev s_law_start : Stmt := topS 29
abbrev s_law_words : Stmt := topS 36
abbrev s_all_rules : Stmt := topS 17
abbrev s_check_row : Stmt := topS 20
abbrev s_format_row : Stmt := topS 23
abbrev s_check_rule : Stmt := topS 16
abbrev s_format_rule : Stmt := topS 22
abbrev s_law : Stmt := topS 38
theorem sc_law_draw : FnScope ["draws", "limit", "numbers", "at", "cell", "mixed"] ["draws", "limit"] (defScope s_law_draw) := ⟨rfl, rfl, rfl, by decide +kernel, rfl, by decide +kernel, by decide +kernel⟩
theorem sc_law_error : FnScope ["caught", "kinds"] ["caught"] (defScope s_law_error) := ⟨rfl, rfl, rfl, by decide +kernel, rfl, by decide +kernel, by decide +kernel⟩
theorem sc_check_text : FnScope ["text"] ["text"] (defScope s_check_text) := ⟨rfl, rfl, rfl, by decide +kernel, rfl, by decide +kernel, by decide +kernel⟩
theorem sc_is_int : FnScope ["value", "low", "high"] ["value", "low", "high"] (defScope s_is_int) := ⟨rfl, rfl, rfl, by decide +kernel, rfl, by decide +kernel, by decide +kernel⟩
theorem sc_is_rally : FnScope ["value"] ["value"] (defScope s_is_rally) := ⟨rfl, rfl, rfl, by decide +kernel, rfl, by decide +kernel, by decide +kernel⟩
theorem sc_is_row : FnScope ["value", "one"] ["value"] (defScope s_is_row) := ⟨rfl, rfl, rfl, by decide +kernel, rfl, by decide +kernel, by decide +kernel⟩
theorem sc_parse_row : FnScope ["text", "found", "sign"] ["text"] (defScope s_parse_row) := ⟨rfl, rfl, rfl, by decide +kernel, rfl, by decide +kernel, by decide +kernel⟩
theorem sc_is_word : FnScope ["value", "words"] ["value", "words"] (defScope s_is_word) := ⟨rfl, rfl, rfl, by decide +kernel, rfl, by decide +kernel, by decide +kernel⟩
theorem sc_is_rule : FnScope ["value"] ["value"] (defScope s_is_rule) := ⟨rfl, rfl, rfl, by decide +kernel, rfl, by decide +kernel, by decide +kernel⟩
theorem sc_item_in : FnScope ["word"] ["word"] (defScope s_item_in) := ⟨rfl, rfl, rfl, by decide +kernel, rfl, by decide +kernel, by decide +kernel⟩
theorem sc_parse_rule : FnScope ["text", "found", "word"] ["text"] (defScope s_parse_rule) := ⟨rfl, rfl, rfl, by decide +kernel, rfl, by decide +kernel, by decide +kernel⟩
theorem sc_law_parsed : FnScope ["kind", "text", "found", "caught", "e"] ["kind", "text"] (defScope s_law_parsed) := ⟨rfl, rfl, rfl, by decide +kernel, rfl, by decide +kernel, by decide +kernel⟩
theorem sc_law_pick : FnScope ["draws", "choices"] ["draws", "choices"] (defScope s_law_pick) := ⟨rfl, rfl, rfl, by decide +kernel, rfl, by decide +kernel, by decide +kernel⟩
theorem sc_law_rejected : FnScope ["odd", "lone", "bad"] [] (defScope s_law_rejected) := ⟨rfl, rfl, rfl, by decide +kernel, rfl, by decide +kernel, by decide +kernel⟩
theorem sc_law_row : FnScope ["draws", "longest", "found", "most"] ["draws", "longest"] (defScope s_law_row) := ⟨rfl, rfl, rfl, by decide +kernel, rfl, by decide +kernel, by decide +kernel⟩
theorem sc_law_rule : FnScope ["draws", "lead", "serve"] ["draws"] (defScope s_law_rule) := ⟨rfl, rfl, rfl, by decide +kernel, rfl, by decide +kernel, by decide +kernel⟩
theorem sc_law_start : FnScope ["script"] ["script"] (defScope s_law_start) := ⟨rfl, rfl, rfl, by decide +kernel, rfl, by decide +kernel, by decide +kernel⟩
theorem sc_law_words : FnScope ["kind", "thing", "one"] ["kind", "thing"] (defScope s_law_words) := ⟨rfl, rfl, rfl, by decide +kernel, rfl, by decide +kernel, by decide +kernel⟩
theorem sc_all_rules : FnScope ["found", "points", "lead", "games", "decider", "serve"] [] (defScope s_all_rules) := ⟨rfl, rfl, rfl, by decide +kernel, rfl, by decide +kernel, by decide +kernel⟩
theorem sc_check_row : FnScope ["value"] ["value"] (defScope s_check_row) := ⟨rfl, rfl, rfl, by decide +kernel, rfl, by decide +kernel, by decide +kernel⟩
theorem sc_format_row : FnScope ["row", "rally"] ["row"] (defScope s_format_row) := ⟨rfl, rfl, rfl, by decide +kernel, rfl, by decide +kernel, by decide +kernel⟩
theorem sc_check_rule : FnScope ["value"] ["value"] (defScope s_check_rule) := ⟨rfl, rfl, rfl, by decide +kernel, rfl, by decide +kernel, by decide +kernel⟩
theorem sc_format_rule : FnScope ["rule", "one"] ["rule"] (defScope s_format_rule) := ⟨rfl, rfl, rfl, by decide +kernel, rfl, by decide +kernel, by decide +kernel⟩
theorem sc_law : FnScope ["script", "draws", "things", "texts", "kind", "marks", "turn", "text", "at", "mark", "other", "found", "every", "points", "lead", "games", "decider", "serve"] ["script"] (defScope s_law) := ⟨rfl, rfl, rfl, by decide +kernel, rfl, by decide +kernel, by decide +kernel⟩
/-! ### what the defs compute -/
def u_law_error : Stm :=
  sSeq (sSet 1 (vL (nLst (aCons (vIsE 0 (fun c => c == 0)) (aCons (vIsE 0 (fun c => c == 1)) (aCons (vIsE 0 (fun c => c == 2)) (aNil)))))))
  (sSeq (sSet 1 (v2 dAdd (vVar 1) (vL (nLst (aCons (vIsE 0 (fun c => c == 3)) (aCons (vIsE 0 (fun c => c == 4)) (aCons (vIsE 0 (fun c => c == 5)) (aNil))))))))
  (sSeq (sIf (bOr (vT (v2 dNe (vMeth isList dCount (vVar 1) (vC (.bool true))) (vC (.int 1)))) (bOr (bNot (vT (vIsE 0 (fun _ => true)))) (bNot (vT (vIsE 0 (fun _ => true))))))
  (sRet (vC (.str "odd")))
  (sNil))
  (sRet (v2 dIx (vL (nLst (aCons (vC (.str "rule")) (aCons (vC (.str "rally")) (aCons (vC (.str "boards")) (aCons (vC (.str "number")) (aCons (vC (.str "text")) (aCons (vC (.str "none")) (aNil))))))))) (vMeth isList dIndex (vVar 1) (vC (.bool true)))))))
def m_law_error : List Ent → Tr D := runB 2 1 u_law_error
def u_check_text : Stm :=
  sIf (bNot (vT (vIsi isStr (vVar 0))))
  (sRaise 4)
  (sNil)
def m_check_text : List Ent → Tr D := runB 1 1 u_check_text
def u_is_int : Stm :=
  sRet (vAnd (vIsi isInt (vVar 0)) (vAnd (vNot (vIsi isBool (vVar 0))) (vChain dLe dLe (vVar 1) (vVar 0) (vVar 2))))
def m_is_int : List Ent → Tr D := runB 3 3 u_is_int
def u_is_rally : Stm :=
  sRet (vCall 3 m_is_int (aCons (vVar 0) (aCons (vC (.int 0)) (aCons (vC (.int 1)) (aNil)))))
def m_is_rally : List Ent → Tr D := runB 1 1 u_is_rally
def u_is_row : Stm :=
  sRet (vAnd (vIsi isList (vVar 0)) (vAnd (v2 dLe (vB fnLen (aCons (vVar 0) (aNil))) (vC (.int 60))) (vB allD (aCons (vL (nLc [1] (wSeq (vVar 0)) (tgName 1) (bYes) (vCall 1 m_is_rally (aCons (vVar 1) (aNil))))) (aNil)))))
def m_is_row : List Ent → Tr D := runB 2 1 u_is_row
def u_parse_row : Stm :=
  sSeq (sDrop (vCall 1 m_check_text (aCons (vVar 0) (aNil))))
  (sSeq (sIf (bNot (vT (vB allD (aCons (vL (nLc [2] (wSeq (vVar 0)) (tgName 2) (bYes) (v2 dIn (vVar 2) (vC (.str "01"))))) (aNil)))))
  (sRaise 4)
  (sNil))
  (sSeq (sSet 1 (vL (nLc [2] (wSeq (vVar 0)) (tgName 2) (bYes) (vB fnInt (aCons (vVar 2) (aNil))))))
  (sSeq (sIf (bNot (vT (vCall 1 m_is_row (aCons (vVar 1) (aNil)))))
  (sRaise 4)
  (sNil))
  (sRet (vVar 1)))))
def m_parse_row : List Ent → Tr D := runB 3 1 u_parse_row
def u_is_word : Stm :=
  sRet (vAnd (vIsi isStr (vVar 0)) (v2 dIn (vVar 0) (vVar 1)))
def m_is_word : List Ent → Tr D := runB 2 2 u_is_word
def u_is_rule : Stm :=
  sSeq (sIf (bOr (bNot (vT (vIsi isTuple (vVar 0)))) (vT (v2 dNe (vB fnLen (aCons (vVar 0) (aNil))) (vC (.int 5)))))
  (sRet (vC (.bool false)))
  (sNil))
  (sSeq (sIf (bOr (bNot (vT (vCall 3 m_is_int (aCons (v2 dIx (vVar 0) (vC (.int 0))) (aCons (vC (.int 2)) (aCons (vC (.int 4)) (aNil))))))) (bOr (bNot (vT (vCall 2 m_is_word (aCons (v2 dIx (vVar 0) (vC (.int 1))) (aCons (vC (.tuple [.str "one", .str "two", .str "cap"])) (aNil)))))) (bNot (vT (vCall 3 m_is_int (aCons (v2 dIx (vVar 0) (vC (.int 2))) (aCons (vC (.int 1)) (aCons (vC (.int 3)) (aNil)))))))))
  (sRet (vC (.bool false)))
  (sNil))
  (sRet (vAnd (vCall 2 m_is_word (aCons (v2 dIx (vVar 0) (vC (.int 3))) (aCons (vC (.tuple [.str "same", .str "longer"])) (aNil)))) (vCall 2 m_is_word (aCons (v2 dIx (vVar 0) (vC (.int 4))) (aCons (vC (.tuple [.str "games", .str "twos", .str "winner", .str "only"])) (aNil)))))))
def m_is_rule : List Ent → Tr D := runB 1 1 u_is_rule
def u_item_in : Stm :=
  sRet (vIf (vT (v2 dIn (vVar 0) (vTup (aCons (vC (.str "1")) (aCons (vC (.str "2")) (aCons (vC (.str "3")) (aCons (vC (.str "4")) (aNil)))))))) (vB fnInt (aCons (vVar 0) (aNil))) (vVar 0))
def m_item_in : List Ent → Tr D := runB 1 1 u_item_in
def u_parse_rule : Stm :=
  sSeq (sDrop (vCall 1 m_check_text (aCons (vVar 0) (aNil))))
  (sSeq (sSet 1 (vB fnTuple (aCons (vL (nLc [2] (wSeq (vL (nSplit (vVar 0) (vC (.str " "))))) (tgName 2) (bYes) (vCall 1 m_item_in (aCons (vVar 2) (aNil))))) (aNil))))
  (sSeq (sIf (bNot (vT (vCall 1 m_is_rule (aCons (vVar 1) (aNil)))))
  (sRaise 4)
  (sNil))
  (sRet (vVar 1))))
def m_parse_rule : List Ent → Tr D := runB 3 1 u_parse_rule
def u_law_parsed : Stm :=
  sSeq (sSet 2 (vC .none))
  (sSeq (sSet 3 (vC .none))
  (sSeq (sTry 5 (sSet 2 (vIf (vT (v2 dEq (vVar 0) (vC (.int 0)))) (vCall 1 m_parse_rule (aCons (vVar 1) (aNil))) (vCall 1 m_parse_row (aCons (vVar 1) (aNil))))) 3)
  (sRet (vIf (bNoE 3) (vVar 2) (vCall 1 m_law_error (aEx 3 (aNil)))))))
def m_law_parsed : List Ent → Tr D := runB 5 2 u_law_parsed
def u_law_pick : Stm :=
  sRet (v2 dIx (vVar 1) (vCall 2 mDraw (aDr 0 (aCons (vB fnLen (aCons (vVar 1) (aNil))) (aNil)))))
def m_law_pick : List Ent → Tr D := runB 2 2 u_law_pick
def u_law_rejected : Stm :=
  sSeq (sSet 0 (vL (nLst (aCons (vC .none) (aCons (vC (.int 5)) (aCons (vC (.str "")) (aCons (vC (.str " ")) (aCons (vC (.str "2 two 1 same")) (aCons (vC (.str "2 two 1 same games ")) (aCons (vC (.str " 2 two 1 same games")) (aCons (vC (.str "2  two 1 same games")) (aCons (vC (.str "1 two 1 same games")) (aCons (vC (.str "5 two 1 same games")) (aNil))))))))))))))
  (sSeq (sSet 0 (v2 dAdd (vVar 0) (vL (nLst (aCons (vC (.str "2 two 0 same games")) (aCons (vC (.str "2 two 4 same games")) (aCons (vC (.str "2 Two 1 same games")) (aCons (vC (.str "2 two 1 games same")) (aCons (vC (.str "two 2 1 same games")) (aCons (vC (.str "2,two,1,same,games")) (aCons (vC (.str "02 two 1 same games")) (aNil))))))))))))
  (sSeq (sSet 0 (v2 dAdd (vVar 0) (vL (nLst (aCons (vC (.str "2 two 1 same games\n")) (aCons (vC (.str "2 two\t1 same games")) (aCons (vTup (aCons (vC (.int 2)) (aCons (vC (.str "two")) (aCons (vC (.int 1)) (aCons (vC (.str "same")) (aCons (vC (.str "games")) (aNil))))))) (aCons (vL (nLst (aCons (vC (.str "2 two 1 same games")) (aNil)))) (aCons (vC (.str "2 two 1 same games 0")) (aCons (vC (.str "2 two 1 shorter games")) (aCons (vC (.str "2 2 1 same games")) (aCons (v2 dMulS (vC (.str "1")) (vC (.int 4000))) (aNil)))))))))))))
  (sSeq (sIf (vT (v2 dNe (vL (nLc [2] (wSeq (vVar 0)) (tgName 2) (bYes) (vCall 2 m_law_parsed (aCons (vC (.int 0)) (aCons (vVar 2) (aNil)))))) (v2 dMul (vL (nLst (aCons (vC (.str "text")) (aNil)))) (vC (.int 25)))))
  (sRet (vC (.bool false)))
  (sNil))
  (sSeq (sSet 1 (vL (nLst (aCons (vC .none) (aCons (vC (.int 7)) (aCons (vC (.str " ")) (aCons (vC (.str "2")) (aCons (vC (.str "01 1")) (aCons (vC (.str "0,1")) (aCons (vC (.str "x")) (aCons (vC (.str "1\n")) (aCons (vL (nLst (aCons (vC (.str "1")) (aNil)))) (aCons (v2 dMulS (vC (.str "1")) (vC (.int 61))) (aCons (vC (.str "-1")) (aCons (vC (.str "10 ")) (aCons (vC (.str " 01")) (aCons (vC (.str "1a")) (aNil))))))))))))))))))
  (sRet (vAnd (v2 dEq (vL (nLc [2] (wSeq (vVar 1)) (tgName 2) (bYes) (vCall 2 m_law_parsed (aCons (vC (.int 1)) (aCons (vVar 2) (aNil)))))) (v2 dMul (vL (nLst (aCons (vC (.str "text")) (aNil)))) (vC (.int 14)))) (vAnd (v2 dEq (vCall 2 m_law_parsed (aCons (vC (.int 1)) (aCons (vC (.str "")) (aNil)))) (vL (nLst (aNil)))) (v2 dEq (vCall 2 m_law_parsed (aCons (vC (.int 1)) (aCons (v2 dMulS (vC (.str "1")) (vC (.int 60))) (aNil)))) (v2 dMul (vL (nLst (aCons (vC (.int 1)) (aNil)))) (vC (.int 60)))))))))))
def m_law_rejected : List Ent → Tr D := runB 3 0 u_law_rejected
def u_law_row : Stm :=
  sSeq (sSet 2 (vL (nLst (aNil))))
  (sSeq (sSet 3 (vCall 2 mDraw (aDr 0 (aCons (v2 dAdd (vVar 1) (vC (.int 1))) (aNil)))))
  (sSeq (sWhile (vT (v2 dLt (vB fnLen (aCons (vVar 2) (aNil))) (vVar 3))) (sSet 2 (v2 dAdd (vVar 2) (v2 dMul (vL (nLst (aCons (vCall 2 mDraw (aDr 0 (aCons (vC (.int 2)) (aNil)))) (aNil)))) (vCall 2 m_law_pick (aDr 0 (aCons (vL (nLst (aCons (vC (.int 1)) (aCons (vC (.int 1)) (aCons (vC (.int 2)) (aCons (vC (.int 3)) (aNil))))))) (aNil))))))) 1000)
  (sRet (vSl (vVar 2) (oNone) (oSome (vVar 3))))))
def m_law_row : List Ent → Tr D := runB 4 2 u_law_row
def u_law_rule : Stm :=
  sSeq (sPar [1, 2] (aCons (vCall 2 m_law_pick (aDr 0 (aCons (vL (nLst (aCons (vC (.str "one")) (aCons (vC (.str "two")) (aCons (vC (.str "cap")) (aNil)))))) (aNil)))) (aCons (vCall 2 m_law_pick (aDr 0 (aCons (vL (nLst (aCons (vC (.str "games")) (aCons (vC (.str "twos")) (aCons (vC (.str "winner")) (aCons (vC (.str "only")) (aNil))))))) (aNil)))) (aNil))))
  (sRet (vTup (aCons (v2 dAdd (vC (.int 2)) (vCall 2 mDraw (aDr 0 (aCons (vC (.int 3)) (aNil))))) (aCons (vVar 1) (aCons (v2 dAdd (vC (.int 1)) (vCall 2 mDraw (aDr 0 (aCons (vC (.int 3)) (aNil))))) (aCons (vCall 2 m_law_pick (aDr 0 (aCons (vL (nLst (aCons (vC (.str "same")) (aCons (vC (.str "longer")) (aNil))))) (aNil)))) (aCons (vVar 2) (aNil))))))))
def m_law_rule : List Ent → Tr D := runB 3 1 u_law_rule
def u_law_words : Stm :=
  sRet (vIf (vT (v2 dEq (vVar 0) (vC (.int 0)))) (vMeth isStr dJoin (vC (.str " ")) (vL (nLc [2] (wSeq (vVar 1)) (tgName 2) (bYes) (vB fnStr (aCons (vVar 2) (aNil)))))) (vMeth isStr dJoin (vC (.str "")) (vL (nLc [2] (wSeq (vVar 1)) (tgName 2) (bYes) (vB fnStr (aCons (vVar 2) (aNil)))))))
def m_law_words : List Ent → Tr D := runB 3 2 u_law_words
def u_all_rules : Stm :=
  sSeq (sOwn 0 (nLst (aNil)))
  (sSeq (sFor (wSeq (vTup (aCons (vC (.int 2)) (aCons (vC (.int 3)) (aCons (vC (.int 4)) (aNil)))))) (tgName 1) (sFor (wSeq (vC (.tuple [.str "one", .str "two", .str "cap"]))) (tgName 2) (sFor (wSeq (vTup (aCons (vC (.int 1)) (aCons (vC (.int 2)) (aCons (vC (.int 3)) (aNil)))))) (tgName 3) (sFor (wSeq (vC (.tuple [.str "same", .str "longer"]))) (tgName 4) (sAug 0 (vL (nLc [5] (wSeq (vC (.tuple [.str "games", .str "twos", .str "winner", .str "only"]))) (tgName 5) (bYes) (vTup (aCons (vVar 1) (aCons (vVar 2) (aCons (vVar 3) (aCons (vVar 4) (aCons (vVar 5) (aNil))))))))))))))
  (sFz 0 (sRet (vVar 0))))
def m_all_rules : List Ent → Tr D := runB 6 0 u_all_rules
def u_check_row : Stm :=
  sIf (bNot (vT (vCall 1 m_is_row (aCons (vVar 0) (aNil)))))
  (sRaise 1)
  (sNil)
def m_check_row : List Ent → Tr D := runB 1 1 u_check_row
def u_format_row : Stm :=
  sSeq (sDrop (vCall 1 m_check_row (aCons (vVar 0) (aNil))))
  (sRet (vMeth isStr dJoin (vC (.str "")) (vL (nLc [1] (wSeq (vVar 0)) (tgName 1) (bYes) (vB fnStr (aCons (vVar 1) (aNil)))))))
def m_format_row : List Ent → Tr D := runB 2 1 u_format_row
def u_check_rule : Stm :=
  sIf (bNot (vT (vCall 1 m_is_rule (aCons (vVar 0) (aNil)))))
  (sRaise 0)
  (sNil)
def m_check_rule : List Ent → Tr D := runB 1 1 u_check_rule
def u_format_rule : Stm :=
  sSeq (sDrop (vCall 1 m_check_rule (aCons (vVar 0) (aNil))))
  (sRet (vMeth isStr dJoin (vC (.str " ")) (vL (nLc [1] (wSeq (vVar 0)) (tgName 1) (bYes) (vB fnStr (aCons (vVar 1) (aNil)))))))
def m_format_rule : List Ent → Tr D := runB 2 1 u_format_rule
def u_law : Stm :=
  sSeq (sSet 2 (vL (nLst (aCons (vCall 1 m_law_rule (aDr 1 (aNil))) (aCons (vCall 2 m_law_row (aDr 1 (aCons (vC (.int 20)) (aNil)))) (aNil))))))
  (sSeq (sSet 3 (vL (nLst (aCons (vCall 1 m_format_rule (aCons (v2 dIx (vVar 2) (vC (.int 0))) (aNil))) (aCons (vCall 1 m_format_row (aCons (v2 dIx (vVar 2) (vC (.int 1))) (aNil))) (aNil))))))
  (sSeq (sFor (wArg rng1 (aCons (vC (.int 2)) (aNil))) (tgName 4) (sIf (bOr (vT (v2 dNe (v2 dIx (vVar 3) (vVar 4)) (vCall 2 m_law_words (aCons (vVar 4) (aCons (v2 dIx (vVar 2) (vVar 4)) (aNil)))))) (vT (v2 dNe (vCall 2 m_law_parsed (aCons (vVar 4) (aCons (v2 dIx (vVar 3) (vVar 4)) (aNil)))) (v2 dIx (vVar 2) (vVar 4)))))
  (sRet (vC (.bool false)))
  (sNil)))
  (sSeq (sSet 5 (vL (nLst (aCons (vC (.str "0")) (aCons (vC (.str "1")) (aCons (vC (.str "2")) (aCons (vC (.str "3")) (aCons (vC (.str "4")) (aCons (vC (.str " ")) (aCons (vC (.str "two")) (aCons (vC (.str "cap")) (aCons (vC (.str "only")) (aCons (vC (.str "x")) (aCons (vC (.str "")) (aCons (vC (.str "-")) (aNil))))))))))))))))
  (sSeq (sFor (wArg rng1 (aCons (vC (.int 16)) (aNil))) (tgName 6) (sSeq (sSet 4 (vCall 2 mDraw (aDr 1 (aCons (vC (.int 2)) (aNil)))))
  (sSeq (sSet 7 (v2 dIx (vVar 3) (vVar 4)))
  (sSeq (sSet 8 (vCall 2 mDraw (aDr 1 (aCons (v2 dAdd (vB fnLen (aCons (vVar 7) (aNil))) (vC (.int 1))) (aNil)))))
  (sSeq (sSet 9 (vCall 2 m_law_pick (aDr 1 (aCons (vVar 5) (aNil)))))
  (sSeq (sSet 10 (vCall 2 m_law_pick (aDr 1 (aCons (vL (nLst (aCons (v2 dAdd (v2 dAdd (vSl (vVar 7) (oNone) (oSome (vVar 8))) (vVar 9)) (vSl (vVar 7) (oSome (v2 dAdd (vVar 8) (vC (.int 1)))) (oNone))) (aCons (v2 dAdd (v2 dAdd (vSl (vVar 7) (oNone) (oSome (vVar 8))) (vVar 9)) (vSl (vVar 7) (oSome (vVar 8)) (oNone))) (aCons (v2 dAdd (v2 dAdd (v2 dAdd (vSl (vVar 7) (oNone) (oSome (vVar 8))) (vC (.str " "))) (vVar 9)) (vSl (vVar 7) (oSome (vVar 8)) (oNone))) (aNil)))))) (aNil)))))
  (sSeq (sSet 11 (vCall 2 m_law_parsed (aCons (vVar 4) (aCons (vVar 10) (aNil)))))
  (sSeq (sIf (bAnd (vT (v2 dNe (vVar 11) (vC (.str "text")))) (vT (v2 dNe (vCall 2 m_law_words (aCons (vVar 4) (aCons (vVar 11) (aNil)))) (vVar 10))))
  (sRet (vC (.bool false)))
  (sNil))
  (sIf (bAnd (vT (v2 dNe (vVar 11) (vC (.str "text")))) (vT (v2 dIsNot (vIf (vT (v2 dEq (vVar 4) (vC (.int 0)))) (vCall 1 m_is_rule (aCons (vVar 11) (aNil))) (vCall 1 m_is_row (aCons (vVar 11) (aNil)))) (vC (.bool true)))))
  (sRet (vC (.bool false)))
  (sNil))))))))))
  (sSeq (sSet 12 (vL (nLst (aNil))))
  (sSeq (sFor (wSeq (vTup (aCons (vC (.int 2)) (aCons (vC (.int 3)) (aCons (vC (.int 4)) (aNil)))))) (tgName 13) (sFor (wSeq (vTup (aCons (vC (.str "one")) (aCons (vC (.str "two")) (aCons (vC (.str "cap")) (aNil)))))) (tgName 14) (sFor (wSeq (vTup (aCons (vC (.int 1)) (aCons (vC (.int 2)) (aCons (vC (.int 3)) (aNil)))))) (tgName 15) (sFor (wSeq (vTup (aCons (vC (.str "same")) (aCons (vC (.str "longer")) (aNil))))) (tgName 16) (sSet 12 (v2 dAdd (vVar 12) (vL (nLc [17] (wSeq (vTup (aCons (vC (.str "games")) (aCons (vC (.str "twos")) (aCons (vC (.str "winner")) (aCons (vC (.str "only")) (aNil))))))) (tgName 17) (bYes) (vTup (aCons (vVar 13) (aCons (vVar 14) (aCons (vVar 15) (aCons (vVar 16) (aCons (vVar 17) (aNil)))))))))))))))
  (sRet (vAnd (vCall 0 m_law_rejected aNil) (vAnd (v2 dEq (vCall 0 m_all_rules aNil) (vVar 12)) (v2 dEq (vB fnLen (aCons (vVar 12) (aNil))) (vC (.int 216))))))))))))
/-! ### what stands behind the top -/
structure Tx (K : PySem.W.Frag) (mg : Str → Option Value) (cl : Nat → Addr) : Prop where
  f_law_draw : DefAt K mg "_law_draw" s_law_draw ["draws", "limit"]
  f_law_error : DefAt K mg "_law_error" s_law_error ["caught"]
  f_check_text : DefAt K mg "check_text" s_check_text ["text"]
  f_is_int : DefAt K mg "is_int" s_is_int ["value", "low", "high"]
  f_is_rally : DefAt K mg "is_rally" s_is_rally ["value"]
  f_is_row : DefAt K mg "is_row" s_is_row ["value"]
  f_parse_row : DefAt K mg "parse_row" s_parse_row ["text"]
  f_is_word : DefAt K mg "is_word" s_is_word ["value", "words"]
  f_is_rule : DefAt K mg "is_rule" s_is_rule ["value"]
  f_item_in : DefAt K mg "item_in" s_item_in ["word"]
  f_parse_rule : DefAt K mg "parse_rule" s_parse_rule ["text"]
  f_law_parsed : DefAt K mg "_law_parsed" s_law_parsed ["kind", "text"]
  f_law_pick : DefAt K mg "_law_pick" s_law_pick ["draws", "choices"]
  f_law_rejected : DefAt K mg "_law_rejected" s_law_rejected []
  f_law_row : DefAt K mg "_law_row" s_law_row ["draws", "longest"]
  f_law_rule : DefAt K mg "_law_rule" s_law_rule ["draws"]
  f_law_start : DefAt K mg "_law_start" s_law_start ["script"]
  f_law_words : DefAt K mg "_law_words" s_law_words ["kind", "thing"]
  f_all_rules : DefAt K mg "all_rules" s_all_rules []
  f_check_row : DefAt K mg "check_row" s_check_row ["value"]
  f_format_row : DefAt K mg "format_row" s_format_row ["row"]
  f_check_rule : DefAt K mg "check_rule" s_check_rule ["value"]
  f_format_rule : DefAt K mg "format_rule" s_format_rule ["rule"]
  f_law : DefAt K mg "law" s_law ["script"]
  z_ValueError : mg "ValueError" = none
  z_all : mg "all" = none
  z_bool : mg "bool" = none
  z_int : mg "int" = none
  z_isinstance : mg "isinstance" = none
  z_len : mg "len" = none
  z_list : mg "list" = none
  z_range : mg "range" = none
  z_str : mg "str" = none
  z_tuple : mg "tuple" = none
  g_DECIDERS : GlobAt K mg "DECIDERS" (.tuple [.str "same", .str "longer"])
  g_LEADS : GlobAt K mg "LEADS" (.tuple [.str "one", .str "two", .str "cap"])
  g_MOST_ROW : GlobAt K mg "MOST_ROW" (.int 60)
  g_SERVES : GlobAt K mg "SERVES" (.tuple [.str "games", .str "twos", .str "winner", .str "only"])
  e_BadRally : ExcAt K mg "BadRally" (cl 1)
  e_BadRule : ExcAt K mg "BadRule" (cl 0)
  e_BadText : ExcAt K mg "BadText" (cl 4)
  err : ErrAt K mg cl
section
variable {P : Program} {w : World} {K : PySem.W.Frag} {mg : Str → Option Value} {base : Heap} {cl : Nat → Addr}
/-! ### the draws, by hand -/
open PySem.Spec PyProof.Rows in
theorem c_law_draw (T : Tx K mg cl) : Cal P w K mg base cl "_law_draw" 1 2 mDraw := by
  obtain ⟨f, fd, F, g, b⟩ := T.f_law_draw.ex
  refine ⟨f, fd, _, F.okX sc_law_draw (fun vs H Q E h => ?_) (fun cdv A outer s H vs Q E hr h => ?_), g, F.kp, b⟩
  · obtain ⟨O, dt, es, hl, _, _, _, ha, _⟩ := h
    rw [ha.length, hl]; rfl
  · obtain ⟨O, dt, es, hl, h1, h2, h3, ha, hm⟩ := h
    obtain ⟨l, rfl⟩ : ∃ l, es = [.dr, .fz (.int l)] := by
      unfold mDraw at hm
      split at hm
      · exact ⟨_, rfl⟩
      · exact hm.elim
    cases ha with
    | cons ha hb =>
      cases hb with
      | cons hb hn =>
        cases hn
        obtain ⟨a, n, rfl, rfl⟩ := ha
        cases (show Rep K (mask H O) _ (.int l) from hb)
        have hm : (if decide (0 < l) && decide (l < 1073741824) then Tr.draw l.toNat (fun r => Tr.ret (PyData.int (r : Nat))) else Tr.bad).all (fun d => ∀ v H', Kx (some (a, n)) H H' → Rep K (mask H' O) v d → Q v H') (fun c => ∀ H', Kx (some (a, n)) H H' → E (.ref (cl c)) none H') := hm
        cases hlm : decide (0 < l) && decide (l < 1073741824) with
        | false => rw [hlm] at hm; exact hm.elim
        | true =>
          rw [hlm] at hm
          rw [Bool.and_eq_true] at hlm
          have l0 := of_decide_eq_true hlm.1
          have l1 := of_decide_eq_true hlm.2
          have hm : ∀ r, r < l.toNat → ∀ v H', Kx (some (a, n)) H H' → Rep K (mask H' O) v (.int (r : Nat)) → Q v H' := hm
          obtain ⟨nan, c, ns, ea, hc, en, n0, n63⟩ := h3 a n rfl
          refine ⟨_, pss_cons (ps_set (i := 2) sc_law_draw.nd rfl (.inl rfl) (pe_ix ix_list (pv 0) pe_int (fun _ _ => rfl)))
            (pss_cons (ps_asg (pe_op op_add (pe_ix ix_list (pv 0) pe_int (fun _ _ => rfl)) pe_int) (pg_sub (pv 0) pe_int set_list))
            (pss_cons (ps_set (i := 3) sc_law_draw.nd rfl (.inl rfl) (pe_op op_mod (pe_ix ix_list (pv 0) pe_int (fun _ _ => rfl)) (pe_callB call_len_seq (by rfl) T.z_len PySem.boot_len (pa_cons (pv 2) pa_nil))))
            (pss_cons (ps_set (i := 4) sc_law_draw.nd rfl (.inl rfl) (pe_ix ix_list (pv 2) (pv 3) (fun _ _ => rfl)))
            (pss_cons (ps_if (pt_cmpR op_ge (pv 4) pe_int (nomark _)) (pss_cons (ps_asg (pe_op op_fdiv (pv 4) (pv 1)) (pg_sub (pv 2) (pv 3) set_list)) (pss_one (ps_ret (pe_op op_mod (pv 4) (pv 1))))) pss_nil)
            (pss_cons (ps_set (i := 5) sc_law_draw.nd rfl (.inl rfl) (pe_op op_mod (pe_op op_add (pv 4) (pe_op op_mul pe_int (pe_ix ix_list (pv 0) pe_int (fun _ _ => rfl)))) pe_int))
            (pss_cons (ps_set (i := 5) sc_law_draw.nd rfl (.inl rfl) (pe_op op_mod (pe_op op_pow (pv 5) pe_int) pe_int))
            (pss_one (ps_ret (pe_op op_mod (pe_op op_fdiv (pe_op op_mod (pe_op op_add (pe_op op_mul (pe_op op_fdiv (pv 5) pe_int) pe_int) (pv 5)) pe_int) pe_int) (pv 1)))))))))), ?_⟩
          have k1 : ∀ (o : HO) (H2 : Hp), H2 a = some (.lst [.ref n, .int (c + 1)]) → H2 n = some o → (∀ b, b ≠ a → b ≠ n → H2 b = H b) → (∃ ns' : List Int, o = .lst (ns'.map V.int) ∧ 0 < ns'.length ∧ ns'.length ≤ 63) → Kx (some (a, n)) H H2 := fun o H2 q1 q2 q3 ⟨ns', q4, q5, q6⟩ => by
            refine ⟨fun b x e nb => ?_, fun a' n' e => ?_⟩
            · rw [q3 b (fun z => nb ⟨a, n, rfl, .inl z⟩) (fun z => nb ⟨a, n, rfl, .inr z⟩)]; exact e
            · cases e
              exact ⟨nan, c + 1, ns', q1, by omega, by rw [q2, q4], q5, q6⟩
          have en1 : (upd H a (.lst [.ref n, .int (c + 1)])) n = some (.lst (ns.map V.int)) := by rw [upd_ne nan.symm]; exact en
          have ea1 : (upd H a (.lst [.ref n, .int (c + 1)])) a = some (.lst [.ref n, .int (c + 1)]) := upd_same
          -- numbers = draws[0]
          refine ⟨_, rfl, a, _, 0, .ref n, rfl, rfl, SqL.of ea, atI_nat (j := 0) rfl, ?_⟩
          -- draws[1] = draws[1] + 1
          refine ⟨_, rfl, a, _, 1, .int c, rfl, rfl, SqL.of ea, atI_nat (j := 1) rfl, c, 1, rfl, rfl, _, rfl, a, _, 1, 1, rfl, rfl, ea, rfl, ?_⟩
          -- at = draws[1] % len(numbers)
          refine ⟨_, rfl, a, _, 1, .int (c + 1), rfl, rfl, SqL.of ea1, atI_nat (j := 1) rfl, _, rfl, n, _, rfl, .inl (SqL.of en1), c + 1, _, rfl, rfl, by rw [List.length_map]; omega, ?_⟩
          have hl' : ((ns.map V.int).length : Int) = (ns.length : Int) := by rw [List.length_map]
          have at0 : 0 ≤ (c + 1) % ((ns.map V.int).length : Int) := Int.emod_nonneg _ (by rw [hl']; omega)
          have at1 : (c + 1) % ((ns.map V.int).length : Int) < (ns.length : Int) := by rw [hl']; exact Int.emod_lt_of_pos _ (by omega)
          obtain ⟨j, hj⟩ : ∃ j : Nat, (c + 1) % ((ns.map V.int).length : Int) = (j : Int) := ⟨((c + 1) % ((ns.map V.int).length : Int)).toNat, by omega⟩
          rw [hj] at at0 at1
          have fin : ∀ (z : Int) (H2 : Hp), Kx (some (a, n)) H H2 → Q (.int (z % l)) H2 := fun z H2 k => by
            have r0 := Int.emod_nonneg z (show l ≠ 0 by omega)
            have r1 := Int.emod_lt_of_pos z l0
            refine hm (z % l).toNat (by omega) _ H2 k ?_
            rw [Int.toNat_of_nonneg r0]; exact .int _
          have hjl : j < ns.length := by omega
          have hget : (ns.map V.int)[j]? = some (.int ns[j]) := by rw [List.getElem?_map, List.getElem?_eq_getElem hjl]; rfl
          -- cell = numbers[at]
          refine ⟨_, rfl, _, rfl, n, _, _, _, rfl, rfl, SqL.of en1, (by rw [hj]; exact atI_nat hget), ?_⟩
          obtain ⟨cell, hcell⟩ : ∃ cell, ns[j] = cell := ⟨_, rfl⟩
          rw [hcell]
          -- if cell >= ..
          refine ⟨_, rfl, cell, _, rfl, rfl, _, rfl, ite2 (fun hge => ?_) (fun _ => ?_)⟩
          · have hge : (1000000000000000000 : Int) ≤ cell := of_decide_eq_true hge
            refine ⟨_, rfl, _, rfl, cell, l, rfl, rfl, ⟨l0, l1⟩, _, rfl, _, rfl, n, _, _, j, rfl, rfl, en1, ?_, ?_⟩
            · rw [hj]
              unfold ixN
              rw [if_pos (by omega), if_pos (by rw [List.length_map]; omega)]
              rfl
            · refine ⟨_, rfl, _, rfl, cell, l, rfl, rfl, l0, ?_⟩
              exact fin _ _ (k1 _ (upd (upd H a (.lst [.ref n, .int (c + 1)])) n (.lst ((ns.map V.int).set j (.int (cell / l))))) (by rw [upd_ne nan]; exact upd_same) upd_same (fun b b1 b2 => by rw [upd_ne b2, upd_ne b1]) ⟨ns.set j (cell / l), by rw [List.map_set], by simpa using n0, by simpa using n63⟩)
          · -- the rest
            refine ⟨_, rfl, _, rfl, a, _, 1, .int (c + 1), rfl, rfl, SqL.of ea1, atI_nat (j := 1) rfl, 104729, c + 1, rfl, rfl, .inl ⟨by decide, by decide⟩, cell, _, rfl, rfl, _, _, rfl, rfl, (by show (0 : Int) < 4294967291; decide), ?_⟩
            refine ⟨_, rfl, _, 5, rfl, rfl, ⟨by decide, by decide, ?_⟩, _, _, rfl, rfl, (by show (0 : Int) < 4294967279; decide), ?_⟩
            · show ((cell + 104729 * (c + 1)) % 4294967291).natAbs < 2 ^ 64
              omega
            refine ⟨_, rfl, _, 64, rfl, rfl, ⟨by decide, by decide⟩, _, _, rfl, rfl, .inr ⟨by decide, by decide⟩, _, rfl, _, _, rfl, rfl, _, _, rfl, rfl, (by show (0 : Int) < 4294967231; decide), _, 8, rfl, rfl, ⟨by decide, by decide⟩, _, rfl, _, l, rfl, rfl, l0, ?_⟩
            exact fin _ _ (k1 _ (upd H a (.lst [.ref n, .int (c + 1)])) upd_same en1 (fun b b1 _ => by rw [upd_ne b1]) ⟨ns, rfl, n0, n63⟩)
open PySem.Spec PyProof.Rows in
theorem c_law_start (T : Tx K mg cl) : ∃ f fd, FnOk P w K mg base (L2.CX P w) 1 f fd ["script"] (spStart K) ∧ mg "_law_start" = some (.ref f) ∧ PySem.W.keepIn K (.ref f) = true ∧ Binds K fd ["script"] [] := by
  obtain ⟨f, fd, F, g, b⟩ := T.f_law_start.ex
  refine ⟨f, fd, F.okX sc_law_start (fun vs H Q E h => ?_) (fun cdv A outer s H vs Q E hr h => ?_), g, F.kp, b⟩
  · obtain ⟨a, ns, rfl, _⟩ := h
    rfl
  · obtain ⟨a, ns, rfl, hS, hl, q⟩ := h
    refine ⟨_, pss_one (ps_ret (pe_lst (pa_cons (pe_ifExp (pt_cmpR (op_neD hr.units) (pv 0) (pe_lst pa_nil) (nomark _)) (pe_callTy call_list_of (by rfl) T.z_list (by decide +kernel) (pa_cons (pv 0) pa_nil)) (pe_lst (pa_cons pe_int pa_nil))) (pa_cons pe_int pa_nil)))), ?_⟩
    refine ⟨_, rfl, Nat.zero_le _, fun p0 np0 => ?_⟩
    have s1 : Same H (upd H p0 (.lst [])) := same_new np0
    have lay : ∀ ns : List Int, PyData.canLayAll0 (ns.map PyData.int) = true := fun ns => by
      induction ns with
      | nil => rfl
      | cons x r ih => simp only [List.map_cons, PyData.canLayAll0, PyData.canLay0, ih, Bool.and_self]
    have dep : ∀ ns : List Int, PyData.depthAll (ns.map PyData.int) ≤ 1 := fun ns => by
      induction ns with
      | nil => simp [PyData.depthAll]
      | cons x r ih => simp only [List.map_cons, PyData.depthAll, PyData.depth]; omega
    have dps : ∀ ns : List Int, DpAll K (upd H p0 (.lst [])) (ns.map V.int) (ns.map PyData.int) := fun ns => by
      induction ns with
      | nil => exact .nil
      | cons x r ih => exact .cons (.int x) ih
    refine ⟨.list (ns.map PyData.int), .list [], .lst (s1.seq hS) (dps ns), .lst (SqL.of upd_same) .nil, ?_, by decide, _, rfl, ?_⟩
    · show (PyData.canLay0 (.list (ns.map PyData.int)) && decide (PyData.depth (.list (ns.map PyData.int)) ≤ 64)) = true
      rw [Bool.and_eq_true]
      refine ⟨by simp only [PyData.canLay0]; exact lay ns, decide_eq_true ?_⟩
      have := dep ns
      simp only [PyData.depth]; omega
    · cases ns with
      | nil =>
        refine iteF ?_
        refine ⟨by show 1 ≤ sizeLine; decide, fun n hn => ⟨by show 2 ≤ sizeLine; decide, fun p hp => ?_⟩⟩
        have s2 : Same H (upd (upd H p0 (.lst [])) n (.lst [.int 0])) := s1.trans (same_new hn)
        have s3 : Same H (upd (upd (upd H p0 (.lst [])) n (.lst [.int 0])) p (.lst [.ref n, .int 0])) := s2.trans (same_new hp)
        have nnp : n ≠ p := fun z => by rw [← z, upd_same] at hp; cases hp
        refine q _ p n s3 (s2.free hp) (s1.free hn) fun a' n' e => ?_
        cases e
        exact ⟨nnp.symm, 0, [0], upd_same, by decide, by rw [upd_ne nnp, upd_same]; rfl, by decide, by decide⟩
      | cons x r =>
        refine iteT ?_
        refine ⟨_, rfl, a, _, rfl, .inl (s1.seq hS), fun n hn => ⟨by show 2 ≤ sizeLine; decide, fun p hp => ?_⟩⟩
        have s2 : Same H (upd (upd H p0 (.lst [])) n (.lst ((x :: r).map V.int))) := s1.trans (same_new hn)
        have s3 : Same H (upd (upd (upd H p0 (.lst [])) n (.lst ((x :: r).map V.int))) p (.lst [.ref n, .int 0])) := s2.trans (same_new hp)
        have nnp : n ≠ p := fun z => by rw [← z, upd_same] at hp; cases hp
        refine q _ p n s3 (s2.free hp) (s1.free hn) fun a' n' e => ?_
        cases e
        exact ⟨nnp.symm, 0, x :: r, upd_same, by decide, by rw [upd_ne nnp, upd_same], by simp, hl⟩

theorem c_law_error (T : Tx K mg cl) : Cal P w K mg base cl "_law_error" 1 1 m_law_error :=
  cal_of (k := 0) T.f_law_error sc_law_error rfl fun f cdv A outer s H E hr =>
  (dss_cons (ds_set 1 sc_law_error.nd (DN.dl (dn_lst (da_cons (de_isE 0 0 T.err T.z_isinstance T.err.n0) (da_cons (de_isE 0 1 T.err T.z_isinstance T.err.n1) (da_cons (de_isE 0 2 T.err T.z_isinstance T.err.n2) da_nil))))))
  (dss_cons (ds_set 1 sc_law_error.nd (de_add (de_var 1) (DN.dl (dn_lst (da_cons (de_isE 0 3 T.err T.z_isinstance T.err.n3) (da_cons (de_isE 0 4 T.err T.z_isinstance T.err.n4) (da_cons (de_isE 0 5 T.err T.z_isinstance T.err.n5) da_nil)))))))
  (dss_cons (ds_if (DW.dt (dw_or (dt_ne hr (DE.db (de_count hr (de_var 1) de_bl)) (DE.db de_int)) (dw_or (dt_not (dt_val (de_isEm 0 T.err T.z_isinstance T.err.n6))) (dw_or1 (dt_not (dt_val (de_isEv 0 T.err T.z_isinstance T.z_ValueError)))))))
  (dss_one (ds_ret de_str))
  dss_nil)
  (dss_one (ds_ret (de_ix (DN.dl (dn_lst (da_cons de_str (da_cons de_str (da_cons de_str (da_cons de_str (da_cons de_str (da_cons de_str da_nil)))))))) (de_index hr (de_var 1) de_bl)))))))
theorem c_check_text (T : Tx K mg cl) : Cal P w K mg base cl "check_text" 1 1 m_check_text :=
  cal_of (k := 0) T.f_check_text sc_check_text rfl fun f cdv A outer s H E hr =>
  (dss_one (ds_if (dt_not (dt_val (de_isStr T.z_isinstance T.z_str (de_var 0))))
  (dss_one (ds_raiseX 4 tkOf T.e_BadText))
  dss_nil))
theorem c_is_int (T : Tx K mg cl) : Cal P w K mg base cl "is_int" 1 3 m_is_int :=
  cal_of (k := 0) T.f_is_int sc_is_int rfl fun f cdv A outer s H E hr =>
  (dss_one (ds_ret (de_and (de_isInt T.z_isinstance T.z_int (de_var 0)) (de_and (de_not (de_isBool T.z_isinstance T.z_bool (de_var 0))) (de_one (de_lele (de_var 1) (de_var 0) (de_var 2)))))))
theorem c_is_rally (T : Tx K mg cl) : Cal P w K mg base cl "is_rally" 2 1 m_is_rally :=
  cal_of (k := 1) T.f_is_rally sc_is_rally rfl fun f cdv A outer s H E hr =>
  (dss_one (ds_ret (de_fn (c_is_int T) (hr.mono (by decide)) psOf (da_cons (de_var 0) (da_cons de_int (da_cons de_int da_nil))))))
theorem c_is_row (T : Tx K mg cl) : Cal P w K mg base cl "is_row" 3 1 m_is_row :=
  cal_of (k := 2) T.f_is_row sc_is_row rfl fun f cdv A outer s H E hr =>
  (dss_one (ds_ret (de_and (de_isList T.z_isinstance T.z_list (de_var 0)) (de_and (de_le (DE.db (de_len T.z_len (da_cons (de_var 0) da_nil))) (DE.db (de_gl T.g_MOST_ROW))) (de_one (de_all T.z_all (da_cons (DN.dl (dn_lc [("one", 1)] sc_is_row.nd (di_seq (de_var 0)) (blkOk_by (N := ["value", "one"]) (sc := defScope s_is_row) (by decide +kernel)) (fun _ _ _ _ _ => (dg_name 1 sc_is_row.nd)) (fun _ _ _ _ _ => dts_nil) (fun _ _ _ _ _ => (de_fn (c_is_rally T) (hr.mono (by decide)) passL (da_cons (de_var 1) da_nil))))) da_nil)))))))
theorem c_parse_row (T : Tx K mg cl) : Cal P w K mg base cl "parse_row" 4 1 m_parse_row :=
  cal_of (k := 3) T.f_parse_row sc_parse_row rfl fun f cdv A outer s H E hr =>
  (dss_cons (ds_expr (de_fn (c_check_text T) (hr.mono (by decide)) psOf (da_cons (de_var 0) da_nil)))
  (dss_cons (ds_if (dt_not (dt_val (de_all T.z_all (da_cons (DN.dl (dn_lc [("sign", 2)] sc_parse_row.nd (di_seq (de_var 0)) (blkOk_by (N := ["text", "found", "sign"]) (sc := defScope s_parse_row) (by decide +kernel)) (fun _ _ _ _ _ => (dg_name 2 sc_parse_row.nd)) (fun _ _ _ _ _ => dts_nil) (fun _ _ _ _ _ => (de_in hr (DE.db (de_var 2)) (DE.db de_str))))) da_nil))))
  (dss_one (ds_raiseX 4 tkOf T.e_BadText))
  dss_nil)
  (dss_cons (ds_setLc 1 [("sign", 2)] sc_parse_row.nd (di_seq (de_var 0)) (blkOk_by (N := ["text", "found", "sign"]) (sc := defScope s_parse_row) (by decide +kernel)) (fun _ _ _ _ _ => (dg_name 2 sc_parse_row.nd)) (fun _ _ _ _ _ => dts_nil) (fun _ _ _ _ _ => (de_int1 T.z_int (da_cons (de_var 2) da_nil))) (sw_true rfl rfl rfl (by decide +kernel)))
  (dss_cons (ds_if (dt_not (dt_val (de_fn (c_is_row T) (hr.mono (by decide)) psOf (da_cons (de_var 1) da_nil))))
  (dss_one (ds_raiseX 4 tkOf T.e_BadText))
  dss_nil)
  (dss_one (ds_ret (de_var 1)))))))
theorem c_is_word (T : Tx K mg cl) : Cal P w K mg base cl "is_word" 1 2 m_is_word :=
  cal_of (k := 0) T.f_is_word sc_is_word rfl fun f cdv A outer s H E hr =>
  (dss_one (ds_ret (de_and (de_isStr T.z_isinstance T.z_str (de_var 0)) (de_one (de_in hr (DE.db (de_var 0)) (DE.db (de_var 1)))))))
theorem c_is_rule (T : Tx K mg cl) : Cal P w K mg base cl "is_rule" 2 1 m_is_rule :=
  cal_of (k := 1) T.f_is_rule sc_is_rule rfl fun f cdv A outer s H E hr =>
  (dss_cons (ds_if (DW.dt (dw_or (dt_not (dt_val (de_isTuple T.z_isinstance T.z_tuple (de_var 0)))) (dw_or1 (dt_ne hr (DE.db (de_len T.z_len (da_cons (de_var 0) da_nil))) (DE.db de_int)))))
  (dss_one (ds_ret de_bl))
  dss_nil)
  (dss_cons (ds_if (DW.dt (dw_or (dt_not (dt_val (de_fn (c_is_int T) (hr.mono (by decide)) psOf (da_cons (de_ix (de_var 0) de_int) (da_cons de_int (da_cons de_int da_nil)))))) (dw_or (dt_not (dt_val (de_fn (c_is_word T) (hr.mono (by decide)) psOf (da_cons (de_ix (de_var 0) de_int) (da_cons (de_gl T.g_LEADS) da_nil))))) (dw_or1 (dt_not (dt_val (de_fn (c_is_int T) (hr.mono (by decide)) psOf (da_cons (de_ix (de_var 0) de_int) (da_cons de_int (da_cons de_int da_nil))))))))))
  (dss_one (ds_ret de_bl))
  dss_nil)
  (dss_one (ds_ret (de_and (de_fn (c_is_word T) (hr.mono (by decide)) psOf (da_cons (de_ix (de_var 0) de_int) (da_cons (de_gl T.g_DECIDERS) da_nil))) (de_one (de_fn (c_is_word T) (hr.mono (by decide)) psOf (da_cons (de_ix (de_var 0) de_int) (da_cons (de_gl T.g_SERVES) da_nil)))))))))
theorem c_item_in (T : Tx K mg cl) : Cal P w K mg base cl "item_in" 1 1 m_item_in :=
  cal_of (k := 0) T.f_item_in sc_item_in rfl fun f cdv A outer s H E hr =>
  (dss_one (ds_ret (de_if (dt_in hr (DE.db (de_var 0)) (DE.db (de_tup (da_cons de_str (da_cons de_str (da_cons de_str (da_cons de_str da_nil))))))) (de_int1 T.z_int (da_cons (de_var 0) da_nil)) (de_var 0))))
theorem c_parse_rule (T : Tx K mg cl) : Cal P w K mg base cl "parse_rule" 3 1 m_parse_rule :=
  cal_of (k := 2) T.f_parse_rule sc_parse_rule rfl fun f cdv A outer s H E hr =>
  (dss_cons (ds_expr (de_fn (c_check_text T) (hr.mono (by decide)) psOf (da_cons (de_var 0) da_nil)))
  (dss_cons (ds_set 1 sc_parse_rule.nd (de_tuple T.z_tuple (da_cons (DN.dl (dn_lc [("word", 2)] sc_parse_rule.nd (di_seq (DN.dl (dn_split (de_var 0) de_str))) (blkOk_by (N := ["text", "found", "word"]) (sc := defScope s_parse_rule) (by decide +kernel)) (fun _ _ _ _ _ => (dg_name 2 sc_parse_rule.nd)) (fun _ _ _ _ _ => dts_nil) (fun _ _ _ _ _ => (de_fn (c_item_in T) (hr.mono (by decide)) passL (da_cons (de_var 2) da_nil))))) da_nil)))
  (dss_cons (ds_if (dt_not (dt_val (de_fn (c_is_rule T) (hr.mono (by decide)) psOf (da_cons (de_var 1) da_nil))))
  (dss_one (ds_raiseX 4 tkOf T.e_BadText))
  dss_nil)
  (dss_one (ds_ret (de_var 1))))))
theorem c_law_parsed (T : Tx K mg cl) : Cal P w K mg base cl "_law_parsed" 5 2 m_law_parsed :=
  cal_of (k := 4) T.f_law_parsed sc_law_parsed rfl fun f cdv A outer s H E hr =>
  (dss_cons (ds_set 2 sc_law_parsed.nd de_non)
  (dss_cons (ds_set 3 sc_law_parsed.nd de_non)
  (dss_cons (ds_try 4 3 5 sc_law_parsed.nd T.err.n6 T.err.m (fun pn xe E' hps => (dss_one (ds_set 2 sc_law_parsed.nd (de_if (dt_eq hr (DE.db (de_var 0)) (DE.db de_int)) (de_fn (c_parse_rule T) (hr.mono (by decide)) hps (da_cons (de_var 1) da_nil)) (de_fn (c_parse_row T) (hr.mono (by decide)) hps (da_cons (de_var 1) da_nil)))))))
  (dss_one (ds_ret (de_if (dt_noE 3) (de_var 2) (de_fn (c_law_error T) (hr.mono (by decide)) psOf (da_ex 3 da_nil))))))))
theorem c_law_pick (T : Tx K mg cl) : Cal P w K mg base cl "_law_pick" 2 2 m_law_pick :=
  cal_of (k := 1) T.f_law_pick sc_law_pick rfl fun f cdv A outer s H E hr =>
  (dss_one (ds_ret (de_ix (de_var 1) (de_fn (c_law_draw T) (hr.mono (by decide)) psOf (da_dr 0 (da_cons (de_len T.z_len (da_cons (de_var 1) da_nil)) da_nil))))))
theorem c_law_rejected (T : Tx K mg cl) : Cal P w K mg base cl "_law_rejected" 6 0 m_law_rejected :=
  cal_of (k := 5) T.f_law_rejected sc_law_rejected rfl fun f cdv A outer s H E hr =>
  (dss_cons (ds_set 0 sc_law_rejected.nd (DN.dl (dn_lst (da_cons de_non (da_cons de_int (da_cons de_str (da_cons de_str (da_cons de_str (da_cons de_str (da_cons de_str (da_cons de_str (da_cons de_str (da_cons de_str da_nil)))))))))))))
  (dss_cons (ds_set 0 sc_law_rejected.nd (de_add (de_var 0) (DN.dl (dn_lst (da_cons de_str (da_cons de_str (da_cons de_str (da_cons de_str (da_cons de_str (da_cons de_str (da_cons de_str da_nil)))))))))))
  (dss_cons (ds_set 0 sc_law_rejected.nd (de_add (de_var 0) (DN.dl (dn_lst (da_cons de_str (da_cons de_str (da_cons (de_tup (da_cons de_int (da_cons de_str (da_cons de_int (da_cons de_str (da_cons de_str da_nil)))))) (da_cons (DN.dl (dn_lst (da_cons de_str da_nil))) (da_cons de_str (da_cons de_str (da_cons de_str (da_cons (de_mulS de_str de_int) da_nil))))))))))))
  (dss_cons (ds_if (dt_ne hr (DE.db (DN.dl (dn_lc [("bad", 2)] sc_law_rejected.nd (di_seq (de_var 0)) (blkOk_by (N := ["odd", "lone", "bad"]) (sc := defScope s_law_rejected) (by decide +kernel)) (fun _ _ _ _ _ => (dg_name 2 sc_law_rejected.nd)) (fun _ _ _ _ _ => dts_nil) (fun _ _ _ _ _ => (de_fn (c_law_parsed T) (hr.mono (by decide)) passL (da_cons de_int (da_cons (de_var 2) da_nil))))))) (DE.db (de_mul (DN.dl (dn_lst (da_cons de_str da_nil))) de_int)))
  (dss_one (ds_ret de_bl))
  dss_nil)
  (dss_cons (ds_set 1 sc_law_rejected.nd (DN.dl (dn_lst (da_cons de_non (da_cons de_int (da_cons de_str (da_cons de_str (da_cons de_str (da_cons de_str (da_cons de_str (da_cons de_str (da_cons (DN.dl (dn_lst (da_cons de_str da_nil))) (da_cons (de_mulS de_str de_int) (da_cons de_str (da_cons de_str (da_cons de_str (da_cons de_str da_nil)))))))))))))))))
  (dss_one (ds_ret (de_and (de_eq hr (DE.db (DN.dl (dn_lc [("bad", 2)] sc_law_rejected.nd (di_seq (de_var 1)) (blkOk_by (N := ["odd", "lone", "bad"]) (sc := defScope s_law_rejected) (by decide +kernel)) (fun _ _ _ _ _ => (dg_name 2 sc_law_rejected.nd)) (fun _ _ _ _ _ => dts_nil) (fun _ _ _ _ _ => (de_fn (c_law_parsed T) (hr.mono (by decide)) passL (da_cons de_int (da_cons (de_var 2) da_nil))))))) (DE.db (de_mul (DN.dl (dn_lst (da_cons de_str da_nil))) de_int))) (de_and (de_eq hr (DE.db (de_fn (c_law_parsed T) (hr.mono (by decide)) psOf (da_cons de_int (da_cons de_str da_nil)))) (DE.db (DN.dl (dn_lst da_nil)))) (de_one (de_eq hr (DE.db (de_fn (c_law_parsed T) (hr.mono (by decide)) psOf (da_cons de_int (da_cons (de_mulS de_str de_int) da_nil)))) (DE.db (de_mul (DN.dl (dn_lst (da_cons de_int da_nil))) de_int)))))))))))))
theorem c_law_row (T : Tx K mg cl) : Cal P w K mg base cl "_law_row" 3 2 m_law_row :=
  cal_of (k := 2) T.f_law_row sc_law_row rfl fun f cdv A outer s H E hr =>
  (dss_cons (ds_set 2 sc_law_row.nd (DN.dl (dn_lst da_nil)))
  (dss_cons (ds_set 3 sc_law_row.nd (de_fn (c_law_draw T) (hr.mono (by decide)) psOf (da_dr 0 (da_cons (de_add (de_var 1) de_int) da_nil))))
  (dss_cons (ds_while 1000 poOf (dt_lt (DE.db (de_len T.z_len (da_cons (de_var 2) da_nil))) (DE.db (de_var 3))) (dss_one (ds_set 2 sc_law_row.nd (de_add (de_var 2) (de_mul (DN.dl (dn_lst (da_cons (de_fn (c_law_draw T) (hr.mono (by decide)) psOf (da_dr 0 (da_cons de_int da_nil))) da_nil))) (de_fn (c_law_pick T) (hr.mono (by decide)) psOf (da_dr 0 (da_cons (DN.dl (dn_lst (da_cons de_int (da_cons de_int (da_cons de_int (da_cons de_int da_nil)))))) da_nil))))))))
  (dss_one (ds_ret (de_slice (de_var 2) do_none (do_some (de_var 3))))))))
theorem c_law_rule (T : Tx K mg cl) : Cal P w K mg base cl "_law_rule" 3 1 m_law_rule :=
  cal_of (k := 2) T.f_law_rule sc_law_rule rfl fun f cdv A outer s H E hr =>
  (dss_cons (ds_par2 1 2 sc_law_rule.nd (dps_fz (de_fn (c_law_pick T) (hr.mono (by decide)) psOf (da_dr 0 (da_cons (DN.dl (dn_lst (da_cons de_str (da_cons de_str (da_cons de_str da_nil))))) da_nil))) (dps_fz (de_fn (c_law_pick T) (hr.mono (by decide)) psOf (da_dr 0 (da_cons (DN.dl (dn_lst (da_cons de_str (da_cons de_str (da_cons de_str (da_cons de_str da_nil)))))) da_nil))) dps_nil)))
  (dss_one (ds_ret (de_tup (da_cons (de_add de_int (de_fn (c_law_draw T) (hr.mono (by decide)) psOf (da_dr 0 (da_cons de_int da_nil)))) (da_cons (de_var 1) (da_cons (de_add de_int (de_fn (c_law_draw T) (hr.mono (by decide)) psOf (da_dr 0 (da_cons de_int da_nil)))) (da_cons (de_fn (c_law_pick T) (hr.mono (by decide)) psOf (da_dr 0 (da_cons (DN.dl (dn_lst (da_cons de_str (da_cons de_str da_nil)))) da_nil))) (da_cons (de_var 2) da_nil)))))))))
theorem c_law_words (T : Tx K mg cl) : Cal P w K mg base cl "_law_words" 1 2 m_law_words :=
  cal_of (k := 0) T.f_law_words sc_law_words rfl fun f cdv A outer s H E hr =>
  (dss_one (ds_ret (de_if (dt_eq hr (DE.db (de_var 0)) (DE.db de_int)) (de_join de_str (DN.dl (dn_lc [("one", 2)] sc_law_words.nd (di_seq (de_var 1)) (blkOk_by (N := ["kind", "thing", "one"]) (sc := defScope s_law_words) (by decide +kernel)) (fun _ _ _ _ _ => (dg_name 2 sc_law_words.nd)) (fun _ _ _ _ _ => dts_nil) (fun _ _ _ _ _ => (de_str1 T.z_str (da_cons (de_var 2) da_nil)))))) (de_join de_str (DN.dl (dn_lc [("one", 2)] sc_law_words.nd (di_seq (de_var 1)) (blkOk_by (N := ["kind", "thing", "one"]) (sc := defScope s_law_words) (by decide +kernel)) (fun _ _ _ _ _ => (dg_name 2 sc_law_words.nd)) (fun _ _ _ _ _ => dts_nil) (fun _ _ _ _ _ => (de_str1 T.z_str (da_cons (de_var 2) da_nil)))))))))
theorem c_all_rules (T : Tx K mg cl) : Cal P w K mg base cl "all_rules" 1 0 m_all_rules :=
  cal_of (k := 0) T.f_all_rules sc_all_rules rfl fun f cdv A outer s H E hr =>
  (dss_cons (ds_own 0 sc_all_rules.nd (dn_lst da_nil))
  (dss_cons (ds_for poOf (di_seq (de_tup (da_cons de_int (da_cons de_int (da_cons de_int da_nil))))) (dg_name 1 sc_all_rules.nd) (dss_one (ds_for poOf (di_seq (de_gl T.g_LEADS)) (dg_name 2 sc_all_rules.nd) (dss_one (ds_for poOf (di_seq (de_tup (da_cons de_int (da_cons de_int (da_cons de_int da_nil))))) (dg_name 3 sc_all_rules.nd) (dss_one (ds_for poOf (di_seq (de_gl T.g_DECIDERS)) (dg_name 4 sc_all_rules.nd) (dss_one (ds_aug 0 sc_all_rules.nd (DN.dl (dn_lc [("serve", 5)] sc_all_rules.nd (di_seq (de_gl T.g_SERVES)) (blkOk_by (N := ["found", "points", "lead", "games", "decider", "serve"]) (sc := defScope s_all_rules) (by decide +kernel)) (fun _ _ _ _ _ => (dg_name 5 sc_all_rules.nd)) (fun _ _ _ _ _ => dts_nil) (fun _ _ _ _ _ => (de_tup (da_cons (de_var 1) (da_cons (de_var 2) (da_cons (de_var 3) (da_cons (de_var 4) (da_cons (de_var 5) da_nil))))))))))))))))))
  (dss_fz 0 (dss_one (ds_ret (de_var 0))))))
theorem c_check_row (T : Tx K mg cl) : Cal P w K mg base cl "check_row" 4 1 m_check_row :=
  cal_of (k := 3) T.f_check_row sc_check_row rfl fun f cdv A outer s H E hr =>
  (dss_one (ds_if (dt_not (dt_val (de_fn (c_is_row T) (hr.mono (by decide)) psOf (da_cons (de_var 0) da_nil))))
  (dss_one (ds_raiseX 1 tkOf T.e_BadRally))
  dss_nil))
theorem c_format_row (T : Tx K mg cl) : Cal P w K mg base cl "format_row" 5 1 m_format_row :=
  cal_of (k := 4) T.f_format_row sc_format_row rfl fun f cdv A outer s H E hr =>
  (dss_cons (ds_expr (de_fn (c_check_row T) (hr.mono (by decide)) psOf (da_cons (de_var 0) da_nil)))
  (dss_one (ds_ret (de_join de_str (DN.dl (dn_lc [("rally", 1)] sc_format_row.nd (di_seq (de_var 0)) (blkOk_by (N := ["row", "rally"]) (sc := defScope s_format_row) (by decide +kernel)) (fun _ _ _ _ _ => (dg_name 1 sc_format_row.nd)) (fun _ _ _ _ _ => dts_nil) (fun _ _ _ _ _ => (de_str1 T.z_str (da_cons (de_var 1) da_nil)))))))))
theorem c_check_rule (T : Tx K mg cl) : Cal P w K mg base cl "check_rule" 3 1 m_check_rule :=
  cal_of (k := 2) T.f_check_rule sc_check_rule rfl fun f cdv A outer s H E hr =>
  (dss_one (ds_if (dt_not (dt_val (de_fn (c_is_rule T) (hr.mono (by decide)) psOf (da_cons (de_var 0) da_nil))))
  (dss_one (ds_raiseX 0 tkOf T.e_BadRule))
  dss_nil))
theorem c_format_rule (T : Tx K mg cl) : Cal P w K mg base cl "format_rule" 4 1 m_format_rule :=
  cal_of (k := 3) T.f_format_rule sc_format_rule rfl fun f cdv A outer s H E hr =>
  (dss_cons (ds_expr (de_fn (c_check_rule T) (hr.mono (by decide)) psOf (da_cons (de_var 0) da_nil)))
  (dss_one (ds_ret (de_join de_str (DN.dl (dn_lc [("one", 1)] sc_format_rule.nd (di_seq (de_var 0)) (blkOk_by (N := ["rule", "one"]) (sc := defScope s_format_rule) (by decide +kernel)) (fun _ _ _ _ _ => (dg_name 1 sc_format_rule.nd)) (fun _ _ _ _ _ => dts_nil) (fun _ _ _ _ _ => (de_str1 T.z_str (da_cons (de_var 1) da_nil)))))))))
theorem b_law (T : Tx K mg cl) {f : Addr} {cdv : Value} {A : Around} {outer : List Env} {s : Shared} {H : Hp} {E : XK} (hr : Room 6 (A.deeper (PyProof.Rows.envOfC "law" (defScope s_law) s.heap.objs.size f cdv))) :
    DSs cl (cxOf (L2.CX P w) P w K mg base ["script", "draws", "things", "texts", "kind", "marks", "turn", "text", "at", "mark", "other", "found", "every", "points", "lead", "games", "decider", "serve"] "law" (defScope s_law) f cdv A outer s H E) E ((defBody s_law).tail) u_law :=
  (dss_cons (ds_set 2 sc_law.nd (DN.dl (dn_lst (da_cons (de_fn (c_law_rule T) (hr.mono (by decide)) psOf (da_dr 1 da_nil)) (da_cons (de_fn (c_law_row T) (hr.mono (by decide)) psOf (da_dr 1 (da_cons de_int da_nil))) da_nil)))))
  (dss_cons (ds_set 3 sc_law.nd (DN.dl (dn_lst (da_cons (de_fn (c_format_rule T) (hr.mono (by decide)) psOf (da_cons (de_ix (de_var 2) de_int) da_nil)) (da_cons (de_fn (c_format_row T) (hr.mono (by decide)) psOf (da_cons (de_ix (de_var 2) de_int) da_nil)) da_nil)))))
  (dss_cons (ds_for poOf (di_range1 T.z_range (da_cons de_int da_nil)) (dg_name 4 sc_law.nd) (dss_one (ds_if (DW.dt (dw_or (dt_ne hr (DE.db (de_ix (de_var 3) (de_var 4))) (DE.db (de_fn (c_law_words T) (hr.mono (by decide)) psOf (da_cons (de_var 4) (da_cons (de_ix (de_var 2) (de_var 4)) da_nil))))) (dw_or1 (dt_ne hr (DE.db (de_fn (c_law_parsed T) (hr.mono (by decide)) psOf (da_cons (de_var 4) (da_cons (de_ix (de_var 3) (de_var 4)) da_nil)))) (DE.db (de_ix (de_var 2) (de_var 4)))))))
  (dss_one (ds_ret de_bl))
  dss_nil)))
  (dss_cons (ds_set 5 sc_law.nd (DN.dl (dn_lst (da_cons de_str (da_cons de_str (da_cons de_str (da_cons de_str (da_cons de_str (da_cons de_str (da_cons de_str (da_cons de_str (da_cons de_str (da_cons de_str (da_cons de_str (da_cons de_str da_nil)))))))))))))))
  (dss_cons (ds_for poOf (di_range1 T.z_range (da_cons de_int da_nil)) (dg_name 6 sc_law.nd) (dss_cons (ds_set 4 sc_law.nd (de_fn (c_law_draw T) (hr.mono (by decide)) psOf (da_dr 1 (da_cons de_int da_nil))))
  (dss_cons (ds_set 7 sc_law.nd (de_ix (de_var 3) (de_var 4)))
  (dss_cons (ds_set 8 sc_law.nd (de_fn (c_law_draw T) (hr.mono (by decide)) psOf (da_dr 1 (da_cons (de_add (de_len T.z_len (da_cons (de_var 7) da_nil)) de_int) da_nil))))
  (dss_cons (ds_set 9 sc_law.nd (de_fn (c_law_pick T) (hr.mono (by decide)) psOf (da_dr 1 (da_cons (de_var 5) da_nil))))
  (dss_cons (ds_set 10 sc_law.nd (de_fn (c_law_pick T) (hr.mono (by decide)) psOf (da_dr 1 (da_cons (DN.dl (dn_lst (da_cons (de_add (de_add (de_slice (de_var 7) do_none (do_some (de_var 8))) (de_var 9)) (de_slice (de_var 7) (do_some (de_add (de_var 8) de_int)) do_none)) (da_cons (de_add (de_add (de_slice (de_var 7) do_none (do_some (de_var 8))) (de_var 9)) (de_slice (de_var 7) (do_some (de_var 8)) do_none)) (da_cons (de_add (de_add (de_add (de_slice (de_var 7) do_none (do_some (de_var 8))) de_str) (de_var 9)) (de_slice (de_var 7) (do_some (de_var 8)) do_none)) da_nil))))) da_nil))))
  (dss_cons (ds_set 11 sc_law.nd (de_fn (c_law_parsed T) (hr.mono (by decide)) psOf (da_cons (de_var 4) (da_cons (de_var 10) da_nil))))
  (dss_cons (ds_if (DW.dt (dw_and (dt_ne hr (DE.db (de_var 11)) (DE.db de_str)) (dw_and1 (dt_ne hr (DE.db (de_fn (c_law_words T) (hr.mono (by decide)) psOf (da_cons (de_var 4) (da_cons (de_var 11) da_nil)))) (DE.db (de_var 10))))))
  (dss_one (ds_ret de_bl))
  dss_nil)
  (dss_one (ds_if (DW.dt (dw_and (dt_ne hr (DE.db (de_var 11)) (DE.db de_str)) (dw_and1 (dt_isNot (DE.db (de_if (dt_eq hr (DE.db (de_var 4)) (DE.db de_int)) (de_fn (c_is_rule T) (hr.mono (by decide)) psOf (da_cons (de_var 11) da_nil)) (de_fn (c_is_row T) (hr.mono (by decide)) psOf (da_cons (de_var 11) da_nil)))) (DE.db de_bl)))))
  (dss_one (ds_ret de_bl))
  dss_nil))))))))))
  (dss_cons (ds_set 12 sc_law.nd (DN.dl (dn_lst da_nil)))
  (dss_cons (ds_for poOf (di_seq (de_tup (da_cons de_int (da_cons de_int (da_cons de_int da_nil))))) (dg_name 13 sc_law.nd) (dss_one (ds_for poOf (di_seq (de_tup (da_cons de_str (da_cons de_str (da_cons de_str da_nil))))) (dg_name 14 sc_law.nd) (dss_one (ds_for poOf (di_seq (de_tup (da_cons de_int (da_cons de_int (da_cons de_int da_nil))))) (dg_name 15 sc_law.nd) (dss_one (ds_for poOf (di_seq (de_tup (da_cons de_str (da_cons de_str da_nil)))) (dg_name 16 sc_law.nd) (dss_one (ds_set 12 sc_law.nd (de_add (de_var 12) (DN.dl (dn_lc [("serve", 17)] sc_law.nd (di_seq (de_tup (da_cons de_str (da_cons de_str (da_cons de_str (da_cons de_str da_nil)))))) (blkOk_by (N := ["script", "draws", "things", "texts", "kind", "marks", "turn", "text", "at", "mark", "other", "found", "every", "points", "lead", "games", "decider", "serve"]) (sc := defScope s_law) (by decide +kernel)) (fun _ _ _ _ _ => (dg_name 17 sc_law.nd)) (fun _ _ _ _ _ => dts_nil) (fun _ _ _ _ _ => (de_tup (da_cons (de_var 13) (da_cons (de_var 14) (da_cons (de_var 15) (da_cons (de_var 16) (da_cons (de_var 17) da_nil)))))))))))))))))))
  (dss_one (ds_ret (de_and (de_fn0 (c_law_rejected T) (hr.mono (by decide)) psOf) (de_and (de_eq hr (DE.db (de_fn0 (c_all_rules T) (hr.mono (by decide)) psOf)) (DE.db (de_var 12))) (de_one (de_eq hr (DE.db (de_len T.z_len (da_cons (de_var 12) da_nil))) (DE.db de_int))))))))))))))
open PySem.Spec PyProof.Rows in
theorem ok_law (T : Tx K mg cl) (u : Stm) (hb : ∀ {f : Addr} {cdv : Value} {A : Around} {outer : List Env} {s : Shared} {H : Hp} {E : XK}, Room 6 (A.deeper (envOfC "law" (defScope s_law) s.heap.objs.size f cdv)) →
    DSs cl (cxOf (L2.CX P w) P w K mg base ["script", "draws", "things", "texts", "kind", "marks", "turn", "text", "at", "mark", "other", "found", "every", "points", "lead", "games", "decider", "serve"] "law" (defScope s_law) f cdv A outer s H E) E ((defBody s_law).tail) u) (hlaw : LawOk u 16) {fa : Addr} {fd : FuncData} (F : Fun K "law" "law" s_law fa fd) : FnOk P w K mg base (L2.CX P w) 7 fa fd ["script"] (spLaw K) := by
  obtain ⟨f1, fd1, G1, g1, kp1, b1⟩ := c_law_start (P := P) (w := w) (base := base) T
  refine F.okX sc_law (fun vs H Q E h => ?_) (fun cdv A outer s H vs Q E hr h => ?_)
  · obtain ⟨a, ns, rfl, _⟩ := h
    rfl
  · obtain ⟨a, ns, rfl, hS, hl, q⟩ := h
    obtain ⟨t, p, r⟩ := hb (H := H) (E := E) hr
    refine ⟨_, pss_cons (ps_set (i := 1) sc_law.nd rfl (by first | exact Or.inl rfl | exact Or.inr rfl) (pe_call G1 (hr.mono (by decide)) (by rfl) g1 kp1 b1 .nil psOf (pa_cons (pv 0) pa_nil))) p, ?_⟩
    refine ⟨.ref a, rfl, a, ns, rfl, hS, hl, fun H' p n sm hp hn hd => ?_⟩
    obtain ⟨F, f1, f2, f3, B, ad, o⟩ := law_ok (K := K) (cl := cl) (σ := (L2.start ["script", "draws", "things", "texts", "kind", "marks", "turn", "text", "at", "mark", "other", "found", "every", "points", "lead", "games", "decider", "serve"] [V.ref a]).set 1 (some (.ref p))) (m := 16) hd rfl rfl
    refine r F B ad _ H' _ _ f1 f2 o (Tr.all_mono (fun ou z => ?_) (fun _ z => z.elim) hlaw.h)
    subst z
    intro v H2 _ rv
    cases rv
    exact q H2
end
theorem all_mk {l : PySem.W.OpenLaw} {w : World} {K : PySem.W.Frag} {h : Heap} {mg : Str → Option Value} {fa : Addr} (hlaw : LawOk u_law 16) (X : K.In h) (G : h.Ns mainGlobals mg) (hfa : mg "law" = some (.ref fa))
    {f0 : Addr} {od0 an0 : Option Addr} {sl0 : Array (Option Value)} {oc0 kV0 dc0 pm0 cd0 ct0 : Value}
    {f1 : Addr} {od1 an1 : Option Addr} {sl1 : Array (Option Value)} {oc1 kV1 dc1 pm1 cd1 ct1 : Value}
    {f2 : Addr} {od2 an2 : Option Addr} {sl2 : Array (Option Value)} {oc2 kV2 dc2 pm2 cd2 ct2 : Value}
    {f3 : Addr} {od3 an3 : Option Addr} {sl3 : Array (Option Value)} {oc3 kV3 dc3 pm3 cd3 ct3 : Value}
    {f4 : Addr} {od4 an4 : Option Addr} {sl4 : Array (Option Value)} {oc4 kV4 dc4 pm4 cd4 ct4 : Value}
    {f5 : Addr} {od5 an5 : Option Addr} {sl5 : Array (Option Value)} {oc5 kV5 dc5 pm5 cd5 ct5 : Value}
    {f6 : Addr} {od6 an6 : Option Addr} {sl6 : Array (Option Value)} {oc6 kV6 dc6 pm6 cd6 ct6 : Value}
    {f7 : Addr} {od7 an7 : Option Addr} {sl7 : Array (Option Value)} {oc7 kV7 dc7 pm7 cd7 ct7 : Value}
    {f8 : Addr} {od8 an8 : Option Addr} {sl8 : Array (Option Value)} {oc8 kV8 dc8 pm8 cd8 ct8 : Value}
    {f9 : Addr} {od9 an9 : Option Addr} {sl9 : Array (Option Value)} {oc9 kV9 dc9 pm9 cd9 ct9 : Value}
    {f10 : Addr} {od10 an10 : Option Addr} {sl10 : Array (Option Value)} {oc10 kV10 dc10 pm10 cd10 ct10 : Value}
    {f11 : Addr} {od11 an11 : Option Addr} {sl11 : Array (Option Value)} {oc11 kV11 dc11 pm11 cd11 ct11 : Value}
    {f12 : Addr} {od12 an12 : Option Addr} {sl12 : Array (Option Value)} {oc12 kV12 dc12 pm12 cd12 ct12 : Value}
    {f13 : Addr} {od13 an13 : Option Addr} {sl13 : Array (Option Value)} {oc13 kV13 dc13 pm13 cd13 ct13 : Value}
    {f14 : Addr} {od14 an14 : Option Addr} {sl14 : Array (Option Value)} {oc14 kV14 dc14 pm14 cd14 ct14 : Value}
    {f15 : Addr} {od15 an15 : Option Addr} {sl15 : Array (Option Value)} {oc15 kV15 dc15 pm15 cd15 ct15 : Value}
    {f16 : Addr} {od16 an16 : Option Addr} {sl16 : Array (Option Value)} {oc16 kV16 dc16 pm16 cd16 ct16 : Value}
    {f17 : Addr} {od17 an17 : Option Addr} {sl17 : Array (Option Value)} {oc17 kV17 dc17 pm17 cd17 ct17 : Value}
    {f18 : Addr} {od18 an18 : Option Addr} {sl18 : Array (Option Value)} {oc18 kV18 dc18 pm18 cd18 ct18 : Value}
    {f19 : Addr} {od19 an19 : Option Addr} {sl19 : Array (Option Value)} {oc19 kV19 dc19 pm19 cd19 ct19 : Value}
    {f20 : Addr} {od20 an20 : Option Addr} {sl20 : Array (Option Value)} {oc20 kV20 dc20 pm20 cd20 ct20 : Value}
    {f21 : Addr} {od21 an21 : Option Addr} {sl21 : Array (Option Value)} {oc21 kV21 dc21 pm21 cd21 ct21 : Value}
    {f22 : Addr} {od22 an22 : Option Addr} {sl22 : Array (Option Value)} {oc22 kV22 dc22 pm22 cd22 ct22 : Value}
    {f23 : Addr} {od23 an23 : Option Addr} {sl23 : Array (Option Value)} {oc23 kV23 dc23 pm23 cd23 ct23 : Value}
    {a_DECIDERS : Addr} {dd_DECIDERS : Option Addr} {n_DECIDERS : Nat} {sl_DECIDERS : Array (Option Value)} {t_DECIDERS_0 t_DECIDERS_1 : Tok}
    {a_LEADS : Addr} {dd_LEADS : Option Addr} {n_LEADS : Nat} {sl_LEADS : Array (Option Value)} {t_LEADS_0 t_LEADS_1 t_LEADS_2 : Tok}
    {t_MOST_ROW : Tok}
    {a_SERVES : Addr} {dd_SERVES : Option Addr} {n_SERVES : Nat} {sl_SERVES : Array (Option Value)} {t_SERVES_0 t_SERVES_1 t_SERVES_2 t_SERVES_3 : Tok}
    {C_BadRally : Addr}
    {C_BadRule : Addr}
    {C_BadText : Addr}
    {C_BadBoards : Addr}
    {C_BadNumber : Addr}
    {C_NotFound : Addr}
    {C_MatchError : Addr}
    (a0 : PySem.W.nsIn K mainGlobals "_law_draw" = some (some (.ref f0)))
    (l0 : K.lookup f0 = some ⟨oc0, od0, .func (PySem.W.fnOf "_law_draw" "_law_draw" (defArgs s_law_draw) (defBody s_law_draw) (defScope s_law_draw) .none kV0 dc0 pm0 an0 cd0 ct0), sl0⟩)
    (c0 : PySem.W.codeIn K cd0 "_law_draw" = true)
    (k0 : PySem.W.keepIn K (.ref f0) = true)
    (a1 : PySem.W.nsIn K mainGlobals "_law_error" = some (some (.ref f1)))
    (l1 : K.lookup f1 = some ⟨oc1, od1, .func (PySem.W.fnOf "_law_error" "_law_error" (defArgs s_law_error) (defBody s_law_error) (defScope s_law_error) .none kV1 dc1 pm1 an1 cd1 ct1), sl1⟩)
    (c1 : PySem.W.codeIn K cd1 "_law_error" = true)
    (k1 : PySem.W.keepIn K (.ref f1) = true)
    (a2 : PySem.W.nsIn K mainGlobals "check_text" = some (some (.ref f2)))
    (l2 : K.lookup f2 = some ⟨oc2, od2, .func (PySem.W.fnOf "check_text" "check_text" (defArgs s_check_text) (defBody s_check_text) (defScope s_check_text) .none kV2 dc2 pm2 an2 cd2 ct2), sl2⟩)
    (c2 : PySem.W.codeIn K cd2 "check_text" = true)
    (k2 : PySem.W.keepIn K (.ref f2) = true)
    (a3 : PySem.W.nsIn K mainGlobals "is_int" = some (some (.ref f3)))
    (l3 : K.lookup f3 = some ⟨oc3, od3, .func (PySem.W.fnOf "is_int" "is_int" (defArgs s_is_int) (defBody s_is_int) (defScope s_is_int) .none kV3 dc3 pm3 an3 cd3 ct3), sl3⟩)
    (c3 : PySem.W.codeIn K cd3 "is_int" = true)
    (k3 : PySem.W.keepIn K (.ref f3) = true)
    (a4 : PySem.W.nsIn K mainGlobals "is_rally" = some (some (.ref f4)))
    (l4 : K.lookup f4 = some ⟨oc4, od4, .func (PySem.W.fnOf "is_rally" "is_rally" (defArgs s_is_rally) (defBody s_is_rally) (defScope s_is_rally) .none kV4 dc4 pm4 an4 cd4 ct4), sl4⟩)
    (c4 : PySem.W.codeIn K cd4 "is_rally" = true)
    (k4 : PySem.W.keepIn K (.ref f4) = true)
    (a5 : PySem.W.nsIn K mainGlobals "is_row" = some (some (.ref f5)))
    (l5 : K.lookup f5 = some ⟨oc5, od5, .func (PySem.W.fnOf "is_row" "is_row" (defArgs s_is_row) (defBody s_is_row) (defScope s_is_row) .none kV5 dc5 pm5 an5 cd5 ct5), sl5⟩)
    (c5 : PySem.W.codeIn K cd5 "is_row" = true)
    (k5 : PySem.W.keepIn K (.ref f5) = true)
    (a6 : PySem.W.nsIn K mainGlobals "parse_row" = some (some (.ref f6)))
    (l6 : K.lookup f6 = some ⟨oc6, od6, .func (PySem.W.fnOf "parse_row" "parse_row" (defArgs s_parse_row) (defBody s_parse_row) (defScope s_parse_row) .none kV6 dc6 pm6 an6 cd6 ct6), sl6⟩)
    (c6 : PySem.W.codeIn K cd6 "parse_row" = true)
    (k6 : PySem.W.keepIn K (.ref f6) = true)
    (a7 : PySem.W.nsIn K mainGlobals "is_word" = some (some (.ref f7)))
    (l7 : K.lookup f7 = some ⟨oc7, od7, .func (PySem.W.fnOf "is_word" "is_word" (defArgs s_is_word) (defBody s_is_word) (defScope s_is_word) .none kV7 dc7 pm7 an7 cd7 ct7), sl7⟩)
    (c7 : PySem.W.codeIn K cd7 "is_word" = true)
    (k7 : PySem.W.keepIn K (.ref f7) = true)
    (a8 : PySem.W.nsIn K mainGlobals "is_rule" = some (some (.ref f8)))
    (l8 : K.lookup f8 = some ⟨oc8, od8, .func (PySem.W.fnOf "is_rule" "is_rule" (defArgs s_is_rule) (defBody s_is_rule) (defScope s_is_rule) .none kV8 dc8 pm8 an8 cd8 ct8), sl8⟩)
    (c8 : PySem.W.codeIn K cd8 "is_rule" = true)
    (k8 : PySem.W.keepIn K (.ref f8) = true)
    (a9 : PySem.W.nsIn K mainGlobals "item_in" = some (some (.ref f9)))
    (l9 : K.lookup f9 = some ⟨oc9, od9, .func (PySem.W.fnOf "item_in" "item_in" (defArgs s_item_in) (defBody s_item_in) (defScope s_item_in) .none kV9 dc9 pm9 an9 cd9 ct9), sl9⟩)
    (c9 : PySem.W.codeIn K cd9 "item_in" = true)
    (k9 : PySem.W.keepIn K (.ref f9) = true)
    (a10 : PySem.W.nsIn K mainGlobals "parse_rule" = some (some (.ref f10)))
    (l10 : K.lookup f10 = some ⟨oc10, od10, .func (PySem.W.fnOf "parse_rule" "parse_rule" (defArgs s_parse_rule) (defBody s_parse_rule) (defScope s_parse_rule) .none kV10 dc10 pm10 an10 cd10 ct10), sl10⟩)
    (c10 : PySem.W.codeIn K cd10 "parse_rule" = true)
    (k10 : PySem.W.keepIn K (.ref f10) = true)
    (a11 : PySem.W.nsIn K mainGlobals "_law_parsed" = some (some (.ref f11)))
    (l11 : K.lookup f11 = some ⟨oc11, od11, .func (PySem.W.fnOf "_law_parsed" "_law_parsed" (defArgs s_law_parsed) (defBody s_law_parsed) (defScope s_law_parsed) .none kV11 dc11 pm11 an11 cd11 ct11), sl11⟩)
    (c11 : PySem.W.codeIn K cd11 "_law_parsed" = true)
    (k11 : PySem.W.keepIn K (.ref f11) = true)
    (a12 : PySem.W.nsIn K mainGlobals "_law_pick" = some (some (.ref f12)))
    (l12 : K.lookup f12 = some ⟨oc12, od12, .func (PySem.W.fnOf "_law_pick" "_law_pick" (defArgs s_law_pick) (defBody s_law_pick) (defScope s_law_pick) .none kV12 dc12 pm12 an12 cd12 ct12), sl12⟩)
    (c12 : PySem.W.codeIn K cd12 "_law_pick" = true)
    (k12 : PySem.W.keepIn K (.ref f12) = true)
    (a13 : PySem.W.nsIn K mainGlobals "_law_rejected" = some (some (.ref f13)))
    (l13 : K.lookup f13 = some ⟨oc13, od13, .func (PySem.W.fnOf "_law_rejected" "_law_rejected" (defArgs s_law_rejected) (defBody s_law_rejected) (defScope s_law_rejected) .none kV13 dc13 pm13 an13 cd13 ct13), sl13⟩)
    (c13 : PySem.W.codeIn K cd13 "_law_rejected" = true)
    (k13 : PySem.W.keepIn K (.ref f13) = true)
    (a14 : PySem.W.nsIn K mainGlobals "_law_row" = some (some (.ref f14)))
    (l14 : K.lookup f14 = some ⟨oc14, od14, .func (PySem.W.fnOf "_law_row" "_law_row" (defArgs s_law_row) (defBody s_law_row) (defScope s_law_row) .none kV14 dc14 pm14 an14 cd14 ct14), sl14⟩)
    (c14 : PySem.W.codeIn K cd14 "_law_row" = true)
    (k14 : PySem.W.keepIn K (.ref f14) = true)
    (a15 : PySem.W.nsIn K mainGlobals "_law_rule" = some (some (.ref f15)))
    (l15 : K.lookup f15 = some ⟨oc15, od15, .func (PySem.W.fnOf "_law_rule" "_law_rule" (defArgs s_law_rule) (defBody s_law_rule) (defScope s_law_rule) .none kV15 dc15 pm15 an15 cd15 ct15), sl15⟩)
    (c15 : PySem.W.codeIn K cd15 "_law_rule" = true)
    (k15 : PySem.W.keepIn K (.ref f15) = true)
    (a16 : PySem.W.nsIn K mainGlobals "_law_start" = some (some (.ref f16)))
    (l16 : K.lookup f16 = some ⟨oc16, od16, .func (PySem.W.fnOf "_law_start" "_law_start" (defArgs s_law_start) (defBody s_law_start) (defScope s_law_start) .none kV16 dc16 pm16 an16 cd16 ct16), sl16⟩)
    (c16 : PySem.W.codeIn K cd16 "_law_start" = true)
    (k16 : PySem.W.keepIn K (.ref f16) = true)
    (a17 : PySem.W.nsIn K mainGlobals "_law_words" = some (some (.ref f17)))
    (l17 : K.lookup f17 = some ⟨oc17, od17, .func (PySem.W.fnOf "_law_words" "_law_words" (defArgs s_law_words) (defBody s_law_words) (defScope s_law_words) .none kV17 dc17 pm17 an17 cd17 ct17), sl17⟩)
    (c17 : PySem.W.codeIn K cd17 "_law_words" = true)
    (k17 : PySem.W.keepIn K (.ref f17) = true)
    (a18 : PySem.W.nsIn K mainGlobals "all_rules" = some (some (.ref f18)))
    (l18 : K.lookup f18 = some ⟨oc18, od18, .func (PySem.W.fnOf "all_rules" "all_rules" (defArgs s_all_rules) (defBody s_all_rules) (defScope s_all_rules) .none kV18 dc18 pm18 an18 cd18 ct18), sl18⟩)
    (c18 : PySem.W.codeIn K cd18 "all_rules" = true)
    (k18 : PySem.W.keepIn K (.ref f18) = true)
    (a19 : PySem.W.nsIn K mainGlobals "check_row" = some (some (.ref f19)))
    (l19 : K.lookup f19 = some ⟨oc19, od19, .func (PySem.W.fnOf "check_row" "check_row" (defArgs s_check_row) (defBody s_check_row) (defScope s_check_row) .none kV19 dc19 pm19 an19 cd19 ct19), sl19⟩)
    (c19 : PySem.W.codeIn K cd19 "check_row" = true)
    (k19 : PySem.W.keepIn K (.ref f19) = true)
    (a20 : PySem.W.nsIn K mainGlobals "format_row" = some (some (.ref f20)))
    (l20 : K.lookup f20 = some ⟨oc20, od20, .func (PySem.W.fnOf "format_row" "format_row" (defArgs s_format_row) (defBody s_format_row) (defScope s_format_row) .none kV20 dc20 pm20 an20 cd20 ct20), sl20⟩)
    (c20 : PySem.W.codeIn K cd20 "format_row" = true)
    (k20 : PySem.W.keepIn K (.ref f20) = true)
    (a21 : PySem.W.nsIn K mainGlobals "check_rule" = some (some (.ref f21)))
    (l21 : K.lookup f21 = some ⟨oc21, od21, .func (PySem.W.fnOf "check_rule" "check_rule" (defArgs s_check_rule) (defBody s_check_rule) (defScope s_check_rule) .none kV21 dc21 pm21 an21 cd21 ct21), sl21⟩)
    (c21 : PySem.W.codeIn K cd21 "check_rule" = true)
    (k21 : PySem.W.keepIn K (.ref f21) = true)
    (a22 : PySem.W.nsIn K mainGlobals "format_rule" = some (some (.ref f22)))
    (l22 : K.lookup f22 = some ⟨oc22, od22, .func (PySem.W.fnOf "format_rule" "format_rule" (defArgs s_format_rule) (defBody s_format_rule) (defScope s_format_rule) .none kV22 dc22 pm22 an22 cd22 ct22), sl22⟩)
    (c22 : PySem.W.codeIn K cd22 "format_rule" = true)
    (k22 : PySem.W.keepIn K (.ref f22) = true)
    (a23 : PySem.W.nsIn K mainGlobals "law" = some (some (.ref f23)))
    (l23 : K.lookup f23 = some ⟨oc23, od23, .func (PySem.W.fnOf "law" "law" (defArgs s_law) (defBody s_law) (defScope s_law) .none kV23 dc23 pm23 an23 cd23 ct23), sl23⟩)
    (c23 : PySem.W.codeIn K cd23 "law" = true)
    (k23 : PySem.W.keepIn K (.ref f23) = true)
    (z_ValueError : PySem.W.nsIn K mainGlobals "ValueError" = some none)
    (z_all : PySem.W.nsIn K mainGlobals "all" = some none)
    (z_bool : PySem.W.nsIn K mainGlobals "bool" = some none)
    (z_int : PySem.W.nsIn K mainGlobals "int" = some none)
    (z_isinstance : PySem.W.nsIn K mainGlobals "isinstance" = some none)
    (z_len : PySem.W.nsIn K mainGlobals "len" = some none)
    (z_list : PySem.W.nsIn K mainGlobals "list" = some none)
    (z_range : PySem.W.nsIn K mainGlobals "range" = some none)
    (z_str : PySem.W.nsIn K mainGlobals "str" = some none)
    (z_tuple : PySem.W.nsIn K mainGlobals "tuple" = some none)
    (g_DECIDERS : PySem.W.nsIn K mainGlobals "DECIDERS" = some (some (.ref a_DECIDERS)))
    (gl_DECIDERS : K.lookup a_DECIDERS = some ⟨.type "tuple", dd_DECIDERS, .seq #[.str "same" t_DECIDERS_0, .str "longer" t_DECIDERS_1] n_DECIDERS, sl_DECIDERS⟩)
    (g_LEADS : PySem.W.nsIn K mainGlobals "LEADS" = some (some (.ref a_LEADS)))
    (gl_LEADS : K.lookup a_LEADS = some ⟨.type "tuple", dd_LEADS, .seq #[.str "one" t_LEADS_0, .str "two" t_LEADS_1, .str "cap" t_LEADS_2] n_LEADS, sl_LEADS⟩)
    (g_MOST_ROW : PySem.W.nsIn K mainGlobals "MOST_ROW" = some (some (.int 60 t_MOST_ROW)))
    (g_SERVES : PySem.W.nsIn K mainGlobals "SERVES" = some (some (.ref a_SERVES)))
    (gl_SERVES : K.lookup a_SERVES = some ⟨.type "tuple", dd_SERVES, .seq #[.str "games" t_SERVES_0, .str "twos" t_SERVES_1, .str "winner" t_SERVES_2, .str "only" t_SERVES_3] n_SERVES, sl_SERVES⟩)
    (ec_BadRally : PySem.W.nsIn K mainGlobals "BadRally" = some (some (.ref C_BadRally)))
    (ex_BadRally : PySem.W.excIn K C_BadRally [.type "ValueError", .type "Exception", .type "BaseException", .type "object"] "ValueError.__new__" = true)
    (ek_BadRally : PySem.W.keepIn K (.ref C_BadRally) = true)
    (eb_BadRally : PySem.W.subIn K (.ref C_BadRally) (.type "BaseException") = some true)
    (et_BadRally : PySem.W.typeIn K (.ref C_BadRally) = some (.type "type"))
    (ec_BadRule : PySem.W.nsIn K mainGlobals "BadRule" = some (some (.ref C_BadRule)))
    (ex_BadRule : PySem.W.excIn K C_BadRule [.type "ValueError", .type "Exception", .type "BaseException", .type "object"] "ValueError.__new__" = true)
    (ek_BadRule : PySem.W.keepIn K (.ref C_BadRule) = true)
    (eb_BadRule : PySem.W.subIn K (.ref C_BadRule) (.type "BaseException") = some true)
    (et_BadRule : PySem.W.typeIn K (.ref C_BadRule) = some (.type "type"))
    (ec_BadText : PySem.W.nsIn K mainGlobals "BadText" = some (some (.ref C_BadText)))
    (ex_BadText : PySem.W.excIn K C_BadText [.type "ValueError", .type "Exception", .type "BaseException", .type "object"] "ValueError.__new__" = true)
    (ek_BadText : PySem.W.keepIn K (.ref C_BadText) = true)
    (eb_BadText : PySem.W.subIn K (.ref C_BadText) (.type "BaseException") = some true)
    (et_BadText : PySem.W.typeIn K (.ref C_BadText) = some (.type "type"))
    (ec_BadBoards : PySem.W.nsIn K mainGlobals "BadBoards" = some (some (.ref C_BadBoards)))
    (ec_BadNumber : PySem.W.nsIn K mainGlobals "BadNumber" = some (some (.ref C_BadNumber)))
    (ec_NotFound : PySem.W.nsIn K mainGlobals "NotFound" = some (some (.ref C_NotFound)))
    (ec_MatchError : PySem.W.nsIn K mainGlobals "MatchError" = some (some (.ref C_MatchError)))
    (mS : PySem.W.subIn K (.ref C_MatchError) (.type "BaseException") = some true)
    (mD : PySem.W.hasDictIn K C_MatchError = true)
    (mT : PySem.W.typeIn K (.ref C_MatchError) = some (.type "type"))
    (em_BadRule : PySem.W.subIn K (.ref C_BadRule) (.ref C_MatchError) = some true)
    (xhg_BadRule : PySem.W.findIn K (.ref C_BadRule) "__getattribute__" = some (some (.builtin "BaseException.__getattribute__")))
    (xhk_BadRule : PySem.W.findIn K (.ref C_BadRule) "__getattr__" = some none)
    (xhs_BadRule : PySem.W.subIn K (.ref C_BadRule) (.type "BaseException") = some true)
    (xhd_BadRule : PySem.W.hasDictIn K C_BadRule = true)
    (xha_BadRule : PySem.W.findIn K (.ref C_BadRule) "__class__" = some (some (.builtin "object.__class__")))
    (xhm_BadRule : PySem.W.mroIn K C_BadRule (.type "object") = some true)
    (kb_BadRule : PySem.W.kitOne K (.ref C_BadRule) (.ref C_MatchError) = some true)
    (kv_BadRule : PySem.W.kitOne K (.ref C_BadRule) (.type "ValueError") = some true)
    (kk_BadRule_BadRule : PySem.W.kitOne K (.ref C_BadRule) (.ref C_BadRule) = some true)
    (kk_BadRally_BadRule : PySem.W.kitOne K (.ref C_BadRule) (.ref C_BadRally) = some false)
    (kk_BadBoards_BadRule : PySem.W.kitOne K (.ref C_BadRule) (.ref C_BadBoards) = some false)
    (kk_BadNumber_BadRule : PySem.W.kitOne K (.ref C_BadRule) (.ref C_BadNumber) = some false)
    (kk_BadText_BadRule : PySem.W.kitOne K (.ref C_BadRule) (.ref C_BadText) = some false)
    (kk_NotFound_BadRule : PySem.W.kitOne K (.ref C_BadRule) (.ref C_NotFound) = some false)
    (em_BadRally : PySem.W.subIn K (.ref C_BadRally) (.ref C_MatchError) = some true)
    (xhg_BadRally : PySem.W.findIn K (.ref C_BadRally) "__getattribute__" = some (some (.builtin "BaseException.__getattribute__")))
    (xhk_BadRally : PySem.W.findIn K (.ref C_BadRally) "__getattr__" = some none)
    (xhs_BadRally : PySem.W.subIn K (.ref C_BadRally) (.type "BaseException") = some true)
    (xhd_BadRally : PySem.W.hasDictIn K C_BadRally = true)
    (xha_BadRally : PySem.W.findIn K (.ref C_BadRally) "__class__" = some (some (.builtin "object.__class__")))
    (xhm_BadRally : PySem.W.mroIn K C_BadRally (.type "object") = some true)
    (kb_BadRally : PySem.W.kitOne K (.ref C_BadRally) (.ref C_MatchError) = some true)
    (kv_BadRally : PySem.W.kitOne K (.ref C_BadRally) (.type "ValueError") = some true)
    (kk_BadRule_BadRally : PySem.W.kitOne K (.ref C_BadRally) (.ref C_BadRule) = some false)
    (kk_BadRally_BadRally : PySem.W.kitOne K (.ref C_BadRally) (.ref C_BadRally) = some true)
    (kk_BadBoards_BadRally : PySem.W.kitOne K (.ref C_BadRally) (.ref C_BadBoards) = some false)
    (kk_BadNumber_BadRally : PySem.W.kitOne K (.ref C_BadRally) (.ref C_BadNumber) = some false)
    (kk_BadText_BadRally : PySem.W.kitOne K (.ref C_BadRally) (.ref C_BadText) = some false)
    (kk_NotFound_BadRally : PySem.W.kitOne K (.ref C_BadRally) (.ref C_NotFound) = some false)
    (em_BadBoards : PySem.W.subIn K (.ref C_BadBoards) (.ref C_MatchError) = some true)
    (xhg_BadBoards : PySem.W.findIn K (.ref C_BadBoards) "__getattribute__" = some (some (.builtin "BaseException.__getattribute__")))
    (xhk_BadBoards : PySem.W.findIn K (.ref C_BadBoards) "__getattr__" = some none)
    (xhs_BadBoards : PySem.W.subIn K (.ref C_BadBoards) (.type "BaseException") = some true)
    (xhd_BadBoards : PySem.W.hasDictIn K C_BadBoards = true)
    (xha_BadBoards : PySem.W.findIn K (.ref C_BadBoards) "__class__" = some (some (.builtin "object.__class__")))
    (xhm_BadBoards : PySem.W.mroIn K C_BadBoards (.type "object") = some true)
    (kb_BadBoards : PySem.W.kitOne K (.ref C_BadBoards) (.ref C_MatchError) = some true)
    (kv_BadBoards : PySem.W.kitOne K (.ref C_BadBoards) (.type "ValueError") = some true)
    (kk_BadRule_BadBoards : PySem.W.kitOne K (.ref C_BadBoards) (.ref C_BadRule) = some false)
    (kk_BadRally_BadBoards : PySem.W.kitOne K (.ref C_BadBoards) (.ref C_BadRally) = some false)
    (kk_BadBoards_BadBoards : PySem.W.kitOne K (.ref C_BadBoards) (.ref C_BadBoards) = some true)
    (kk_BadNumber_BadBoards : PySem.W.kitOne K (.ref C_BadBoards) (.ref C_BadNumber) = some false)
    (kk_BadText_BadBoards : PySem.W.kitOne K (.ref C_BadBoards) (.ref C_BadText) = some false)
    (kk_NotFound_BadBoards : PySem.W.kitOne K (.ref C_BadBoards) (.ref C_NotFound) = some false)
    (em_BadNumber : PySem.W.subIn K (.ref C_BadNumber) (.ref C_MatchError) = some true)
    (xhg_BadNumber : PySem.W.findIn K (.ref C_BadNumber) "__getattribute__" = some (some (.builtin "BaseException.__getattribute__")))
    (xhk_BadNumber : PySem.W.findIn K (.ref C_BadNumber) "__getattr__" = some none)
    (xhs_BadNumber : PySem.W.subIn K (.ref C_BadNumber) (.type "BaseException") = some true)
    (xhd_BadNumber : PySem.W.hasDictIn K C_BadNumber = true)
    (xha_BadNumber : PySem.W.findIn K (.ref C_BadNumber) "__class__" = some (some (.builtin "object.__class__")))
    (xhm_BadNumber : PySem.W.mroIn K C_BadNumber (.type "object") = some true)
    (kb_BadNumber : PySem.W.kitOne K (.ref C_BadNumber) (.ref C_MatchError) = some true)
    (kv_BadNumber : PySem.W.kitOne K (.ref C_BadNumber) (.type "ValueError") = some true)
    (kk_BadRule_BadNumber : PySem.W.kitOne K (.ref C_BadNumber) (.ref C_BadRule) = some false)
    (kk_BadRally_BadNumber : PySem.W.kitOne K (.ref C_BadNumber) (.ref C_BadRally) = some false)
    (kk_BadBoards_BadNumber : PySem.W.kitOne K (.ref C_BadNumber) (.ref C_BadBoards) = some false)
    (kk_BadNumber_BadNumber : PySem.W.kitOne K (.ref C_BadNumber) (.ref C_BadNumber) = some true)
    (kk_BadText_BadNumber : PySem.W.kitOne K (.ref C_BadNumber) (.ref C_BadText) = some false)
    (kk_NotFound_BadNumber : PySem.W.kitOne K (.ref C_BadNumber) (.ref C_NotFound) = some false)
    (em_BadText : PySem.W.subIn K (.ref C_BadText) (.ref C_MatchError) = some true)
    (xhg_BadText : PySem.W.findIn K (.ref C_BadText) "__getattribute__" = some (some (.builtin "BaseException.__getattribute__")))
    (xhk_BadText : PySem.W.findIn K (.ref C_BadText) "__getattr__" = some none)
    (xhs_BadText : PySem.W.subIn K (.ref C_BadText) (.type "BaseException") = some true)
    (xhd_BadText : PySem.W.hasDictIn K C_BadText = true)
    (xha_BadText : PySem.W.findIn K (.ref C_BadText) "__class__" = some (some (.builtin "object.__class__")))
    (xhm_BadText : PySem.W.mroIn K C_BadText (.type "object") = some true)
    (kb_BadText : PySem.W.kitOne K (.ref C_BadText) (.ref C_MatchError) = some true)
    (kv_BadText : PySem.W.kitOne K (.ref C_BadText) (.type "ValueError") = some true)
    (kk_BadRule_BadText : PySem.W.kitOne K (.ref C_BadText) (.ref C_BadRule) = some false)
    (kk_BadRally_BadText : PySem.W.kitOne K (.ref C_BadText) (.ref C_BadRally) = some false)
    (kk_BadBoards_BadText : PySem.W.kitOne K (.ref C_BadText) (.ref C_BadBoards) = some false)
    (kk_BadNumber_BadText : PySem.W.kitOne K (.ref C_BadText) (.ref C_BadNumber) = some false)
    (kk_BadText_BadText : PySem.W.kitOne K (.ref C_BadText) (.ref C_BadText) = some true)
    (kk_NotFound_BadText : PySem.W.kitOne K (.ref C_BadText) (.ref C_NotFound) = some false)
    (em_NotFound : PySem.W.subIn K (.ref C_NotFound) (.ref C_MatchError) = some true)
    (xhg_NotFound : PySem.W.findIn K (.ref C_NotFound) "__getattribute__" = some (some (.builtin "BaseException.__getattribute__")))
    (xhk_NotFound : PySem.W.findIn K (.ref C_NotFound) "__getattr__" = some none)
    (xhs_NotFound : PySem.W.subIn K (.ref C_NotFound) (.type "BaseException") = some true)
    (xhd_NotFound : PySem.W.hasDictIn K C_NotFound = true)
    (xha_NotFound : PySem.W.findIn K (.ref C_NotFound) "__class__" = some (some (.builtin "object.__class__")))
    (xhm_NotFound : PySem.W.mroIn K C_NotFound (.type "object") = some true)
    (kb_NotFound : PySem.W.kitOne K (.ref C_NotFound) (.ref C_MatchError) = some true)
    (kv_NotFound : PySem.W.kitOne K (.ref C_NotFound) (.type "ValueError") = some true)
    (kk_BadRule_NotFound : PySem.W.kitOne K (.ref C_NotFound) (.ref C_BadRule) = some false)
    (kk_BadRally_NotFound : PySem.W.kitOne K (.ref C_NotFound) (.ref C_BadRally) = some false)
    (kk_BadBoards_NotFound : PySem.W.kitOne K (.ref C_NotFound) (.ref C_BadBoards) = some false)
    (kk_BadNumber_NotFound : PySem.W.kitOne K (.ref C_NotFound) (.ref C_BadNumber) = some false)
    (kk_BadText_NotFound : PySem.W.kitOne K (.ref C_NotFound) (.ref C_BadText) = some false)
    (kk_NotFound_NotFound : PySem.W.kitOne K (.ref C_NotFound) (.ref C_NotFound) = some true)
    (xn : PySem.W.specialIn K (.builtin "object.__class__") "__get__" = some (some (.builtin "getset_descriptor.__get__")))
    (xt : PySem.W.takesIn K (.builtin "object.__class__") = some true) :
    ∃ fd : FuncData, (∀ (s : Shared) (v : Value), BindsTo s fd ⟨[v], []⟩ [("script", v)]) ∧ ∀ base : Heap, K.In base → base.Ns mainGlobals mg → FnOk l.prog w K mg base (L2.CX l.prog w) 7 fa fd ["script"] (spLaw K) := by
  have e := hfa.symm.trans (PySem.W.mg_of X G a23)
  cases e
  have T : Tx K mg (fun c => match c with | 0 => C_BadRule | 1 => C_BadRally | 2 => C_BadBoards | 3 => C_BadNumber | 4 => C_BadText | 5 => C_NotFound | 6 => C_MatchError | _ => 0) := ⟨defAt_mk (PySem.W.mg_of X G a0) l0 c0 k0 (fun _ _ _ _ _ _ us hl => match us, hl with | [_, _], _ => rfl),
    defAt_mk (PySem.W.mg_of X G a1) l1 c1 k1 (fun _ _ _ _ _ _ us hl => match us, hl with | [_], _ => rfl),
    defAt_mk (PySem.W.mg_of X G a2) l2 c2 k2 (fun _ _ _ _ _ _ us hl => match us, hl with | [_], _ => rfl),
    defAt_mk (PySem.W.mg_of X G a3) l3 c3 k3 (fun _ _ _ _ _ _ us hl => match us, hl with | [_, _, _], _ => rfl),
    defAt_mk (PySem.W.mg_of X G a4) l4 c4 k4 (fun _ _ _ _ _ _ us hl => match us, hl with | [_], _ => rfl),
    defAt_mk (PySem.W.mg_of X G a5) l5 c5 k5 (fun _ _ _ _ _ _ us hl => match us, hl with | [_], _ => rfl),
    defAt_mk (PySem.W.mg_of X G a6) l6 c6 k6 (fun _ _ _ _ _ _ us hl => match us, hl with | [_], _ => rfl),
    defAt_mk (PySem.W.mg_of X G a7) l7 c7 k7 (fun _ _ _ _ _ _ us hl => match us, hl with | [_, _], _ => rfl),
    defAt_mk (PySem.W.mg_of X G a8) l8 c8 k8 (fun _ _ _ _ _ _ us hl => match us, hl with | [_], _ => rfl),
    defAt_mk (PySem.W.mg_of X G a9) l9 c9 k9 (fun _ _ _ _ _ _ us hl => match us, hl with | [_], _ => rfl),
    defAt_mk (PySem.W.mg_of X G a10) l10 c10 k10 (fun _ _ _ _ _ _ us hl => match us, hl with | [_], _ => rfl),
    defAt_mk (PySem.W.mg_of X G a11) l11 c11 k11 (fun _ _ _ _ _ _ us hl => match us, hl with | [_, _], _ => rfl),
    defAt_mk (PySem.W.mg_of X G a12) l12 c12 k12 (fun _ _ _ _ _ _ us hl => match us, hl with | [_, _], _ => rfl),
    defAt_mk (PySem.W.mg_of X G a13) l13 c13 k13 (fun _ _ _ _ _ _ us hl => match us, hl with | [], _ => rfl),
    defAt_mk (PySem.W.mg_of X G a14) l14 c14 k14 (fun _ _ _ _ _ _ us hl => match us, hl with | [_, _], _ => rfl),
    defAt_mk (PySem.W.mg_of X G a15) l15 c15 k15 (fun _ _ _ _ _ _ us hl => match us, hl with | [_], _ => rfl),
    defAt_mk (PySem.W.mg_of X G a16) l16 c16 k16 (fun _ _ _ _ _ _ us hl => match us, hl with | [_], _ => rfl),
    defAt_mk (PySem.W.mg_of X G a17) l17 c17 k17 (fun _ _ _ _ _ _ us hl => match us, hl with | [_, _], _ => rfl),
    defAt_mk (PySem.W.mg_of X G a18) l18 c18 k18 (fun _ _ _ _ _ _ us hl => match us, hl with | [], _ => rfl),
    defAt_mk (PySem.W.mg_of X G a19) l19 c19 k19 (fun _ _ _ _ _ _ us hl => match us, hl with | [_], _ => rfl),
    defAt_mk (PySem.W.mg_of X G a20) l20 c20 k20 (fun _ _ _ _ _ _ us hl => match us, hl with | [_], _ => rfl),
    defAt_mk (PySem.W.mg_of X G a21) l21 c21 k21 (fun _ _ _ _ _ _ us hl => match us, hl with | [_], _ => rfl),
    defAt_mk (PySem.W.mg_of X G a22) l22 c22 k22 (fun _ _ _ _ _ _ us hl => match us, hl with | [_], _ => rfl),
    defAt_mk (PySem.W.mg_of X G a23) l23 c23 k23 (fun _ _ _ _ _ _ us hl => match us, hl with | [_], _ => rfl),
    PySem.W.mg_none_of X G z_ValueError,
    PySem.W.mg_none_of X G z_all,
    PySem.W.mg_none_of X G z_bool,
    PySem.W.mg_none_of X G z_int,
    PySem.W.mg_none_of X G z_isinstance,
    PySem.W.mg_none_of X G z_len,
    PySem.W.mg_none_of X G z_list,
    PySem.W.mg_none_of X G z_range,
    PySem.W.mg_none_of X G z_str,
    PySem.W.mg_none_of X G z_tuple,
    globAt_tup (us := [.str "same" t_DECIDERS_0, .str "longer" t_DECIDERS_1]) (PySem.W.mg_of X G g_DECIDERS) gl_DECIDERS (by show 2 ≤ 1000; decide) rfl,
    globAt_tup (us := [.str "one" t_LEADS_0, .str "two" t_LEADS_1, .str "cap" t_LEADS_2]) (PySem.W.mg_of X G g_LEADS) gl_LEADS (by show 3 ≤ 1000; decide) rfl,
    globAt_int (PySem.W.mg_of X G g_MOST_ROW),
    globAt_tup (us := [.str "games" t_SERVES_0, .str "twos" t_SERVES_1, .str "winner" t_SERVES_2, .str "only" t_SERVES_3]) (PySem.W.mg_of X G g_SERVES) gl_SERVES (by show 4 ≤ 1000; decide) rfl,
    ⟨ex_BadRally, PySem.W.mg_of X G ec_BadRally, ek_BadRally, eb_BadRally, et_BadRally⟩,
    ⟨ex_BadRule, PySem.W.mg_of X G ec_BadRule, ek_BadRule, eb_BadRule, et_BadRule⟩,
    ⟨ex_BadText, PySem.W.mg_of X G ec_BadText, ek_BadText, eb_BadText, et_BadText⟩,
    ⟨(all6 (PySem.W.exm_ref mS mD mT em_BadRule) (PySem.W.exm_ref mS mD mT em_BadRally) (PySem.W.exm_ref mS mD mT em_BadBoards) (PySem.W.exm_ref mS mD mT em_BadNumber) (PySem.W.exm_ref mS mD mT em_BadText) (PySem.W.exm_ref mS mD mT em_NotFound)), (all6 ⟨xhg_BadRule, xhk_BadRule, xhs_BadRule, xhd_BadRule, xha_BadRule, xn, xt, xhm_BadRule⟩ ⟨xhg_BadRally, xhk_BadRally, xhs_BadRally, xhd_BadRally, xha_BadRally, xn, xt, xhm_BadRally⟩ ⟨xhg_BadBoards, xhk_BadBoards, xhs_BadBoards, xhd_BadBoards, xha_BadBoards, xn, xt, xhm_BadBoards⟩ ⟨xhg_BadNumber, xhk_BadNumber, xhs_BadNumber, xhd_BadNumber, xha_BadNumber, xn, xt, xhm_BadNumber⟩ ⟨xhg_BadText, xhk_BadText, xhs_BadText, xhd_BadText, xha_BadText, xn, xt, xhm_BadText⟩ ⟨xhg_NotFound, xhk_NotFound, xhs_NotFound, xhd_NotFound, xha_NotFound, xn, xt, xhm_NotFound⟩), (all6 (all6 kk_BadRule_BadRule kk_BadRule_BadRally kk_BadRule_BadBoards kk_BadRule_BadNumber kk_BadRule_BadText kk_BadRule_NotFound) (all6 kk_BadRally_BadRule kk_BadRally_BadRally kk_BadRally_BadBoards kk_BadRally_BadNumber kk_BadRally_BadText kk_BadRally_NotFound) (all6 kk_BadBoards_BadRule kk_BadBoards_BadRally kk_BadBoards_BadBoards kk_BadBoards_BadNumber kk_BadBoards_BadText kk_BadBoards_NotFound) (all6 kk_BadNumber_BadRule kk_BadNumber_BadRally kk_BadNumber_BadBoards kk_BadNumber_BadNumber kk_BadNumber_BadText kk_BadNumber_NotFound) (all6 kk_BadText_BadRule kk_BadText_BadRally kk_BadText_BadBoards kk_BadText_BadNumber kk_BadText_BadText kk_BadText_NotFound) (all6 kk_NotFound_BadRule kk_NotFound_BadRally kk_NotFound_BadBoards kk_NotFound_BadNumber kk_NotFound_BadText kk_NotFound_NotFound)), (all6 kb_BadRule kb_BadRally kb_BadBoards kb_BadNumber kb_BadText kb_NotFound), (all6 kv_BadRule kv_BadRally kv_BadBoards kv_BadNumber kv_BadText kv_NotFound), PySem.W.mg_of X G ec_BadRule, PySem.W.mg_of X G ec_BadRally, PySem.W.mg_of X G ec_BadBoards, PySem.W.mg_of X G ec_BadNumber, PySem.W.mg_of X G ec_BadText, PySem.W.mg_of X G ec_NotFound, PySem.W.mg_of X G ec_MatchError⟩⟩
  exact ⟨PySem.W.fnOf "law" "law" (defArgs s_law) (defBody s_law) (defScope s_law) .none kV23 dc23 pm23 an23 cd23 ct23, fun s v => .of_eq rfl, fun base _ _ => ok_law T u_law (b_law T) hlaw (fun_mk (st := s_law) l23 c23 k23)⟩
end Mb

set_option maxHeartbeats 1000000
namespace Mb
open PySem L2
theorem m_is_int_eq (i lo hi : Int) : m_is_int [.fz (.int i), .fz (.int lo), .fz (.int hi)] = .ret (.bool (decide (lo ≤ i) && decide (i ≤ hi))) := by
  cases h1 : decide (lo ≤ i) <;> cases h2 : decide (i ≤ hi) <;> simp -implicitDefEqProofs only [m_is_int, u_is_int, ap_runB, ap_sSeq, ap_sNil, ap_sIf, ap_sRet, ap_sRetN, ap_sSet, ap_sOwn, ap_sPar, ap_sAsg, ap_sDrop, ap_sFz, ap_sFor, ap_sApp, ap_sAugI, ap_sRaise, ap_sBreak, ap_vT, ap_v2, ap_vVar, ap_vBor, ap_vC, ap_vIf, ap_vAnd, ap_vOr, ap_vNot, ap_bAnd, ap_bOr, ap_bNot, ap_bYes, ap_vCall, ap_aNil, ap_aCons, ap_aDr, ap_aOwn, ap_vTup, ap_nLst, ap_nList, ap_vL, ap_vB, ap_vIsi, ap_vChain, ap_vIxV, ap_vLenV, ap_vSl, ap_oNone, ap_oSome, ap_wSeq, ap_wArg, ap_vMeth, ap_vRev, ap_nLc, ap_tgName, ap_nCall, ap_vCallB, ap_aBor, nd_int, nd_bool, nd_str, nd_list, nd_tup, nd_none, nd_r, nd_s, nd_Ro, ap_kVar, ap_kOf, ap_vInK, ap_vNiK, ap_vIxK, ap_sPutK, ap_vGetK, ap_vGet1, ap_vLenK, ap_wKeys, ap_kNil, ap_kOne, ap_vD, ap_sOwnK, ap_aOwnK, bind_ret, bind_exc, ofO_some, fzs_nil, fzs_cons, setAll_nil, setAll_cons, asB_b, noOw_nil, noOw_cons, wipeE_nil, wipeE_cons, noExc_r, seqD_l, seqD_t, tgTup_ap, tgCons_ap, tgNil_ap, List.cons_append, List.nil_append, List.replicate, List.set, List.getElem?_cons_zero, List.getElem?_cons_succ, Option.bind_some, Option.map_some, List.length_cons, List.length_nil, beq_self_eq_true, if_true, if_false, Bool.false_eq_true, Nat.reduceAdd, Nat.reduceSub, Nat.reduceBEq, Nat.zero_add, ↓reduceIte, reduceCtorEq, decide_true, decide_false, Bool.true_and, Bool.and_true, Bool.false_and, Bool.and_false, Bool.or_true, Bool.true_or, Bool.or_false, Bool.false_or, Bool.not_true, Bool.not_false, Bool.and_self, Int.reduceLE, Int.reduceLT, Int.reduceToNat, Int.reduceSub, Int.reduceAdd, Int.reduceNeg, Nat.reduceLT, Nat.reduceLeDiff, isI_i, isB_i, le_ii, h1, h2]
theorem m_is_rally_eq (b : Bool) : m_is_rally [.fz (.int (rb b))] = .ret (.bool true) := by
  cases b <;> simp -implicitDefEqProofs only [m_is_rally, u_is_rally, ap_runB, ap_sSeq, ap_sNil, ap_sIf, ap_sRet, ap_sRetN, ap_sSet, ap_sOwn, ap_sPar, ap_sAsg, ap_sDrop, ap_sFz, ap_sFor, ap_sApp, ap_sAugI, ap_sRaise, ap_sBreak, ap_vT, ap_v2, ap_vVar, ap_vBor, ap_vC, ap_vIf, ap_vAnd, ap_vOr, ap_vNot, ap_bAnd, ap_bOr, ap_bNot, ap_bYes, ap_vCall, ap_aNil, ap_aCons, ap_aDr, ap_aOwn, ap_vTup, ap_nLst, ap_nList, ap_vL, ap_vB, ap_vIsi, ap_vChain, ap_vIxV, ap_vLenV, ap_vSl, ap_oNone, ap_oSome, ap_wSeq, ap_wArg, ap_vMeth, ap_vRev, ap_nLc, ap_tgName, ap_nCall, ap_vCallB, ap_aBor, nd_int, nd_bool, nd_str, nd_list, nd_tup, nd_none, nd_r, nd_s, nd_Ro, ap_kVar, ap_kOf, ap_vInK, ap_vNiK, ap_vIxK, ap_sPutK, ap_vGetK, ap_vGet1, ap_vLenK, ap_wKeys, ap_kNil, ap_kOne, ap_vD, ap_sOwnK, ap_aOwnK, bind_ret, bind_exc, ofO_some, fzs_nil, fzs_cons, setAll_nil, setAll_cons, asB_b, noOw_nil, noOw_cons, wipeE_nil, wipeE_cons, noExc_r, seqD_l, seqD_t, tgTup_ap, tgCons_ap, tgNil_ap, List.cons_append, List.nil_append, List.replicate, List.set, List.getElem?_cons_zero, List.getElem?_cons_succ, Option.bind_some, Option.map_some, List.length_cons, List.length_nil, beq_self_eq_true, if_true, if_false, Bool.false_eq_true, Nat.reduceAdd, Nat.reduceSub, Nat.reduceBEq, Nat.zero_add, ↓reduceIte, reduceCtorEq, decide_true, decide_false, Bool.true_and, Bool.and_true, Bool.false_and, Bool.and_false, Bool.or_true, Bool.true_or, Bool.or_false, Bool.false_or, Bool.not_true, Bool.not_false, Bool.and_self, Int.reduceLE, Int.reduceLT, Int.reduceToNat, Int.reduceSub, Int.reduceAdd, Int.reduceNeg, Nat.reduceLT, Nat.reduceLeDiff, m_is_int_eq, rb_t, rb_f]
theorem m_is_row_eq (bs : List Bool) (h : bs.length ≤ 60) : m_is_row [.fz (Ro bs)] = .ret (.bool true) := by
  have e1 : lcRun (tgName 1) bYes (vCall 1 m_is_rally (aCons (vVar 1) aNil)) [.fz (Ro bs), .un] (bs.map fun b => .int (rb b)) = .ret (bs.map fun _ => .bool true) :=
    lc_enc (fun b => .int (rb b)) (fun _ => .bool true) fun b _ => by simp -implicitDefEqProofs only [ap_runB, ap_sSeq, ap_sNil, ap_sIf, ap_sRet, ap_sRetN, ap_sSet, ap_sOwn, ap_sPar, ap_sAsg, ap_sDrop, ap_sFz, ap_sFor, ap_sApp, ap_sAugI, ap_sRaise, ap_sBreak, ap_vT, ap_v2, ap_vVar, ap_vBor, ap_vC, ap_vIf, ap_vAnd, ap_vOr, ap_vNot, ap_bAnd, ap_bOr, ap_bNot, ap_bYes, ap_vCall, ap_aNil, ap_aCons, ap_aDr, ap_aOwn, ap_vTup, ap_nLst, ap_nList, ap_vL, ap_vB, ap_vIsi, ap_vChain, ap_vIxV, ap_vLenV, ap_vSl, ap_oNone, ap_oSome, ap_wSeq, ap_wArg, ap_vMeth, ap_vRev, ap_nLc, ap_tgName, ap_nCall, ap_vCallB, ap_aBor, nd_int, nd_bool, nd_str, nd_list, nd_tup, nd_none, nd_r, nd_s, nd_Ro, ap_kVar, ap_kOf, ap_vInK, ap_vNiK, ap_vIxK, ap_sPutK, ap_vGetK, ap_vGet1, ap_vLenK, ap_wKeys, ap_kNil, ap_kOne, ap_vD, ap_sOwnK, ap_aOwnK, bind_ret, bind_exc, ofO_some, fzs_nil, fzs_cons, setAll_nil, setAll_cons, asB_b, noOw_nil, noOw_cons, wipeE_nil, wipeE_cons, noExc_r, seqD_l, seqD_t, tgTup_ap, tgCons_ap, tgNil_ap, List.cons_append, List.nil_append, List.replicate, List.set, List.getElem?_cons_zero, List.getElem?_cons_succ, Option.bind_some, Option.map_some, List.length_cons, List.length_nil, beq_self_eq_true, if_true, if_false, Bool.false_eq_true, Nat.reduceAdd, Nat.reduceSub, Nat.reduceBEq, Nat.zero_add, ↓reduceIte, reduceCtorEq, decide_true, decide_false, Bool.true_and, Bool.and_true, Bool.false_and, Bool.and_false, Bool.or_true, Bool.true_or, Bool.or_false, Bool.false_or, Bool.not_true, Bool.not_false, Bool.and_self, Int.reduceLE, Int.reduceLT, Int.reduceToNat, Int.reduceSub, Int.reduceAdd, Int.reduceNeg, Nat.reduceLT, Nat.reduceLeDiff, m_is_rally_eq]
  have e2 : decide ((bs.length : Int) ≤ 60) = true := decide_eq_true (by omega)
  have e3 : small bs.length = true := small_of (by omega)
  have e4 : allD [.list (bs.map fun _ => PyData.bool true)] = some (.bool true) := by
    show (asBools (bs.map fun _ => PyData.bool true)).map (fun bs => PyData.bool (bs.all id)) = _
    rw [asBools_map (fun _ => true) bs]
    show some (PyData.bool _) = _
    simp
  have e5 : noOw [.fz (Ro bs), .un] [1] = true := rfl
  have e6 : wipeE [.fz (Ro bs), .un] [1] = [.fz (Ro bs), .un] := rfl
  have e7 : itD (Ro bs) = some (bs.map fun b => .int (rb b)) := rfl
  have e8 : isList (Ro bs) = true := rfl
  have e9 : fnLen [Ro bs] = some (.int (bs.length : Nat)) := by show some (PyData.int _) = _; rw [List.length_map]
  simp -implicitDefEqProofs only [m_is_row, u_is_row, ap_runB, ap_sSeq, ap_sNil, ap_sIf, ap_sRet, ap_sRetN, ap_sSet, ap_sOwn, ap_sPar, ap_sAsg, ap_sDrop, ap_sFz, ap_sFor, ap_sApp, ap_sAugI, ap_sRaise, ap_sBreak, ap_vT, ap_v2, ap_vVar, ap_vBor, ap_vC, ap_vIf, ap_vAnd, ap_vOr, ap_vNot, ap_bAnd, ap_bOr, ap_bNot, ap_bYes, ap_vCall, ap_aNil, ap_aCons, ap_aDr, ap_aOwn, ap_vTup, ap_nLst, ap_nList, ap_vL, ap_vB, ap_vIsi, ap_vChain, ap_vIxV, ap_vLenV, ap_vSl, ap_oNone, ap_oSome, ap_wSeq, ap_wArg, ap_vMeth, ap_vRev, ap_nLc, ap_tgName, ap_nCall, ap_vCallB, ap_aBor, nd_int, nd_bool, nd_str, nd_list, nd_tup, nd_none, nd_r, nd_s, nd_Ro, ap_kVar, ap_kOf, ap_vInK, ap_vNiK, ap_vIxK, ap_sPutK, ap_vGetK, ap_vGet1, ap_vLenK, ap_wKeys, ap_kNil, ap_kOne, ap_vD, ap_sOwnK, ap_aOwnK, bind_ret, bind_exc, ofO_some, fzs_nil, fzs_cons, setAll_nil, setAll_cons, asB_b, noOw_nil, noOw_cons, wipeE_nil, wipeE_cons, noExc_r, seqD_l, seqD_t, tgTup_ap, tgCons_ap, tgNil_ap, List.cons_append, List.nil_append, List.replicate, List.set, List.getElem?_cons_zero, List.getElem?_cons_succ, Option.bind_some, Option.map_some, List.length_cons, List.length_nil, beq_self_eq_true, if_true, if_false, Bool.false_eq_true, Nat.reduceAdd, Nat.reduceSub, Nat.reduceBEq, Nat.zero_add, ↓reduceIte, reduceCtorEq, decide_true, decide_false, Bool.true_and, Bool.and_true, Bool.false_and, Bool.and_false, Bool.or_true, Bool.true_or, Bool.or_false, Bool.false_or, Bool.not_true, Bool.not_false, Bool.and_self, Int.reduceLE, Int.reduceLT, Int.reduceToNat, Int.reduceSub, Int.reduceAdd, Int.reduceNeg, Nat.reduceLT, Nat.reduceLeDiff, le_ii, e2, e3, e7, e8, e9, List.length_map, e1, e4]
theorem m_check_row_eq (bs : List Bool) (h : bs.length ≤ 60) : m_check_row [.fz (Ro bs)] = .ret .none := by
  simp -implicitDefEqProofs only [m_check_row, u_check_row, ap_runB, ap_sSeq, ap_sNil, ap_sIf, ap_sRet, ap_sRetN, ap_sSet, ap_sOwn, ap_sPar, ap_sAsg, ap_sDrop, ap_sFz, ap_sFor, ap_sApp, ap_sAugI, ap_sRaise, ap_sBreak, ap_vT, ap_v2, ap_vVar, ap_vBor, ap_vC, ap_vIf, ap_vAnd, ap_vOr, ap_vNot, ap_bAnd, ap_bOr, ap_bNot, ap_bYes, ap_vCall, ap_aNil, ap_aCons, ap_aDr, ap_aOwn, ap_vTup, ap_nLst, ap_nList, ap_vL, ap_vB, ap_vIsi, ap_vChain, ap_vIxV, ap_vLenV, ap_vSl, ap_oNone, ap_oSome, ap_wSeq, ap_wArg, ap_vMeth, ap_vRev, ap_nLc, ap_tgName, ap_nCall, ap_vCallB, ap_aBor, nd_int, nd_bool, nd_str, nd_list, nd_tup, nd_none, nd_r, nd_s, nd_Ro, ap_kVar, ap_kOf, ap_vInK, ap_vNiK, ap_vIxK, ap_sPutK, ap_vGetK, ap_vGet1, ap_vLenK, ap_wKeys, ap_kNil, ap_kOne, ap_vD, ap_sOwnK, ap_aOwnK, bind_ret, bind_exc, ofO_some, fzs_nil, fzs_cons, setAll_nil, setAll_cons, asB_b, noOw_nil, noOw_cons, wipeE_nil, wipeE_cons, noExc_r, seqD_l, seqD_t, tgTup_ap, tgCons_ap, tgNil_ap, List.cons_append, List.nil_append, List.replicate, List.set, List.getElem?_cons_zero, List.getElem?_cons_succ, Option.bind_some, Option.map_some, List.length_cons, List.length_nil, beq_self_eq_true, if_true, if_false, Bool.false_eq_true, Nat.reduceAdd, Nat.reduceSub, Nat.reduceBEq, Nat.zero_add, ↓reduceIte, reduceCtorEq, decide_true, decide_false, Bool.true_and, Bool.and_true, Bool.false_and, Bool.and_false, Bool.or_true, Bool.true_or, Bool.or_false, Bool.false_or, Bool.not_true, Bool.not_false, Bool.and_self, Int.reduceLE, Int.reduceLT, Int.reduceToNat, Int.reduceSub, Int.reduceAdd, Int.reduceNeg, Nat.reduceLT, Nat.reduceLeDiff, m_is_row_eq bs h]
theorem m_is_word_eq1 (l : Ld) : m_is_word [.fz (.str l.s), .fz (.tuple [.str "one", .str "two", .str "cap"])] = .ret (.bool true) := by
  simp -implicitDefEqProofs only [m_is_word, u_is_word, ap_runB, ap_sSeq, ap_sNil, ap_sIf, ap_sRet, ap_sRetN, ap_sSet, ap_sOwn, ap_sPar, ap_sAsg, ap_sDrop, ap_sFz, ap_sFor, ap_sApp, ap_sAugI, ap_sRaise, ap_sBreak, ap_vT, ap_v2, ap_vVar, ap_vBor, ap_vC, ap_vIf, ap_vAnd, ap_vOr, ap_vNot, ap_bAnd, ap_bOr, ap_bNot, ap_bYes, ap_vCall, ap_aNil, ap_aCons, ap_aDr, ap_aOwn, ap_vTup, ap_nLst, ap_nList, ap_vL, ap_vB, ap_vIsi, ap_vChain, ap_vIxV, ap_vLenV, ap_vSl, ap_oNone, ap_oSome, ap_wSeq, ap_wArg, ap_vMeth, ap_vRev, ap_nLc, ap_tgName, ap_nCall, ap_vCallB, ap_aBor, nd_int, nd_bool, nd_str, nd_list, nd_tup, nd_none, nd_r, nd_s, nd_Ro, ap_kVar, ap_kOf, ap_vInK, ap_vNiK, ap_vIxK, ap_sPutK, ap_vGetK, ap_vGet1, ap_vLenK, ap_wKeys, ap_kNil, ap_kOne, ap_vD, ap_sOwnK, ap_aOwnK, bind_ret, bind_exc, ofO_some, fzs_nil, fzs_cons, setAll_nil, setAll_cons, asB_b, noOw_nil, noOw_cons, wipeE_nil, wipeE_cons, noExc_r, seqD_l, seqD_t, tgTup_ap, tgCons_ap, tgNil_ap, List.cons_append, List.nil_append, List.replicate, List.set, List.getElem?_cons_zero, List.getElem?_cons_succ, Option.bind_some, Option.map_some, List.length_cons, List.length_nil, beq_self_eq_true, if_true, if_false, Bool.false_eq_true, Nat.reduceAdd, Nat.reduceSub, Nat.reduceBEq, Nat.zero_add, ↓reduceIte, reduceCtorEq, decide_true, decide_false, Bool.true_and, Bool.and_true, Bool.false_and, Bool.and_false, Bool.or_true, Bool.true_or, Bool.or_false, Bool.false_or, Bool.not_true, Bool.not_false, Bool.and_self, Int.reduceLE, Int.reduceLT, Int.reduceToNat, Int.reduceSub, Int.reduceAdd, Int.reduceNeg, Nat.reduceLT, Nat.reduceLeDiff, isS_s, ld_in]
theorem m_is_word_eq2 (l : Dc) : m_is_word [.fz (.str l.s), .fz (.tuple [.str "same", .str "longer"])] = .ret (.bool true) := by
  simp -implicitDefEqProofs only [m_is_word, u_is_word, ap_runB, ap_sSeq, ap_sNil, ap_sIf, ap_sRet, ap_sRetN, ap_sSet, ap_sOwn, ap_sPar, ap_sAsg, ap_sDrop, ap_sFz, ap_sFor, ap_sApp, ap_sAugI, ap_sRaise, ap_sBreak, ap_vT, ap_v2, ap_vVar, ap_vBor, ap_vC, ap_vIf, ap_vAnd, ap_vOr, ap_vNot, ap_bAnd, ap_bOr, ap_bNot, ap_bYes, ap_vCall, ap_aNil, ap_aCons, ap_aDr, ap_aOwn, ap_vTup, ap_nLst, ap_nList, ap_vL, ap_vB, ap_vIsi, ap_vChain, ap_vIxV, ap_vLenV, ap_vSl, ap_oNone, ap_oSome, ap_wSeq, ap_wArg, ap_vMeth, ap_vRev, ap_nLc, ap_tgName, ap_nCall, ap_vCallB, ap_aBor, nd_int, nd_bool, nd_str, nd_list, nd_tup, nd_none, nd_r, nd_s, nd_Ro, ap_kVar, ap_kOf, ap_vInK, ap_vNiK, ap_vIxK, ap_sPutK, ap_vGetK, ap_vGet1, ap_vLenK, ap_wKeys, ap_kNil, ap_kOne, ap_vD, ap_sOwnK, ap_aOwnK, bind_ret, bind_exc, ofO_some, fzs_nil, fzs_cons, setAll_nil, setAll_cons, asB_b, noOw_nil, noOw_cons, wipeE_nil, wipeE_cons, noExc_r, seqD_l, seqD_t, tgTup_ap, tgCons_ap, tgNil_ap, List.cons_append, List.nil_append, List.replicate, List.set, List.getElem?_cons_zero, List.getElem?_cons_succ, Option.bind_some, Option.map_some, List.length_cons, List.length_nil, beq_self_eq_true, if_true, if_false, Bool.false_eq_true, Nat.reduceAdd, Nat.reduceSub, Nat.reduceBEq, Nat.zero_add, ↓reduceIte, reduceCtorEq, decide_true, decide_false, Bool.true_and, Bool.and_true, Bool.false_and, Bool.and_false, Bool.or_true, Bool.true_or, Bool.or_false, Bool.false_or, Bool.not_true, Bool.not_false, Bool.and_self, Int.reduceLE, Int.reduceLT, Int.reduceToNat, Int.reduceSub, Int.reduceAdd, Int.reduceNeg, Nat.reduceLT, Nat.reduceLeDiff, isS_s, dc_in]
theorem m_is_word_eq3 (l : Sv) : m_is_word [.fz (.str l.s), .fz (.tuple [.str "games", .str "twos", .str "winner", .str "only"])] = .ret (.bool true) := by
  simp -implicitDefEqProofs only [m_is_word, u_is_word, ap_runB, ap_sSeq, ap_sNil, ap_sIf, ap_sRet, ap_sRetN, ap_sSet, ap_sOwn, ap_sPar, ap_sAsg, ap_sDrop, ap_sFz, ap_sFor, ap_sApp, ap_sAugI, ap_sRaise, ap_sBreak, ap_vT, ap_v2, ap_vVar, ap_vBor, ap_vC, ap_vIf, ap_vAnd, ap_vOr, ap_vNot, ap_bAnd, ap_bOr, ap_bNot, ap_bYes, ap_vCall, ap_aNil, ap_aCons, ap_aDr, ap_aOwn, ap_vTup, ap_nLst, ap_nList, ap_vL, ap_vB, ap_vIsi, ap_vChain, ap_vIxV, ap_vLenV, ap_vSl, ap_oNone, ap_oSome, ap_wSeq, ap_wArg, ap_vMeth, ap_vRev, ap_nLc, ap_tgName, ap_nCall, ap_vCallB, ap_aBor, nd_int, nd_bool, nd_str, nd_list, nd_tup, nd_none, nd_r, nd_s, nd_Ro, ap_kVar, ap_kOf, ap_vInK, ap_vNiK, ap_vIxK, ap_sPutK, ap_vGetK, ap_vGet1, ap_vLenK, ap_wKeys, ap_kNil, ap_kOne, ap_vD, ap_sOwnK, ap_aOwnK, bind_ret, bind_exc, ofO_some, fzs_nil, fzs_cons, setAll_nil, setAll_cons, asB_b, noOw_nil, noOw_cons, wipeE_nil, wipeE_cons, noExc_r, seqD_l, seqD_t, tgTup_ap, tgCons_ap, tgNil_ap, List.cons_append, List.nil_append, List.replicate, List.set, List.getElem?_cons_zero, List.getElem?_cons_succ, Option.bind_some, Option.map_some, List.length_cons, List.length_nil, beq_self_eq_true, if_true, if_false, Bool.false_eq_true, Nat.reduceAdd, Nat.reduceSub, Nat.reduceBEq, Nat.zero_add, ↓reduceIte, reduceCtorEq, decide_true, decide_false, Bool.true_and, Bool.and_true, Bool.false_and, Bool.and_false, Bool.or_true, Bool.true_or, Bool.or_false, Bool.false_or, Bool.not_true, Bool.not_false, Bool.and_self, Int.reduceLE, Int.reduceLT, Int.reduceToNat, Int.reduceSub, Int.reduceAdd, Int.reduceNeg, Nat.reduceLT, Nat.reduceLeDiff, isS_s, sv_inA]
theorem m_is_rule_eq (r : Ru) (h : r.ok) : m_is_rule [.fz r.e] = .ret (.bool true) := by
  have e1 : dNe (.int 5) (.int 5) = some (.bool false) := rfl
  have e2 : decide (2 ≤ r.p) = true := decide_eq_true h.1
  have e3 : decide (r.p ≤ 4) = true := decide_eq_true h.2.1
  have e4 : decide (1 ≤ r.g) = true := decide_eq_true h.2.2.1
  have e5 : decide (r.g ≤ 3) = true := decide_eq_true h.2.2.2
  simp -implicitDefEqProofs only [m_is_rule, u_is_rule, ap_runB, ap_sSeq, ap_sNil, ap_sIf, ap_sRet, ap_sRetN, ap_sSet, ap_sOwn, ap_sPar, ap_sAsg, ap_sDrop, ap_sFz, ap_sFor, ap_sApp, ap_sAugI, ap_sRaise, ap_sBreak, ap_vT, ap_v2, ap_vVar, ap_vBor, ap_vC, ap_vIf, ap_vAnd, ap_vOr, ap_vNot, ap_bAnd, ap_bOr, ap_bNot, ap_bYes, ap_vCall, ap_aNil, ap_aCons, ap_aDr, ap_aOwn, ap_vTup, ap_nLst, ap_nList, ap_vL, ap_vB, ap_vIsi, ap_vChain, ap_vIxV, ap_vLenV, ap_vSl, ap_oNone, ap_oSome, ap_wSeq, ap_wArg, ap_vMeth, ap_vRev, ap_nLc, ap_tgName, ap_nCall, ap_vCallB, ap_aBor, nd_int, nd_bool, nd_str, nd_list, nd_tup, nd_none, nd_r, nd_s, nd_Ro, ap_kVar, ap_kOf, ap_vInK, ap_vNiK, ap_vIxK, ap_sPutK, ap_vGetK, ap_vGet1, ap_vLenK, ap_wKeys, ap_kNil, ap_kOne, ap_vD, ap_sOwnK, ap_aOwnK, bind_ret, bind_exc, ofO_some, fzs_nil, fzs_cons, setAll_nil, setAll_cons, asB_b, noOw_nil, noOw_cons, wipeE_nil, wipeE_cons, noExc_r, seqD_l, seqD_t, tgTup_ap, tgCons_ap, tgNil_ap, List.cons_append, List.nil_append, List.replicate, List.set, List.getElem?_cons_zero, List.getElem?_cons_succ, Option.bind_some, Option.map_some, List.length_cons, List.length_nil, beq_self_eq_true, if_true, if_false, Bool.false_eq_true, Nat.reduceAdd, Nat.reduceSub, Nat.reduceBEq, Nat.zero_add, ↓reduceIte, reduceCtorEq, decide_true, decide_false, Bool.true_and, Bool.and_true, Bool.false_and, Bool.and_false, Bool.or_true, Bool.true_or, Bool.or_false, Bool.false_or, Bool.not_true, Bool.not_false, Bool.and_self, Int.reduceLE, Int.reduceLT, Int.reduceToNat, Int.reduceSub, Int.reduceAdd, Int.reduceNeg, Nat.reduceLT, Nat.reduceLeDiff, isT_r, len_r, e1, r0, r1, r2, r3, r4, m_is_int_eq, m_is_word_eq1, m_is_word_eq2, m_is_word_eq3, e2, e3, e4, e5]
theorem m_check_rule_eq (r : Ru) (h : r.ok) : m_check_rule [.fz r.e] = .ret .none := by
  simp -implicitDefEqProofs only [m_check_rule, u_check_rule, ap_runB, ap_sSeq, ap_sNil, ap_sIf, ap_sRet, ap_sRetN, ap_sSet, ap_sOwn, ap_sPar, ap_sAsg, ap_sDrop, ap_sFz, ap_sFor, ap_sApp, ap_sAugI, ap_sRaise, ap_sBreak, ap_vT, ap_v2, ap_vVar, ap_vBor, ap_vC, ap_vIf, ap_vAnd, ap_vOr, ap_vNot, ap_bAnd, ap_bOr, ap_bNot, ap_bYes, ap_vCall, ap_aNil, ap_aCons, ap_aDr, ap_aOwn, ap_vTup, ap_nLst, ap_nList, ap_vL, ap_vB, ap_vIsi, ap_vChain, ap_vIxV, ap_vLenV, ap_vSl, ap_oNone, ap_oSome, ap_wSeq, ap_wArg, ap_vMeth, ap_vRev, ap_nLc, ap_tgName, ap_nCall, ap_vCallB, ap_aBor, nd_int, nd_bool, nd_str, nd_list, nd_tup, nd_none, nd_r, nd_s, nd_Ro, ap_kVar, ap_kOf, ap_vInK, ap_vNiK, ap_vIxK, ap_sPutK, ap_vGetK, ap_vGet1, ap_vLenK, ap_wKeys, ap_kNil, ap_kOne, ap_vD, ap_sOwnK, ap_aOwnK, bind_ret, bind_exc, ofO_some, fzs_nil, fzs_cons, setAll_nil, setAll_cons, asB_b, noOw_nil, noOw_cons, wipeE_nil, wipeE_cons, noExc_r, seqD_l, seqD_t, tgTup_ap, tgCons_ap, tgNil_ap, List.cons_append, List.nil_append, List.replicate, List.set, List.getElem?_cons_zero, List.getElem?_cons_succ, Option.bind_some, Option.map_some, List.length_cons, List.length_nil, beq_self_eq_true, if_true, if_false, Bool.false_eq_true, Nat.reduceAdd, Nat.reduceSub, Nat.reduceBEq, Nat.zero_add, ↓reduceIte, reduceCtorEq, decide_true, decide_false, Bool.true_and, Bool.and_true, Bool.false_and, Bool.and_false, Bool.or_true, Bool.true_or, Bool.or_false, Bool.false_or, Bool.not_true, Bool.not_false, Bool.and_self, Int.reduceLE, Int.reduceLT, Int.reduceToNat, Int.reduceSub, Int.reduceAdd, Int.reduceNeg, Nat.reduceLT, Nat.reduceLeDiff, m_is_rule_eq r h]
theorem Rs_last (r : Ru) (bs : List Bool) : dIx (Rs r bs) (.int (-1)) = some (afterM r .start bs).e := by
  have e := runM_last r bs .start
  have e2 : stsM r bs = (stsM r bs).dropLast ++ [afterM r .start bs] := by
    rw [← e]
    exact (List.dropLast_concat_getLast (l := stsM r bs) (List.cons_ne_nil _ _)).symm
  unfold Rs
  rw [e2, List.map_append]
  exact atI_lastD _ _
def winD (r : Ru) (s : Sta) : D := if endedM r s then (if s.g0 == r.g then .int 0 else .int 1) else .none
theorem mks_shape (r : Ru) : ∀ (bs : List Bool) (s : Sta), (mksM r s bs).all (okAt 39) = true
  | [], _ => rfl
  | b :: bs, s => by
    show (okAt 39 (mkD r s b) && (mksM r (stepM r s b) bs).all (okAt 39)) = true
    rw [mks_shape r bs]
    unfold mkD
    split <;> rfl
theorem mks_length (r : Ru) : ∀ (bs : List Bool) (s : Sta), (mksM r s bs).length = bs.length
  | [], _ => rfl
  | b :: bs, s => by simp [mksM, mks_length r bs]
/-! ### draws -/
theorem draw_eq {n : Int} (h1 : 0 < n) (h2 : n < 1073741824) : mDraw [.dr, .fz (.int n)] = .draw n.toNat fun r => .ret (.int (r : Nat)) := by
  show (if decide (0 < n) && decide (n < 1073741824) then Tr.draw n.toNat (fun r => Tr.ret (PyData.int (r : Nat))) else Tr.bad) = _
  rw [decide_eq_true h1, decide_eq_true h2]; rfl
theorem pick_all {cs : List D} {P : D → Prop} {E : Nat → Prop} (h0 : 0 < cs.length) (h1 : cs.length < 1000000) (h : ∀ d ∈ cs, P d) : (m_law_pick [.dr, .fz (.list cs)]).all P E := by
  simp -implicitDefEqProofs only [m_law_pick, u_law_pick, ap_runB, ap_sSeq, ap_sNil, ap_sIf, ap_sRet, ap_sRetN, ap_sSet, ap_sOwn, ap_sPar, ap_sAsg, ap_sDrop, ap_sFz, ap_sFor, ap_sApp, ap_sAugI, ap_sRaise, ap_sBreak, ap_vT, ap_v2, ap_vVar, ap_vBor, ap_vC, ap_vIf, ap_vAnd, ap_vOr, ap_vNot, ap_bAnd, ap_bOr, ap_bNot, ap_bYes, ap_vCall, ap_aNil, ap_aCons, ap_aDr, ap_aOwn, ap_vTup, ap_nLst, ap_nList, ap_vL, ap_vB, ap_vIsi, ap_vChain, ap_vIxV, ap_vLenV, ap_vSl, ap_oNone, ap_oSome, ap_wSeq, ap_wArg, ap_vMeth, ap_vRev, ap_nLc, ap_tgName, ap_nCall, ap_vCallB, ap_aBor, nd_int, nd_bool, nd_str, nd_list, nd_tup, nd_none, nd_r, nd_s, nd_Ro, ap_kVar, ap_kOf, ap_vInK, ap_vNiK, ap_vIxK, ap_sPutK, ap_vGetK, ap_vGet1, ap_vLenK, ap_wKeys, ap_kNil, ap_kOne, ap_vD, ap_sOwnK, ap_aOwnK, bind_ret, bind_exc, ofO_some, fzs_nil, fzs_cons, setAll_nil, setAll_cons, asB_b, noOw_nil, noOw_cons, wipeE_nil, wipeE_cons, noExc_r, seqD_l, seqD_t, tgTup_ap, tgCons_ap, tgNil_ap, List.cons_append, List.nil_append, List.replicate, List.set, List.getElem?_cons_zero, List.getElem?_cons_succ, Option.bind_some, Option.map_some, List.length_cons, List.length_nil, beq_self_eq_true, if_true, if_false, Bool.false_eq_true, Nat.reduceAdd, Nat.reduceSub, Nat.reduceBEq, Nat.zero_add, ↓reduceIte, reduceCtorEq, decide_true, decide_false, Bool.true_and, Bool.and_true, Bool.false_and, Bool.and_false, Bool.or_true, Bool.true_or, Bool.or_false, Bool.false_or, Bool.not_true, Bool.not_false, Bool.and_self, Int.reduceLE, Int.reduceLT, Int.reduceToNat, Int.reduceSub, Int.reduceAdd, Int.reduceNeg, Nat.reduceLT, Nat.reduceLeDiff, len_l, draw_eq (show (0 : Int) < (cs.length : Nat) by omega) (show ((cs.length : Nat) : Int) < 1073741824 by omega)]
  intro k hk
  have hk : k < cs.length := by simpa using hk
  dsimp only
  simp -implicitDefEqProofs only [ap_runB, ap_sSeq, ap_sNil, ap_sIf, ap_sRet, ap_sRetN, ap_sSet, ap_sOwn, ap_sPar, ap_sAsg, ap_sDrop, ap_sFz, ap_sFor, ap_sApp, ap_sAugI, ap_sRaise, ap_sBreak, ap_vT, ap_v2, ap_vVar, ap_vBor, ap_vC, ap_vIf, ap_vAnd, ap_vOr, ap_vNot, ap_bAnd, ap_bOr, ap_bNot, ap_bYes, ap_vCall, ap_aNil, ap_aCons, ap_aDr, ap_aOwn, ap_vTup, ap_nLst, ap_nList, ap_vL, ap_vB, ap_vIsi, ap_vChain, ap_vIxV, ap_vLenV, ap_vSl, ap_oNone, ap_oSome, ap_wSeq, ap_wArg, ap_vMeth, ap_vRev, ap_nLc, ap_tgName, ap_nCall, ap_vCallB, ap_aBor, nd_int, nd_bool, nd_str, nd_list, nd_tup, nd_none, nd_r, nd_s, nd_Ro, ap_kVar, ap_kOf, ap_vInK, ap_vNiK, ap_vIxK, ap_sPutK, ap_vGetK, ap_vGet1, ap_vLenK, ap_wKeys, ap_kNil, ap_kOne, ap_vD, ap_sOwnK, ap_aOwnK, bind_ret, bind_exc, ofO_some, fzs_nil, fzs_cons, setAll_nil, setAll_cons, asB_b, noOw_nil, noOw_cons, wipeE_nil, wipeE_cons, noExc_r, seqD_l, seqD_t, tgTup_ap, tgCons_ap, tgNil_ap, List.cons_append, List.nil_append, List.replicate, List.set, List.getElem?_cons_zero, List.getElem?_cons_succ, Option.bind_some, Option.map_some, List.length_cons, List.length_nil, beq_self_eq_true, if_true, if_false, Bool.false_eq_true, Nat.reduceAdd, Nat.reduceSub, Nat.reduceBEq, Nat.zero_add, ↓reduceIte, reduceCtorEq, decide_true, decide_false, Bool.true_and, Bool.and_true, Bool.false_and, Bool.and_false, Bool.or_true, Bool.true_or, Bool.or_false, Bool.false_or, Bool.not_true, Bool.not_false, Bool.and_self, Int.reduceLE, Int.reduceLT, Int.reduceToNat, Int.reduceSub, Int.reduceAdd, Int.reduceNeg, Nat.reduceLT, Nat.reduceLeDiff, dIx_nat (List.getElem?_eq_getElem hk)]
  exact h _ (List.getElem_mem hk)
theorem draw_all {n : Int} {P : D → Prop} {E : Nat → Prop} (h1 : 0 < n) (h2 : n < 1073741824) (h : ∀ k : Int, 0 ≤ k → k < n → P (.int k)) : (mDraw [.dr, .fz (.int n)]).all P E := by
  rw [draw_eq h1 h2]
  intro k hk
  exact h _ (by omega) (by omega)
theorem law_rule_all {P : D → Prop} {E : Nat → Prop} (h : ∀ r : Ru, r.ok → P r.e) : (m_law_rule [.dr]).all P E := by
  have sm5 : small 5 = true := rfl
  have sm3 : small 3 = true := rfl
  have sm4 : small 4 = true := rfl
  simp -implicitDefEqProofs only [m_law_rule, u_law_rule, ap_runB, ap_sSeq, ap_sNil, ap_sIf, ap_sRet, ap_sRetN, ap_sSet, ap_sOwn, ap_sPar, ap_sAsg, ap_sDrop, ap_sFz, ap_sFor, ap_sApp, ap_sAugI, ap_sRaise, ap_sBreak, ap_vT, ap_v2, ap_vVar, ap_vBor, ap_vC, ap_vIf, ap_vAnd, ap_vOr, ap_vNot, ap_bAnd, ap_bOr, ap_bNot, ap_bYes, ap_vCall, ap_aNil, ap_aCons, ap_aDr, ap_aOwn, ap_vTup, ap_nLst, ap_nList, ap_vL, ap_vB, ap_vIsi, ap_vChain, ap_vIxV, ap_vLenV, ap_vSl, ap_oNone, ap_oSome, ap_wSeq, ap_wArg, ap_vMeth, ap_vRev, ap_nLc, ap_tgName, ap_nCall, ap_vCallB, ap_aBor, nd_int, nd_bool, nd_str, nd_list, nd_tup, nd_none, nd_r, nd_s, nd_Ro, ap_kVar, ap_kOf, ap_vInK, ap_vNiK, ap_vIxK, ap_sPutK, ap_vGetK, ap_vGet1, ap_vLenK, ap_wKeys, ap_kNil, ap_kOne, ap_vD, ap_sOwnK, ap_aOwnK, bind_ret, bind_exc, ofO_some, fzs_nil, fzs_cons, setAll_nil, setAll_cons, asB_b, noOw_nil, noOw_cons, wipeE_nil, wipeE_cons, noExc_r, seqD_l, seqD_t, tgTup_ap, tgCons_ap, tgNil_ap, List.cons_append, List.nil_append, List.replicate, List.set, List.getElem?_cons_zero, List.getElem?_cons_succ, Option.bind_some, Option.map_some, List.length_cons, List.length_nil, beq_self_eq_true, if_true, if_false, Bool.false_eq_true, Nat.reduceAdd, Nat.reduceSub, Nat.reduceBEq, Nat.zero_add, ↓reduceIte, reduceCtorEq, decide_true, decide_false, Bool.true_and, Bool.and_true, Bool.false_and, Bool.and_false, Bool.or_true, Bool.true_or, Bool.or_false, Bool.false_or, Bool.not_true, Bool.not_false, Bool.and_self, Int.reduceLE, Int.reduceLT, Int.reduceToNat, Int.reduceSub, Int.reduceAdd, Int.reduceNeg, Nat.reduceLT, Nat.reduceLeDiff, sm2, sm3, sm4, sm5]
  repeat with_reducible refine Tr.bind_all ?_
  refine pick_all (by decide) (by decide) fun d1 h1 => ?_
  repeat with_reducible refine Tr.bind_all ?_
  refine pick_all (by decide) (by decide) fun d2 h2 => ?_
  simp -implicitDefEqProofs only [ap_runB, ap_sSeq, ap_sNil, ap_sIf, ap_sRet, ap_sRetN, ap_sSet, ap_sOwn, ap_sPar, ap_sAsg, ap_sDrop, ap_sFz, ap_sFor, ap_sApp, ap_sAugI, ap_sRaise, ap_sBreak, ap_vT, ap_v2, ap_vVar, ap_vBor, ap_vC, ap_vIf, ap_vAnd, ap_vOr, ap_vNot, ap_bAnd, ap_bOr, ap_bNot, ap_bYes, ap_vCall, ap_aNil, ap_aCons, ap_aDr, ap_aOwn, ap_vTup, ap_nLst, ap_nList, ap_vL, ap_vB, ap_vIsi, ap_vChain, ap_vIxV, ap_vLenV, ap_vSl, ap_oNone, ap_oSome, ap_wSeq, ap_wArg, ap_vMeth, ap_vRev, ap_nLc, ap_tgName, ap_nCall, ap_vCallB, ap_aBor, nd_int, nd_bool, nd_str, nd_list, nd_tup, nd_none, nd_r, nd_s, nd_Ro, ap_kVar, ap_kOf, ap_vInK, ap_vNiK, ap_vIxK, ap_sPutK, ap_vGetK, ap_vGet1, ap_vLenK, ap_wKeys, ap_kNil, ap_kOne, ap_vD, ap_sOwnK, ap_aOwnK, bind_ret, bind_exc, ofO_some, fzs_nil, fzs_cons, setAll_nil, setAll_cons, asB_b, noOw_nil, noOw_cons, wipeE_nil, wipeE_cons, noExc_r, seqD_l, seqD_t, tgTup_ap, tgCons_ap, tgNil_ap, List.cons_append, List.nil_append, List.replicate, List.set, List.getElem?_cons_zero, List.getElem?_cons_succ, Option.bind_some, Option.map_some, List.length_cons, List.length_nil, beq_self_eq_true, if_true, if_false, Bool.false_eq_true, Nat.reduceAdd, Nat.reduceSub, Nat.reduceBEq, Nat.zero_add, ↓reduceIte, reduceCtorEq, decide_true, decide_false, Bool.true_and, Bool.and_true, Bool.false_and, Bool.and_false, Bool.or_true, Bool.true_or, Bool.or_false, Bool.false_or, Bool.not_true, Bool.not_false, Bool.and_self, Int.reduceLE, Int.reduceLT, Int.reduceToNat, Int.reduceSub, Int.reduceAdd, Int.reduceNeg, Nat.reduceLT, Nat.reduceLeDiff, sm2, sm3, sm4, sm5, Tr.all]
  repeat with_reducible refine Tr.bind_all ?_
  refine draw_all (by decide) (by decide) fun k1 a1 b1 => ?_
  simp -implicitDefEqProofs only [ap_runB, ap_sSeq, ap_sNil, ap_sIf, ap_sRet, ap_sRetN, ap_sSet, ap_sOwn, ap_sPar, ap_sAsg, ap_sDrop, ap_sFz, ap_sFor, ap_sApp, ap_sAugI, ap_sRaise, ap_sBreak, ap_vT, ap_v2, ap_vVar, ap_vBor, ap_vC, ap_vIf, ap_vAnd, ap_vOr, ap_vNot, ap_bAnd, ap_bOr, ap_bNot, ap_bYes, ap_vCall, ap_aNil, ap_aCons, ap_aDr, ap_aOwn, ap_vTup, ap_nLst, ap_nList, ap_vL, ap_vB, ap_vIsi, ap_vChain, ap_vIxV, ap_vLenV, ap_vSl, ap_oNone, ap_oSome, ap_wSeq, ap_wArg, ap_vMeth, ap_vRev, ap_nLc, ap_tgName, ap_nCall, ap_vCallB, ap_aBor, nd_int, nd_bool, nd_str, nd_list, nd_tup, nd_none, nd_r, nd_s, nd_Ro, ap_kVar, ap_kOf, ap_vInK, ap_vNiK, ap_vIxK, ap_sPutK, ap_vGetK, ap_vGet1, ap_vLenK, ap_wKeys, ap_kNil, ap_kOne, ap_vD, ap_sOwnK, ap_aOwnK, bind_ret, bind_exc, ofO_some, fzs_nil, fzs_cons, setAll_nil, setAll_cons, asB_b, noOw_nil, noOw_cons, wipeE_nil, wipeE_cons, noExc_r, seqD_l, seqD_t, tgTup_ap, tgCons_ap, tgNil_ap, List.cons_append, List.nil_append, List.replicate, List.set, List.getElem?_cons_zero, List.getElem?_cons_succ, Option.bind_some, Option.map_some, List.length_cons, List.length_nil, beq_self_eq_true, if_true, if_false, Bool.false_eq_true, Nat.reduceAdd, Nat.reduceSub, Nat.reduceBEq, Nat.zero_add, ↓reduceIte, reduceCtorEq, decide_true, decide_false, Bool.true_and, Bool.and_true, Bool.false_and, Bool.and_false, Bool.or_true, Bool.true_or, Bool.or_false, Bool.false_or, Bool.not_true, Bool.not_false, Bool.and_self, Int.reduceLE, Int.reduceLT, Int.reduceToNat, Int.reduceSub, Int.reduceAdd, Int.reduceNeg, Nat.reduceLT, Nat.reduceLeDiff, add_ii, sm2, sm3, sm4, sm5, Tr.all]
  repeat with_reducible refine Tr.bind_all ?_
  refine draw_all (by decide) (by decide) fun k2 a2 b2 => ?_
  simp -implicitDefEqProofs only [ap_runB, ap_sSeq, ap_sNil, ap_sIf, ap_sRet, ap_sRetN, ap_sSet, ap_sOwn, ap_sPar, ap_sAsg, ap_sDrop, ap_sFz, ap_sFor, ap_sApp, ap_sAugI, ap_sRaise, ap_sBreak, ap_vT, ap_v2, ap_vVar, ap_vBor, ap_vC, ap_vIf, ap_vAnd, ap_vOr, ap_vNot, ap_bAnd, ap_bOr, ap_bNot, ap_bYes, ap_vCall, ap_aNil, ap_aCons, ap_aDr, ap_aOwn, ap_vTup, ap_nLst, ap_nList, ap_vL, ap_vB, ap_vIsi, ap_vChain, ap_vIxV, ap_vLenV, ap_vSl, ap_oNone, ap_oSome, ap_wSeq, ap_wArg, ap_vMeth, ap_vRev, ap_nLc, ap_tgName, ap_nCall, ap_vCallB, ap_aBor, nd_int, nd_bool, nd_str, nd_list, nd_tup, nd_none, nd_r, nd_s, nd_Ro, ap_kVar, ap_kOf, ap_vInK, ap_vNiK, ap_vIxK, ap_sPutK, ap_vGetK, ap_vGet1, ap_vLenK, ap_wKeys, ap_kNil, ap_kOne, ap_vD, ap_sOwnK, ap_aOwnK, bind_ret, bind_exc, ofO_some, fzs_nil, fzs_cons, setAll_nil, setAll_cons, asB_b, noOw_nil, noOw_cons, wipeE_nil, wipeE_cons, noExc_r, seqD_l, seqD_t, tgTup_ap, tgCons_ap, tgNil_ap, List.cons_append, List.nil_append, List.replicate, List.set, List.getElem?_cons_zero, List.getElem?_cons_succ, Option.bind_some, Option.map_some, List.length_cons, List.length_nil, beq_self_eq_true, if_true, if_false, Bool.false_eq_true, Nat.reduceAdd, Nat.reduceSub, Nat.reduceBEq, Nat.zero_add, ↓reduceIte, reduceCtorEq, decide_true, decide_false, Bool.true_and, Bool.and_true, Bool.false_and, Bool.and_false, Bool.or_true, Bool.true_or, Bool.or_false, Bool.false_or, Bool.not_true, Bool.not_false, Bool.and_self, Int.reduceLE, Int.reduceLT, Int.reduceToNat, Int.reduceSub, Int.reduceAdd, Int.reduceNeg, Nat.reduceLT, Nat.reduceLeDiff, add_ii, sm2, sm3, sm4, sm5, Tr.all]
  repeat with_reducible refine Tr.bind_all ?_
  refine pick_all (by decide) (by decide) fun d3 h3 => ?_
  simp -implicitDefEqProofs only [ap_runB, ap_sSeq, ap_sNil, ap_sIf, ap_sRet, ap_sRetN, ap_sSet, ap_sOwn, ap_sPar, ap_sAsg, ap_sDrop, ap_sFz, ap_sFor, ap_sApp, ap_sAugI, ap_sRaise, ap_sBreak, ap_vT, ap_v2, ap_vVar, ap_vBor, ap_vC, ap_vIf, ap_vAnd, ap_vOr, ap_vNot, ap_bAnd, ap_bOr, ap_bNot, ap_bYes, ap_vCall, ap_aNil, ap_aCons, ap_aDr, ap_aOwn, ap_vTup, ap_nLst, ap_nList, ap_vL, ap_vB, ap_vIsi, ap_vChain, ap_vIxV, ap_vLenV, ap_vSl, ap_oNone, ap_oSome, ap_wSeq, ap_wArg, ap_vMeth, ap_vRev, ap_nLc, ap_tgName, ap_nCall, ap_vCallB, ap_aBor, nd_int, nd_bool, nd_str, nd_list, nd_tup, nd_none, nd_r, nd_s, nd_Ro, ap_kVar, ap_kOf, ap_vInK, ap_vNiK, ap_vIxK, ap_sPutK, ap_vGetK, ap_vGet1, ap_vLenK, ap_wKeys, ap_kNil, ap_kOne, ap_vD, ap_sOwnK, ap_aOwnK, bind_ret, bind_exc, ofO_some, fzs_nil, fzs_cons, setAll_nil, setAll_cons, asB_b, noOw_nil, noOw_cons, wipeE_nil, wipeE_cons, noExc_r, seqD_l, seqD_t, tgTup_ap, tgCons_ap, tgNil_ap, List.cons_append, List.nil_append, List.replicate, List.set, List.getElem?_cons_zero, List.getElem?_cons_succ, Option.bind_some, Option.map_some, List.length_cons, List.length_nil, beq_self_eq_true, if_true, if_false, Bool.false_eq_true, Nat.reduceAdd, Nat.reduceSub, Nat.reduceBEq, Nat.zero_add, ↓reduceIte, reduceCtorEq, decide_true, decide_false, Bool.true_and, Bool.and_true, Bool.false_and, Bool.and_false, Bool.or_true, Bool.true_or, Bool.or_false, Bool.false_or, Bool.not_true, Bool.not_false, Bool.and_self, Int.reduceLE, Int.reduceLT, Int.reduceToNat, Int.reduceSub, Int.reduceAdd, Int.reduceNeg, Nat.reduceLT, Nat.reduceLeDiff, sm5, Tr.all]
  obtain ⟨l, rfl⟩ : ∃ l : Ld, d1 = .str l.s := by
    simp only [List.mem_cons, List.not_mem_nil, or_false] at h1
    rcases h1 with rfl | rfl | rfl
    · exact ⟨.one, rfl⟩
    · exact ⟨.two, rfl⟩
    · exact ⟨.cap, rfl⟩
  obtain ⟨s, rfl⟩ : ∃ l : Sv, d2 = .str l.s := by
    simp only [List.mem_cons, List.not_mem_nil, or_false] at h2
    rcases h2 with rfl | rfl | rfl | rfl
    · exact ⟨.games, rfl⟩
    · exact ⟨.twos, rfl⟩
    · exact ⟨.winner, rfl⟩
    · exact ⟨.only, rfl⟩
  obtain ⟨d, rfl⟩ : ∃ l : Dc, d3 = .str l.s := by
    simp only [List.mem_cons, List.not_mem_nil, or_false] at h3
    rcases h3 with rfl | rfl
    · exact ⟨.same, rfl⟩
    · exact ⟨.longer, rfl⟩
  exact h ⟨2 + k1, l, 1 + k2, d, s⟩ ⟨by show 2 ≤ 2 + k1; omega, by show 2 + k1 ≤ 4; omega, by show 1 ≤ 1 + k2; omega, by show 1 + k2 ≤ 3; omega⟩

theorem row_while (nE : Ent) {E : Nat → Prop} {m : Nat} (hm : m ≤ 100) : ∀ (fuel : Nat) (bs : List Bool), m - bs.length < fuel → bs.length ≤ 200 →
    (sWhile (vT (v2 dLt (vB fnLen (aCons (vVar 2) (aNil))) (vVar 3))) (sSet 2 (v2 dAdd (vVar 2) (v2 dMul (vL (nLst (aCons (vCall 2 mDraw (aDr 0 (aCons (vC (.int 2)) (aNil)))) (aNil)))) (vCall 2 m_law_pick (aDr 0 (aCons (vL (nLst (aCons (vC (.int 1)) (aCons (vC (.int 1)) (aCons (vC (.int 2)) (aCons (vC (.int 3)) (aNil))))))) (aNil))))))) fuel [.dr, nE, .fz (Ro bs), .fz (.int (m : Nat))]).all (fun o => ∃ bs' : List Bool, m ≤ bs'.length ∧ o = .nx [.dr, nE, .fz (Ro bs'), .fz (.int (m : Nat))]) E
  | 0, bs, h, h2 => by
    exact absurd h (Nat.not_lt_zero _)
  | fuel + 1, bs, h, h2 => by
    have sm4 : small 4 = true := rfl
    by_cases hlt : (bs.length : Int) < (m : Nat)
    · have e1 : decide ((bs.length : Int) < (m : Nat)) = true := decide_eq_true hlt
      rw [sWhile]
      simp -implicitDefEqProofs only [ap_runB, ap_sSeq, ap_sNil, ap_sIf, ap_sRet, ap_sRetN, ap_sSet, ap_sOwn, ap_sPar, ap_sAsg, ap_sDrop, ap_sFz, ap_sFor, ap_sApp, ap_sAugI, ap_sRaise, ap_sBreak, ap_vT, ap_v2, ap_vVar, ap_vBor, ap_vC, ap_vIf, ap_vAnd, ap_vOr, ap_vNot, ap_bAnd, ap_bOr, ap_bNot, ap_bYes, ap_vCall, ap_aNil, ap_aCons, ap_aDr, ap_aOwn, ap_vTup, ap_nLst, ap_nList, ap_vL, ap_vB, ap_vIsi, ap_vChain, ap_vIxV, ap_vLenV, ap_vSl, ap_oNone, ap_oSome, ap_wSeq, ap_wArg, ap_vMeth, ap_vRev, ap_nLc, ap_tgName, ap_nCall, ap_vCallB, ap_aBor, nd_int, nd_bool, nd_str, nd_list, nd_tup, nd_none, nd_r, nd_s, nd_Ro, ap_kVar, ap_kOf, ap_vInK, ap_vNiK, ap_vIxK, ap_sPutK, ap_vGetK, ap_vGet1, ap_vLenK, ap_wKeys, ap_kNil, ap_kOne, ap_vD, ap_sOwnK, ap_aOwnK, bind_ret, bind_exc, ofO_some, fzs_nil, fzs_cons, setAll_nil, setAll_cons, asB_b, noOw_nil, noOw_cons, wipeE_nil, wipeE_cons, noExc_r, seqD_l, seqD_t, tgTup_ap, tgCons_ap, tgNil_ap, List.cons_append, List.nil_append, List.replicate, List.set, List.getElem?_cons_zero, List.getElem?_cons_succ, Option.bind_some, Option.map_some, List.length_cons, List.length_nil, beq_self_eq_true, if_true, if_false, Bool.false_eq_true, Nat.reduceAdd, Nat.reduceSub, Nat.reduceBEq, Nat.zero_add, ↓reduceIte, reduceCtorEq, decide_true, decide_false, Bool.true_and, Bool.and_true, Bool.false_and, Bool.and_false, Bool.or_true, Bool.true_or, Bool.or_false, Bool.false_or, Bool.not_true, Bool.not_false, Bool.and_self, Int.reduceLE, Int.reduceLT, Int.reduceToNat, Int.reduceSub, Int.reduceAdd, Int.reduceNeg, Nat.reduceLT, Nat.reduceLeDiff, Ro_len, lt_ii, e1, sm1, sm2, sm4]
      repeat with_reducible refine Tr.bind_all ?_
      refine draw_all (by decide) (by decide) fun k a1 b1 => ?_
      obtain ⟨b, eb⟩ := bit_of a1 b1
      rw [eb]
      simp -implicitDefEqProofs only [ap_runB, ap_sSeq, ap_sNil, ap_sIf, ap_sRet, ap_sRetN, ap_sSet, ap_sOwn, ap_sPar, ap_sAsg, ap_sDrop, ap_sFz, ap_sFor, ap_sApp, ap_sAugI, ap_sRaise, ap_sBreak, ap_vT, ap_v2, ap_vVar, ap_vBor, ap_vC, ap_vIf, ap_vAnd, ap_vOr, ap_vNot, ap_bAnd, ap_bOr, ap_bNot, ap_bYes, ap_vCall, ap_aNil, ap_aCons, ap_aDr, ap_aOwn, ap_vTup, ap_nLst, ap_nList, ap_vL, ap_vB, ap_vIsi, ap_vChain, ap_vIxV, ap_vLenV, ap_vSl, ap_oNone, ap_oSome, ap_wSeq, ap_wArg, ap_vMeth, ap_vRev, ap_nLc, ap_tgName, ap_nCall, ap_vCallB, ap_aBor, nd_int, nd_bool, nd_str, nd_list, nd_tup, nd_none, nd_r, nd_s, nd_Ro, ap_kVar, ap_kOf, ap_vInK, ap_vNiK, ap_vIxK, ap_sPutK, ap_vGetK, ap_vGet1, ap_vLenK, ap_wKeys, ap_kNil, ap_kOne, ap_vD, ap_sOwnK, ap_aOwnK, bind_ret, bind_exc, ofO_some, fzs_nil, fzs_cons, setAll_nil, setAll_cons, asB_b, noOw_nil, noOw_cons, wipeE_nil, wipeE_cons, noExc_r, seqD_l, seqD_t, tgTup_ap, tgCons_ap, tgNil_ap, List.cons_append, List.nil_append, List.replicate, List.set, List.getElem?_cons_zero, List.getElem?_cons_succ, Option.bind_some, Option.map_some, List.length_cons, List.length_nil, beq_self_eq_true, if_true, if_false, Bool.false_eq_true, Nat.reduceAdd, Nat.reduceSub, Nat.reduceBEq, Nat.zero_add, ↓reduceIte, reduceCtorEq, decide_true, decide_false, Bool.true_and, Bool.and_true, Bool.false_and, Bool.and_false, Bool.or_true, Bool.true_or, Bool.or_false, Bool.false_or, Bool.not_true, Bool.not_false, Bool.and_self, Int.reduceLE, Int.reduceLT, Int.reduceToNat, Int.reduceSub, Int.reduceAdd, Int.reduceNeg, Nat.reduceLT, Nat.reduceLeDiff, sm1, sm2, sm4, Tr.all]
      repeat with_reducible refine Tr.bind_all ?_
      refine pick_all (by decide) (by decide) fun d hd => ?_
      obtain ⟨ys, hy0, hy3, ey⟩ : ∃ ys : List Bool, 0 < ys.length ∧ ys.length ≤ 3 ∧ dMul (.list [.int (rb b)]) d = some (Ro ys) := by
        simp only [List.mem_cons, List.not_mem_nil, or_false] at hd
        rcases hd with rfl | rfl | rfl | rfl
        · exact ⟨_, by simp, by simp, Ro_mul1 b⟩
        · exact ⟨_, by simp, by simp, Ro_mul1 b⟩
        · exact ⟨_, by simp, by simp, Ro_mul2 b⟩
        · exact ⟨_, by simp, by simp, Ro_mul3 b⟩
      simp -implicitDefEqProofs only [ap_runB, ap_sSeq, ap_sNil, ap_sIf, ap_sRet, ap_sRetN, ap_sSet, ap_sOwn, ap_sPar, ap_sAsg, ap_sDrop, ap_sFz, ap_sFor, ap_sApp, ap_sAugI, ap_sRaise, ap_sBreak, ap_vT, ap_v2, ap_vVar, ap_vBor, ap_vC, ap_vIf, ap_vAnd, ap_vOr, ap_vNot, ap_bAnd, ap_bOr, ap_bNot, ap_bYes, ap_vCall, ap_aNil, ap_aCons, ap_aDr, ap_aOwn, ap_vTup, ap_nLst, ap_nList, ap_vL, ap_vB, ap_vIsi, ap_vChain, ap_vIxV, ap_vLenV, ap_vSl, ap_oNone, ap_oSome, ap_wSeq, ap_wArg, ap_vMeth, ap_vRev, ap_nLc, ap_tgName, ap_nCall, ap_vCallB, ap_aBor, nd_int, nd_bool, nd_str, nd_list, nd_tup, nd_none, nd_r, nd_s, nd_Ro, ap_kVar, ap_kOf, ap_vInK, ap_vNiK, ap_vIxK, ap_sPutK, ap_vGetK, ap_vGet1, ap_vLenK, ap_wKeys, ap_kNil, ap_kOne, ap_vD, ap_sOwnK, ap_aOwnK, bind_ret, bind_exc, ofO_some, fzs_nil, fzs_cons, setAll_nil, setAll_cons, asB_b, noOw_nil, noOw_cons, wipeE_nil, wipeE_cons, noExc_r, seqD_l, seqD_t, tgTup_ap, tgCons_ap, tgNil_ap, List.cons_append, List.nil_append, List.replicate, List.set, List.getElem?_cons_zero, List.getElem?_cons_succ, Option.bind_some, Option.map_some, List.length_cons, List.length_nil, beq_self_eq_true, if_true, if_false, Bool.false_eq_true, Nat.reduceAdd, Nat.reduceSub, Nat.reduceBEq, Nat.zero_add, ↓reduceIte, reduceCtorEq, decide_true, decide_false, Bool.true_and, Bool.and_true, Bool.false_and, Bool.and_false, Bool.or_true, Bool.true_or, Bool.or_false, Bool.false_or, Bool.not_true, Bool.not_false, Bool.and_self, Int.reduceLE, Int.reduceLT, Int.reduceToNat, Int.reduceSub, Int.reduceAdd, Int.reduceNeg, Nat.reduceLT, Nat.reduceLeDiff, ey, Ro_add bs ys (by omega), Tr.all]
      exact row_while nE hm fuel (bs ++ ys) (by rw [List.length_append]; omega) (by rw [List.length_append]; omega)
    · have e1 : decide ((bs.length : Int) < (m : Nat)) = false := decide_eq_false hlt
      rw [sWhile]
      simp -implicitDefEqProofs only [ap_runB, ap_sSeq, ap_sNil, ap_sIf, ap_sRet, ap_sRetN, ap_sSet, ap_sOwn, ap_sPar, ap_sAsg, ap_sDrop, ap_sFz, ap_sFor, ap_sApp, ap_sAugI, ap_sRaise, ap_sBreak, ap_vT, ap_v2, ap_vVar, ap_vBor, ap_vC, ap_vIf, ap_vAnd, ap_vOr, ap_vNot, ap_bAnd, ap_bOr, ap_bNot, ap_bYes, ap_vCall, ap_aNil, ap_aCons, ap_aDr, ap_aOwn, ap_vTup, ap_nLst, ap_nList, ap_vL, ap_vB, ap_vIsi, ap_vChain, ap_vIxV, ap_vLenV, ap_vSl, ap_oNone, ap_oSome, ap_wSeq, ap_wArg, ap_vMeth, ap_vRev, ap_nLc, ap_tgName, ap_nCall, ap_vCallB, ap_aBor, nd_int, nd_bool, nd_str, nd_list, nd_tup, nd_none, nd_r, nd_s, nd_Ro, ap_kVar, ap_kOf, ap_vInK, ap_vNiK, ap_vIxK, ap_sPutK, ap_vGetK, ap_vGet1, ap_vLenK, ap_wKeys, ap_kNil, ap_kOne, ap_vD, ap_sOwnK, ap_aOwnK, bind_ret, bind_exc, ofO_some, fzs_nil, fzs_cons, setAll_nil, setAll_cons, asB_b, noOw_nil, noOw_cons, wipeE_nil, wipeE_cons, noExc_r, seqD_l, seqD_t, tgTup_ap, tgCons_ap, tgNil_ap, List.cons_append, List.nil_append, List.replicate, List.set, List.getElem?_cons_zero, List.getElem?_cons_succ, Option.bind_some, Option.map_some, List.length_cons, List.length_nil, beq_self_eq_true, if_true, if_false, Bool.false_eq_true, Nat.reduceAdd, Nat.reduceSub, Nat.reduceBEq, Nat.zero_add, ↓reduceIte, reduceCtorEq, decide_true, decide_false, Bool.true_and, Bool.and_true, Bool.false_and, Bool.and_false, Bool.or_true, Bool.true_or, Bool.or_false, Bool.false_or, Bool.not_true, Bool.not_false, Bool.and_self, Int.reduceLE, Int.reduceLT, Int.reduceToNat, Int.reduceSub, Int.reduceAdd, Int.reduceNeg, Nat.reduceLT, Nat.reduceLeDiff, Ro_len, lt_ii, e1, Tr.all]
      exact ⟨bs, by omega, rfl⟩
theorem law_row_all {n : Nat} {P : D → Prop} {E : Nat → Prop} (hn : n < 100) (h : ∀ bs : List Bool, bs.length ≤ n → P (Ro bs)) : (m_law_row [.dr, .fz (.int (n : Nat))]).all P E := by
  have e0 : PyData.list [] = Ro [] := rfl
  have sm0 : small 0 = true := rfl
  simp -implicitDefEqProofs only [m_law_row, u_law_row, ap_runB, ap_sSeq, ap_sNil, ap_sIf, ap_sRet, ap_sRetN, ap_sSet, ap_sOwn, ap_sPar, ap_sAsg, ap_sDrop, ap_sFz, ap_sFor, ap_sApp, ap_sAugI, ap_sRaise, ap_sBreak, ap_vT, ap_v2, ap_vVar, ap_vBor, ap_vC, ap_vIf, ap_vAnd, ap_vOr, ap_vNot, ap_bAnd, ap_bOr, ap_bNot, ap_bYes, ap_vCall, ap_aNil, ap_aCons, ap_aDr, ap_aOwn, ap_vTup, ap_nLst, ap_nList, ap_vL, ap_vB, ap_vIsi, ap_vChain, ap_vIxV, ap_vLenV, ap_vSl, ap_oNone, ap_oSome, ap_wSeq, ap_wArg, ap_vMeth, ap_vRev, ap_nLc, ap_tgName, ap_nCall, ap_vCallB, ap_aBor, nd_int, nd_bool, nd_str, nd_list, nd_tup, nd_none, nd_r, nd_s, nd_Ro, ap_kVar, ap_kOf, ap_vInK, ap_vNiK, ap_vIxK, ap_sPutK, ap_vGetK, ap_vGet1, ap_vLenK, ap_wKeys, ap_kNil, ap_kOne, ap_vD, ap_sOwnK, ap_aOwnK, bind_ret, bind_exc, ofO_some, fzs_nil, fzs_cons, setAll_nil, setAll_cons, asB_b, noOw_nil, noOw_cons, wipeE_nil, wipeE_cons, noExc_r, seqD_l, seqD_t, tgTup_ap, tgCons_ap, tgNil_ap, List.cons_append, List.nil_append, List.replicate, List.set, List.getElem?_cons_zero, List.getElem?_cons_succ, Option.bind_some, Option.map_some, List.length_cons, List.length_nil, beq_self_eq_true, if_true, if_false, Bool.false_eq_true, Nat.reduceAdd, Nat.reduceSub, Nat.reduceBEq, Nat.zero_add, ↓reduceIte, reduceCtorEq, decide_true, decide_false, Bool.true_and, Bool.and_true, Bool.false_and, Bool.and_false, Bool.or_true, Bool.true_or, Bool.or_false, Bool.false_or, Bool.not_true, Bool.not_false, Bool.and_self, Int.reduceLE, Int.reduceLT, Int.reduceToNat, Int.reduceSub, Int.reduceAdd, Int.reduceNeg, Nat.reduceLT, Nat.reduceLeDiff, sm0, e0, add_ii]
  repeat with_reducible refine Tr.bind_all ?_
  refine draw_all (by omega) (by omega) fun k a1 b1 => ?_
  obtain ⟨m, rfl⟩ : ∃ m : Nat, k = (m : Nat) := ⟨k.toNat, by omega⟩
  simp -implicitDefEqProofs only [Tr.all, ap_runB, ap_sSeq, ap_sNil, ap_sIf, ap_sRet, ap_sRetN, ap_sSet, ap_sOwn, ap_sPar, ap_sAsg, ap_sDrop, ap_sFz, ap_sFor, ap_sApp, ap_sAugI, ap_sRaise, ap_sBreak, ap_vT, ap_v2, ap_vVar, ap_vBor, ap_vC, ap_vIf, ap_vAnd, ap_vOr, ap_vNot, ap_bAnd, ap_bOr, ap_bNot, ap_bYes, ap_vCall, ap_aNil, ap_aCons, ap_aDr, ap_aOwn, ap_vTup, ap_nLst, ap_nList, ap_vL, ap_vB, ap_vIsi, ap_vChain, ap_vIxV, ap_vLenV, ap_vSl, ap_oNone, ap_oSome, ap_wSeq, ap_wArg, ap_vMeth, ap_vRev, ap_nLc, ap_tgName, ap_nCall, ap_vCallB, ap_aBor, nd_int, nd_bool, nd_str, nd_list, nd_tup, nd_none, nd_r, nd_s, nd_Ro, ap_kVar, ap_kOf, ap_vInK, ap_vNiK, ap_vIxK, ap_sPutK, ap_vGetK, ap_vGet1, ap_vLenK, ap_wKeys, ap_kNil, ap_kOne, ap_vD, ap_sOwnK, ap_aOwnK, bind_ret, bind_exc, ofO_some, fzs_nil, fzs_cons, setAll_nil, setAll_cons, asB_b, noOw_nil, noOw_cons, wipeE_nil, wipeE_cons, noExc_r, seqD_l, seqD_t, tgTup_ap, tgCons_ap, tgNil_ap, List.cons_append, List.nil_append, List.replicate, List.set, List.getElem?_cons_zero, List.getElem?_cons_succ, Option.bind_some, Option.map_some, List.length_cons, List.length_nil, beq_self_eq_true, if_true, if_false, Bool.false_eq_true, Nat.reduceAdd, Nat.reduceSub, Nat.reduceBEq, Nat.zero_add, ↓reduceIte, reduceCtorEq, decide_true, decide_false, Bool.true_and, Bool.and_true, Bool.false_and, Bool.and_false, Bool.or_true, Bool.true_or, Bool.or_false, Bool.false_or, Bool.not_true, Bool.not_false, Bool.and_self, Int.reduceLE, Int.reduceLT, Int.reduceToNat, Int.reduceSub, Int.reduceAdd, Int.reduceNeg, Nat.reduceLT, Nat.reduceLeDiff]
  repeat with_reducible refine Tr.bind_all ?_
  refine Tr.all_mono ?_ (fun _ z => z) (row_while (.fz (.int (n : Nat))) (by omega) 1000 [] (by simp; omega) (by simp))
  rintro o ⟨bs', hb, rfl⟩
  simp -implicitDefEqProofs only [Tr.all, ap_runB, ap_sSeq, ap_sNil, ap_sIf, ap_sRet, ap_sRetN, ap_sSet, ap_sOwn, ap_sPar, ap_sAsg, ap_sDrop, ap_sFz, ap_sFor, ap_sApp, ap_sAugI, ap_sRaise, ap_sBreak, ap_vT, ap_v2, ap_vVar, ap_vBor, ap_vC, ap_vIf, ap_vAnd, ap_vOr, ap_vNot, ap_bAnd, ap_bOr, ap_bNot, ap_bYes, ap_vCall, ap_aNil, ap_aCons, ap_aDr, ap_aOwn, ap_vTup, ap_nLst, ap_nList, ap_vL, ap_vB, ap_vIsi, ap_vChain, ap_vIxV, ap_vLenV, ap_vSl, ap_oNone, ap_oSome, ap_wSeq, ap_wArg, ap_vMeth, ap_vRev, ap_nLc, ap_tgName, ap_nCall, ap_vCallB, ap_aBor, nd_int, nd_bool, nd_str, nd_list, nd_tup, nd_none, nd_r, nd_s, nd_Ro, ap_kVar, ap_kOf, ap_vInK, ap_vNiK, ap_vIxK, ap_sPutK, ap_vGetK, ap_vGet1, ap_vLenK, ap_wKeys, ap_kNil, ap_kOne, ap_vD, ap_sOwnK, ap_aOwnK, bind_ret, bind_exc, ofO_some, fzs_nil, fzs_cons, setAll_nil, setAll_cons, asB_b, noOw_nil, noOw_cons, wipeE_nil, wipeE_cons, noExc_r, seqD_l, seqD_t, tgTup_ap, tgCons_ap, tgNil_ap, List.cons_append, List.nil_append, List.replicate, List.set, List.getElem?_cons_zero, List.getElem?_cons_succ, Option.bind_some, Option.map_some, List.length_cons, List.length_nil, beq_self_eq_true, if_true, if_false, Bool.false_eq_true, Nat.reduceAdd, Nat.reduceSub, Nat.reduceBEq, Nat.zero_add, ↓reduceIte, reduceCtorEq, decide_true, decide_false, Bool.true_and, Bool.and_true, Bool.false_and, Bool.and_false, Bool.or_true, Bool.true_or, Bool.or_false, Bool.false_or, Bool.not_true, Bool.not_false, Bool.and_self, Int.reduceLE, Int.reduceLT, Int.reduceToNat, Int.reduceSub, Int.reduceAdd, Int.reduceNeg, Nat.reduceLT, Nat.reduceLeDiff, Ro_take]
  exact h _ (by rw [List.length_take]; omega)

/-! ### draws, as things of their own -/
theorem pick_ok {cs : List D} {P : D → Prop} {E : Nat → Prop} (h0 : 0 < cs.length) (h1 : cs.length < 1000000) (h : ∀ d ∈ cs, P d) : (m_law_pick [.dr, .fz (.list cs)]).ok P E := ⟨pick_all h0 h1 h⟩
theorem law_rule_ok {P : D → Prop} {E : Nat → Prop} (h : ∀ r : Ru, r.ok → P r.e) : (m_law_rule [.dr]).ok P E := ⟨law_rule_all h⟩
theorem law_row_ok {n : Nat} {P : D → Prop} {E : Nat → Prop} (hn : n < 100) (h : ∀ bs : List Bool, bs.length ≤ n → P (Ro bs)) : (m_law_row [.dr, .fz (.int (n : Nat))]).ok P E := ⟨law_row_all hn h⟩

/-! ### the end of the match -/
theorem m_law_error_eq (c : Nat) (h : c < 6) : m_law_error [.ex c] = .ret (.str (["rule", "rally", "boards", "number", "text", "none"][c]'h)) := by
  have : c = 0 ∨ c = 1 ∨ c = 2 ∨ c = 3 ∨ c = 4 ∨ c = 5 := by omega
  rcases this with rfl | rfl | rfl | rfl | rfl | rfl <;> rfl
theorem ended_mono {r : Ru} {bs : List Bool} {m : Nat} (h : endedM r (afterM r .start (bs.take m)) = true) : ∀ j, m ≤ j → j ≤ bs.length → afterM r .start (bs.take j) = afterM r .start (bs.take m)
  | 0, h1, _ => by rw [show m = 0 by omega]
  | j + 1, h1, h2 => by
    by_cases hj : m = j + 1
    · rw [hj]
    · have e := ended_mono h j (by omega) (by omega)
      rw [after_take r .start bs j (by omega), e, ended_step h]
def endsL (r : Ru) (bs : List Bool) : List Nat := (List.range (bs.length + 1)).filter fun k => endedM r (afterM r .start (bs.take k))
theorem enum_sts (r : Ru) (bs : List Bool) : enumD [Rs r bs] = some ((List.range (bs.length + 1)).map fun k => .tuple [.int (k : Nat), (afterM r .start (bs.take k)).e]) := by
  show some (((List.range ((stsM r bs).map Sta.e).length).zip ((stsM r bs).map Sta.e)).map fun p => PyData.tuple [.int (p.1 : Nat), p.2]) = _
  congr 1
  apply List.ext_getElem
  · simp [sts_length]
  · intro k h1 h2
    have hk : k ≤ bs.length := by simp at h2; omega
    have := stsM_get r bs .start k hk
    have e : (stsM r bs)[k]? = some (afterM r .start (bs.take k)) := this
    obtain ⟨h3, e⟩ := List.getElem?_eq_some_iff.mp e
    simp [e]
/-! ### items and words -/
def intIn (d : D) (lo hi : Int) : Bool := match d with
  | .int i => decide (lo ≤ i) && decide (i ≤ hi)
  | _ => false
theorem is_int_gen (d : D) (h : notD d = true) (lo hi : Int) : m_is_int [.fz d, .fz (.int lo), .fz (.int hi)] = .ret (.bool (intIn d lo hi)) := by
  cases d with
  | int i => exact m_is_int_eq i lo hi
  | dict _ => cases h
  | _ => rfl
def isW (ws : List Str) (d : D) : Bool := match d with
  | .str x => ws.any fun w => w == x
  | _ => false
theorem is_word_gen (d : D) (h : notD d = true) (ws : List Str) : m_is_word [.fz d, .fz (.tuple (ws.map PyData.str))] = .ret (.bool (isW ws d)) := by
  cases d with
  | str x =>
    have f1 : (ws.map PyData.str).all flatD = true := by
      rw [List.all_map]
      exact List.all_eq_true.mpr fun _ _ => rfl
    have e : dIn (.str x) (.tuple (ws.map PyData.str)) = some (.bool (isW ws (.str x))) := by
      show (if flatD (.str x) && (ws.map PyData.str).all flatD then some (PyData.bool ((ws.map PyData.str).any fun z => PyData.eqv z (.str x))) else none) = _
      rw [f1, List.any_map]
      rfl
    simp -implicitDefEqProofs only [m_is_word, u_is_word, ap_runB, ap_sSeq, ap_sNil, ap_sIf, ap_sRet, ap_sRetN, ap_sSet, ap_sOwn, ap_sPar, ap_sAsg, ap_sDrop, ap_sFz, ap_sFor, ap_sApp, ap_sAugI, ap_sRaise, ap_sBreak, ap_vT, ap_v2, ap_vVar, ap_vBor, ap_vC, ap_vIf, ap_vAnd, ap_vOr, ap_vNot, ap_bAnd, ap_bOr, ap_bNot, ap_bYes, ap_vCall, ap_aNil, ap_aCons, ap_aDr, ap_aOwn, ap_vTup, ap_nLst, ap_nList, ap_vL, ap_vB, ap_vIsi, ap_vChain, ap_vIxV, ap_vLenV, ap_vSl, ap_oNone, ap_oSome, ap_wSeq, ap_wArg, ap_vMeth, ap_vRev, ap_nLc, ap_tgName, ap_nCall, ap_vCallB, ap_aBor, nd_int, nd_bool, nd_str, nd_list, nd_tup, nd_none, nd_r, nd_s, nd_Ro, ap_kVar, ap_kOf, ap_vInK, ap_vNiK, ap_vIxK, ap_sPutK, ap_vGetK, ap_vGet1, ap_vLenK, ap_wKeys, ap_kNil, ap_kOne, ap_vD, ap_sOwnK, ap_aOwnK, bind_ret, bind_exc, ofO_some, fzs_nil, fzs_cons, setAll_nil, setAll_cons, asB_b, noOw_nil, noOw_cons, wipeE_nil, wipeE_cons, noExc_r, seqD_l, seqD_t, tgTup_ap, tgCons_ap, tgNil_ap, List.cons_append, List.nil_append, List.replicate, List.set, List.getElem?_cons_zero, List.getElem?_cons_succ, Option.bind_some, Option.map_some, List.length_cons, List.length_nil, beq_self_eq_true, if_true, if_false, Bool.false_eq_true, Nat.reduceAdd, Nat.reduceSub, Nat.reduceBEq, Nat.zero_add, ↓reduceIte, reduceCtorEq, decide_true, decide_false, Bool.true_and, Bool.and_true, Bool.false_and, Bool.and_false, Bool.or_true, Bool.true_or, Bool.or_false, Bool.false_or, Bool.not_true, Bool.not_false, Bool.and_self, Int.reduceLE, Int.reduceLT, Int.reduceToNat, Int.reduceSub, Int.reduceAdd, Int.reduceNeg, Nat.reduceLT, Nat.reduceLeDiff, isS_s, e]
  | dict _ => cases h
  | _ => rfl
def ruM : List D → Bool
  | [a, b, c, d, e] => intIn a 2 4 && isW ["one", "two", "cap"] b && intIn c 1 3 && (isW ["same", "longer"] d && isW ["games", "twos", "winner", "only"] e)
  | _ => false
theorem is_rule_tup (ds : List D) (h : ∀ d ∈ ds, notD d = true) : m_is_rule [.fz (.tuple ds)] = .ret (.bool (ruM ds)) := by
  have it : isTuple (.tuple ds) = true := rfl
  have ln : fnLen [.tuple ds] = some (.int (ds.length : Nat)) := rfl
  have w1 := fun d h => is_word_gen d h ["one", "two", "cap"]
  have w2 := fun d h => is_word_gen d h ["same", "longer"]
  have w3 := fun d h => is_word_gen d h ["games", "twos", "winner", "only"]
  by_cases hl : ds.length = 5
  · obtain ⟨a, b, c, d, e, rfl⟩ : ∃ a b c d e, ds = [a, b, c, d, e] := by
      match ds, hl with
      | [a, b, c, d, e], _ => exact ⟨a, b, c, d, e, rfl⟩
    have i1 := is_int_gen a (h a (by simp)) 2 4
    have i2 := w1 b (h b (by simp))
    have i3 := is_int_gen c (h c (by simp)) 1 3
    have i4 := w2 d (h d (by simp))
    have i5 := w3 e (h e (by simp))
    simp only [List.map_cons, List.map_nil] at i2 i4 i5
    have x0 : dIx (.tuple [a, b, c, d, e]) (.int 0) = some a := rfl
    have x1 : dIx (.tuple [a, b, c, d, e]) (.int 1) = some b := rfl
    have x2 : dIx (.tuple [a, b, c, d, e]) (.int 2) = some c := rfl
    have x3 : dIx (.tuple [a, b, c, d, e]) (.int 3) = some d := rfl
    have x4 : dIx (.tuple [a, b, c, d, e]) (.int 4) = some e := rfl
    have n5 : dNe (.int 5) (.int 5) = some (.bool false) := rfl
    have ln : fnLen [.tuple [a, b, c, d, e]] = some (.int 5) := rfl
    unfold m_is_rule u_is_rule ruM
    generalize m_is_int = mi at i1 i3 ⊢
    generalize m_is_word = mw at i2 i4 i5 ⊢
    cases c1 : intIn a 2 4 <;> cases c2 : isW ["one", "two", "cap"] b <;> cases c3 : intIn c 1 3 <;> rw [c1] at i1 <;> rw [c2] at i2 <;> rw [c3] at i3 <;>
      (try (simp -implicitDefEqProofs only [ap_runB, ap_sSeq, ap_sNil, ap_sIf, ap_sRet, ap_sRetN, ap_sSet, ap_sOwn, ap_sPar, ap_sAsg, ap_sDrop, ap_sFz, ap_sFor, ap_sApp, ap_sAugI, ap_sRaise, ap_sBreak, ap_vT, ap_v2, ap_vVar, ap_vBor, ap_vC, ap_vIf, ap_vAnd, ap_vOr, ap_vNot, ap_bAnd, ap_bOr, ap_bNot, ap_bYes, ap_vCall, ap_aNil, ap_aCons, ap_aDr, ap_aOwn, ap_vTup, ap_nLst, ap_nList, ap_vL, ap_vB, ap_vIsi, ap_vChain, ap_vIxV, ap_vLenV, ap_vSl, ap_oNone, ap_oSome, ap_wSeq, ap_wArg, ap_vMeth, ap_vRev, ap_nLc, ap_tgName, ap_nCall, ap_vCallB, ap_aBor, nd_int, nd_bool, nd_str, nd_list, nd_tup, nd_none, nd_r, nd_s, nd_Ro, ap_kVar, ap_kOf, ap_vInK, ap_vNiK, ap_vIxK, ap_sPutK, ap_vGetK, ap_vGet1, ap_vLenK, ap_wKeys, ap_kNil, ap_kOne, ap_vD, ap_sOwnK, ap_aOwnK, bind_ret, bind_exc, ofO_some, fzs_nil, fzs_cons, setAll_nil, setAll_cons, asB_b, noOw_nil, noOw_cons, wipeE_nil, wipeE_cons, noExc_r, seqD_l, seqD_t, tgTup_ap, tgCons_ap, tgNil_ap, List.cons_append, List.nil_append, List.replicate, List.set, List.getElem?_cons_zero, List.getElem?_cons_succ, Option.bind_some, Option.map_some, List.length_cons, List.length_nil, beq_self_eq_true, if_true, if_false, Bool.false_eq_true, Nat.reduceAdd, Nat.reduceSub, Nat.reduceBEq, Nat.zero_add, ↓reduceIte, reduceCtorEq, decide_true, decide_false, Bool.true_and, Bool.and_true, Bool.false_and, Bool.and_false, Bool.or_true, Bool.true_or, Bool.or_false, Bool.false_or, Bool.not_true, Bool.not_false, Bool.and_self, Int.reduceLE, Int.reduceLT, Int.reduceToNat, Int.reduceSub, Int.reduceAdd, Int.reduceNeg, Nat.reduceLT, Nat.reduceLeDiff, it, ln, n5, x0, x1, x2, i1, i2, i3, c1, c2, c3]; done))
    cases c4 : isW ["same", "longer"] d <;> rw [c4] at i4 <;> simp -implicitDefEqProofs only [ap_runB, ap_sSeq, ap_sNil, ap_sIf, ap_sRet, ap_sRetN, ap_sSet, ap_sOwn, ap_sPar, ap_sAsg, ap_sDrop, ap_sFz, ap_sFor, ap_sApp, ap_sAugI, ap_sRaise, ap_sBreak, ap_vT, ap_v2, ap_vVar, ap_vBor, ap_vC, ap_vIf, ap_vAnd, ap_vOr, ap_vNot, ap_bAnd, ap_bOr, ap_bNot, ap_bYes, ap_vCall, ap_aNil, ap_aCons, ap_aDr, ap_aOwn, ap_vTup, ap_nLst, ap_nList, ap_vL, ap_vB, ap_vIsi, ap_vChain, ap_vIxV, ap_vLenV, ap_vSl, ap_oNone, ap_oSome, ap_wSeq, ap_wArg, ap_vMeth, ap_vRev, ap_nLc, ap_tgName, ap_nCall, ap_vCallB, ap_aBor, nd_int, nd_bool, nd_str, nd_list, nd_tup, nd_none, nd_r, nd_s, nd_Ro, ap_kVar, ap_kOf, ap_vInK, ap_vNiK, ap_vIxK, ap_sPutK, ap_vGetK, ap_vGet1, ap_vLenK, ap_wKeys, ap_kNil, ap_kOne, ap_vD, ap_sOwnK, ap_aOwnK, bind_ret, bind_exc, ofO_some, fzs_nil, fzs_cons, setAll_nil, setAll_cons, asB_b, noOw_nil, noOw_cons, wipeE_nil, wipeE_cons, noExc_r, seqD_l, seqD_t, tgTup_ap, tgCons_ap, tgNil_ap, List.cons_append, List.nil_append, List.replicate, List.set, List.getElem?_cons_zero, List.getElem?_cons_succ, Option.bind_some, Option.map_some, List.length_cons, List.length_nil, beq_self_eq_true, if_true, if_false, Bool.false_eq_true, Nat.reduceAdd, Nat.reduceSub, Nat.reduceBEq, Nat.zero_add, ↓reduceIte, reduceCtorEq, decide_true, decide_false, Bool.true_and, Bool.and_true, Bool.false_and, Bool.and_false, Bool.or_true, Bool.true_or, Bool.or_false, Bool.false_or, Bool.not_true, Bool.not_false, Bool.and_self, Int.reduceLE, Int.reduceLT, Int.reduceToNat, Int.reduceSub, Int.reduceAdd, Int.reduceNeg, Nat.reduceLT, Nat.reduceLeDiff, it, ln, n5, x0, x1, x2, x3, x4, i1, i2, i3, i4, i5, c1, c2, c3, c4]
  · have n5 : dNe (.int (ds.length : Nat)) (.int 5) = some (.bool true) := by
      rw [ne_ii]
      have : ((ds.length : Int) == 5) = false := by simpa using (by omega : ¬ (ds.length : Int) = 5)
      rw [this]; rfl
    have e : ruM ds = false := by
      unfold ruM
      split
      · simp at hl
      · rfl
    rw [e]
    unfold m_is_rule u_is_rule
    generalize m_is_int = mi
    generalize m_is_word = mw
    simp -implicitDefEqProofs only [ap_runB, ap_sSeq, ap_sNil, ap_sIf, ap_sRet, ap_sRetN, ap_sSet, ap_sOwn, ap_sPar, ap_sAsg, ap_sDrop, ap_sFz, ap_sFor, ap_sApp, ap_sAugI, ap_sRaise, ap_sBreak, ap_vT, ap_v2, ap_vVar, ap_vBor, ap_vC, ap_vIf, ap_vAnd, ap_vOr, ap_vNot, ap_bAnd, ap_bOr, ap_bNot, ap_bYes, ap_vCall, ap_aNil, ap_aCons, ap_aDr, ap_aOwn, ap_vTup, ap_nLst, ap_nList, ap_vL, ap_vB, ap_vIsi, ap_vChain, ap_vIxV, ap_vLenV, ap_vSl, ap_oNone, ap_oSome, ap_wSeq, ap_wArg, ap_vMeth, ap_vRev, ap_nLc, ap_tgName, ap_nCall, ap_vCallB, ap_aBor, nd_int, nd_bool, nd_str, nd_list, nd_tup, nd_none, nd_r, nd_s, nd_Ro, ap_kVar, ap_kOf, ap_vInK, ap_vNiK, ap_vIxK, ap_sPutK, ap_vGetK, ap_vGet1, ap_vLenK, ap_wKeys, ap_kNil, ap_kOne, ap_vD, ap_sOwnK, ap_aOwnK, bind_ret, bind_exc, ofO_some, fzs_nil, fzs_cons, setAll_nil, setAll_cons, asB_b, noOw_nil, noOw_cons, wipeE_nil, wipeE_cons, noExc_r, seqD_l, seqD_t, tgTup_ap, tgCons_ap, tgNil_ap, List.cons_append, List.nil_append, List.replicate, List.set, List.getElem?_cons_zero, List.getElem?_cons_succ, Option.bind_some, Option.map_some, List.length_cons, List.length_nil, beq_self_eq_true, if_true, if_false, Bool.false_eq_true, Nat.reduceAdd, Nat.reduceSub, Nat.reduceBEq, Nat.zero_add, ↓reduceIte, reduceCtorEq, decide_true, decide_false, Bool.true_and, Bool.and_true, Bool.false_and, Bool.and_false, Bool.or_true, Bool.true_or, Bool.or_false, Bool.false_or, Bool.not_true, Bool.not_false, Bool.and_self, Int.reduceLE, Int.reduceLT, Int.reduceToNat, Int.reduceSub, Int.reduceAdd, Int.reduceNeg, Nat.reduceLT, Nat.reduceLeDiff, it, ln, n5]
theorem ruM_ex {ds : List D} (h : ruM ds = true) : ∃ r : Ru, r.ok ∧ .tuple ds = r.e := by
  unfold ruM at h
  split at h
  · rename_i a b c d e
    simp only [Bool.and_eq_true] at h
    obtain ⟨⟨⟨h1, h2⟩, h3⟩, h4, h5⟩ := h
    obtain ⟨p, rfl, p1, p2⟩ : ∃ p : Int, a = .int p ∧ 2 ≤ p ∧ p ≤ 4 := by
      cases a with
      | int i => exact ⟨i, rfl, by simpa [intIn] using h1⟩
      | _ => cases h1
    obtain ⟨g, rfl, g1, g2⟩ : ∃ p : Int, c = .int p ∧ 1 ≤ p ∧ p ≤ 3 := by
      cases c with
      | int i => exact ⟨i, rfl, by simpa [intIn] using h3⟩
      | _ => cases h3
    obtain ⟨l, rfl⟩ : ∃ l : Ld, b = .str l.s := by
      cases b with
      | str x =>
        simp only [isW, List.any_cons, List.any_nil, Bool.or_false, Bool.or_eq_true, beq_iff_eq] at h2
        rcases h2 with rfl | rfl | rfl
        · exact ⟨.one, rfl⟩
        · exact ⟨.two, rfl⟩
        · exact ⟨.cap, rfl⟩
      | _ => cases h2
    obtain ⟨dc, rfl⟩ : ∃ l : Dc, d = .str l.s := by
      cases d with
      | str x =>
        simp only [isW, List.any_cons, List.any_nil, Bool.or_false, Bool.or_eq_true, beq_iff_eq] at h4
        rcases h4 with rfl | rfl
        · exact ⟨.same, rfl⟩
        · exact ⟨.longer, rfl⟩
      | _ => cases h4
    obtain ⟨sv, rfl⟩ : ∃ l : Sv, e = .str l.s := by
      cases e with
      | str x =>
        simp only [isW, List.any_cons, List.any_nil, Bool.or_false, Bool.or_eq_true, beq_iff_eq] at h5
        rcases h5 with rfl | rfl | rfl | rfl
        · exact ⟨.games, rfl⟩
        · exact ⟨.twos, rfl⟩
        · exact ⟨.winner, rfl⟩
        · exact ⟨.only, rfl⟩
      | _ => cases h5
    exact ⟨⟨p, l, g, dc, sv⟩, ⟨p1, p2, g1, g2⟩, rfl⟩
  · cases h
def itemM (w : Str) : D := if w = "1" then .int 1 else if w = "2" then .int 2 else if w = "3" then .int 3 else if w = "4" then .int 4 else .str w
theorem item_nd (w : Str) : notD (itemM w) = true := by
  unfold itemM
  repeat' split
  all_goals rfl
theorem item_str (w : Str) : fnStr [itemM w] = some (.str w) := by
  unfold itemM
  split
  · rename_i h; subst h; kernel_rfl
  split
  · rename_i h; subst h; kernel_rfl
  split
  · rename_i h; subst h; kernel_rfl
  split
  · rename_i h; subst h; kernel_rfl
  rfl
theorem m_item_in_eq (w : Str) : m_item_in [.fz (.str w)] = .ret (itemM w) := by
  have s4 : small 4 = true := rfl
  have e : dIn (.str w) (.tuple [.str "1", .str "2", .str "3", .str "4"]) = some (.bool (isW ["1", "2", "3", "4"] (.str w))) := rfl
  have g1 : fnInt [.str "1"] = some (.int 1) := by kernel_rfl
  have g2 : fnInt [.str "2"] = some (.int 2) := by kernel_rfl
  have g3 : fnInt [.str "3"] = some (.int 3) := by kernel_rfl
  have g4 : fnInt [.str "4"] = some (.int 4) := by kernel_rfl
  have t1 : isW ["1", "2", "3", "4"] (.str "1") = true := by decide +kernel
  have t2 : isW ["1", "2", "3", "4"] (.str "2") = true := by decide +kernel
  have t3 : isW ["1", "2", "3", "4"] (.str "3") = true := by decide +kernel
  have t4 : isW ["1", "2", "3", "4"] (.str "4") = true := by decide +kernel
  unfold itemM
  by_cases h1 : w = "1"
  · subst h1
    rw [t1] at e
    simp -implicitDefEqProofs only [m_item_in, u_item_in, ap_runB, ap_sSeq, ap_sNil, ap_sIf, ap_sRet, ap_sRetN, ap_sSet, ap_sOwn, ap_sPar, ap_sAsg, ap_sDrop, ap_sFz, ap_sFor, ap_sApp, ap_sAugI, ap_sRaise, ap_sBreak, ap_vT, ap_v2, ap_vVar, ap_vBor, ap_vC, ap_vIf, ap_vAnd, ap_vOr, ap_vNot, ap_bAnd, ap_bOr, ap_bNot, ap_bYes, ap_vCall, ap_aNil, ap_aCons, ap_aDr, ap_aOwn, ap_vTup, ap_nLst, ap_nList, ap_vL, ap_vB, ap_vIsi, ap_vChain, ap_vIxV, ap_vLenV, ap_vSl, ap_oNone, ap_oSome, ap_wSeq, ap_wArg, ap_vMeth, ap_vRev, ap_nLc, ap_tgName, ap_nCall, ap_vCallB, ap_aBor, nd_int, nd_bool, nd_str, nd_list, nd_tup, nd_none, nd_r, nd_s, nd_Ro, ap_kVar, ap_kOf, ap_vInK, ap_vNiK, ap_vIxK, ap_sPutK, ap_vGetK, ap_vGet1, ap_vLenK, ap_wKeys, ap_kNil, ap_kOne, ap_vD, ap_sOwnK, ap_aOwnK, bind_ret, bind_exc, ofO_some, fzs_nil, fzs_cons, setAll_nil, setAll_cons, asB_b, noOw_nil, noOw_cons, wipeE_nil, wipeE_cons, noExc_r, seqD_l, seqD_t, tgTup_ap, tgCons_ap, tgNil_ap, List.cons_append, List.nil_append, List.replicate, List.set, List.getElem?_cons_zero, List.getElem?_cons_succ, Option.bind_some, Option.map_some, List.length_cons, List.length_nil, beq_self_eq_true, if_true, if_false, Bool.false_eq_true, Nat.reduceAdd, Nat.reduceSub, Nat.reduceBEq, Nat.zero_add, ↓reduceIte, reduceCtorEq, decide_true, decide_false, Bool.true_and, Bool.and_true, Bool.false_and, Bool.and_false, Bool.or_true, Bool.true_or, Bool.or_false, Bool.false_or, Bool.not_true, Bool.not_false, Bool.and_self, Int.reduceLE, Int.reduceLT, Int.reduceToNat, Int.reduceSub, Int.reduceAdd, Int.reduceNeg, Nat.reduceLT, Nat.reduceLeDiff, s4, e, g1]
  by_cases h2 : w = "2"
  · subst h2
    rw [t2] at e
    rw [if_neg h1]
    simp -implicitDefEqProofs only [m_item_in, u_item_in, ap_runB, ap_sSeq, ap_sNil, ap_sIf, ap_sRet, ap_sRetN, ap_sSet, ap_sOwn, ap_sPar, ap_sAsg, ap_sDrop, ap_sFz, ap_sFor, ap_sApp, ap_sAugI, ap_sRaise, ap_sBreak, ap_vT, ap_v2, ap_vVar, ap_vBor, ap_vC, ap_vIf, ap_vAnd, ap_vOr, ap_vNot, ap_bAnd, ap_bOr, ap_bNot, ap_bYes, ap_vCall, ap_aNil, ap_aCons, ap_aDr, ap_aOwn, ap_vTup, ap_nLst, ap_nList, ap_vL, ap_vB, ap_vIsi, ap_vChain, ap_vIxV, ap_vLenV, ap_vSl, ap_oNone, ap_oSome, ap_wSeq, ap_wArg, ap_vMeth, ap_vRev, ap_nLc, ap_tgName, ap_nCall, ap_vCallB, ap_aBor, nd_int, nd_bool, nd_str, nd_list, nd_tup, nd_none, nd_r, nd_s, nd_Ro, ap_kVar, ap_kOf, ap_vInK, ap_vNiK, ap_vIxK, ap_sPutK, ap_vGetK, ap_vGet1, ap_vLenK, ap_wKeys, ap_kNil, ap_kOne, ap_vD, ap_sOwnK, ap_aOwnK, bind_ret, bind_exc, ofO_some, fzs_nil, fzs_cons, setAll_nil, setAll_cons, asB_b, noOw_nil, noOw_cons, wipeE_nil, wipeE_cons, noExc_r, seqD_l, seqD_t, tgTup_ap, tgCons_ap, tgNil_ap, List.cons_append, List.nil_append, List.replicate, List.set, List.getElem?_cons_zero, List.getElem?_cons_succ, Option.bind_some, Option.map_some, List.length_cons, List.length_nil, beq_self_eq_true, if_true, if_false, Bool.false_eq_true, Nat.reduceAdd, Nat.reduceSub, Nat.reduceBEq, Nat.zero_add, ↓reduceIte, reduceCtorEq, decide_true, decide_false, Bool.true_and, Bool.and_true, Bool.false_and, Bool.and_false, Bool.or_true, Bool.true_or, Bool.or_false, Bool.false_or, Bool.not_true, Bool.not_false, Bool.and_self, Int.reduceLE, Int.reduceLT, Int.reduceToNat, Int.reduceSub, Int.reduceAdd, Int.reduceNeg, Nat.reduceLT, Nat.reduceLeDiff, s4, e, g2]
  by_cases h3 : w = "3"
  · subst h3
    rw [t3] at e
    rw [if_neg h1, if_neg h2]
    simp -implicitDefEqProofs only [m_item_in, u_item_in, ap_runB, ap_sSeq, ap_sNil, ap_sIf, ap_sRet, ap_sRetN, ap_sSet, ap_sOwn, ap_sPar, ap_sAsg, ap_sDrop, ap_sFz, ap_sFor, ap_sApp, ap_sAugI, ap_sRaise, ap_sBreak, ap_vT, ap_v2, ap_vVar, ap_vBor, ap_vC, ap_vIf, ap_vAnd, ap_vOr, ap_vNot, ap_bAnd, ap_bOr, ap_bNot, ap_bYes, ap_vCall, ap_aNil, ap_aCons, ap_aDr, ap_aOwn, ap_vTup, ap_nLst, ap_nList, ap_vL, ap_vB, ap_vIsi, ap_vChain, ap_vIxV, ap_vLenV, ap_vSl, ap_oNone, ap_oSome, ap_wSeq, ap_wArg, ap_vMeth, ap_vRev, ap_nLc, ap_tgName, ap_nCall, ap_vCallB, ap_aBor, nd_int, nd_bool, nd_str, nd_list, nd_tup, nd_none, nd_r, nd_s, nd_Ro, ap_kVar, ap_kOf, ap_vInK, ap_vNiK, ap_vIxK, ap_sPutK, ap_vGetK, ap_vGet1, ap_vLenK, ap_wKeys, ap_kNil, ap_kOne, ap_vD, ap_sOwnK, ap_aOwnK, bind_ret, bind_exc, ofO_some, fzs_nil, fzs_cons, setAll_nil, setAll_cons, asB_b, noOw_nil, noOw_cons, wipeE_nil, wipeE_cons, noExc_r, seqD_l, seqD_t, tgTup_ap, tgCons_ap, tgNil_ap, List.cons_append, List.nil_append, List.replicate, List.set, List.getElem?_cons_zero, List.getElem?_cons_succ, Option.bind_some, Option.map_some, List.length_cons, List.length_nil, beq_self_eq_true, if_true, if_false, Bool.false_eq_true, Nat.reduceAdd, Nat.reduceSub, Nat.reduceBEq, Nat.zero_add, ↓reduceIte, reduceCtorEq, decide_true, decide_false, Bool.true_and, Bool.and_true, Bool.false_and, Bool.and_false, Bool.or_true, Bool.true_or, Bool.or_false, Bool.false_or, Bool.not_true, Bool.not_false, Bool.and_self, Int.reduceLE, Int.reduceLT, Int.reduceToNat, Int.reduceSub, Int.reduceAdd, Int.reduceNeg, Nat.reduceLT, Nat.reduceLeDiff, s4, e, g3]
  by_cases h4 : w = "4"
  · subst h4
    rw [t4] at e
    rw [if_neg h1, if_neg h2, if_neg h3]
    simp -implicitDefEqProofs only [m_item_in, u_item_in, ap_runB, ap_sSeq, ap_sNil, ap_sIf, ap_sRet, ap_sRetN, ap_sSet, ap_sOwn, ap_sPar, ap_sAsg, ap_sDrop, ap_sFz, ap_sFor, ap_sApp, ap_sAugI, ap_sRaise, ap_sBreak, ap_vT, ap_v2, ap_vVar, ap_vBor, ap_vC, ap_vIf, ap_vAnd, ap_vOr, ap_vNot, ap_bAnd, ap_bOr, ap_bNot, ap_bYes, ap_vCall, ap_aNil, ap_aCons, ap_aDr, ap_aOwn, ap_vTup, ap_nLst, ap_nList, ap_vL, ap_vB, ap_vIsi, ap_vChain, ap_vIxV, ap_vLenV, ap_vSl, ap_oNone, ap_oSome, ap_wSeq, ap_wArg, ap_vMeth, ap_vRev, ap_nLc, ap_tgName, ap_nCall, ap_vCallB, ap_aBor, nd_int, nd_bool, nd_str, nd_list, nd_tup, nd_none, nd_r, nd_s, nd_Ro, ap_kVar, ap_kOf, ap_vInK, ap_vNiK, ap_vIxK, ap_sPutK, ap_vGetK, ap_vGet1, ap_vLenK, ap_wKeys, ap_kNil, ap_kOne, ap_vD, ap_sOwnK, ap_aOwnK, bind_ret, bind_exc, ofO_some, fzs_nil, fzs_cons, setAll_nil, setAll_cons, asB_b, noOw_nil, noOw_cons, wipeE_nil, wipeE_cons, noExc_r, seqD_l, seqD_t, tgTup_ap, tgCons_ap, tgNil_ap, List.cons_append, List.nil_append, List.replicate, List.set, List.getElem?_cons_zero, List.getElem?_cons_succ, Option.bind_some, Option.map_some, List.length_cons, List.length_nil, beq_self_eq_true, if_true, if_false, Bool.false_eq_true, Nat.reduceAdd, Nat.reduceSub, Nat.reduceBEq, Nat.zero_add, ↓reduceIte, reduceCtorEq, decide_true, decide_false, Bool.true_and, Bool.and_true, Bool.false_and, Bool.and_false, Bool.or_true, Bool.true_or, Bool.or_false, Bool.false_or, Bool.not_true, Bool.not_false, Bool.and_self, Int.reduceLE, Int.reduceLT, Int.reduceToNat, Int.reduceSub, Int.reduceAdd, Int.reduceNeg, Nat.reduceLT, Nat.reduceLeDiff, s4, e, g4]
  have f : isW ["1", "2", "3", "4"] (.str w) = false := by
    simp only [isW, List.any_cons, List.any_nil, Bool.or_false, Bool.or_eq_false_iff, beq_eq_false_iff_ne]
    exact ⟨fun z => h1 z.symm, fun z => h2 z.symm, fun z => h3 z.symm, fun z => h4 z.symm⟩
  rw [f] at e
  rw [if_neg h1, if_neg h2, if_neg h3, if_neg h4]
  simp -implicitDefEqProofs only [m_item_in, u_item_in, ap_runB, ap_sSeq, ap_sNil, ap_sIf, ap_sRet, ap_sRetN, ap_sSet, ap_sOwn, ap_sPar, ap_sAsg, ap_sDrop, ap_sFz, ap_sFor, ap_sApp, ap_sAugI, ap_sRaise, ap_sBreak, ap_vT, ap_v2, ap_vVar, ap_vBor, ap_vC, ap_vIf, ap_vAnd, ap_vOr, ap_vNot, ap_bAnd, ap_bOr, ap_bNot, ap_bYes, ap_vCall, ap_aNil, ap_aCons, ap_aDr, ap_aOwn, ap_vTup, ap_nLst, ap_nList, ap_vL, ap_vB, ap_vIsi, ap_vChain, ap_vIxV, ap_vLenV, ap_vSl, ap_oNone, ap_oSome, ap_wSeq, ap_wArg, ap_vMeth, ap_vRev, ap_nLc, ap_tgName, ap_nCall, ap_vCallB, ap_aBor, nd_int, nd_bool, nd_str, nd_list, nd_tup, nd_none, nd_r, nd_s, nd_Ro, ap_kVar, ap_kOf, ap_vInK, ap_vNiK, ap_vIxK, ap_sPutK, ap_vGetK, ap_vGet1, ap_vLenK, ap_wKeys, ap_kNil, ap_kOne, ap_vD, ap_sOwnK, ap_aOwnK, bind_ret, bind_exc, ofO_some, fzs_nil, fzs_cons, setAll_nil, setAll_cons, asB_b, noOw_nil, noOw_cons, wipeE_nil, wipeE_cons, noExc_r, seqD_l, seqD_t, tgTup_ap, tgCons_ap, tgNil_ap, List.cons_append, List.nil_append, List.replicate, List.set, List.getElem?_cons_zero, List.getElem?_cons_succ, Option.bind_some, Option.map_some, List.length_cons, List.length_nil, beq_self_eq_true, if_true, if_false, Bool.false_eq_true, Nat.reduceAdd, Nat.reduceSub, Nat.reduceBEq, Nat.zero_add, ↓reduceIte, reduceCtorEq, decide_true, decide_false, Bool.true_and, Bool.and_true, Bool.false_and, Bool.and_false, Bool.or_true, Bool.true_or, Bool.or_false, Bool.false_or, Bool.not_true, Bool.not_false, Bool.and_self, Int.reduceLE, Int.reduceLT, Int.reduceToNat, Int.reduceSub, Int.reduceAdd, Int.reduceNeg, Nat.reduceLT, Nat.reduceLeDiff, s4, e]
def itemsM (t : Str) : List D := (Txt.split t " ").map itemM
theorem check_text_s (t : Str) : m_check_text [.fz (.str t)] = .ret .none := by simp -implicitDefEqProofs only [m_check_text, u_check_text, ap_runB, ap_sSeq, ap_sNil, ap_sIf, ap_sRet, ap_sRetN, ap_sSet, ap_sOwn, ap_sPar, ap_sAsg, ap_sDrop, ap_sFz, ap_sFor, ap_sApp, ap_sAugI, ap_sRaise, ap_sBreak, ap_vT, ap_v2, ap_vVar, ap_vBor, ap_vC, ap_vIf, ap_vAnd, ap_vOr, ap_vNot, ap_bAnd, ap_bOr, ap_bNot, ap_bYes, ap_vCall, ap_aNil, ap_aCons, ap_aDr, ap_aOwn, ap_vTup, ap_nLst, ap_nList, ap_vL, ap_vB, ap_vIsi, ap_vChain, ap_vIxV, ap_vLenV, ap_vSl, ap_oNone, ap_oSome, ap_wSeq, ap_wArg, ap_vMeth, ap_vRev, ap_nLc, ap_tgName, ap_nCall, ap_vCallB, ap_aBor, nd_int, nd_bool, nd_str, nd_list, nd_tup, nd_none, nd_r, nd_s, nd_Ro, ap_kVar, ap_kOf, ap_vInK, ap_vNiK, ap_vIxK, ap_sPutK, ap_vGetK, ap_vGet1, ap_vLenK, ap_wKeys, ap_kNil, ap_kOne, ap_vD, ap_sOwnK, ap_aOwnK, bind_ret, bind_exc, ofO_some, fzs_nil, fzs_cons, setAll_nil, setAll_cons, asB_b, noOw_nil, noOw_cons, wipeE_nil, wipeE_cons, noExc_r, seqD_l, seqD_t, tgTup_ap, tgCons_ap, tgNil_ap, List.cons_append, List.nil_append, List.replicate, List.set, List.getElem?_cons_zero, List.getElem?_cons_succ, Option.bind_some, Option.map_some, List.length_cons, List.length_nil, beq_self_eq_true, if_true, if_false, Bool.false_eq_true, Nat.reduceAdd, Nat.reduceSub, Nat.reduceBEq, Nat.zero_add, ↓reduceIte, reduceCtorEq, decide_true, decide_false, Bool.true_and, Bool.and_true, Bool.false_and, Bool.and_false, Bool.or_true, Bool.true_or, Bool.or_false, Bool.false_or, Bool.not_true, Bool.not_false, Bool.and_self, Int.reduceLE, Int.reduceLT, Int.reduceToNat, Int.reduceSub, Int.reduceAdd, Int.reduceNeg, Nat.reduceLT, Nat.reduceLeDiff, isS_s]
theorem parse_rule_s (t : Str) (ht : t.length ≤ 90000) : m_parse_rule [.fz (.str t)] = if ruM (itemsM t) then .ret (.tuple (itemsM t)) else .exc 4 := by
  have c := check_text_s t
  have sp : nSplit (vVar 0) (vC (.str " ")) [.fz (.str t), .un, .un] = .ret ((Txt.split t " ").map PyData.str) := by
    have s1 : small t.length = true := small_of (by omega)
    have s2 : (!(Str.length " " == 0)) = true := rfl
    show (if !(Str.length " " == 0) && small t.length then Tr.ret ((Txt.split t " ").map PyData.str) else .bad) = _
    rw [s1, s2]; rfl
  have ln : (Txt.split t " ").length ≤ 90002 := Nat.le_trans (PyProof.Rows.split_le t " ") (by omega)
  have sm : small ((Txt.split t " ").map PyData.str).length = true := small_of (by rw [List.length_map]; omega)
  have lc : lcRun (tgName 2) bYes (vCall 1 m_item_in (aCons (vVar 2) (aNil))) [.fz (.str t), .un, .un] ((Txt.split t " ").map PyData.str) = .ret (itemsM t) := lc_enc PyData.str itemM fun w _ => by
    have e := m_item_in_eq w
    generalize m_item_in = m at e ⊢
    simp -implicitDefEqProofs only [ap_runB, ap_sSeq, ap_sNil, ap_sIf, ap_sRet, ap_sRetN, ap_sSet, ap_sOwn, ap_sPar, ap_sAsg, ap_sDrop, ap_sFz, ap_sFor, ap_sApp, ap_sAugI, ap_sRaise, ap_sBreak, ap_vT, ap_v2, ap_vVar, ap_vBor, ap_vC, ap_vIf, ap_vAnd, ap_vOr, ap_vNot, ap_bAnd, ap_bOr, ap_bNot, ap_bYes, ap_vCall, ap_aNil, ap_aCons, ap_aDr, ap_aOwn, ap_vTup, ap_nLst, ap_nList, ap_vL, ap_vB, ap_vIsi, ap_vChain, ap_vIxV, ap_vLenV, ap_vSl, ap_oNone, ap_oSome, ap_wSeq, ap_wArg, ap_vMeth, ap_vRev, ap_nLc, ap_tgName, ap_nCall, ap_vCallB, ap_aBor, nd_int, nd_bool, nd_str, nd_list, nd_tup, nd_none, nd_r, nd_s, nd_Ro, ap_kVar, ap_kOf, ap_vInK, ap_vNiK, ap_vIxK, ap_sPutK, ap_vGetK, ap_vGet1, ap_vLenK, ap_wKeys, ap_kNil, ap_kOne, ap_vD, ap_sOwnK, ap_aOwnK, bind_ret, bind_exc, ofO_some, fzs_nil, fzs_cons, setAll_nil, setAll_cons, asB_b, noOw_nil, noOw_cons, wipeE_nil, wipeE_cons, noExc_r, seqD_l, seqD_t, tgTup_ap, tgCons_ap, tgNil_ap, List.cons_append, List.nil_append, List.replicate, List.set, List.getElem?_cons_zero, List.getElem?_cons_succ, Option.bind_some, Option.map_some, List.length_cons, List.length_nil, beq_self_eq_true, if_true, if_false, Bool.false_eq_true, Nat.reduceAdd, Nat.reduceSub, Nat.reduceBEq, Nat.zero_add, ↓reduceIte, reduceCtorEq, decide_true, decide_false, Bool.true_and, Bool.and_true, Bool.false_and, Bool.and_false, Bool.or_true, Bool.true_or, Bool.or_false, Bool.false_or, Bool.not_true, Bool.not_false, Bool.and_self, Int.reduceLE, Int.reduceLT, Int.reduceToNat, Int.reduceSub, Int.reduceAdd, Int.reduceNeg, Nat.reduceLT, Nat.reduceLeDiff, e]
  have it : itD (.list ((Txt.split t " ").map PyData.str)) = some ((Txt.split t " ").map PyData.str) := rfl
  have ir := is_rule_tup (itemsM t) fun d hd => by
    obtain ⟨w, _, rfl⟩ := List.mem_map.mp hd
    exact item_nd w
  generalize itemsM t = is at lc ir ⊢
  unfold m_parse_rule u_parse_rule
  generalize m_check_text = m1 at c ⊢
  generalize m_item_in = m2 at lc ⊢
  generalize m_is_rule = m3 at ir ⊢
  cases hr : ruM is with
  | true =>
    rw [hr] at ir
    simp -implicitDefEqProofs only [ap_runB, ap_sSeq, ap_sNil, ap_sIf, ap_sRet, ap_sRetN, ap_sSet, ap_sOwn, ap_sPar, ap_sAsg, ap_sDrop, ap_sFz, ap_sFor, ap_sApp, ap_sAugI, ap_sRaise, ap_sBreak, ap_vT, ap_v2, ap_vVar, ap_vBor, ap_vC, ap_vIf, ap_vAnd, ap_vOr, ap_vNot, ap_bAnd, ap_bOr, ap_bNot, ap_bYes, ap_vCall, ap_aNil, ap_aCons, ap_aDr, ap_aOwn, ap_vTup, ap_nLst, ap_nList, ap_vL, ap_vB, ap_vIsi, ap_vChain, ap_vIxV, ap_vLenV, ap_vSl, ap_oNone, ap_oSome, ap_wSeq, ap_wArg, ap_vMeth, ap_vRev, ap_nLc, ap_tgName, ap_nCall, ap_vCallB, ap_aBor, nd_int, nd_bool, nd_str, nd_list, nd_tup, nd_none, nd_r, nd_s, nd_Ro, ap_kVar, ap_kOf, ap_vInK, ap_vNiK, ap_vIxK, ap_sPutK, ap_vGetK, ap_vGet1, ap_vLenK, ap_wKeys, ap_kNil, ap_kOne, ap_vD, ap_sOwnK, ap_aOwnK, bind_ret, bind_exc, ofO_some, fzs_nil, fzs_cons, setAll_nil, setAll_cons, asB_b, noOw_nil, noOw_cons, wipeE_nil, wipeE_cons, noExc_r, seqD_l, seqD_t, tgTup_ap, tgCons_ap, tgNil_ap, List.cons_append, List.nil_append, List.replicate, List.set, List.getElem?_cons_zero, List.getElem?_cons_succ, Option.bind_some, Option.map_some, List.length_cons, List.length_nil, beq_self_eq_true, if_true, if_false, Bool.false_eq_true, Nat.reduceAdd, Nat.reduceSub, Nat.reduceBEq, Nat.zero_add, ↓reduceIte, reduceCtorEq, decide_true, decide_false, Bool.true_and, Bool.and_true, Bool.false_and, Bool.and_false, Bool.or_true, Bool.true_or, Bool.or_false, Bool.false_or, Bool.not_true, Bool.not_false, Bool.and_self, Int.reduceLE, Int.reduceLT, Int.reduceToNat, Int.reduceSub, Int.reduceAdd, Int.reduceNeg, Nat.reduceLT, Nat.reduceLeDiff, c, sp, it, sm, lc, tup_l, ir]
  | false =>
    rw [hr] at ir
    simp -implicitDefEqProofs only [ap_runB, ap_sSeq, ap_sNil, ap_sIf, ap_sRet, ap_sRetN, ap_sSet, ap_sOwn, ap_sPar, ap_sAsg, ap_sDrop, ap_sFz, ap_sFor, ap_sApp, ap_sAugI, ap_sRaise, ap_sBreak, ap_vT, ap_v2, ap_vVar, ap_vBor, ap_vC, ap_vIf, ap_vAnd, ap_vOr, ap_vNot, ap_bAnd, ap_bOr, ap_bNot, ap_bYes, ap_vCall, ap_aNil, ap_aCons, ap_aDr, ap_aOwn, ap_vTup, ap_nLst, ap_nList, ap_vL, ap_vB, ap_vIsi, ap_vChain, ap_vIxV, ap_vLenV, ap_vSl, ap_oNone, ap_oSome, ap_wSeq, ap_wArg, ap_vMeth, ap_vRev, ap_nLc, ap_tgName, ap_nCall, ap_vCallB, ap_aBor, nd_int, nd_bool, nd_str, nd_list, nd_tup, nd_none, nd_r, nd_s, nd_Ro, ap_kVar, ap_kOf, ap_vInK, ap_vNiK, ap_vIxK, ap_sPutK, ap_vGetK, ap_vGet1, ap_vLenK, ap_wKeys, ap_kNil, ap_kOne, ap_vD, ap_sOwnK, ap_aOwnK, bind_ret, bind_exc, ofO_some, fzs_nil, fzs_cons, setAll_nil, setAll_cons, asB_b, noOw_nil, noOw_cons, wipeE_nil, wipeE_cons, noExc_r, seqD_l, seqD_t, tgTup_ap, tgCons_ap, tgNil_ap, List.cons_append, List.nil_append, List.replicate, List.set, List.getElem?_cons_zero, List.getElem?_cons_succ, Option.bind_some, Option.map_some, List.length_cons, List.length_nil, beq_self_eq_true, if_true, if_false, Bool.false_eq_true, Nat.reduceAdd, Nat.reduceSub, Nat.reduceBEq, Nat.zero_add, ↓reduceIte, reduceCtorEq, decide_true, decide_false, Bool.true_and, Bool.and_true, Bool.false_and, Bool.and_false, Bool.or_true, Bool.true_or, Bool.or_false, Bool.false_or, Bool.not_true, Bool.not_false, Bool.and_self, Int.reduceLE, Int.reduceLT, Int.reduceToNat, Int.reduceSub, Int.reduceAdd, Int.reduceNeg, Nat.reduceLT, Nat.reduceLeDiff, c, sp, it, sm, lc, tup_l, ir]

end Mb

namespace Mb
open PySem L2
/-! ### rows as texts -/
def chB (c : Nat) : Bool := c == 49
def chOk (c : Nat) : Bool := c == 48 || c == 49
theorem in01 (c : Nat) : dIn (.str ⟨#[c]⟩) (.str "01") = some (.bool (chOk c)) := by
  show some (PyData.bool (!(Builtin.Str.occurrences "01" ⟨#[c]⟩ 0 (Str.length "01") 1).isEmpty)) = _
  rw [PySem.StrLaws.found_one]
  congr 2
  have e : (Str.cps "01").toList = [48, 49] := by decide +kernel
  rw [e]
  unfold chOk
  rw [Bool.eq_iff_iff]
  simp
theorem int01 {c : Nat} (h : chOk c = true) : fnInt [.str ⟨#[c]⟩] = some (.int (rb (chB c))) := by
  have : c = 48 ∨ c = 49 := by simpa [chOk] using h
  rcases this with rfl | rfl
  · kernel_rfl
  · kernel_rfl
def rowText (bs : List Bool) : Str := ⟨(bs.map fun b => if b then 49 else 48).toArray⟩
theorem str01 (b : Bool) : fnStr [.int (rb b)] = some (.str ⟨#[if b then 49 else 48]⟩) := by
  cases b <;> kernel_rfl
theorem joinL_nil : ∀ ps : List (List Nat), TL.joinL [] ps = ps.flatten
  | [] => rfl
  | [p] => by simp [TL.joinL]
  | p :: q :: r => by
    have := joinL_nil (q :: r)
    simp only [TL.joinL, List.nil_append, this, List.flatten_cons]
theorem join_row (bs : List Bool) : Txt.join "" (bs.map fun b => (⟨#[if b then 49 else 48]⟩ : Str)) = rowText bs := by
  rw [TL.join_eq]
  apply TL.ext_tl
  rw [TL.tl_join]
  have e : TL.tl "" = [] := by decide +kernel
  rw [e, joinL_nil, List.map_map]
  show _ = bs.map fun b => if b then 49 else 48
  induction bs with
  | nil => rfl
  | cons b bs ih => rw [List.map_cons, List.flatten_cons, ih]; rfl
theorem row_sum (bs : List Bool) : ((bs.map fun b => (⟨#[if b then 49 else 48]⟩ : Str)).map (·.length)).sum = bs.length := by
  induction bs with
  | nil => rfl
  | cons b bs ih => simp only [List.map_cons, List.sum_cons, ih, List.length_cons]; show 1 + bs.length = _; omega
theorem dJoin_row (bs : List Bool) (h : bs.length ≤ 100000) : dJoin (.str "") (.list (bs.map fun b => .str ⟨#[if b then 49 else 48]⟩)) = some (.str (rowText bs)) := by
  have e : bs.map (fun b => PyData.str ⟨#[if b then 49 else 48]⟩) = (bs.map fun b => (⟨#[if b then 49 else 48]⟩ : Str)).map PyData.str := by rw [List.map_map]; rfl
  show ((asStrs _).bind _) = _
  rw [e, asStrs_of]
  show (if decide (_ ≤ 16777216) then some (PyData.str (Txt.join "" _)) else none) = _
  have l0 : Str.length "" = 0 := by decide +kernel
  rw [row_sum, l0, decide_eq_true (by omega), join_row]; rfl
theorem join_lc (f : Envt → Tr D) (i : Nat) (env : Envt) (bs : List Bool) (hf : ∀ b : Bool, f (env.set i (.fz (.int (rb b)))) = .ret (.str ⟨#[if b then 49 else 48]⟩)) : lcRun (tgName i) bYes f env (bs.map fun b => .int (rb b)) = .ret (bs.map fun b => .str ⟨#[if b then 49 else 48]⟩) :=
  lc_enc (fun b => PyData.int (rb b)) (fun b => .str ⟨#[if b then 49 else 48]⟩) fun b _ => hf b
theorem m_format_row_eq (bs : List Bool) (h : bs.length ≤ 60) : m_format_row [.fz (Ro bs)] = .ret (.str (rowText bs)) := by
  have c := m_check_row_eq bs h
  have lc := join_lc (vB fnStr (aCons (vVar 1) (aNil))) 1 [.fz (Ro bs), .un] bs fun b => by simp -implicitDefEqProofs only [ap_runB, ap_sSeq, ap_sNil, ap_sIf, ap_sRet, ap_sRetN, ap_sSet, ap_sOwn, ap_sPar, ap_sAsg, ap_sDrop, ap_sFz, ap_sFor, ap_sApp, ap_sAugI, ap_sRaise, ap_sBreak, ap_vT, ap_v2, ap_vVar, ap_vBor, ap_vC, ap_vIf, ap_vAnd, ap_vOr, ap_vNot, ap_bAnd, ap_bOr, ap_bNot, ap_bYes, ap_vCall, ap_aNil, ap_aCons, ap_aDr, ap_aOwn, ap_vTup, ap_nLst, ap_nList, ap_vL, ap_vB, ap_vIsi, ap_vChain, ap_vIxV, ap_vLenV, ap_vSl, ap_oNone, ap_oSome, ap_wSeq, ap_wArg, ap_vMeth, ap_vRev, ap_nLc, ap_tgName, ap_nCall, ap_vCallB, ap_aBor, nd_int, nd_bool, nd_str, nd_list, nd_tup, nd_none, nd_r, nd_s, nd_Ro, ap_kVar, ap_kOf, ap_vInK, ap_vNiK, ap_vIxK, ap_sPutK, ap_vGetK, ap_vGet1, ap_vLenK, ap_wKeys, ap_kNil, ap_kOne, ap_vD, ap_sOwnK, ap_aOwnK, bind_ret, bind_exc, ofO_some, fzs_nil, fzs_cons, setAll_nil, setAll_cons, asB_b, noOw_nil, noOw_cons, wipeE_nil, wipeE_cons, noExc_r, seqD_l, seqD_t, tgTup_ap, tgCons_ap, tgNil_ap, List.cons_append, List.nil_append, List.replicate, List.set, List.getElem?_cons_zero, List.getElem?_cons_succ, Option.bind_some, Option.map_some, List.length_cons, List.length_nil, beq_self_eq_true, if_true, if_false, Bool.false_eq_true, Nat.reduceAdd, Nat.reduceSub, Nat.reduceBEq, Nat.zero_add, ↓reduceIte, reduceCtorEq, decide_true, decide_false, Bool.true_and, Bool.and_true, Bool.false_and, Bool.and_false, Bool.or_true, Bool.true_or, Bool.or_false, Bool.false_or, Bool.not_true, Bool.not_false, Bool.and_self, Int.reduceLE, Int.reduceLT, Int.reduceToNat, Int.reduceSub, Int.reduceAdd, Int.reduceNeg, Nat.reduceLT, Nat.reduceLeDiff, str01]
  have it : itD (Ro bs) = some (bs.map fun b => .int (rb b)) := rfl
  have sm : small (bs.map fun b => PyData.int (rb b)).length = true := small_of (by rw [List.length_map]; omega)
  have j := dJoin_row bs (by omega)
  unfold m_format_row u_format_row
  generalize m_check_row = m at c ⊢
  simp -implicitDefEqProofs only [ap_runB, ap_sSeq, ap_sNil, ap_sIf, ap_sRet, ap_sRetN, ap_sSet, ap_sOwn, ap_sPar, ap_sAsg, ap_sDrop, ap_sFz, ap_sFor, ap_sApp, ap_sAugI, ap_sRaise, ap_sBreak, ap_vT, ap_v2, ap_vVar, ap_vBor, ap_vC, ap_vIf, ap_vAnd, ap_vOr, ap_vNot, ap_bAnd, ap_bOr, ap_bNot, ap_bYes, ap_vCall, ap_aNil, ap_aCons, ap_aDr, ap_aOwn, ap_vTup, ap_nLst, ap_nList, ap_vL, ap_vB, ap_vIsi, ap_vChain, ap_vIxV, ap_vLenV, ap_vSl, ap_oNone, ap_oSome, ap_wSeq, ap_wArg, ap_vMeth, ap_vRev, ap_nLc, ap_tgName, ap_nCall, ap_vCallB, ap_aBor, nd_int, nd_bool, nd_str, nd_list, nd_tup, nd_none, nd_r, nd_s, nd_Ro, ap_kVar, ap_kOf, ap_vInK, ap_vNiK, ap_vIxK, ap_sPutK, ap_vGetK, ap_vGet1, ap_vLenK, ap_wKeys, ap_kNil, ap_kOne, ap_vD, ap_sOwnK, ap_aOwnK, bind_ret, bind_exc, ofO_some, fzs_nil, fzs_cons, setAll_nil, setAll_cons, asB_b, noOw_nil, noOw_cons, wipeE_nil, wipeE_cons, noExc_r, seqD_l, seqD_t, tgTup_ap, tgCons_ap, tgNil_ap, List.cons_append, List.nil_append, List.replicate, List.set, List.getElem?_cons_zero, List.getElem?_cons_succ, Option.bind_some, Option.map_some, List.length_cons, List.length_nil, beq_self_eq_true, if_true, if_false, Bool.false_eq_true, Nat.reduceAdd, Nat.reduceSub, Nat.reduceBEq, Nat.zero_add, ↓reduceIte, reduceCtorEq, decide_true, decide_false, Bool.true_and, Bool.and_true, Bool.false_and, Bool.and_false, Bool.or_true, Bool.true_or, Bool.or_false, Bool.false_or, Bool.not_true, Bool.not_false, Bool.and_self, Int.reduceLE, Int.reduceLT, Int.reduceToNat, Int.reduceSub, Int.reduceAdd, Int.reduceNeg, Nat.reduceLT, Nat.reduceLeDiff, c, isS_s, it, sm, lc, j]
theorem words_row (bs : List Bool) (h : bs.length ≤ 60) : m_law_words [.fz (.int 1), .fz (Ro bs)] = .ret (.str (rowText bs)) := by
  have lc := join_lc (vB fnStr (aCons (vVar 2) (aNil))) 2 [.fz (.int 1), .fz (Ro bs), .un] bs fun b => by simp -implicitDefEqProofs only [ap_runB, ap_sSeq, ap_sNil, ap_sIf, ap_sRet, ap_sRetN, ap_sSet, ap_sOwn, ap_sPar, ap_sAsg, ap_sDrop, ap_sFz, ap_sFor, ap_sApp, ap_sAugI, ap_sRaise, ap_sBreak, ap_vT, ap_v2, ap_vVar, ap_vBor, ap_vC, ap_vIf, ap_vAnd, ap_vOr, ap_vNot, ap_bAnd, ap_bOr, ap_bNot, ap_bYes, ap_vCall, ap_aNil, ap_aCons, ap_aDr, ap_aOwn, ap_vTup, ap_nLst, ap_nList, ap_vL, ap_vB, ap_vIsi, ap_vChain, ap_vIxV, ap_vLenV, ap_vSl, ap_oNone, ap_oSome, ap_wSeq, ap_wArg, ap_vMeth, ap_vRev, ap_nLc, ap_tgName, ap_nCall, ap_vCallB, ap_aBor, nd_int, nd_bool, nd_str, nd_list, nd_tup, nd_none, nd_r, nd_s, nd_Ro, ap_kVar, ap_kOf, ap_vInK, ap_vNiK, ap_vIxK, ap_sPutK, ap_vGetK, ap_vGet1, ap_vLenK, ap_wKeys, ap_kNil, ap_kOne, ap_vD, ap_sOwnK, ap_aOwnK, bind_ret, bind_exc, ofO_some, fzs_nil, fzs_cons, setAll_nil, setAll_cons, asB_b, noOw_nil, noOw_cons, wipeE_nil, wipeE_cons, noExc_r, seqD_l, seqD_t, tgTup_ap, tgCons_ap, tgNil_ap, List.cons_append, List.nil_append, List.replicate, List.set, List.getElem?_cons_zero, List.getElem?_cons_succ, Option.bind_some, Option.map_some, List.length_cons, List.length_nil, beq_self_eq_true, if_true, if_false, Bool.false_eq_true, Nat.reduceAdd, Nat.reduceSub, Nat.reduceBEq, Nat.zero_add, ↓reduceIte, reduceCtorEq, decide_true, decide_false, Bool.true_and, Bool.and_true, Bool.false_and, Bool.and_false, Bool.or_true, Bool.true_or, Bool.or_false, Bool.false_or, Bool.not_true, Bool.not_false, Bool.and_self, Int.reduceLE, Int.reduceLT, Int.reduceToNat, Int.reduceSub, Int.reduceAdd, Int.reduceNeg, Nat.reduceLT, Nat.reduceLeDiff, str01]
  have it : itD (Ro bs) = some (bs.map fun b => .int (rb b)) := rfl
  have sm : small (bs.map fun b => PyData.int (rb b)).length = true := small_of (by rw [List.length_map]; omega)
  have j := dJoin_row bs (by omega)
  have z : ((1 : Int) == 0) = false := rfl
  unfold m_law_words u_law_words
  simp -implicitDefEqProofs only [ap_runB, ap_sSeq, ap_sNil, ap_sIf, ap_sRet, ap_sRetN, ap_sSet, ap_sOwn, ap_sPar, ap_sAsg, ap_sDrop, ap_sFz, ap_sFor, ap_sApp, ap_sAugI, ap_sRaise, ap_sBreak, ap_vT, ap_v2, ap_vVar, ap_vBor, ap_vC, ap_vIf, ap_vAnd, ap_vOr, ap_vNot, ap_bAnd, ap_bOr, ap_bNot, ap_bYes, ap_vCall, ap_aNil, ap_aCons, ap_aDr, ap_aOwn, ap_vTup, ap_nLst, ap_nList, ap_vL, ap_vB, ap_vIsi, ap_vChain, ap_vIxV, ap_vLenV, ap_vSl, ap_oNone, ap_oSome, ap_wSeq, ap_wArg, ap_vMeth, ap_vRev, ap_nLc, ap_tgName, ap_nCall, ap_vCallB, ap_aBor, nd_int, nd_bool, nd_str, nd_list, nd_tup, nd_none, nd_r, nd_s, nd_Ro, ap_kVar, ap_kOf, ap_vInK, ap_vNiK, ap_vIxK, ap_sPutK, ap_vGetK, ap_vGet1, ap_vLenK, ap_wKeys, ap_kNil, ap_kOne, ap_vD, ap_sOwnK, ap_aOwnK, bind_ret, bind_exc, ofO_some, fzs_nil, fzs_cons, setAll_nil, setAll_cons, asB_b, noOw_nil, noOw_cons, wipeE_nil, wipeE_cons, noExc_r, seqD_l, seqD_t, tgTup_ap, tgCons_ap, tgNil_ap, List.cons_append, List.nil_append, List.replicate, List.set, List.getElem?_cons_zero, List.getElem?_cons_succ, Option.bind_some, Option.map_some, List.length_cons, List.length_nil, beq_self_eq_true, if_true, if_false, Bool.false_eq_true, Nat.reduceAdd, Nat.reduceSub, Nat.reduceBEq, Nat.zero_add, ↓reduceIte, reduceCtorEq, decide_true, decide_false, Bool.true_and, Bool.and_true, Bool.false_and, Bool.and_false, Bool.or_true, Bool.true_or, Bool.or_false, Bool.false_or, Bool.not_true, Bool.not_false, Bool.and_self, Int.reduceLE, Int.reduceLT, Int.reduceToNat, Int.reduceSub, Int.reduceAdd, Int.reduceNeg, Nat.reduceLT, Nat.reduceLeDiff, eq_ii, z, isS_s, it, sm, lc, j]
def chs (t : Str) : List Nat := t.cps.toList
theorem rowText_chs (t : Str) (h : (chs t).all chOk = true) : rowText ((chs t).map chB) = t := by
  apply TL.ext_tl
  show ((chs t).map chB).map (fun b => if b then 49 else 48) = chs t
  rw [List.map_map]
  conv => rhs; rw [← List.map_id (chs t)]
  apply List.map_congr_left
  intro c hc
  have := List.all_eq_true.mp h c hc
  have : c = 48 ∨ c = 49 := by simpa [chOk] using this
  rcases this with rfl | rfl <;> rfl
theorem chs_rowText (bs : List Bool) : (chs (rowText bs)).map chB = bs ∧ (chs (rowText bs)).all chOk = true := by
  have e : chs (rowText bs) = bs.map fun b => if b then 49 else 48 := rfl
  rw [e]
  constructor
  · rw [List.map_map]
    conv => rhs; rw [← List.map_id bs]
    apply List.map_congr_left
    intro b _
    cases b <;> rfl
  · rw [List.all_map]
    exact List.all_eq_true.mpr fun b _ => by cases b <;> rfl
theorem is_row_len (bs : List Bool) : m_is_row [.fz (Ro bs)] = .ret (.bool (decide (bs.length ≤ 60))) := by
  by_cases h : bs.length ≤ 60
  · rw [decide_eq_true h]; exact m_is_row_eq bs h
  · rw [decide_eq_false h]
    have d : decide ((bs.length : Int) ≤ 60) = false := decide_eq_false (by omega)
    have l := Ro_len bs
    have isl : isList (Ro bs) = true := rfl
    unfold m_is_row u_is_row
    generalize m_is_rally = m
    simp -implicitDefEqProofs only [ap_runB, ap_sSeq, ap_sNil, ap_sIf, ap_sRet, ap_sRetN, ap_sSet, ap_sOwn, ap_sPar, ap_sAsg, ap_sDrop, ap_sFz, ap_sFor, ap_sApp, ap_sAugI, ap_sRaise, ap_sBreak, ap_vT, ap_v2, ap_vVar, ap_vBor, ap_vC, ap_vIf, ap_vAnd, ap_vOr, ap_vNot, ap_bAnd, ap_bOr, ap_bNot, ap_bYes, ap_vCall, ap_aNil, ap_aCons, ap_aDr, ap_aOwn, ap_vTup, ap_nLst, ap_nList, ap_vL, ap_vB, ap_vIsi, ap_vChain, ap_vIxV, ap_vLenV, ap_vSl, ap_oNone, ap_oSome, ap_wSeq, ap_wArg, ap_vMeth, ap_vRev, ap_nLc, ap_tgName, ap_nCall, ap_vCallB, ap_aBor, nd_int, nd_bool, nd_str, nd_list, nd_tup, nd_none, nd_r, nd_s, nd_Ro, ap_kVar, ap_kOf, ap_vInK, ap_vNiK, ap_vIxK, ap_sPutK, ap_vGetK, ap_vGet1, ap_vLenK, ap_wKeys, ap_kNil, ap_kOne, ap_vD, ap_sOwnK, ap_aOwnK, bind_ret, bind_exc, ofO_some, fzs_nil, fzs_cons, setAll_nil, setAll_cons, asB_b, noOw_nil, noOw_cons, wipeE_nil, wipeE_cons, noExc_r, seqD_l, seqD_t, tgTup_ap, tgCons_ap, tgNil_ap, List.cons_append, List.nil_append, List.replicate, List.set, List.getElem?_cons_zero, List.getElem?_cons_succ, Option.bind_some, Option.map_some, List.length_cons, List.length_nil, beq_self_eq_true, if_true, if_false, Bool.false_eq_true, Nat.reduceAdd, Nat.reduceSub, Nat.reduceBEq, Nat.zero_add, ↓reduceIte, reduceCtorEq, decide_true, decide_false, Bool.true_and, Bool.and_true, Bool.false_and, Bool.and_false, Bool.or_true, Bool.true_or, Bool.or_false, Bool.false_or, Bool.not_true, Bool.not_false, Bool.and_self, Int.reduceLE, Int.reduceLT, Int.reduceToNat, Int.reduceSub, Int.reduceAdd, Int.reduceNeg, Nat.reduceLT, Nat.reduceLeDiff, isl, l, le_ii, d]
theorem parse_row_s (t : Str) (ht : t.length ≤ 90000) : m_parse_row [.fz (.str t)] = if (chs t).all chOk && decide ((chs t).length ≤ 60) then .ret (Ro ((chs t).map chB)) else .exc 4 := by
  have c := check_text_s t
  have it : itD (.str t) = some ((chs t).map fun c => .str ⟨#[c]⟩) := rfl
  have cl : (chs t).length = t.length := rfl
  have sm : small ((chs t).map fun c => PyData.str ⟨#[c]⟩).length = true := small_of (by rw [List.length_map, cl]; omega)
  have lc1 : lcRun (tgName 2) bYes (v2 dIn (vVar 2) (vC (.str "01"))) [.fz (.str t), .un, .un] ((chs t).map fun c => .str ⟨#[c]⟩) = .ret ((chs t).map fun c => .bool (chOk c)) :=
    lc_enc (fun c => PyData.str ⟨#[c]⟩) (fun c => .bool (chOk c)) fun c _ => by simp -implicitDefEqProofs only [ap_runB, ap_sSeq, ap_sNil, ap_sIf, ap_sRet, ap_sRetN, ap_sSet, ap_sOwn, ap_sPar, ap_sAsg, ap_sDrop, ap_sFz, ap_sFor, ap_sApp, ap_sAugI, ap_sRaise, ap_sBreak, ap_vT, ap_v2, ap_vVar, ap_vBor, ap_vC, ap_vIf, ap_vAnd, ap_vOr, ap_vNot, ap_bAnd, ap_bOr, ap_bNot, ap_bYes, ap_vCall, ap_aNil, ap_aCons, ap_aDr, ap_aOwn, ap_vTup, ap_nLst, ap_nList, ap_vL, ap_vB, ap_vIsi, ap_vChain, ap_vIxV, ap_vLenV, ap_vSl, ap_oNone, ap_oSome, ap_wSeq, ap_wArg, ap_vMeth, ap_vRev, ap_nLc, ap_tgName, ap_nCall, ap_vCallB, ap_aBor, nd_int, nd_bool, nd_str, nd_list, nd_tup, nd_none, nd_r, nd_s, nd_Ro, ap_kVar, ap_kOf, ap_vInK, ap_vNiK, ap_vIxK, ap_sPutK, ap_vGetK, ap_vGet1, ap_vLenK, ap_wKeys, ap_kNil, ap_kOne, ap_vD, ap_sOwnK, ap_aOwnK, bind_ret, bind_exc, ofO_some, fzs_nil, fzs_cons, setAll_nil, setAll_cons, asB_b, noOw_nil, noOw_cons, wipeE_nil, wipeE_cons, noExc_r, seqD_l, seqD_t, tgTup_ap, tgCons_ap, tgNil_ap, List.cons_append, List.nil_append, List.replicate, List.set, List.getElem?_cons_zero, List.getElem?_cons_succ, Option.bind_some, Option.map_some, List.length_cons, List.length_nil, beq_self_eq_true, if_true, if_false, Bool.false_eq_true, Nat.reduceAdd, Nat.reduceSub, Nat.reduceBEq, Nat.zero_add, ↓reduceIte, reduceCtorEq, decide_true, decide_false, Bool.true_and, Bool.and_true, Bool.false_and, Bool.and_false, Bool.or_true, Bool.true_or, Bool.or_false, Bool.false_or, Bool.not_true, Bool.not_false, Bool.and_self, Int.reduceLE, Int.reduceLT, Int.reduceToNat, Int.reduceSub, Int.reduceAdd, Int.reduceNeg, Nat.reduceLT, Nat.reduceLeDiff, in01]
  have al : allD [.list ((chs t).map fun c => .bool (chOk c))] = some (.bool ((chs t).all chOk)) := by
    show (asBools _).map _ = _
    rw [asBools_map]
    show some (PyData.bool (((chs t).map chOk).all id)) = _
    rw [List.all_map]; rfl
  unfold m_parse_row u_parse_row
  cases ha : (chs t).all chOk with
  | false =>
    rw [ha] at al
    generalize m_check_text = m1 at c ⊢
    generalize m_is_row = m3
    simp -implicitDefEqProofs only [ap_runB, ap_sSeq, ap_sNil, ap_sIf, ap_sRet, ap_sRetN, ap_sSet, ap_sOwn, ap_sPar, ap_sAsg, ap_sDrop, ap_sFz, ap_sFor, ap_sApp, ap_sAugI, ap_sRaise, ap_sBreak, ap_vT, ap_v2, ap_vVar, ap_vBor, ap_vC, ap_vIf, ap_vAnd, ap_vOr, ap_vNot, ap_bAnd, ap_bOr, ap_bNot, ap_bYes, ap_vCall, ap_aNil, ap_aCons, ap_aDr, ap_aOwn, ap_vTup, ap_nLst, ap_nList, ap_vL, ap_vB, ap_vIsi, ap_vChain, ap_vIxV, ap_vLenV, ap_vSl, ap_oNone, ap_oSome, ap_wSeq, ap_wArg, ap_vMeth, ap_vRev, ap_nLc, ap_tgName, ap_nCall, ap_vCallB, ap_aBor, nd_int, nd_bool, nd_str, nd_list, nd_tup, nd_none, nd_r, nd_s, nd_Ro, ap_kVar, ap_kOf, ap_vInK, ap_vNiK, ap_vIxK, ap_sPutK, ap_vGetK, ap_vGet1, ap_vLenK, ap_wKeys, ap_kNil, ap_kOne, ap_vD, ap_sOwnK, ap_aOwnK, bind_ret, bind_exc, ofO_some, fzs_nil, fzs_cons, setAll_nil, setAll_cons, asB_b, noOw_nil, noOw_cons, wipeE_nil, wipeE_cons, noExc_r, seqD_l, seqD_t, tgTup_ap, tgCons_ap, tgNil_ap, List.cons_append, List.nil_append, List.replicate, List.set, List.getElem?_cons_zero, List.getElem?_cons_succ, Option.bind_some, Option.map_some, List.length_cons, List.length_nil, beq_self_eq_true, if_true, if_false, Bool.false_eq_true, Nat.reduceAdd, Nat.reduceSub, Nat.reduceBEq, Nat.zero_add, ↓reduceIte, reduceCtorEq, decide_true, decide_false, Bool.true_and, Bool.and_true, Bool.false_and, Bool.and_false, Bool.or_true, Bool.true_or, Bool.or_false, Bool.false_or, Bool.not_true, Bool.not_false, Bool.and_self, Int.reduceLE, Int.reduceLT, Int.reduceToNat, Int.reduceSub, Int.reduceAdd, Int.reduceNeg, Nat.reduceLT, Nat.reduceLeDiff, c, it, sm, lc1, al]
  | true =>
    rw [ha] at al
    have lc2 : lcRun (tgName 2) bYes (vB fnInt (aCons (vVar 2) (aNil))) [.fz (.str t), .un, .un] ((chs t).map fun c => .str ⟨#[c]⟩) = .ret (((chs t).map chB).map fun b => .int (rb b)) := by
      rw [List.map_map]
      refine lc_enc (fun c => PyData.str ⟨#[c]⟩) (fun c => .int (rb (chB c))) fun c hc => ?_
      simp -implicitDefEqProofs only [ap_runB, ap_sSeq, ap_sNil, ap_sIf, ap_sRet, ap_sRetN, ap_sSet, ap_sOwn, ap_sPar, ap_sAsg, ap_sDrop, ap_sFz, ap_sFor, ap_sApp, ap_sAugI, ap_sRaise, ap_sBreak, ap_vT, ap_v2, ap_vVar, ap_vBor, ap_vC, ap_vIf, ap_vAnd, ap_vOr, ap_vNot, ap_bAnd, ap_bOr, ap_bNot, ap_bYes, ap_vCall, ap_aNil, ap_aCons, ap_aDr, ap_aOwn, ap_vTup, ap_nLst, ap_nList, ap_vL, ap_vB, ap_vIsi, ap_vChain, ap_vIxV, ap_vLenV, ap_vSl, ap_oNone, ap_oSome, ap_wSeq, ap_wArg, ap_vMeth, ap_vRev, ap_nLc, ap_tgName, ap_nCall, ap_vCallB, ap_aBor, nd_int, nd_bool, nd_str, nd_list, nd_tup, nd_none, nd_r, nd_s, nd_Ro, ap_kVar, ap_kOf, ap_vInK, ap_vNiK, ap_vIxK, ap_sPutK, ap_vGetK, ap_vGet1, ap_vLenK, ap_wKeys, ap_kNil, ap_kOne, ap_vD, ap_sOwnK, ap_aOwnK, bind_ret, bind_exc, ofO_some, fzs_nil, fzs_cons, setAll_nil, setAll_cons, asB_b, noOw_nil, noOw_cons, wipeE_nil, wipeE_cons, noExc_r, seqD_l, seqD_t, tgTup_ap, tgCons_ap, tgNil_ap, List.cons_append, List.nil_append, List.replicate, List.set, List.getElem?_cons_zero, List.getElem?_cons_succ, Option.bind_some, Option.map_some, List.length_cons, List.length_nil, beq_self_eq_true, if_true, if_false, Bool.false_eq_true, Nat.reduceAdd, Nat.reduceSub, Nat.reduceBEq, Nat.zero_add, ↓reduceIte, reduceCtorEq, decide_true, decide_false, Bool.true_and, Bool.and_true, Bool.false_and, Bool.and_false, Bool.or_true, Bool.true_or, Bool.or_false, Bool.false_or, Bool.not_true, Bool.not_false, Bool.and_self, Int.reduceLE, Int.reduceLT, Int.reduceToNat, Int.reduceSub, Int.reduceAdd, Int.reduceNeg, Nat.reduceLT, Nat.reduceLeDiff, int01 (List.all_eq_true.mp ha c hc)]
    have ir := is_row_len ((chs t).map chB)
    rw [List.length_map] at ir
    have ro : PyData.list (((chs t).map chB).map fun b => .int (rb b)) = Ro ((chs t).map chB) := rfl
    generalize m_check_text = m1 at c ⊢
    generalize m_is_row = m3 at ir ⊢
    cases hl : decide ((chs t).length ≤ 60) with
    | true =>
      rw [hl] at ir
      simp -implicitDefEqProofs only [ap_runB, ap_sSeq, ap_sNil, ap_sIf, ap_sRet, ap_sRetN, ap_sSet, ap_sOwn, ap_sPar, ap_sAsg, ap_sDrop, ap_sFz, ap_sFor, ap_sApp, ap_sAugI, ap_sRaise, ap_sBreak, ap_vT, ap_v2, ap_vVar, ap_vBor, ap_vC, ap_vIf, ap_vAnd, ap_vOr, ap_vNot, ap_bAnd, ap_bOr, ap_bNot, ap_bYes, ap_vCall, ap_aNil, ap_aCons, ap_aDr, ap_aOwn, ap_vTup, ap_nLst, ap_nList, ap_vL, ap_vB, ap_vIsi, ap_vChain, ap_vIxV, ap_vLenV, ap_vSl, ap_oNone, ap_oSome, ap_wSeq, ap_wArg, ap_vMeth, ap_vRev, ap_nLc, ap_tgName, ap_nCall, ap_vCallB, ap_aBor, nd_int, nd_bool, nd_str, nd_list, nd_tup, nd_none, nd_r, nd_s, nd_Ro, ap_kVar, ap_kOf, ap_vInK, ap_vNiK, ap_vIxK, ap_sPutK, ap_vGetK, ap_vGet1, ap_vLenK, ap_wKeys, ap_kNil, ap_kOne, ap_vD, ap_sOwnK, ap_aOwnK, bind_ret, bind_exc, ofO_some, fzs_nil, fzs_cons, setAll_nil, setAll_cons, asB_b, noOw_nil, noOw_cons, wipeE_nil, wipeE_cons, noExc_r, seqD_l, seqD_t, tgTup_ap, tgCons_ap, tgNil_ap, List.cons_append, List.nil_append, List.replicate, List.set, List.getElem?_cons_zero, List.getElem?_cons_succ, Option.bind_some, Option.map_some, List.length_cons, List.length_nil, beq_self_eq_true, if_true, if_false, Bool.false_eq_true, Nat.reduceAdd, Nat.reduceSub, Nat.reduceBEq, Nat.zero_add, ↓reduceIte, reduceCtorEq, decide_true, decide_false, Bool.true_and, Bool.and_true, Bool.false_and, Bool.and_false, Bool.or_true, Bool.true_or, Bool.or_false, Bool.false_or, Bool.not_true, Bool.not_false, Bool.and_self, Int.reduceLE, Int.reduceLT, Int.reduceToNat, Int.reduceSub, Int.reduceAdd, Int.reduceNeg, Nat.reduceLT, Nat.reduceLeDiff, c, it, sm, lc1, al, lc2, ro, ir]
    | false =>
      rw [hl] at ir
      simp -implicitDefEqProofs only [ap_runB, ap_sSeq, ap_sNil, ap_sIf, ap_sRet, ap_sRetN, ap_sSet, ap_sOwn, ap_sPar, ap_sAsg, ap_sDrop, ap_sFz, ap_sFor, ap_sApp, ap_sAugI, ap_sRaise, ap_sBreak, ap_vT, ap_v2, ap_vVar, ap_vBor, ap_vC, ap_vIf, ap_vAnd, ap_vOr, ap_vNot, ap_bAnd, ap_bOr, ap_bNot, ap_bYes, ap_vCall, ap_aNil, ap_aCons, ap_aDr, ap_aOwn, ap_vTup, ap_nLst, ap_nList, ap_vL, ap_vB, ap_vIsi, ap_vChain, ap_vIxV, ap_vLenV, ap_vSl, ap_oNone, ap_oSome, ap_wSeq, ap_wArg, ap_vMeth, ap_vRev, ap_nLc, ap_tgName, ap_nCall, ap_vCallB, ap_aBor, nd_int, nd_bool, nd_str, nd_list, nd_tup, nd_none, nd_r, nd_s, nd_Ro, ap_kVar, ap_kOf, ap_vInK, ap_vNiK, ap_vIxK, ap_sPutK, ap_vGetK, ap_vGet1, ap_vLenK, ap_wKeys, ap_kNil, ap_kOne, ap_vD, ap_sOwnK, ap_aOwnK, bind_ret, bind_exc, ofO_some, fzs_nil, fzs_cons, setAll_nil, setAll_cons, asB_b, noOw_nil, noOw_cons, wipeE_nil, wipeE_cons, noExc_r, seqD_l, seqD_t, tgTup_ap, tgCons_ap, tgNil_ap, List.cons_append, List.nil_append, List.replicate, List.set, List.getElem?_cons_zero, List.getElem?_cons_succ, Option.bind_some, Option.map_some, List.length_cons, List.length_nil, beq_self_eq_true, if_true, if_false, Bool.false_eq_true, Nat.reduceAdd, Nat.reduceSub, Nat.reduceBEq, Nat.zero_add, ↓reduceIte, reduceCtorEq, decide_true, decide_false, Bool.true_and, Bool.and_true, Bool.false_and, Bool.and_false, Bool.or_true, Bool.true_or, Bool.or_false, Bool.false_or, Bool.not_true, Bool.not_false, Bool.and_self, Int.reduceLE, Int.reduceLT, Int.reduceToNat, Int.reduceSub, Int.reduceAdd, Int.reduceNeg, Nat.reduceLT, Nat.reduceLeDiff, c, it, sm, lc1, al, lc2, ro, ir]

end Mb

namespace Mb
open PySem L2
/-! ### parsed -/
theorem pd0_ret {d x : D} (h : m_parse_rule [.fz d] = .ret x) : m_law_parsed [.fz (.int 0), .fz d] = .ret x := by
  unfold m_law_parsed u_law_parsed
  generalize m_parse_rule = m at h ⊢
  generalize m_parse_row = m'
  refine eval_run (eval_seq [.fz (.int 0), .fz d, .fz .none, .un, .un] rfl (eval_seq [.fz (.int 0), .fz d, .fz .none, .fz .none, .un] rfl (eval_seq [.fz (.int 0), .fz d, .fz x, .fz .none, .un] ?_ rfl)))
  have z : ((0 : Int) == 0) = true := rfl
  have : sSet 2 (vIf (vT (v2 dEq (vVar 0) (vC (.int 0)))) (vCall 1 m (aCons (vVar 1) (aNil))) (vCall 1 m' (aCons (vVar 1) (aNil)))) [.fz (.int 0), .fz d, .fz .none, .fz .none, .un] = .ret (.nx [.fz (.int 0), .fz d, .fz x, .fz .none, .un]) := by
    simp -implicitDefEqProofs only [ap_runB, ap_sSeq, ap_sNil, ap_sIf, ap_sRet, ap_sRetN, ap_sSet, ap_sOwn, ap_sPar, ap_sAsg, ap_sDrop, ap_sFz, ap_sFor, ap_sApp, ap_sAugI, ap_sRaise, ap_sBreak, ap_vT, ap_v2, ap_vVar, ap_vBor, ap_vC, ap_vIf, ap_vAnd, ap_vOr, ap_vNot, ap_bAnd, ap_bOr, ap_bNot, ap_bYes, ap_vCall, ap_aNil, ap_aCons, ap_aDr, ap_aOwn, ap_vTup, ap_nLst, ap_nList, ap_vL, ap_vB, ap_vIsi, ap_vChain, ap_vIxV, ap_vLenV, ap_vSl, ap_oNone, ap_oSome, ap_wSeq, ap_wArg, ap_vMeth, ap_vRev, ap_nLc, ap_tgName, ap_nCall, ap_vCallB, ap_aBor, nd_int, nd_bool, nd_str, nd_list, nd_tup, nd_none, nd_r, nd_s, nd_Ro, ap_kVar, ap_kOf, ap_vInK, ap_vNiK, ap_vIxK, ap_sPutK, ap_vGetK, ap_vGet1, ap_vLenK, ap_wKeys, ap_kNil, ap_kOne, ap_vD, ap_sOwnK, ap_aOwnK, bind_ret, bind_exc, ofO_some, fzs_nil, fzs_cons, setAll_nil, setAll_cons, asB_b, noOw_nil, noOw_cons, wipeE_nil, wipeE_cons, noExc_r, seqD_l, seqD_t, tgTup_ap, tgCons_ap, tgNil_ap, List.cons_append, List.nil_append, List.replicate, List.set, List.getElem?_cons_zero, List.getElem?_cons_succ, Option.bind_some, Option.map_some, List.length_cons, List.length_nil, beq_self_eq_true, if_true, if_false, Bool.false_eq_true, Nat.reduceAdd, Nat.reduceSub, Nat.reduceBEq, Nat.zero_add, ↓reduceIte, reduceCtorEq, decide_true, decide_false, Bool.true_and, Bool.and_true, Bool.false_and, Bool.and_false, Bool.or_true, Bool.true_or, Bool.or_false, Bool.false_or, Bool.not_true, Bool.not_false, Bool.and_self, Int.reduceLE, Int.reduceLT, Int.reduceToNat, Int.reduceSub, Int.reduceAdd, Int.reduceNeg, Nat.reduceLT, Nat.reduceLeDiff, eq_ii, z, h]
  unfold sTry
  rw [this]; rfl
theorem pd0_exc {d : D} (h : m_parse_rule [.fz d] = .exc 4) : m_law_parsed [.fz (.int 0), .fz d] = .ret (.str "text") := by
  unfold m_law_parsed u_law_parsed
  generalize m_parse_rule = m at h ⊢
  generalize m_parse_row = m'
  refine eval_run (eval_seq [.fz (.int 0), .fz d, .fz .none, .un, .un] rfl (eval_seq [.fz (.int 0), .fz d, .fz .none, .fz .none, .un] rfl (eval_seq [.un, .un, .un, .ex 4, .un] ?_ rfl)))
  have z : ((0 : Int) == 0) = true := rfl
  have : sSet 2 (vIf (vT (v2 dEq (vVar 0) (vC (.int 0)))) (vCall 1 m (aCons (vVar 1) (aNil))) (vCall 1 m' (aCons (vVar 1) (aNil)))) [.fz (.int 0), .fz d, .fz .none, .fz .none, .un] = .exc 4 := by
    simp -implicitDefEqProofs only [ap_runB, ap_sSeq, ap_sNil, ap_sIf, ap_sRet, ap_sRetN, ap_sSet, ap_sOwn, ap_sPar, ap_sAsg, ap_sDrop, ap_sFz, ap_sFor, ap_sApp, ap_sAugI, ap_sRaise, ap_sBreak, ap_vT, ap_v2, ap_vVar, ap_vBor, ap_vC, ap_vIf, ap_vAnd, ap_vOr, ap_vNot, ap_bAnd, ap_bOr, ap_bNot, ap_bYes, ap_vCall, ap_aNil, ap_aCons, ap_aDr, ap_aOwn, ap_vTup, ap_nLst, ap_nList, ap_vL, ap_vB, ap_vIsi, ap_vChain, ap_vIxV, ap_vLenV, ap_vSl, ap_oNone, ap_oSome, ap_wSeq, ap_wArg, ap_vMeth, ap_vRev, ap_nLc, ap_tgName, ap_nCall, ap_vCallB, ap_aBor, nd_int, nd_bool, nd_str, nd_list, nd_tup, nd_none, nd_r, nd_s, nd_Ro, ap_kVar, ap_kOf, ap_vInK, ap_vNiK, ap_vIxK, ap_sPutK, ap_vGetK, ap_vGet1, ap_vLenK, ap_wKeys, ap_kNil, ap_kOne, ap_vD, ap_sOwnK, ap_aOwnK, bind_ret, bind_exc, ofO_some, fzs_nil, fzs_cons, setAll_nil, setAll_cons, asB_b, noOw_nil, noOw_cons, wipeE_nil, wipeE_cons, noExc_r, seqD_l, seqD_t, tgTup_ap, tgCons_ap, tgNil_ap, List.cons_append, List.nil_append, List.replicate, List.set, List.getElem?_cons_zero, List.getElem?_cons_succ, Option.bind_some, Option.map_some, List.length_cons, List.length_nil, beq_self_eq_true, if_true, if_false, Bool.false_eq_true, Nat.reduceAdd, Nat.reduceSub, Nat.reduceBEq, Nat.zero_add, ↓reduceIte, reduceCtorEq, decide_true, decide_false, Bool.true_and, Bool.and_true, Bool.false_and, Bool.and_false, Bool.or_true, Bool.true_or, Bool.or_false, Bool.false_or, Bool.not_true, Bool.not_false, Bool.and_self, Int.reduceLE, Int.reduceLT, Int.reduceToNat, Int.reduceSub, Int.reduceAdd, Int.reduceNeg, Nat.reduceLT, Nat.reduceLeDiff, eq_ii, z, h]
  unfold sTry
  rw [this]; rfl
theorem pd1_ret {d x : D} (h : m_parse_row [.fz d] = .ret x) : m_law_parsed [.fz (.int 1), .fz d] = .ret x := by
  unfold m_law_parsed u_law_parsed
  generalize m_parse_row = m at h ⊢
  generalize m_parse_rule = m'
  refine eval_run (eval_seq [.fz (.int 1), .fz d, .fz .none, .un, .un] rfl (eval_seq [.fz (.int 1), .fz d, .fz .none, .fz .none, .un] rfl (eval_seq [.fz (.int 1), .fz d, .fz x, .fz .none, .un] ?_ rfl)))
  have z : ((1 : Int) == 0) = false := rfl
  have : sSet 2 (vIf (vT (v2 dEq (vVar 0) (vC (.int 0)))) (vCall 1 m' (aCons (vVar 1) (aNil))) (vCall 1 m (aCons (vVar 1) (aNil)))) [.fz (.int 1), .fz d, .fz .none, .fz .none, .un] = .ret (.nx [.fz (.int 1), .fz d, .fz x, .fz .none, .un]) := by
    simp -implicitDefEqProofs only [ap_runB, ap_sSeq, ap_sNil, ap_sIf, ap_sRet, ap_sRetN, ap_sSet, ap_sOwn, ap_sPar, ap_sAsg, ap_sDrop, ap_sFz, ap_sFor, ap_sApp, ap_sAugI, ap_sRaise, ap_sBreak, ap_vT, ap_v2, ap_vVar, ap_vBor, ap_vC, ap_vIf, ap_vAnd, ap_vOr, ap_vNot, ap_bAnd, ap_bOr, ap_bNot, ap_bYes, ap_vCall, ap_aNil, ap_aCons, ap_aDr, ap_aOwn, ap_vTup, ap_nLst, ap_nList, ap_vL, ap_vB, ap_vIsi, ap_vChain, ap_vIxV, ap_vLenV, ap_vSl, ap_oNone, ap_oSome, ap_wSeq, ap_wArg, ap_vMeth, ap_vRev, ap_nLc, ap_tgName, ap_nCall, ap_vCallB, ap_aBor, nd_int, nd_bool, nd_str, nd_list, nd_tup, nd_none, nd_r, nd_s, nd_Ro, ap_kVar, ap_kOf, ap_vInK, ap_vNiK, ap_vIxK, ap_sPutK, ap_vGetK, ap_vGet1, ap_vLenK, ap_wKeys, ap_kNil, ap_kOne, ap_vD, ap_sOwnK, ap_aOwnK, bind_ret, bind_exc, ofO_some, fzs_nil, fzs_cons, setAll_nil, setAll_cons, asB_b, noOw_nil, noOw_cons, wipeE_nil, wipeE_cons, noExc_r, seqD_l, seqD_t, tgTup_ap, tgCons_ap, tgNil_ap, List.cons_append, List.nil_append, List.replicate, List.set, List.getElem?_cons_zero, List.getElem?_cons_succ, Option.bind_some, Option.map_some, List.length_cons, List.length_nil, beq_self_eq_true, if_true, if_false, Bool.false_eq_true, Nat.reduceAdd, Nat.reduceSub, Nat.reduceBEq, Nat.zero_add, ↓reduceIte, reduceCtorEq, decide_true, decide_false, Bool.true_and, Bool.and_true, Bool.false_and, Bool.and_false, Bool.or_true, Bool.true_or, Bool.or_false, Bool.false_or, Bool.not_true, Bool.not_false, Bool.and_self, Int.reduceLE, Int.reduceLT, Int.reduceToNat, Int.reduceSub, Int.reduceAdd, Int.reduceNeg, Nat.reduceLT, Nat.reduceLeDiff, eq_ii, z, h]
  unfold sTry
  rw [this]; rfl
theorem pd1_exc {d : D} (h : m_parse_row [.fz d] = .exc 4) : m_law_parsed [.fz (.int 1), .fz d] = .ret (.str "text") := by
  unfold m_law_parsed u_law_parsed
  generalize m_parse_row = m at h ⊢
  generalize m_parse_rule = m'
  refine eval_run (eval_seq [.fz (.int 1), .fz d, .fz .none, .un, .un] rfl (eval_seq [.fz (.int 1), .fz d, .fz .none, .fz .none, .un] rfl (eval_seq [.un, .un, .un, .ex 4, .un] ?_ rfl)))
  have z : ((1 : Int) == 0) = false := rfl
  have : sSet 2 (vIf (vT (v2 dEq (vVar 0) (vC (.int 0)))) (vCall 1 m' (aCons (vVar 1) (aNil))) (vCall 1 m (aCons (vVar 1) (aNil)))) [.fz (.int 1), .fz d, .fz .none, .fz .none, .un] = .exc 4 := by
    simp -implicitDefEqProofs only [ap_runB, ap_sSeq, ap_sNil, ap_sIf, ap_sRet, ap_sRetN, ap_sSet, ap_sOwn, ap_sPar, ap_sAsg, ap_sDrop, ap_sFz, ap_sFor, ap_sApp, ap_sAugI, ap_sRaise, ap_sBreak, ap_vT, ap_v2, ap_vVar, ap_vBor, ap_vC, ap_vIf, ap_vAnd, ap_vOr, ap_vNot, ap_bAnd, ap_bOr, ap_bNot, ap_bYes, ap_vCall, ap_aNil, ap_aCons, ap_aDr, ap_aOwn, ap_vTup, ap_nLst, ap_nList, ap_vL, ap_vB, ap_vIsi, ap_vChain, ap_vIxV, ap_vLenV, ap_vSl, ap_oNone, ap_oSome, ap_wSeq, ap_wArg, ap_vMeth, ap_vRev, ap_nLc, ap_tgName, ap_nCall, ap_vCallB, ap_aBor, nd_int, nd_bool, nd_str, nd_list, nd_tup, nd_none, nd_r, nd_s, nd_Ro, ap_kVar, ap_kOf, ap_vInK, ap_vNiK, ap_vIxK, ap_sPutK, ap_vGetK, ap_vGet1, ap_vLenK, ap_wKeys, ap_kNil, ap_kOne, ap_vD, ap_sOwnK, ap_aOwnK, bind_ret, bind_exc, ofO_some, fzs_nil, fzs_cons, setAll_nil, setAll_cons, asB_b, noOw_nil, noOw_cons, wipeE_nil, wipeE_cons, noExc_r, seqD_l, seqD_t, tgTup_ap, tgCons_ap, tgNil_ap, List.cons_append, List.nil_append, List.replicate, List.set, List.getElem?_cons_zero, List.getElem?_cons_succ, Option.bind_some, Option.map_some, List.length_cons, List.length_nil, beq_self_eq_true, if_true, if_false, Bool.false_eq_true, Nat.reduceAdd, Nat.reduceSub, Nat.reduceBEq, Nat.zero_add, ↓reduceIte, reduceCtorEq, decide_true, decide_false, Bool.true_and, Bool.and_true, Bool.false_and, Bool.and_false, Bool.or_true, Bool.true_or, Bool.or_false, Bool.false_or, Bool.not_true, Bool.not_false, Bool.and_self, Int.reduceLE, Int.reduceLT, Int.reduceToNat, Int.reduceSub, Int.reduceAdd, Int.reduceNeg, Nat.reduceLT, Nat.reduceLeDiff, eq_ii, z, h]
  unfold sTry
  rw [this]; rfl
theorem pd0 (t : Str) (ht : t.length ≤ 90000) : m_law_parsed [.fz (.int 0), .fz (.str t)] = .ret (if ruM (itemsM t) then .tuple (itemsM t) else .str "text") := by
  have e := parse_rule_s t ht
  cases h : ruM (itemsM t) with
  | true => rw [h] at e; exact pd0_ret e
  | false => rw [h] at e; exact pd0_exc e
theorem pd1 (t : Str) (ht : t.length ≤ 90000) : m_law_parsed [.fz (.int 1), .fz (.str t)] = .ret (if (chs t).all chOk && decide ((chs t).length ≤ 60) then Ro ((chs t).map chB) else .str "text") := by
  have e := parse_row_s t ht
  cases h : (chs t).all chOk && decide ((chs t).length ≤ 60) with
  | true => rw [h] at e; exact pd1_ret e
  | false => rw [h] at e; exact pd1_exc e
theorem ck_odd {d : D} (h : isStr d = false) (hn : notD d = true) : m_check_text [.fz d] = .exc 4 := by
  simp -implicitDefEqProofs only [m_check_text, u_check_text, ap_runB, ap_sSeq, ap_sNil, ap_sIf, ap_sRet, ap_sRetN, ap_sSet, ap_sOwn, ap_sPar, ap_sAsg, ap_sDrop, ap_sFz, ap_sFor, ap_sApp, ap_sAugI, ap_sRaise, ap_sBreak, ap_vT, ap_v2, ap_vVar, ap_vBor, ap_vC, ap_vIf, ap_vAnd, ap_vOr, ap_vNot, ap_bAnd, ap_bOr, ap_bNot, ap_bYes, ap_vCall, ap_aNil, ap_aCons, ap_aDr, ap_aOwn, ap_vTup, ap_nLst, ap_nList, ap_vL, ap_vB, ap_vIsi, ap_vChain, ap_vIxV, ap_vLenV, ap_vSl, ap_oNone, ap_oSome, ap_wSeq, ap_wArg, ap_vMeth, ap_vRev, ap_nLc, ap_tgName, ap_nCall, ap_vCallB, ap_aBor, nd_int, nd_bool, nd_str, nd_list, nd_tup, nd_none, nd_r, nd_s, nd_Ro, ap_kVar, ap_kOf, ap_vInK, ap_vNiK, ap_vIxK, ap_sPutK, ap_vGetK, ap_vGet1, ap_vLenK, ap_wKeys, ap_kNil, ap_kOne, ap_vD, ap_sOwnK, ap_aOwnK, bind_ret, bind_exc, ofO_some, fzs_nil, fzs_cons, setAll_nil, setAll_cons, asB_b, noOw_nil, noOw_cons, wipeE_nil, wipeE_cons, noExc_r, seqD_l, seqD_t, tgTup_ap, tgCons_ap, tgNil_ap, List.cons_append, List.nil_append, List.replicate, List.set, List.getElem?_cons_zero, List.getElem?_cons_succ, Option.bind_some, Option.map_some, List.length_cons, List.length_nil, beq_self_eq_true, if_true, if_false, Bool.false_eq_true, Nat.reduceAdd, Nat.reduceSub, Nat.reduceBEq, Nat.zero_add, ↓reduceIte, reduceCtorEq, decide_true, decide_false, Bool.true_and, Bool.and_true, Bool.false_and, Bool.and_false, Bool.or_true, Bool.true_or, Bool.or_false, Bool.false_or, Bool.not_true, Bool.not_false, Bool.and_self, Int.reduceLE, Int.reduceLT, Int.reduceToNat, Int.reduceSub, Int.reduceAdd, Int.reduceNeg, Nat.reduceLT, Nat.reduceLeDiff, hn, h]
theorem pr0_odd {d : D} (h : isStr d = false) (hn : notD d = true) : m_law_parsed [.fz (.int 0), .fz d] = .ret (.str "text") := pd0_exc (by
  have c := ck_odd h hn
  unfold m_parse_rule u_parse_rule
  generalize m_check_text = m at c ⊢
  generalize m_is_rule = m2
  generalize m_item_in = m3
  simp -implicitDefEqProofs only [ap_runB, ap_sSeq, ap_sNil, ap_sIf, ap_sRet, ap_sRetN, ap_sSet, ap_sOwn, ap_sPar, ap_sAsg, ap_sDrop, ap_sFz, ap_sFor, ap_sApp, ap_sAugI, ap_sRaise, ap_sBreak, ap_vT, ap_v2, ap_vVar, ap_vBor, ap_vC, ap_vIf, ap_vAnd, ap_vOr, ap_vNot, ap_bAnd, ap_bOr, ap_bNot, ap_bYes, ap_vCall, ap_aNil, ap_aCons, ap_aDr, ap_aOwn, ap_vTup, ap_nLst, ap_nList, ap_vL, ap_vB, ap_vIsi, ap_vChain, ap_vIxV, ap_vLenV, ap_vSl, ap_oNone, ap_oSome, ap_wSeq, ap_wArg, ap_vMeth, ap_vRev, ap_nLc, ap_tgName, ap_nCall, ap_vCallB, ap_aBor, nd_int, nd_bool, nd_str, nd_list, nd_tup, nd_none, nd_r, nd_s, nd_Ro, ap_kVar, ap_kOf, ap_vInK, ap_vNiK, ap_vIxK, ap_sPutK, ap_vGetK, ap_vGet1, ap_vLenK, ap_wKeys, ap_kNil, ap_kOne, ap_vD, ap_sOwnK, ap_aOwnK, bind_ret, bind_exc, ofO_some, fzs_nil, fzs_cons, setAll_nil, setAll_cons, asB_b, noOw_nil, noOw_cons, wipeE_nil, wipeE_cons, noExc_r, seqD_l, seqD_t, tgTup_ap, tgCons_ap, tgNil_ap, List.cons_append, List.nil_append, List.replicate, List.set, List.getElem?_cons_zero, List.getElem?_cons_succ, Option.bind_some, Option.map_some, List.length_cons, List.length_nil, beq_self_eq_true, if_true, if_false, Bool.false_eq_true, Nat.reduceAdd, Nat.reduceSub, Nat.reduceBEq, Nat.zero_add, ↓reduceIte, reduceCtorEq, decide_true, decide_false, Bool.true_and, Bool.and_true, Bool.false_and, Bool.and_false, Bool.or_true, Bool.true_or, Bool.or_false, Bool.false_or, Bool.not_true, Bool.not_false, Bool.and_self, Int.reduceLE, Int.reduceLT, Int.reduceToNat, Int.reduceSub, Int.reduceAdd, Int.reduceNeg, Nat.reduceLT, Nat.reduceLeDiff, c])
theorem pr1_odd {d : D} (h : isStr d = false) (hn : notD d = true) : m_law_parsed [.fz (.int 1), .fz d] = .ret (.str "text") := pd1_exc (by
  have c := ck_odd h hn
  unfold m_parse_row u_parse_row
  generalize m_check_text = m at c ⊢
  generalize m_is_row = m2
  simp -implicitDefEqProofs only [ap_runB, ap_sSeq, ap_sNil, ap_sIf, ap_sRet, ap_sRetN, ap_sSet, ap_sOwn, ap_sPar, ap_sAsg, ap_sDrop, ap_sFz, ap_sFor, ap_sApp, ap_sAugI, ap_sRaise, ap_sBreak, ap_vT, ap_v2, ap_vVar, ap_vBor, ap_vC, ap_vIf, ap_vAnd, ap_vOr, ap_vNot, ap_bAnd, ap_bOr, ap_bNot, ap_bYes, ap_vCall, ap_aNil, ap_aCons, ap_aDr, ap_aOwn, ap_vTup, ap_nLst, ap_nList, ap_vL, ap_vB, ap_vIsi, ap_vChain, ap_vIxV, ap_vLenV, ap_vSl, ap_oNone, ap_oSome, ap_wSeq, ap_wArg, ap_vMeth, ap_vRev, ap_nLc, ap_tgName, ap_nCall, ap_vCallB, ap_aBor, nd_int, nd_bool, nd_str, nd_list, nd_tup, nd_none, nd_r, nd_s, nd_Ro, ap_kVar, ap_kOf, ap_vInK, ap_vNiK, ap_vIxK, ap_sPutK, ap_vGetK, ap_vGet1, ap_vLenK, ap_wKeys, ap_kNil, ap_kOne, ap_vD, ap_sOwnK, ap_aOwnK, bind_ret, bind_exc, ofO_some, fzs_nil, fzs_cons, setAll_nil, setAll_cons, asB_b, noOw_nil, noOw_cons, wipeE_nil, wipeE_cons, noExc_r, seqD_l, seqD_t, tgTup_ap, tgCons_ap, tgNil_ap, List.cons_append, List.nil_append, List.replicate, List.set, List.getElem?_cons_zero, List.getElem?_cons_succ, Option.bind_some, Option.map_some, List.length_cons, List.length_nil, beq_self_eq_true, if_true, if_false, Bool.false_eq_true, Nat.reduceAdd, Nat.reduceSub, Nat.reduceBEq, Nat.zero_add, ↓reduceIte, reduceCtorEq, decide_true, decide_false, Bool.true_and, Bool.and_true, Bool.false_and, Bool.and_false, Bool.or_true, Bool.true_or, Bool.or_false, Bool.false_or, Bool.not_true, Bool.not_false, Bool.and_self, Int.reduceLE, Int.reduceLT, Int.reduceToNat, Int.reduceSub, Int.reduceAdd, Int.reduceNeg, Nat.reduceLT, Nat.reduceLeDiff, c])
/-! ### words of items -/
theorem joinL_ge (S : List Nat) : ∀ ps : List (List Nat), (ps.map (·.length)).sum ≤ (TL.joinL S ps).length
  | [] => Nat.le_refl _
  | [p] => by simp [TL.joinL]
  | p :: q :: r => by
    have := joinL_ge S (q :: r)
    simp only [TL.joinL, List.map_cons, List.sum_cons, List.length_append] at this ⊢
    omega
theorem joinL_le (S : List Nat) : ∀ ps : List (List Nat), (TL.joinL S ps).length ≤ (ps.map (·.length)).sum + ps.length * S.length
  | [] => by simp [TL.joinL]
  | [p] => by simp [TL.joinL]
  | p :: q :: r => by
    have := joinL_le S (q :: r)
    simp only [TL.joinL, List.map_cons, List.sum_cons, List.length_append, List.length_cons] at this ⊢
    simp only [Nat.add_mul, Nat.one_mul] at this ⊢
    omega
theorem len_sp : Str.length " " = 1 := by decide +kernel
theorem tl_len (x : Str) : (TL.tl x).length = x.length := rfl
theorem lens_tl (ws : List Str) : (ws.map TL.tl).map (·.length) = ws.map (·.length) := by rw [List.map_map]; rfl
theorem join_split' (t : Str) : Txt.join " " (Txt.split t " ") = t := by
  rw [TL.join_eq]
  exact PySem.StrLaws.join_split t " "
theorem split_sum (t : Str) : ((Txt.split t " ").map (·.length)).sum ≤ t.length := by
  have e := join_split' t
  rw [TL.join_eq] at e
  have e2 := congrArg TL.tl e
  rw [TL.tl_join] at e2
  have := joinL_ge (TL.tl " ") ((Txt.split t " ").map TL.tl)
  rw [e2, lens_tl] at this
  exact this
theorem dJoin_ws (ws : List Str) (h : (ws.map (·.length)).sum + ws.length ≤ 1000000) : dJoin (.str " ") (.list (ws.map PyData.str)) = some (.str (Txt.join " " ws)) := by
  show ((asStrs _).bind _) = _
  rw [asStrs_of]
  show (if decide (_ ≤ 16777216) then some (PyData.str (Txt.join " " _)) else none) = _
  rw [len_sp, decide_eq_true (by omega)]; rfl
theorem lc_items (i : Nat) (env : Envt) (f : Envt → Tr D) (ws : List Str) (hf : ∀ w : Str, f (env.set i (.fz (itemM w))) = .ret (.str w)) : lcRun (tgName i) bYes f env (ws.map itemM) = .ret (ws.map PyData.str) := lc_enc itemM PyData.str fun w _ => hf w
theorem words_items (ws : List Str) (hl : ws.length ≤ 90000) (h : (ws.map (·.length)).sum + ws.length ≤ 1000000) : m_law_words [.fz (.int 0), .fz (.tuple (ws.map itemM))] = .ret (.str (Txt.join " " ws)) := by
  have lc := lc_items 2 [.fz (.int 0), .fz (.tuple (ws.map itemM)), .un] (vB fnStr (aCons (vVar 2) (aNil))) ws fun w => by simp -implicitDefEqProofs only [ap_runB, ap_sSeq, ap_sNil, ap_sIf, ap_sRet, ap_sRetN, ap_sSet, ap_sOwn, ap_sPar, ap_sAsg, ap_sDrop, ap_sFz, ap_sFor, ap_sApp, ap_sAugI, ap_sRaise, ap_sBreak, ap_vT, ap_v2, ap_vVar, ap_vBor, ap_vC, ap_vIf, ap_vAnd, ap_vOr, ap_vNot, ap_bAnd, ap_bOr, ap_bNot, ap_bYes, ap_vCall, ap_aNil, ap_aCons, ap_aDr, ap_aOwn, ap_vTup, ap_nLst, ap_nList, ap_vL, ap_vB, ap_vIsi, ap_vChain, ap_vIxV, ap_vLenV, ap_vSl, ap_oNone, ap_oSome, ap_wSeq, ap_wArg, ap_vMeth, ap_vRev, ap_nLc, ap_tgName, ap_nCall, ap_vCallB, ap_aBor, nd_int, nd_bool, nd_str, nd_list, nd_tup, nd_none, nd_r, nd_s, nd_Ro, ap_kVar, ap_kOf, ap_vInK, ap_vNiK, ap_vIxK, ap_sPutK, ap_vGetK, ap_vGet1, ap_vLenK, ap_wKeys, ap_kNil, ap_kOne, ap_vD, ap_sOwnK, ap_aOwnK, bind_ret, bind_exc, ofO_some, fzs_nil, fzs_cons, setAll_nil, setAll_cons, asB_b, noOw_nil, noOw_cons, wipeE_nil, wipeE_cons, noExc_r, seqD_l, seqD_t, tgTup_ap, tgCons_ap, tgNil_ap, List.cons_append, List.nil_append, List.replicate, List.set, List.getElem?_cons_zero, List.getElem?_cons_succ, Option.bind_some, Option.map_some, List.length_cons, List.length_nil, beq_self_eq_true, if_true, if_false, Bool.false_eq_true, Nat.reduceAdd, Nat.reduceSub, Nat.reduceBEq, Nat.zero_add, ↓reduceIte, reduceCtorEq, decide_true, decide_false, Bool.true_and, Bool.and_true, Bool.false_and, Bool.and_false, Bool.or_true, Bool.true_or, Bool.or_false, Bool.false_or, Bool.not_true, Bool.not_false, Bool.and_self, Int.reduceLE, Int.reduceLT, Int.reduceToNat, Int.reduceSub, Int.reduceAdd, Int.reduceNeg, Nat.reduceLT, Nat.reduceLeDiff, item_str]
  have it : itD (.tuple (ws.map itemM)) = some (ws.map itemM) := rfl
  have sm : small (ws.map itemM).length = true := small_of (by rw [List.length_map]; omega)
  have j := dJoin_ws ws h
  have z : ((0 : Int) == 0) = true := rfl
  unfold m_law_words u_law_words
  simp -implicitDefEqProofs only [ap_runB, ap_sSeq, ap_sNil, ap_sIf, ap_sRet, ap_sRetN, ap_sSet, ap_sOwn, ap_sPar, ap_sAsg, ap_sDrop, ap_sFz, ap_sFor, ap_sApp, ap_sAugI, ap_sRaise, ap_sBreak, ap_vT, ap_v2, ap_vVar, ap_vBor, ap_vC, ap_vIf, ap_vAnd, ap_vOr, ap_vNot, ap_bAnd, ap_bOr, ap_bNot, ap_bYes, ap_vCall, ap_aNil, ap_aCons, ap_aDr, ap_aOwn, ap_vTup, ap_nLst, ap_nList, ap_vL, ap_vB, ap_vIsi, ap_vChain, ap_vIxV, ap_vLenV, ap_vSl, ap_oNone, ap_oSome, ap_wSeq, ap_wArg, ap_vMeth, ap_vRev, ap_nLc, ap_tgName, ap_nCall, ap_vCallB, ap_aBor, nd_int, nd_bool, nd_str, nd_list, nd_tup, nd_none, nd_r, nd_s, nd_Ro, ap_kVar, ap_kOf, ap_vInK, ap_vNiK, ap_vIxK, ap_sPutK, ap_vGetK, ap_vGet1, ap_vLenK, ap_wKeys, ap_kNil, ap_kOne, ap_vD, ap_sOwnK, ap_aOwnK, bind_ret, bind_exc, ofO_some, fzs_nil, fzs_cons, setAll_nil, setAll_cons, asB_b, noOw_nil, noOw_cons, wipeE_nil, wipeE_cons, noExc_r, seqD_l, seqD_t, tgTup_ap, tgCons_ap, tgNil_ap, List.cons_append, List.nil_append, List.replicate, List.set, List.getElem?_cons_zero, List.getElem?_cons_succ, Option.bind_some, Option.map_some, List.length_cons, List.length_nil, beq_self_eq_true, if_true, if_false, Bool.false_eq_true, Nat.reduceAdd, Nat.reduceSub, Nat.reduceBEq, Nat.zero_add, ↓reduceIte, reduceCtorEq, decide_true, decide_false, Bool.true_and, Bool.and_true, Bool.false_and, Bool.and_false, Bool.or_true, Bool.true_or, Bool.or_false, Bool.false_or, Bool.not_true, Bool.not_false, Bool.and_self, Int.reduceLE, Int.reduceLT, Int.reduceToNat, Int.reduceSub, Int.reduceAdd, Int.reduceNeg, Nat.reduceLT, Nat.reduceLeDiff, eq_ii, z, isS_s, it, sm, lc, j]
/-! ### texts of rules -/
def dg (i : Int) : Str := if i = 1 then "1" else if i = 2 then "2" else if i = 3 then "3" else "4"
def rws (r : Ru) : List Str := [dg r.p, r.l.s, dg r.g, r.d.s, r.s.s]
def ruText (r : Ru) : Str := Txt.join " " (rws r)
theorem item_dg {i : Int} (h1 : 1 ≤ i) (h4 : i ≤ 4) : itemM (dg i) = .int i := by
  have : i = 1 ∨ i = 2 ∨ i = 3 ∨ i = 4 := by omega
  rcases this with rfl | rfl | rfl | rfl <;> kernel_rfl
theorem item_ld (l : Ld) : itemM l.s = .str l.s := by cases l <;> kernel_rfl
theorem item_dc (l : Dc) : itemM l.s = .str l.s := by cases l <;> kernel_rfl
theorem item_sv (l : Sv) : itemM l.s = .str l.s := by cases l <;> kernel_rfl
theorem rws_items {r : Ru} (hr : r.ok) : .tuple ((rws r).map itemM) = r.e := by
  obtain ⟨h1, h2, h3, h4⟩ := hr
  show PyData.tuple [itemM (dg r.p), itemM r.l.s, itemM (dg r.g), itemM r.d.s, itemM r.s.s] = _
  rw [item_dg (by omega) (by omega), item_dg (by omega) (by omega), item_ld, item_dc, item_sv]
  rfl
def wOk (w : Str) : Bool := decide (w.length ≤ 6) && !(TL.tl w).contains 32
theorem w_dg {i : Int} (h1 : 1 ≤ i) (h4 : i ≤ 4) : wOk (dg i) = true := by
  have : i = 1 ∨ i = 2 ∨ i = 3 ∨ i = 4 := by omega
  rcases this with rfl | rfl | rfl | rfl <;> kernel_rfl
theorem rws_ok {r : Ru} (hr : r.ok) : ∀ w ∈ rws r, wOk w = true := by
  obtain ⟨h1, h2, h3, h4⟩ := hr
  have a : ∀ l : Ld, wOk l.s = true := fun l => by cases l <;> kernel_rfl
  have b : ∀ l : Dc, wOk l.s = true := fun l => by cases l <;> kernel_rfl
  have c : ∀ l : Sv, wOk l.s = true := fun l => by cases l <;> kernel_rfl
  intro w hw
  simp only [rws, List.mem_cons, List.not_mem_nil, or_false] at hw
  rcases hw with rfl | rfl | rfl | rfl | rfl
  · exact w_dg (by omega) (by omega)
  · exact a _
  · exact w_dg (by omega) (by omega)
  · exact b _
  · exact c _
theorem rws_sum {r : Ru} (hr : r.ok) : ((rws r).map (·.length)).sum ≤ 30 := by
  have h := rws_ok hr
  simp only [rws, List.mem_cons, List.not_mem_nil, or_false, forall_eq_or_imp, forall_eq, wOk, Bool.and_eq_true, decide_eq_true_eq] at h
  simp only [rws, List.map_cons, List.map_nil, List.sum_cons, List.sum_nil]
  omega
theorem ruText_len {r : Ru} (hr : r.ok) : (ruText r).length ≤ 40 := by
  have e : TL.tl (ruText r) = TL.joinL (TL.tl " ") ((rws r).map TL.tl) := by
    unfold ruText
    rw [TL.join_eq, TL.tl_join]
  have := joinL_le (TL.tl " ") ((rws r).map TL.tl)
  rw [← e, lens_tl, tl_len, tl_len, len_sp, List.length_map] at this
  have s := rws_sum hr
  have l : (rws r).length = 5 := rfl
  omega
theorem ruText_items {r : Ru} (hr : r.ok) : .tuple (itemsM (ruText r)) = r.e := by
  have sp : TL.tl " " = 32 :: [] := by decide +kernel
  have hk : (Str.cps " ").all (· < 256) = true := by decide +kernel
  have e : Txt.split (ruText r) " " = rws r := TL.split_join sp hk (by simp [rws]) fun p hp => by
    have := rws_ok hr p hp
    simp only [wOk, Bool.and_eq_true, Bool.not_eq_true', List.contains_eq_mem, decide_eq_false_iff_not] at this
    exact this.2
  unfold itemsM
  rw [e]
  exact rws_items hr
theorem ruM_e {r : Ru} (hr : r.ok) {ds : List D} (h : .tuple ds = r.e) : ruM ds = true := by
  have e : ds = [.int r.p, .str r.l.s, .int r.g, .str r.d.s, .str r.s.s] := by
    injection h
  rw [e]
  obtain ⟨h1, h2, h3, h4⟩ := hr
  have a : ∀ l : Ld, isW ["one", "two", "cap"] (.str l.s) = true := fun l => by cases l <;> kernel_rfl
  have b : ∀ l : Dc, isW ["same", "longer"] (.str l.s) = true := fun l => by cases l <;> kernel_rfl
  have c : ∀ l : Sv, isW ["games", "twos", "winner", "only"] (.str l.s) = true := fun l => by cases l <;> kernel_rfl
  show (intIn (.int r.p) 2 4 && isW ["one", "two", "cap"] (.str r.l.s) && intIn (.int r.g) 1 3 && (isW ["same", "longer"] (.str r.d.s) && isW ["games", "twos", "winner", "only"] (.str r.s.s))) = true
  rw [a, b, c]
  simp [intIn, h1, h2, h3, h4]
theorem m_format_rule_eq {r : Ru} (hr : r.ok) : m_format_rule [.fz r.e] = .ret (.str (ruText r)) := by
  have c := m_check_rule_eq r hr
  have s := rws_sum hr
  have l : (rws r).length = 5 := rfl
  have e := rws_items hr
  have lc := lc_items 1 [.fz r.e, .un] (vB fnStr (aCons (vVar 1) (aNil))) (rws r) fun w => by simp -implicitDefEqProofs only [ap_runB, ap_sSeq, ap_sNil, ap_sIf, ap_sRet, ap_sRetN, ap_sSet, ap_sOwn, ap_sPar, ap_sAsg, ap_sDrop, ap_sFz, ap_sFor, ap_sApp, ap_sAugI, ap_sRaise, ap_sBreak, ap_vT, ap_v2, ap_vVar, ap_vBor, ap_vC, ap_vIf, ap_vAnd, ap_vOr, ap_vNot, ap_bAnd, ap_bOr, ap_bNot, ap_bYes, ap_vCall, ap_aNil, ap_aCons, ap_aDr, ap_aOwn, ap_vTup, ap_nLst, ap_nList, ap_vL, ap_vB, ap_vIsi, ap_vChain, ap_vIxV, ap_vLenV, ap_vSl, ap_oNone, ap_oSome, ap_wSeq, ap_wArg, ap_vMeth, ap_vRev, ap_nLc, ap_tgName, ap_nCall, ap_vCallB, ap_aBor, nd_int, nd_bool, nd_str, nd_list, nd_tup, nd_none, nd_r, nd_s, nd_Ro, ap_kVar, ap_kOf, ap_vInK, ap_vNiK, ap_vIxK, ap_sPutK, ap_vGetK, ap_vGet1, ap_vLenK, ap_wKeys, ap_kNil, ap_kOne, ap_vD, ap_sOwnK, ap_aOwnK, bind_ret, bind_exc, ofO_some, fzs_nil, fzs_cons, setAll_nil, setAll_cons, asB_b, noOw_nil, noOw_cons, wipeE_nil, wipeE_cons, noExc_r, seqD_l, seqD_t, tgTup_ap, tgCons_ap, tgNil_ap, List.cons_append, List.nil_append, List.replicate, List.set, List.getElem?_cons_zero, List.getElem?_cons_succ, Option.bind_some, Option.map_some, List.length_cons, List.length_nil, beq_self_eq_true, if_true, if_false, Bool.false_eq_true, Nat.reduceAdd, Nat.reduceSub, Nat.reduceBEq, Nat.zero_add, ↓reduceIte, reduceCtorEq, decide_true, decide_false, Bool.true_and, Bool.and_true, Bool.false_and, Bool.and_false, Bool.or_true, Bool.true_or, Bool.or_false, Bool.false_or, Bool.not_true, Bool.not_false, Bool.and_self, Int.reduceLE, Int.reduceLT, Int.reduceToNat, Int.reduceSub, Int.reduceAdd, Int.reduceNeg, Nat.reduceLT, Nat.reduceLeDiff, item_str]
  have it : itD r.e = some ((rws r).map itemM) := by rw [← e]; rfl
  have sm : small ((rws r).map itemM).length = true := small_of (by rw [List.length_map, l]; omega)
  have j := dJoin_ws (rws r) (by omega)
  unfold m_format_rule u_format_rule ruText
  generalize m_check_rule = m at c ⊢
  simp -implicitDefEqProofs only [ap_runB, ap_sSeq, ap_sNil, ap_sIf, ap_sRet, ap_sRetN, ap_sSet, ap_sOwn, ap_sPar, ap_sAsg, ap_sDrop, ap_sFz, ap_sFor, ap_sApp, ap_sAugI, ap_sRaise, ap_sBreak, ap_vT, ap_v2, ap_vVar, ap_vBor, ap_vC, ap_vIf, ap_vAnd, ap_vOr, ap_vNot, ap_bAnd, ap_bOr, ap_bNot, ap_bYes, ap_vCall, ap_aNil, ap_aCons, ap_aDr, ap_aOwn, ap_vTup, ap_nLst, ap_nList, ap_vL, ap_vB, ap_vIsi, ap_vChain, ap_vIxV, ap_vLenV, ap_vSl, ap_oNone, ap_oSome, ap_wSeq, ap_wArg, ap_vMeth, ap_vRev, ap_nLc, ap_tgName, ap_nCall, ap_vCallB, ap_aBor, nd_int, nd_bool, nd_str, nd_list, nd_tup, nd_none, nd_r, nd_s, nd_Ro, ap_kVar, ap_kOf, ap_vInK, ap_vNiK, ap_vIxK, ap_sPutK, ap_vGetK, ap_vGet1, ap_vLenK, ap_wKeys, ap_kNil, ap_kOne, ap_vD, ap_sOwnK, ap_aOwnK, bind_ret, bind_exc, ofO_some, fzs_nil, fzs_cons, setAll_nil, setAll_cons, asB_b, noOw_nil, noOw_cons, wipeE_nil, wipeE_cons, noExc_r, seqD_l, seqD_t, tgTup_ap, tgCons_ap, tgNil_ap, List.cons_append, List.nil_append, List.replicate, List.set, List.getElem?_cons_zero, List.getElem?_cons_succ, Option.bind_some, Option.map_some, List.length_cons, List.length_nil, beq_self_eq_true, if_true, if_false, Bool.false_eq_true, Nat.reduceAdd, Nat.reduceSub, Nat.reduceBEq, Nat.zero_add, ↓reduceIte, reduceCtorEq, decide_true, decide_false, Bool.true_and, Bool.and_true, Bool.false_and, Bool.and_false, Bool.or_true, Bool.true_or, Bool.or_false, Bool.false_or, Bool.not_true, Bool.not_false, Bool.and_self, Int.reduceLE, Int.reduceLT, Int.reduceToNat, Int.reduceSub, Int.reduceAdd, Int.reduceNeg, Nat.reduceLT, Nat.reduceLeDiff, c, isS_s, it, sm, lc, j]
theorem words_rule {r : Ru} (hr : r.ok) : m_law_words [.fz (.int 0), .fz r.e] = .ret (.str (ruText r)) := by
  have s := rws_sum hr
  have l : (rws r).length = 5 := rfl
  have := words_items (rws r) (by omega) (by omega)
  rw [rws_items hr] at this
  exact this

end Mb

namespace Mb
open PySem L2
def lw0 : Stm :=
  sSet 2 (vL (nLst (aCons (vCall 1 m_law_rule (aDr 1 (aNil))) (aCons (vCall 2 m_law_row (aDr 1 (aCons (vC (.int 20)) (aNil)))) (aNil)))))
def lw1 : Stm :=
  sSet 3 (vL (nLst (aCons (vCall 1 m_format_rule (aCons (v2 dIx (vVar 2) (vC (.int 0))) (aNil))) (aCons (vCall 1 m_format_row (aCons (v2 dIx (vVar 2) (vC (.int 1))) (aNil))) (aNil)))))
def lw2 : Stm :=
  sFor (wArg rng1 (aCons (vC (.int 2)) (aNil))) (tgName 4) (sIf (bOr (vT (v2 dNe (v2 dIx (vVar 3) (vVar 4)) (vCall 2 m_law_words (aCons (vVar 4) (aCons (v2 dIx (vVar 2) (vVar 4)) (aNil)))))) (vT (v2 dNe (vCall 2 m_law_parsed (aCons (vVar 4) (aCons (v2 dIx (vVar 3) (vVar 4)) (aNil)))) (v2 dIx (vVar 2) (vVar 4)))))
  (sRet (vC (.bool false)))
  (sNil))
def lw3 : Stm :=
  sSet 5 (vL (nLst (aCons (vC (.str "0")) (aCons (vC (.str "1")) (aCons (vC (.str "2")) (aCons (vC (.str "3")) (aCons (vC (.str "4")) (aCons (vC (.str " ")) (aCons (vC (.str "two")) (aCons (vC (.str "cap")) (aCons (vC (.str "only")) (aCons (vC (.str "x")) (aCons (vC (.str "")) (aCons (vC (.str "-")) (aNil)))))))))))))))
def lw4 : Stm :=
  sFor (wArg rng1 (aCons (vC (.int 16)) (aNil))) (tgName 6) (sSeq (sSet 4 (vCall 2 mDraw (aDr 1 (aCons (vC (.int 2)) (aNil)))))
  (sSeq (sSet 7 (v2 dIx (vVar 3) (vVar 4)))
  (sSeq (sSet 8 (vCall 2 mDraw (aDr 1 (aCons (v2 dAdd (vB fnLen (aCons (vVar 7) (aNil))) (vC (.int 1))) (aNil)))))
  (sSeq (sSet 9 (vCall 2 m_law_pick (aDr 1 (aCons (vVar 5) (aNil)))))
  (sSeq (sSet 10 (vCall 2 m_law_pick (aDr 1 (aCons (vL (nLst (aCons (v2 dAdd (v2 dAdd (vSl (vVar 7) (oNone) (oSome (vVar 8))) (vVar 9)) (vSl (vVar 7) (oSome (v2 dAdd (vVar 8) (vC (.int 1)))) (oNone))) (aCons (v2 dAdd (v2 dAdd (vSl (vVar 7) (oNone) (oSome (vVar 8))) (vVar 9)) (vSl (vVar 7) (oSome (vVar 8)) (oNone))) (aCons (v2 dAdd (v2 dAdd (v2 dAdd (vSl (vVar 7) (oNone) (oSome (vVar 8))) (vC (.str " "))) (vVar 9)) (vSl (vVar 7) (oSome (vVar 8)) (oNone))) (aNil)))))) (aNil)))))
  (sSeq (sSet 11 (vCall 2 m_law_parsed (aCons (vVar 4) (aCons (vVar 10) (aNil)))))
  (sSeq (sIf (bAnd (vT (v2 dNe (vVar 11) (vC (.str "text")))) (vT (v2 dNe (vCall 2 m_law_words (aCons (vVar 4) (aCons (vVar 11) (aNil)))) (vVar 10))))
  (sRet (vC (.bool false)))
  (sNil))
  (sIf (bAnd (vT (v2 dNe (vVar 11) (vC (.str "text")))) (vT (v2 dIsNot (vIf (vT (v2 dEq (vVar 4) (vC (.int 0)))) (vCall 1 m_is_rule (aCons (vVar 11) (aNil))) (vCall 1 m_is_row (aCons (vVar 11) (aNil)))) (vC (.bool true)))))
  (sRet (vC (.bool false)))
  (sNil)))))))))
def lw5 : Stm :=
  sSet 12 (vL (nLst (aNil)))
def lw6 : Stm :=
  sFor (wSeq (vTup (aCons (vC (.int 2)) (aCons (vC (.int 3)) (aCons (vC (.int 4)) (aNil)))))) (tgName 13) (sFor (wSeq (vTup (aCons (vC (.str "one")) (aCons (vC (.str "two")) (aCons (vC (.str "cap")) (aNil)))))) (tgName 14) (sFor (wSeq (vTup (aCons (vC (.int 1)) (aCons (vC (.int 2)) (aCons (vC (.int 3)) (aNil)))))) (tgName 15) (sFor (wSeq (vTup (aCons (vC (.str "same")) (aCons (vC (.str "longer")) (aNil))))) (tgName 16) (sSet 12 (v2 dAdd (vVar 12) (vL (nLc [17] (wSeq (vTup (aCons (vC (.str "games")) (aCons (vC (.str "twos")) (aCons (vC (.str "winner")) (aCons (vC (.str "only")) (aNil))))))) (tgName 17) (bYes) (vTup (aCons (vVar 13) (aCons (vVar 14) (aCons (vVar 15) (aCons (vVar 16) (aCons (vVar 17) (aNil))))))))))))))
def lw7 : Stm :=
  sRet (vAnd (vCall 0 m_law_rejected aNil) (vAnd (v2 dEq (vCall 0 m_all_rules aNil) (vVar 12)) (v2 dEq (vB fnLen (aCons (vVar 12) (aNil))) (vC (.int 216)))))
def lwr7 : Stm := lw7
def lwr6 : Stm := sSeq lw6 lwr7
def lwr5 : Stm := sSeq lw5 lwr6
def lwr4 : Stm := sSeq lw4 lwr5
def lwr3 : Stm := sSeq lw3 lwr4
def lwr2 : Stm := sSeq lw2 lwr3
def lwr1 : Stm := sSeq lw1 lwr2
def lwr0 : Stm := sSeq lw0 lwr1
theorem lw_split : u_law = lwr0 := rfl

def rj0 : Stm :=
  sSet 0 (vL (nLst (aCons (vC .none) (aCons (vC (.int 5)) (aCons (vC (.str "")) (aCons (vC (.str " ")) (aCons (vC (.str "2 two 1 same")) (aCons (vC (.str "2 two 1 same games ")) (aCons (vC (.str " 2 two 1 same games")) (aCons (vC (.str "2  two 1 same games")) (aCons (vC (.str "1 two 1 same games")) (aCons (vC (.str "5 two 1 same games")) (aNil)))))))))))))
def rj1 : Stm :=
  sSet 0 (v2 dAdd (vVar 0) (vL (nLst (aCons (vC (.str "2 two 0 same games")) (aCons (vC (.str "2 two 4 same games")) (aCons (vC (.str "2 Two 1 same games")) (aCons (vC (.str "2 two 1 games same")) (aCons (vC (.str "two 2 1 same games")) (aCons (vC (.str "2,two,1,same,games")) (aCons (vC (.str "02 two 1 same games")) (aNil)))))))))))
def rj2 : Stm :=
  sSet 0 (v2 dAdd (vVar 0) (vL (nLst (aCons (vC (.str "2 two 1 same games\n")) (aCons (vC (.str "2 two\t1 same games")) (aCons (vTup (aCons (vC (.int 2)) (aCons (vC (.str "two")) (aCons (vC (.int 1)) (aCons (vC (.str "same")) (aCons (vC (.str "games")) (aNil))))))) (aCons (vL (nLst (aCons (vC (.str "2 two 1 same games")) (aNil)))) (aCons (vC (.str "2 two 1 same games 0")) (aCons (vC (.str "2 two 1 shorter games")) (aCons (vC (.str "2 2 1 same games")) (aCons (v2 dMulS (vC (.str "1")) (vC (.int 4000))) (aNil))))))))))))
def rj3 : Stm :=
  sIf (vT (v2 dNe (vL (nLc [2] (wSeq (vVar 0)) (tgName 2) (bYes) (vCall 2 m_law_parsed (aCons (vC (.int 0)) (aCons (vVar 2) (aNil)))))) (v2 dMul (vL (nLst (aCons (vC (.str "text")) (aNil)))) (vC (.int 25)))))
  (sRet (vC (.bool false)))
  (sNil)
def rj4 : Stm :=
  sSet 1 (vL (nLst (aCons (vC .none) (aCons (vC (.int 7)) (aCons (vC (.str " ")) (aCons (vC (.str "2")) (aCons (vC (.str "01 1")) (aCons (vC (.str "0,1")) (aCons (vC (.str "x")) (aCons (vC (.str "1\n")) (aCons (vL (nLst (aCons (vC (.str "1")) (aNil)))) (aCons (v2 dMulS (vC (.str "1")) (vC (.int 61))) (aCons (vC (.str "-1")) (aCons (vC (.str "10 ")) (aCons (vC (.str " 01")) (aCons (vC (.str "1a")) (aNil)))))))))))))))))
def rj5 : Stm :=
  sRet (vAnd (v2 dEq (vL (nLc [2] (wSeq (vVar 1)) (tgName 2) (bYes) (vCall 2 m_law_parsed (aCons (vC (.int 1)) (aCons (vVar 2) (aNil)))))) (v2 dMul (vL (nLst (aCons (vC (.str "text")) (aNil)))) (vC (.int 14)))) (vAnd (v2 dEq (vCall 2 m_law_parsed (aCons (vC (.int 1)) (aCons (vC (.str "")) (aNil)))) (vL (nLst (aNil)))) (v2 dEq (vCall 2 m_law_parsed (aCons (vC (.int 1)) (aCons (v2 dMulS (vC (.str "1")) (vC (.int 60))) (aNil)))) (v2 dMul (vL (nLst (aCons (vC (.int 1)) (aNil)))) (vC (.int 60))))))
def rjr5 : Stm := rj5
def rjr4 : Stm := sSeq rj4 rjr5
def rjr3 : Stm := sSeq rj3 rjr4
def rjr2 : Stm := sSeq rj2 rjr3
def rjr1 : Stm := sSeq rj1 rjr2
def rjr0 : Stm := sSeq rj0 rjr1
theorem rj_split : u_law_rejected = rjr0 := rfl

/-! ### the law k14: rejected -/
theorem len_of (x : Str) (h : x.length = 1) (n : Nat) : (⟨(List.replicate n x.cps).foldl (· ++ ·) #[]⟩ : Str).length = n := by
  show ((List.replicate n x.cps).foldl (· ++ ·) #[]).size = n
  rw [mulS_len x h]
  show 0 + n = n
  omega
theorem fold_toL (x : Str) : ∀ (n : Nat) (a : Array Nat), ((List.replicate n x.cps).foldl (· ++ ·) a).toList = a.toList ++ (List.replicate n x.cps.toList).flatten
  | 0, a => by simp
  | n + 1, a => by
    rw [List.replicate_succ, List.foldl_cons, fold_toL x n, Array.toList_append, List.replicate_succ, List.flatten_cons, List.append_assoc]
theorem ones_text (n : Nat) : (⟨(List.replicate n (Str.cps "1")).foldl (· ++ ·) #[]⟩ : Str) = rowText (List.replicate n true) := by
  apply TL.ext_tl
  show ((List.replicate n (Str.cps "1")).foldl (· ++ ·) #[]).toList = (List.replicate n true).map fun b => if b then 49 else 48
  rw [fold_toL]
  have e : (Str.cps "1").toList = [49] := by decide +kernel
  rw [e]
  induction n with
  | zero => rfl
  | succ n ih =>
    rw [List.replicate_succ, List.flatten_cons, List.replicate_succ, List.map_cons, ← ih]
    rfl
theorem mul_ones {n : Int} (h1 : 2 ≤ n) (h2 : n ≤ 100000) : dMulS (.str "1") (.int n) = some (.str (rowText (List.replicate n.toNat true))) := by
  have e : Str.length "1" = 1 := by decide +kernel
  show (if decide (2 ≤ n) && decide (n ≤ 100000) && decide (Str.length "1" = 1) then some (PyData.str ⟨(List.replicate n.toNat (Str.cps "1")).foldl (· ++ ·) #[]⟩) else none) = _
  rw [decide_eq_true h1, decide_eq_true h2, decide_eq_true e, ones_text]; rfl
theorem rowText_len (bs : List Bool) : (rowText bs).length = bs.length := by
  show ((bs.map fun b => if b then 49 else 48).toArray).size = _
  simp
theorem ones_items (n : Nat) : ruM (itemsM (rowText (List.replicate n true))) = false := by
  have sp : TL.tl " " = 32 :: [] := by decide +kernel
  have hk : (Str.cps " ").all (· < 256) = true := by decide +kernel
  have e : Txt.split (rowText (List.replicate n true)) " " = [rowText (List.replicate n true)] := by
    have := TL.split_join sp hk (parts := [rowText (List.replicate n true)]) (by simp) fun p hp => by
      rw [List.mem_singleton.mp hp]
      show 32 ∉ (List.replicate n true).map fun b => if b then 49 else 48
      intro h
      obtain ⟨b, _, hb⟩ := List.mem_map.mp h
      cases b <;> simp at hb
    have j : Txt.join " " [rowText (List.replicate n true)] = rowText (List.replicate n true) := by
      rw [TL.join_eq]; rfl
    rw [j] at this
    exact this
  unfold itemsM
  rw [e]
  rfl
theorem rj_str (t : Str) (h : (decide (t.length ≤ 90000) && !ruM (itemsM t)) = true) : m_law_parsed [.fz (.int 0), .fz (.str t)] = .ret (.str "text") := by
  rw [Bool.and_eq_true] at h
  have e := pd0 t (of_decide_eq_true h.1)
  have f : ruM (itemsM t) = false := by simpa using h.2
  rw [f] at e
  exact e
theorem rj_row (t : Str) (h : (decide (t.length ≤ 90000) && !((chs t).all chOk && decide ((chs t).length ≤ 60))) = true) : m_law_parsed [.fz (.int 1), .fz (.str t)] = .ret (.str "text") := by
  rw [Bool.and_eq_true] at h
  have e := pd1 t (of_decide_eq_true h.1)
  have f : ((chs t).all chOk && decide ((chs t).length ≤ 60)) = false := (Bool.not_eq_true' _).mp h.2
  rw [f] at e
  exact e
def odd0 : List D := [.none, .int 5, .str "", .str " ", .str "2 two 1 same", .str "2 two 1 same games ", .str " 2 two 1 same games", .str "2  two 1 same games", .str "1 two 1 same games", .str "5 two 1 same games"]
def odd1 : List D := odd0 ++ [.str "2 two 0 same games", .str "2 two 4 same games", .str "2 Two 1 same games", .str "2 two 1 games same", .str "two 2 1 same games", .str "2,two,1,same,games", .str "02 two 1 same games"]
def odd2 : List D := odd1 ++ [.str "2 two 1 same games\n", .str "2 two\t1 same games", .tuple [.int 2, .str "two", .int 1, .str "same", .str "games"], .list [.str "2 two 1 same games"], .str "2 two 1 same games 0", .str "2 two 1 shorter games", .str "2 2 1 same games", .str (rowText (List.replicate 4000 true))]
theorem odd2_rej : ∀ d ∈ odd2, m_law_parsed [.fz (.int 0), .fz d] = .ret (.str "text") := by
  have n : ∀ d : D, isStr d = false → notD d = true → m_law_parsed [.fz (.int 0), .fz d] = .ret (.str "text") := fun d h1 h2 => pr0_odd h1 h2
  intro d hd
  simp only [odd2, odd1, odd0, List.cons_append, List.nil_append, List.mem_cons, List.not_mem_nil, or_false] at hd
  rcases hd with rfl | rfl | rfl | rfl | rfl | rfl | rfl | rfl | rfl | rfl | rfl | rfl | rfl | rfl | rfl | rfl | rfl | rfl | rfl | rfl | rfl | rfl | rfl | rfl | rfl
  all_goals first | exact n _ rfl rfl | exact rj_str _ (by decide +kernel) | skip
  refine rj_str _ ?_
  rw [ones_items, rowText_len, List.length_replicate]; rfl
def lone0 : List D := [.none, .int 7, .str " ", .str "2", .str "01 1", .str "0,1", .str "x", .str "1\n", .list [.str "1"], .str (rowText (List.replicate 61 true)), .str "-1", .str "10 ", .str " 01", .str "1a"]
theorem lone0_rej : ∀ d ∈ lone0, m_law_parsed [.fz (.int 1), .fz d] = .ret (.str "text") := by
  have n : ∀ d : D, isStr d = false → notD d = true → m_law_parsed [.fz (.int 1), .fz d] = .ret (.str "text") := fun d h1 h2 => pr1_odd h1 h2
  intro d hd
  simp only [lone0, List.mem_cons, List.not_mem_nil, or_false] at hd
  rcases hd with rfl | rfl | rfl | rfl | rfl | rfl | rfl | rfl | rfl | rfl | rfl | rfl | rfl | rfl
  all_goals first | exact n _ rfl rfl | exact rj_row _ (by decide +kernel)
theorem rj0_eq : rj0 [.un, .un, .un] = .ret (.nx [.fz (.list odd0), .un, .un]) := by kernel_rfl
theorem rj1_eq : rj1 [.fz (.list odd0), .un, .un] = .ret (.nx [.fz (.list odd1), .un, .un]) := by kernel_rfl
theorem rj2_eq : rj2 [.fz (.list odd1), .un, .un] = .ret (.nx [.fz (.list odd2), .un, .un]) := by
  have m := mul_ones (n := 4000) (by decide) (by decide)
  have s5 : small 5 = true := rfl
  have s1 : small 1 = true := rfl
  have s8 : small 8 = true := rfl
  have ad : ∀ xs : List D, xs.length = 8 → dAdd (.list odd1) (.list xs) = some (.list (odd1 ++ xs)) := fun xs h => by
    show (if small (odd1.length + xs.length) then some (PyData.list (odd1 ++ xs)) else none) = _
    rw [h]; rfl
  unfold rj2
  simp -implicitDefEqProofs only [ap_runB, ap_sSeq, ap_sNil, ap_sIf, ap_sRet, ap_sRetN, ap_sSet, ap_sOwn, ap_sPar, ap_sAsg, ap_sDrop, ap_sFz, ap_sFor, ap_sApp, ap_sAugI, ap_sRaise, ap_sBreak, ap_vT, ap_v2, ap_vVar, ap_vBor, ap_vC, ap_vIf, ap_vAnd, ap_vOr, ap_vNot, ap_bAnd, ap_bOr, ap_bNot, ap_bYes, ap_vCall, ap_aNil, ap_aCons, ap_aDr, ap_aOwn, ap_vTup, ap_nLst, ap_nList, ap_vL, ap_vB, ap_vIsi, ap_vChain, ap_vIxV, ap_vLenV, ap_vSl, ap_oNone, ap_oSome, ap_wSeq, ap_wArg, ap_vMeth, ap_vRev, ap_nLc, ap_tgName, ap_nCall, ap_vCallB, ap_aBor, nd_int, nd_bool, nd_str, nd_list, nd_tup, nd_none, nd_r, nd_s, nd_Ro, ap_kVar, ap_kOf, ap_vInK, ap_vNiK, ap_vIxK, ap_sPutK, ap_vGetK, ap_vGet1, ap_vLenK, ap_wKeys, ap_kNil, ap_kOne, ap_vD, ap_sOwnK, ap_aOwnK, bind_ret, bind_exc, ofO_some, fzs_nil, fzs_cons, setAll_nil, setAll_cons, asB_b, noOw_nil, noOw_cons, wipeE_nil, wipeE_cons, noExc_r, seqD_l, seqD_t, tgTup_ap, tgCons_ap, tgNil_ap, List.cons_append, List.nil_append, List.replicate, List.set, List.getElem?_cons_zero, List.getElem?_cons_succ, Option.bind_some, Option.map_some, List.length_cons, List.length_nil, beq_self_eq_true, if_true, if_false, Bool.false_eq_true, Nat.reduceAdd, Nat.reduceSub, Nat.reduceBEq, Nat.zero_add, ↓reduceIte, reduceCtorEq, decide_true, decide_false, Bool.true_and, Bool.and_true, Bool.false_and, Bool.and_false, Bool.or_true, Bool.true_or, Bool.or_false, Bool.false_or, Bool.not_true, Bool.not_false, Bool.and_self, Int.reduceLE, Int.reduceLT, Int.reduceToNat, Int.reduceSub, Int.reduceAdd, Int.reduceNeg, Nat.reduceLT, Nat.reduceLeDiff, m, s5, s1, s8]
  rw [ad _ rfl]
  rfl
theorem reps (n : Nat) (d : D) (h : n ≤ 1000) : dMul (.list [d]) (.int (n : Nat)) = some (.list (List.replicate n d)) := by
  have e : ∀ n : Nat, (List.replicate n [d]).flatten = List.replicate n d := fun n => by
    induction n with
    | zero => rfl
    | succ n ih => rw [List.replicate_succ, List.flatten_cons, ih]; rfl
  rw [← e]
  unfold dMul
  simp [small, lim]
  omega
theorem eqv_rep (n : Nat) (d : D) (h : PyData.eqv d d = true) : PyData.eqvAll (List.replicate n d) (List.replicate n d) = true := by
  induction n with
  | zero => rfl
  | succ n ih => rw [List.replicate_succ]; simp [PyData.eqvAll, h, ih]
theorem lc_text (i : Nat) (env : Envt) (f : Envt → Tr D) (xs : List D) (h : ∀ d ∈ xs, f (env.set i (.fz d)) = .ret (.str "text")) : lcRun (tgName i) bYes f env xs = .ret (List.replicate xs.length (.str "text")) := by
  have := lc_map (i := i) (f := f) (env := env) (fun _ => PyData.str "text") (xs := xs) h
  rw [this, List.map_const']
theorem rj3_eq : rj3 [.fz (.list odd2), .un, .un] = .ret (.nx [.fz (.list odd2), .un, .un]) := by
  have lc := lc_text 2 [.fz (.list odd2), .un, .un] (vCall 2 m_law_parsed (aCons (vC (.int 0)) (aCons (vVar 2) (aNil)))) odd2 fun d hd => by
    have e := odd2_rej d hd
    generalize m_law_parsed = m at e ⊢
    simp -implicitDefEqProofs only [ap_runB, ap_sSeq, ap_sNil, ap_sIf, ap_sRet, ap_sRetN, ap_sSet, ap_sOwn, ap_sPar, ap_sAsg, ap_sDrop, ap_sFz, ap_sFor, ap_sApp, ap_sAugI, ap_sRaise, ap_sBreak, ap_vT, ap_v2, ap_vVar, ap_vBor, ap_vC, ap_vIf, ap_vAnd, ap_vOr, ap_vNot, ap_bAnd, ap_bOr, ap_bNot, ap_bYes, ap_vCall, ap_aNil, ap_aCons, ap_aDr, ap_aOwn, ap_vTup, ap_nLst, ap_nList, ap_vL, ap_vB, ap_vIsi, ap_vChain, ap_vIxV, ap_vLenV, ap_vSl, ap_oNone, ap_oSome, ap_wSeq, ap_wArg, ap_vMeth, ap_vRev, ap_nLc, ap_tgName, ap_nCall, ap_vCallB, ap_aBor, nd_int, nd_bool, nd_str, nd_list, nd_tup, nd_none, nd_r, nd_s, nd_Ro, ap_kVar, ap_kOf, ap_vInK, ap_vNiK, ap_vIxK, ap_sPutK, ap_vGetK, ap_vGet1, ap_vLenK, ap_wKeys, ap_kNil, ap_kOne, ap_vD, ap_sOwnK, ap_aOwnK, bind_ret, bind_exc, ofO_some, fzs_nil, fzs_cons, setAll_nil, setAll_cons, asB_b, noOw_nil, noOw_cons, wipeE_nil, wipeE_cons, noExc_r, seqD_l, seqD_t, tgTup_ap, tgCons_ap, tgNil_ap, List.cons_append, List.nil_append, List.replicate, List.set, List.getElem?_cons_zero, List.getElem?_cons_succ, Option.bind_some, Option.map_some, List.length_cons, List.length_nil, beq_self_eq_true, if_true, if_false, Bool.false_eq_true, Nat.reduceAdd, Nat.reduceSub, Nat.reduceBEq, Nat.zero_add, ↓reduceIte, reduceCtorEq, decide_true, decide_false, Bool.true_and, Bool.and_true, Bool.false_and, Bool.and_false, Bool.or_true, Bool.true_or, Bool.or_false, Bool.false_or, Bool.not_true, Bool.not_false, Bool.and_self, Int.reduceLE, Int.reduceLT, Int.reduceToNat, Int.reduceSub, Int.reduceAdd, Int.reduceNeg, Nat.reduceLT, Nat.reduceLeDiff, e]
  have l : odd2.length = 25 := rfl
  rw [l] at lc
  have s : small odd2.length = true := rfl
  have s1 : small 1 = true := rfl
  have it : itD (.list odd2) = some odd2 := rfl
  have r := reps 25 (.str "text") (by decide)
  have r : dMul (.list [.str "text"]) (.int 25) = some (.list (List.replicate 25 (.str "text"))) := r
  have ne : dNe (.list (List.replicate 25 (.str "text"))) (.list (List.replicate 25 (.str "text"))) = some (.bool false) := by kernel_rfl
  unfold rj3
  generalize m_law_parsed = m at lc ⊢
  generalize List.replicate 25 (PyData.str "text") = R at lc r ne ⊢
  simp -implicitDefEqProofs only [ap_runB, ap_sSeq, ap_sNil, ap_sIf, ap_sRet, ap_sRetN, ap_sSet, ap_sOwn, ap_sPar, ap_sAsg, ap_sDrop, ap_sFz, ap_sFor, ap_sApp, ap_sAugI, ap_sRaise, ap_sBreak, ap_vT, ap_v2, ap_vVar, ap_vBor, ap_vC, ap_vIf, ap_vAnd, ap_vOr, ap_vNot, ap_bAnd, ap_bOr, ap_bNot, ap_bYes, ap_vCall, ap_aNil, ap_aCons, ap_aDr, ap_aOwn, ap_vTup, ap_nLst, ap_nList, ap_vL, ap_vB, ap_vIsi, ap_vChain, ap_vIxV, ap_vLenV, ap_vSl, ap_oNone, ap_oSome, ap_wSeq, ap_wArg, ap_vMeth, ap_vRev, ap_nLc, ap_tgName, ap_nCall, ap_vCallB, ap_aBor, nd_int, nd_bool, nd_str, nd_list, nd_tup, nd_none, nd_r, nd_s, nd_Ro, ap_kVar, ap_kOf, ap_vInK, ap_vNiK, ap_vIxK, ap_sPutK, ap_vGetK, ap_vGet1, ap_vLenK, ap_wKeys, ap_kNil, ap_kOne, ap_vD, ap_sOwnK, ap_aOwnK, bind_ret, bind_exc, ofO_some, fzs_nil, fzs_cons, setAll_nil, setAll_cons, asB_b, noOw_nil, noOw_cons, wipeE_nil, wipeE_cons, noExc_r, seqD_l, seqD_t, tgTup_ap, tgCons_ap, tgNil_ap, List.cons_append, List.nil_append, List.replicate, List.set, List.getElem?_cons_zero, List.getElem?_cons_succ, Option.bind_some, Option.map_some, List.length_cons, List.length_nil, beq_self_eq_true, if_true, if_false, Bool.false_eq_true, Nat.reduceAdd, Nat.reduceSub, Nat.reduceBEq, Nat.zero_add, ↓reduceIte, reduceCtorEq, decide_true, decide_false, Bool.true_and, Bool.and_true, Bool.false_and, Bool.and_false, Bool.or_true, Bool.true_or, Bool.or_false, Bool.false_or, Bool.not_true, Bool.not_false, Bool.and_self, Int.reduceLE, Int.reduceLT, Int.reduceToNat, Int.reduceSub, Int.reduceAdd, Int.reduceNeg, Nat.reduceLT, Nat.reduceLeDiff, it, s, lc, s1, r, ne]
theorem rj4_eq (e0 : Ent) : rj4 [e0, .un, .un] = .ret (.nx [e0, .fz (.list lone0), .un]) := by
  have m := mul_ones (n := 61) (by decide) (by decide)
  have s1 : small 1 = true := rfl
  have s14 : small 14 = true := rfl
  unfold rj4
  simp -implicitDefEqProofs only [ap_runB, ap_sSeq, ap_sNil, ap_sIf, ap_sRet, ap_sRetN, ap_sSet, ap_sOwn, ap_sPar, ap_sAsg, ap_sDrop, ap_sFz, ap_sFor, ap_sApp, ap_sAugI, ap_sRaise, ap_sBreak, ap_vT, ap_v2, ap_vVar, ap_vBor, ap_vC, ap_vIf, ap_vAnd, ap_vOr, ap_vNot, ap_bAnd, ap_bOr, ap_bNot, ap_bYes, ap_vCall, ap_aNil, ap_aCons, ap_aDr, ap_aOwn, ap_vTup, ap_nLst, ap_nList, ap_vL, ap_vB, ap_vIsi, ap_vChain, ap_vIxV, ap_vLenV, ap_vSl, ap_oNone, ap_oSome, ap_wSeq, ap_wArg, ap_vMeth, ap_vRev, ap_nLc, ap_tgName, ap_nCall, ap_vCallB, ap_aBor, nd_int, nd_bool, nd_str, nd_list, nd_tup, nd_none, nd_r, nd_s, nd_Ro, ap_kVar, ap_kOf, ap_vInK, ap_vNiK, ap_vIxK, ap_sPutK, ap_vGetK, ap_vGet1, ap_vLenK, ap_wKeys, ap_kNil, ap_kOne, ap_vD, ap_sOwnK, ap_aOwnK, bind_ret, bind_exc, ofO_some, fzs_nil, fzs_cons, setAll_nil, setAll_cons, asB_b, noOw_nil, noOw_cons, wipeE_nil, wipeE_cons, noExc_r, seqD_l, seqD_t, tgTup_ap, tgCons_ap, tgNil_ap, List.cons_append, List.nil_append, List.replicate, List.set, List.getElem?_cons_zero, List.getElem?_cons_succ, Option.bind_some, Option.map_some, List.length_cons, List.length_nil, beq_self_eq_true, if_true, if_false, Bool.false_eq_true, Nat.reduceAdd, Nat.reduceSub, Nat.reduceBEq, Nat.zero_add, ↓reduceIte, reduceCtorEq, decide_true, decide_false, Bool.true_and, Bool.and_true, Bool.false_and, Bool.and_false, Bool.or_true, Bool.true_or, Bool.or_false, Bool.false_or, Bool.not_true, Bool.not_false, Bool.and_self, Int.reduceLE, Int.reduceLT, Int.reduceToNat, Int.reduceSub, Int.reduceAdd, Int.reduceNeg, Nat.reduceLT, Nat.reduceLeDiff, m, s1, s14]
  rfl
theorem Ro_mul60 : dMul (.list [.int 1]) (.int 60) = some (Ro (List.replicate 60 true)) := by kernel_rfl
theorem rj5_eq (e0 : Ent) : rj5 [e0, .fz (.list lone0), .un] = .ret (.rt (.bool true)) := by
  have lc := lc_text 2 [e0, .fz (.list lone0), .un] (vCall 2 m_law_parsed (aCons (vC (.int 1)) (aCons (vVar 2) (aNil)))) lone0 fun d hd => by
    have e := lone0_rej d hd
    generalize m_law_parsed = m at e ⊢
    simp -implicitDefEqProofs only [ap_runB, ap_sSeq, ap_sNil, ap_sIf, ap_sRet, ap_sRetN, ap_sSet, ap_sOwn, ap_sPar, ap_sAsg, ap_sDrop, ap_sFz, ap_sFor, ap_sApp, ap_sAugI, ap_sRaise, ap_sBreak, ap_vT, ap_v2, ap_vVar, ap_vBor, ap_vC, ap_vIf, ap_vAnd, ap_vOr, ap_vNot, ap_bAnd, ap_bOr, ap_bNot, ap_bYes, ap_vCall, ap_aNil, ap_aCons, ap_aDr, ap_aOwn, ap_vTup, ap_nLst, ap_nList, ap_vL, ap_vB, ap_vIsi, ap_vChain, ap_vIxV, ap_vLenV, ap_vSl, ap_oNone, ap_oSome, ap_wSeq, ap_wArg, ap_vMeth, ap_vRev, ap_nLc, ap_tgName, ap_nCall, ap_vCallB, ap_aBor, nd_int, nd_bool, nd_str, nd_list, nd_tup, nd_none, nd_r, nd_s, nd_Ro, ap_kVar, ap_kOf, ap_vInK, ap_vNiK, ap_vIxK, ap_sPutK, ap_vGetK, ap_vGet1, ap_vLenK, ap_wKeys, ap_kNil, ap_kOne, ap_vD, ap_sOwnK, ap_aOwnK, bind_ret, bind_exc, ofO_some, fzs_nil, fzs_cons, setAll_nil, setAll_cons, asB_b, noOw_nil, noOw_cons, wipeE_nil, wipeE_cons, noExc_r, seqD_l, seqD_t, tgTup_ap, tgCons_ap, tgNil_ap, List.cons_append, List.nil_append, List.replicate, List.set, List.getElem?_cons_zero, List.getElem?_cons_succ, Option.bind_some, Option.map_some, List.length_cons, List.length_nil, beq_self_eq_true, if_true, if_false, Bool.false_eq_true, Nat.reduceAdd, Nat.reduceSub, Nat.reduceBEq, Nat.zero_add, ↓reduceIte, reduceCtorEq, decide_true, decide_false, Bool.true_and, Bool.and_true, Bool.false_and, Bool.and_false, Bool.or_true, Bool.true_or, Bool.or_false, Bool.false_or, Bool.not_true, Bool.not_false, Bool.and_self, Int.reduceLE, Int.reduceLT, Int.reduceToNat, Int.reduceSub, Int.reduceAdd, Int.reduceNeg, Nat.reduceLT, Nat.reduceLeDiff, e]
  have l : lone0.length = 14 := rfl
  rw [l] at lc
  have s : small lone0.length = true := rfl
  have s1 : small 1 = true := rfl
  have s0 : small 0 = true := rfl
  have it : itD (.list lone0) = some lone0 := rfl
  have r := reps 14 (.str "text") (by decide)
  have r : dMul (.list [.str "text"]) (.int 14) = some (.list (List.replicate 14 (.str "text"))) := r
  have eq1 : dEq (.list (List.replicate 14 (.str "text"))) (.list (List.replicate 14 (.str "text"))) = some (.bool true) := by kernel_rfl
  have p0 := pd1 "" (by decide +kernel)
  have c0 : chs "" = [] := by decide +kernel
  rw [c0] at p0
  have p0 : m_law_parsed [.fz (.int 1), .fz (.str "")] = .ret (.list []) := p0
  have m := mul_ones (n := 60) (by decide) (by decide)
  have p1 := pd1 (rowText (List.replicate 60 true)) (by rw [rowText_len, List.length_replicate]; decide)
  obtain ⟨q1, q2⟩ := chs_rowText (List.replicate 60 true)
  have q3 : (chs (rowText (List.replicate 60 true))).length = 60 := by
    have := congrArg List.length q1
    rw [List.length_map, List.length_replicate] at this
    exact this
  rw [q1, q2, q3] at p1
  have p1 : m_law_parsed [.fz (.int 1), .fz (.str (rowText (List.replicate 60 true)))] = .ret (Ro (List.replicate 60 true)) := p1
  have m : dMulS (.str "1") (.int 60) = some (.str (rowText (List.replicate 60 true))) := m
  have r2 := Ro_mul60
  have eq2 : dEq (Ro (List.replicate 60 true)) (Ro (List.replicate 60 true)) = some (.bool true) := by kernel_rfl
  have eq3 : dEq (.list []) (.list []) = some (.bool true) := rfl
  unfold rj5
  generalize m_law_parsed = mm at lc p0 p1 ⊢
  generalize List.replicate 14 (PyData.str "text") = R at lc r eq1 ⊢
  generalize Ro (List.replicate 60 true) = R2 at p1 r2 eq2 ⊢
  generalize rowText (List.replicate 60 true) = R3 at p1 m ⊢
  simp -implicitDefEqProofs only [ap_runB, ap_sSeq, ap_sNil, ap_sIf, ap_sRet, ap_sRetN, ap_sSet, ap_sOwn, ap_sPar, ap_sAsg, ap_sDrop, ap_sFz, ap_sFor, ap_sApp, ap_sAugI, ap_sRaise, ap_sBreak, ap_vT, ap_v2, ap_vVar, ap_vBor, ap_vC, ap_vIf, ap_vAnd, ap_vOr, ap_vNot, ap_bAnd, ap_bOr, ap_bNot, ap_bYes, ap_vCall, ap_aNil, ap_aCons, ap_aDr, ap_aOwn, ap_vTup, ap_nLst, ap_nList, ap_vL, ap_vB, ap_vIsi, ap_vChain, ap_vIxV, ap_vLenV, ap_vSl, ap_oNone, ap_oSome, ap_wSeq, ap_wArg, ap_vMeth, ap_vRev, ap_nLc, ap_tgName, ap_nCall, ap_vCallB, ap_aBor, nd_int, nd_bool, nd_str, nd_list, nd_tup, nd_none, nd_r, nd_s, nd_Ro, ap_kVar, ap_kOf, ap_vInK, ap_vNiK, ap_vIxK, ap_sPutK, ap_vGetK, ap_vGet1, ap_vLenK, ap_wKeys, ap_kNil, ap_kOne, ap_vD, ap_sOwnK, ap_aOwnK, bind_ret, bind_exc, ofO_some, fzs_nil, fzs_cons, setAll_nil, setAll_cons, asB_b, noOw_nil, noOw_cons, wipeE_nil, wipeE_cons, noExc_r, seqD_l, seqD_t, tgTup_ap, tgCons_ap, tgNil_ap, List.cons_append, List.nil_append, List.replicate, List.set, List.getElem?_cons_zero, List.getElem?_cons_succ, Option.bind_some, Option.map_some, List.length_cons, List.length_nil, beq_self_eq_true, if_true, if_false, Bool.false_eq_true, Nat.reduceAdd, Nat.reduceSub, Nat.reduceBEq, Nat.zero_add, ↓reduceIte, reduceCtorEq, decide_true, decide_false, Bool.true_and, Bool.and_true, Bool.false_and, Bool.and_false, Bool.or_true, Bool.true_or, Bool.or_false, Bool.false_or, Bool.not_true, Bool.not_false, Bool.and_self, Int.reduceLE, Int.reduceLT, Int.reduceToNat, Int.reduceSub, Int.reduceAdd, Int.reduceNeg, Nat.reduceLT, Nat.reduceLeDiff, it, s, lc, s1, s0, r, eq1, p0, eq3, m, p1, r2, eq2]
theorem m_law_rejected_eq : m_law_rejected [] = .ret (.bool true) := by
  unfold m_law_rejected
  rw [rj_split]
  exact eval_run (eval_seq _ rj0_eq (eval_seq _ rj1_eq (eval_seq _ rj2_eq (eval_seq _ rj3_eq (eval_seq _ (rj4_eq _) (rj5_eq _))))))

end Mb

namespace Mb
open PySem L2
/-! ### the law k14: the turns -/
def marksD : List D := [.str "0", .str "1", .str "2", .str "3", .str "4", .str " ", .str "two", .str "cap", .str "only", .str "x", .str "", .str "-"]
def envT (r : Ru) (bs : List Bool) (e4 e5 e6 e7 e8 e9 e10 e11 : Ent) : Envt := [.un, .dr, .fz (.list [r.e, Ro bs]), .fz (.list [.str (ruText r), .str (rowText bs)]), e4, e5, e6, e7, e8, e9, e10, e11, .un, .un, .un, .un, .un, .un]
def tw5 : Stm := sSet 11 (vCall 2 m_law_parsed (aCons (vVar 4) (aCons (vVar 10) (aNil))))
def tw6 : Stm := sIf (bAnd (vT (v2 dNe (vVar 11) (vC (.str "text")))) (vT (v2 dNe (vCall 2 m_law_words (aCons (vVar 4) (aCons (vVar 11) (aNil)))) (vVar 10))))
  (sRet (vC (.bool false)))
  (sNil)
def tw7 : Stm := sIf (bAnd (vT (v2 dNe (vVar 11) (vC (.str "text")))) (vT (v2 dIsNot (vIf (vT (v2 dEq (vVar 4) (vC (.int 0)))) (vCall 1 m_is_rule (aCons (vVar 11) (aNil))) (vCall 1 m_is_row (aCons (vVar 11) (aNil)))) (vC (.bool true)))))
  (sRet (vC (.bool false)))
  (sNil)
def tw0 : Stm := sSet 4 (vCall 2 mDraw (aDr 1 (aCons (vC (.int 2)) (aNil))))
def tw1 : Stm := sSet 7 (v2 dIx (vVar 3) (vVar 4))
def tw2 : Stm := sSet 8 (vCall 2 mDraw (aDr 1 (aCons (v2 dAdd (vB fnLen (aCons (vVar 7) (aNil))) (vC (.int 1))) (aNil))))
def tw3 : Stm := sSet 9 (vCall 2 m_law_pick (aDr 1 (aCons (vVar 5) (aNil))))
def tw4 : Stm := sSet 10 (vCall 2 m_law_pick (aDr 1 (aCons (vL (nLst (aCons (v2 dAdd (v2 dAdd (vSl (vVar 7) (oNone) (oSome (vVar 8))) (vVar 9)) (vSl (vVar 7) (oSome (v2 dAdd (vVar 8) (vC (.int 1)))) (oNone))) (aCons (v2 dAdd (v2 dAdd (vSl (vVar 7) (oNone) (oSome (vVar 8))) (vVar 9)) (vSl (vVar 7) (oSome (vVar 8)) (oNone))) (aCons (v2 dAdd (v2 dAdd (v2 dAdd (vSl (vVar 7) (oNone) (oSome (vVar 8))) (vC (.str " "))) (vVar 9)) (vSl (vVar 7) (oSome (vVar 8)) (oNone))) (aNil)))))) (aNil))))
def twU : Stm := sSeq tw0 (sSeq tw1 (sSeq tw2 (sSeq tw3 (sSeq tw4 (sSeq tw5 (sSeq tw6 tw7))))))
theorem lw4_eq : lw4 = sFor (wArg rng1 (aCons (vC (.int 16)) (aNil))) (tgName 6) twU := rfl
theorem ne_text_r (r : Ru) : dNe r.e (.str "text") = some (.bool true) := by
  obtain ⟨p, l, g, d, s⟩ := r
  cases l <;> cases d <;> cases s <;> rfl
theorem ne_text_Ro (bs : List Bool) : dNe (Ro bs) (.str "text") = some (.bool true) := by
  unfold dNe
  rw [shp_Ro]; rfl
theorem strL_mem {x : Str} : strL x = true ↔ ∀ c ∈ TL.tl x, c < 0x110000 := by
  unfold strL
  rw [List.all_eq_true]
  constructor
  · intro h c hc
    simpa using h c hc
  · intro h c hc
    simpa using h c hc
theorem strL_app {x y : Str} (hx : strL x = true) (hy : strL y = true) : strL (x ++ y) = true := by
  rw [strL_mem] at hx hy ⊢
  rw [TL.tl_append]
  intro c hc
  rcases List.mem_append.mp hc with q | q
  · exact hx c q
  · exact hy c q
theorem strL_cut {x : Str} (hx : strL x = true) (lo hi : Option Int) : strL (cutS x lo hi) = true := by
  rw [strL_mem] at hx ⊢
  intro c hc
  have hc : c ∈ ((x.cps.toList.drop (HT.sIx x.length 0 lo)).take (HT.sIx x.length x.length hi - HT.sIx x.length 0 lo)) := hc
  exact hx c (List.mem_of_mem_drop (List.mem_of_mem_take hc))
theorem strL_row (bs : List Bool) : strL (rowText bs) = true := by
  rw [strL_mem]
  intro c hc
  have hc : c ∈ bs.map fun b => if b then 49 else 48 := hc
  obtain ⟨b, _, rfl⟩ := List.mem_map.mp hc
  cases b <;> decide
theorem joinL_mem {S : List Nat} {c : Nat} : ∀ {ps : List (List Nat)}, c ∈ TL.joinL S ps → c ∈ S ∨ ∃ p ∈ ps, c ∈ p
  | [], h => by cases h
  | [p], h => .inr ⟨p, by simp, h⟩
  | p :: q :: r, h => by
    simp only [TL.joinL, List.mem_append] at h
    rcases h with h | h | h
    · exact .inr ⟨p, by simp, h⟩
    · exact .inl h
    · rcases joinL_mem h with z | ⟨x, hx, z⟩
      · exact .inl z
      · exact .inr ⟨x, List.mem_cons_of_mem _ hx, z⟩
theorem strL_ru {r : Ru} (hr : r.ok) : strL (ruText r) = true := by
  obtain ⟨h1, h2, h3, h4⟩ := hr
  have a : ∀ l : Ld, strL l.s = true := fun l => by cases l <;> kernel_rfl
  have b : ∀ l : Dc, strL l.s = true := fun l => by cases l <;> kernel_rfl
  have c : ∀ l : Sv, strL l.s = true := fun l => by cases l <;> kernel_rfl
  have dd : ∀ i : Int, 1 ≤ i → i ≤ 4 → strL (dg i) = true := fun i h1 h4 => by
    have : i = 1 ∨ i = 2 ∨ i = 3 ∨ i = 4 := by omega
    rcases this with rfl | rfl | rfl | rfl <;> kernel_rfl
  have al : ∀ w ∈ rws r, strL w = true := by
    intro w hw
    simp only [rws, List.mem_cons, List.not_mem_nil, or_false] at hw
    rcases hw with rfl | rfl | rfl | rfl | rfl
    · exact dd _ (by omega) (by omega)
    · exact a _
    · exact dd _ (by omega) (by omega)
    · exact b _
    · exact c _
  have sp : strL " " = true := by kernel_rfl
  rw [strL_mem]
  intro x hx
  unfold ruText at hx
  rw [TL.join_eq, TL.tl_join] at hx
  rcases joinL_mem hx with z | ⟨p, hp, z⟩
  · exact strL_mem.mp sp x z
  · obtain ⟨w, hw, rfl⟩ := List.mem_map.mp hp
    exact strL_mem.mp (al w hw) x z
theorem shp_str {t : Str} (h : strL t = true) : shp (.str t) = true := by
  unfold shp
  simp [okAt, h]
theorem ne_str {t : Str} (h : strL t = true) : dNe (.str t) (.str t) = some (.bool false) := ne_self (shp_str h)
theorem ne_tt : dNe (.str "text") (.str "text") = some (.bool false) := by kernel_rfl
theorem isN_tt : dIsNot (.bool true) (.bool true) = some (.bool false) := rfl
theorem tail_eq (r : Ru) (bs : List Bool) (b : Bool) (t : Str) (ht : t.length ≤ 1000) (hs : strL t = true) (e5 e6 e7 e8 e9 e11 : Ent) : ∃ e11', sSeq tw5 (sSeq tw6 tw7) (envT r bs (.fz (.int (rb b))) e5 e6 e7 e8 e9 (.fz (.str t)) e11) = .ret (.nx (envT r bs (.fz (.int (rb b))) e5 e6 e7 e8 e9 (.fz (.str t)) e11')) := by
  have z0 : ((0 : Int) == 0) = true := rfl
  have z1 : ((1 : Int) == 0) = false := rfl
  have nt := ne_str hs
  cases b with
  | false =>
    have p := pd0 t (by omega)
    rw [rb_f]
    cases h : ruM (itemsM t) with
    | true =>
      rw [h] at p
      obtain ⟨q, hq, e⟩ := ruM_ex h
      have p : m_law_parsed [.fz (.int 0), .fz (.str t)] = .ret q.e := by rw [p, ← e]; rfl
      have w := words_items (Txt.split t " ") (Nat.le_trans (PyProof.Rows.split_le t " ") (by omega)) (by
        have := split_sum t
        have := PyProof.Rows.split_le t " "
        omega)
      have e2 : PyData.tuple ((Txt.split t " ").map itemM) = q.e := e
      rw [e2, join_split'] at w
      have ir := m_is_rule_eq q hq
      have n1 := ne_text_r q
      refine ⟨.fz q.e, ?_⟩
      unfold tw5 tw6 tw7 envT
      generalize m_law_parsed = m1 at p ⊢
      generalize m_law_words = m2 at w ⊢
      generalize m_is_rule = m3 at ir ⊢
      generalize m_is_row = m4
      simp -implicitDefEqProofs only [ap_runB, ap_sSeq, ap_sNil, ap_sIf, ap_sRet, ap_sRetN, ap_sSet, ap_sOwn, ap_sPar, ap_sAsg, ap_sDrop, ap_sFz, ap_sFor, ap_sApp, ap_sAugI, ap_sRaise, ap_sBreak, ap_vT, ap_v2, ap_vVar, ap_vBor, ap_vC, ap_vIf, ap_vAnd, ap_vOr, ap_vNot, ap_bAnd, ap_bOr, ap_bNot, ap_bYes, ap_vCall, ap_aNil, ap_aCons, ap_aDr, ap_aOwn, ap_vTup, ap_nLst, ap_nList, ap_vL, ap_vB, ap_vIsi, ap_vChain, ap_vIxV, ap_vLenV, ap_vSl, ap_oNone, ap_oSome, ap_wSeq, ap_wArg, ap_vMeth, ap_vRev, ap_nLc, ap_tgName, ap_nCall, ap_vCallB, ap_aBor, nd_int, nd_bool, nd_str, nd_list, nd_tup, nd_none, nd_r, nd_s, nd_Ro, ap_kVar, ap_kOf, ap_vInK, ap_vNiK, ap_vIxK, ap_sPutK, ap_vGetK, ap_vGet1, ap_vLenK, ap_wKeys, ap_kNil, ap_kOne, ap_vD, ap_sOwnK, ap_aOwnK, bind_ret, bind_exc, ofO_some, fzs_nil, fzs_cons, setAll_nil, setAll_cons, asB_b, noOw_nil, noOw_cons, wipeE_nil, wipeE_cons, noExc_r, seqD_l, seqD_t, tgTup_ap, tgCons_ap, tgNil_ap, List.cons_append, List.nil_append, List.replicate, List.set, List.getElem?_cons_zero, List.getElem?_cons_succ, Option.bind_some, Option.map_some, List.length_cons, List.length_nil, beq_self_eq_true, if_true, if_false, Bool.false_eq_true, Nat.reduceAdd, Nat.reduceSub, Nat.reduceBEq, Nat.zero_add, ↓reduceIte, reduceCtorEq, decide_true, decide_false, Bool.true_and, Bool.and_true, Bool.false_and, Bool.and_false, Bool.or_true, Bool.true_or, Bool.or_false, Bool.false_or, Bool.not_true, Bool.not_false, Bool.and_self, Int.reduceLE, Int.reduceLT, Int.reduceToNat, Int.reduceSub, Int.reduceAdd, Int.reduceNeg, Nat.reduceLT, Nat.reduceLeDiff, p, n1, w, nt, eq_ii, z0, ir, isN_tt]
    | false =>
      rw [h] at p
      have p : m_law_parsed [.fz (.int 0), .fz (.str t)] = .ret (.str "text") := p
      refine ⟨.fz (.str "text"), ?_⟩
      unfold tw5 tw6 tw7 envT
      generalize m_law_parsed = m1 at p ⊢
      generalize m_law_words = m2
      generalize m_is_rule = m3
      generalize m_is_row = m4
      simp -implicitDefEqProofs only [ap_runB, ap_sSeq, ap_sNil, ap_sIf, ap_sRet, ap_sRetN, ap_sSet, ap_sOwn, ap_sPar, ap_sAsg, ap_sDrop, ap_sFz, ap_sFor, ap_sApp, ap_sAugI, ap_sRaise, ap_sBreak, ap_vT, ap_v2, ap_vVar, ap_vBor, ap_vC, ap_vIf, ap_vAnd, ap_vOr, ap_vNot, ap_bAnd, ap_bOr, ap_bNot, ap_bYes, ap_vCall, ap_aNil, ap_aCons, ap_aDr, ap_aOwn, ap_vTup, ap_nLst, ap_nList, ap_vL, ap_vB, ap_vIsi, ap_vChain, ap_vIxV, ap_vLenV, ap_vSl, ap_oNone, ap_oSome, ap_wSeq, ap_wArg, ap_vMeth, ap_vRev, ap_nLc, ap_tgName, ap_nCall, ap_vCallB, ap_aBor, nd_int, nd_bool, nd_str, nd_list, nd_tup, nd_none, nd_r, nd_s, nd_Ro, ap_kVar, ap_kOf, ap_vInK, ap_vNiK, ap_vIxK, ap_sPutK, ap_vGetK, ap_vGet1, ap_vLenK, ap_wKeys, ap_kNil, ap_kOne, ap_vD, ap_sOwnK, ap_aOwnK, bind_ret, bind_exc, ofO_some, fzs_nil, fzs_cons, setAll_nil, setAll_cons, asB_b, noOw_nil, noOw_cons, wipeE_nil, wipeE_cons, noExc_r, seqD_l, seqD_t, tgTup_ap, tgCons_ap, tgNil_ap, List.cons_append, List.nil_append, List.replicate, List.set, List.getElem?_cons_zero, List.getElem?_cons_succ, Option.bind_some, Option.map_some, List.length_cons, List.length_nil, beq_self_eq_true, if_true, if_false, Bool.false_eq_true, Nat.reduceAdd, Nat.reduceSub, Nat.reduceBEq, Nat.zero_add, ↓reduceIte, reduceCtorEq, decide_true, decide_false, Bool.true_and, Bool.and_true, Bool.false_and, Bool.and_false, Bool.or_true, Bool.true_or, Bool.or_false, Bool.false_or, Bool.not_true, Bool.not_false, Bool.and_self, Int.reduceLE, Int.reduceLT, Int.reduceToNat, Int.reduceSub, Int.reduceAdd, Int.reduceNeg, Nat.reduceLT, Nat.reduceLeDiff, p, ne_tt]
  | true =>
    have p := pd1 t (by omega)
    rw [rb_t]
    cases h : (chs t).all chOk && decide ((chs t).length ≤ 60) with
    | true =>
      rw [h] at p
      rw [Bool.and_eq_true] at h
      have hl := of_decide_eq_true h.2
      have p : m_law_parsed [.fz (.int 1), .fz (.str t)] = .ret (Ro ((chs t).map chB)) := p
      have w := words_row ((chs t).map chB) (by rw [List.length_map]; exact hl)
      rw [rowText_chs t h.1] at w
      have ir := m_is_row_eq ((chs t).map chB) (by rw [List.length_map]; exact hl)
      have n1 := ne_text_Ro ((chs t).map chB)
      refine ⟨.fz (Ro ((chs t).map chB)), ?_⟩
      unfold tw5 tw6 tw7 envT
      generalize m_law_parsed = m1 at p ⊢
      generalize m_law_words = m2 at w ⊢
      generalize m_is_row = m3 at ir ⊢
      generalize m_is_rule = m4
      generalize Ro ((chs t).map chB) = R at p w ir n1 ⊢
      simp -implicitDefEqProofs only [ap_runB, ap_sSeq, ap_sNil, ap_sIf, ap_sRet, ap_sRetN, ap_sSet, ap_sOwn, ap_sPar, ap_sAsg, ap_sDrop, ap_sFz, ap_sFor, ap_sApp, ap_sAugI, ap_sRaise, ap_sBreak, ap_vT, ap_v2, ap_vVar, ap_vBor, ap_vC, ap_vIf, ap_vAnd, ap_vOr, ap_vNot, ap_bAnd, ap_bOr, ap_bNot, ap_bYes, ap_vCall, ap_aNil, ap_aCons, ap_aDr, ap_aOwn, ap_vTup, ap_nLst, ap_nList, ap_vL, ap_vB, ap_vIsi, ap_vChain, ap_vIxV, ap_vLenV, ap_vSl, ap_oNone, ap_oSome, ap_wSeq, ap_wArg, ap_vMeth, ap_vRev, ap_nLc, ap_tgName, ap_nCall, ap_vCallB, ap_aBor, nd_int, nd_bool, nd_str, nd_list, nd_tup, nd_none, nd_r, nd_s, nd_Ro, ap_kVar, ap_kOf, ap_vInK, ap_vNiK, ap_vIxK, ap_sPutK, ap_vGetK, ap_vGet1, ap_vLenK, ap_wKeys, ap_kNil, ap_kOne, ap_vD, ap_sOwnK, ap_aOwnK, bind_ret, bind_exc, ofO_some, fzs_nil, fzs_cons, setAll_nil, setAll_cons, asB_b, noOw_nil, noOw_cons, wipeE_nil, wipeE_cons, noExc_r, seqD_l, seqD_t, tgTup_ap, tgCons_ap, tgNil_ap, List.cons_append, List.nil_append, List.replicate, List.set, List.getElem?_cons_zero, List.getElem?_cons_succ, Option.bind_some, Option.map_some, List.length_cons, List.length_nil, beq_self_eq_true, if_true, if_false, Bool.false_eq_true, Nat.reduceAdd, Nat.reduceSub, Nat.reduceBEq, Nat.zero_add, ↓reduceIte, reduceCtorEq, decide_true, decide_false, Bool.true_and, Bool.and_true, Bool.false_and, Bool.and_false, Bool.or_true, Bool.true_or, Bool.or_false, Bool.false_or, Bool.not_true, Bool.not_false, Bool.and_self, Int.reduceLE, Int.reduceLT, Int.reduceToNat, Int.reduceSub, Int.reduceAdd, Int.reduceNeg, Nat.reduceLT, Nat.reduceLeDiff, p, n1, w, nt, eq_ii, z1, ir, isN_tt]
    | false =>
      rw [h] at p
      have p : m_law_parsed [.fz (.int 1), .fz (.str t)] = .ret (.str "text") := p
      refine ⟨.fz (.str "text"), ?_⟩
      unfold tw5 tw6 tw7 envT
      generalize m_law_parsed = m1 at p ⊢
      generalize m_law_words = m2
      generalize m_is_rule = m3
      generalize m_is_row = m4
      simp -implicitDefEqProofs only [ap_runB, ap_sSeq, ap_sNil, ap_sIf, ap_sRet, ap_sRetN, ap_sSet, ap_sOwn, ap_sPar, ap_sAsg, ap_sDrop, ap_sFz, ap_sFor, ap_sApp, ap_sAugI, ap_sRaise, ap_sBreak, ap_vT, ap_v2, ap_vVar, ap_vBor, ap_vC, ap_vIf, ap_vAnd, ap_vOr, ap_vNot, ap_bAnd, ap_bOr, ap_bNot, ap_bYes, ap_vCall, ap_aNil, ap_aCons, ap_aDr, ap_aOwn, ap_vTup, ap_nLst, ap_nList, ap_vL, ap_vB, ap_vIsi, ap_vChain, ap_vIxV, ap_vLenV, ap_vSl, ap_oNone, ap_oSome, ap_wSeq, ap_wArg, ap_vMeth, ap_vRev, ap_nLc, ap_tgName, ap_nCall, ap_vCallB, ap_aBor, nd_int, nd_bool, nd_str, nd_list, nd_tup, nd_none, nd_r, nd_s, nd_Ro, ap_kVar, ap_kOf, ap_vInK, ap_vNiK, ap_vIxK, ap_sPutK, ap_vGetK, ap_vGet1, ap_vLenK, ap_wKeys, ap_kNil, ap_kOne, ap_vD, ap_sOwnK, ap_aOwnK, bind_ret, bind_exc, ofO_some, fzs_nil, fzs_cons, setAll_nil, setAll_cons, asB_b, noOw_nil, noOw_cons, wipeE_nil, wipeE_cons, noExc_r, seqD_l, seqD_t, tgTup_ap, tgCons_ap, tgNil_ap, List.cons_append, List.nil_append, List.replicate, List.set, List.getElem?_cons_zero, List.getElem?_cons_succ, Option.bind_some, Option.map_some, List.length_cons, List.length_nil, beq_self_eq_true, if_true, if_false, Bool.false_eq_true, Nat.reduceAdd, Nat.reduceSub, Nat.reduceBEq, Nat.zero_add, ↓reduceIte, reduceCtorEq, decide_true, decide_false, Bool.true_and, Bool.and_true, Bool.false_and, Bool.and_false, Bool.or_true, Bool.true_or, Bool.or_false, Bool.false_or, Bool.not_true, Bool.not_false, Bool.and_self, Int.reduceLE, Int.reduceLT, Int.reduceToNat, Int.reduceSub, Int.reduceAdd, Int.reduceNeg, Nat.reduceLT, Nat.reduceLeDiff, p, ne_tt]
theorem cutS_len (z : Str) (lo hi : Option Int) : (cutS z lo hi).length ≤ z.length := by
  show (((z.cps.toList.drop _).take _).toArray).size ≤ z.cps.size
  rw [List.size_toArray, List.length_take, List.length_drop, Array.length_toList]
  omega
theorem sl_str (z : Str) (h : z.length ≤ 1000) (lo hi : Option Int) : dSl (.str z) lo hi = some (.str (cutS z lo hi)) := by
  show (if small z.length then _ else none) = _
  rw [small_of (by omega)]; rfl
theorem add_ss (x y : Str) (h : x.length + y.length ≤ 1000) : dAdd (.str x) (.str y) = some (.str (x ++ y)) := by
  show (if small (x.length + y.length) then _ else none) = _
  rw [small_of (by omega)]; rfl
theorem app_len (x y : Str) : (x ++ y).length = x.length + y.length := by
  show (x.cps ++ y.cps).size = _
  rw [Array.size_append]; rfl
theorem marks_len : ∀ d ∈ marksD, ∃ t : Str, d = .str t ∧ t.length ≤ 4 ∧ strL t = true := by
  intro d hd
  simp only [marksD, List.mem_cons, List.not_mem_nil, or_false] at hd
  rcases hd with rfl | rfl | rfl | rfl | rfl | rfl | rfl | rfl | rfl | rfl | rfl | rfl
  all_goals exact ⟨_, rfl, by decide +kernel, by kernel_rfl⟩
theorem turn_ok {r : Ru} (hr : r.ok) {bs : List Bool} (hb : bs.length ≤ 20) (e4 e6 e7 e8 e9 e10 e11 : Ent) {E : Nat → Prop} : (twU (envT r bs e4 (.fz (.list marksD)) e6 e7 e8 e9 e10 e11)).ok (fun o => ∃ env', o = .nx env' ∧ ∃ e4 e6 e7 e8 e9 e10 e11, env' = envT r bs e4 (.fz (.list marksD)) e6 e7 e8 e9 e10 e11) E := by
  refine ok_sSeq (ok_sSet (ok_draw (n := 2) rfl rfl (by decide) (by decide) fun k hk => ?_))
  show (sSeq tw1 _ (envT r bs (.fz (.int (k : Nat))) (.fz (.list marksD)) e6 e7 e8 e9 e10 e11)).ok _ E
  obtain ⟨b, hbit⟩ : ∃ b : Bool, ((k : Nat) : Int) = rb b := by
    have : k = 0 ∨ k = 1 := by omega
    rcases this with rfl | rfl
    · exact ⟨false, rfl⟩
    · exact ⟨true, rfl⟩
  rw [hbit]
  obtain ⟨t, ht, hts, hix⟩ : ∃ t : Str, t.length ≤ 40 ∧ strL t = true ∧ dIx (.list [.str (ruText r), .str (rowText bs)]) (.int (rb b)) = some (.str t) := by
    cases b
    · exact ⟨_, ruText_len hr, strL_ru hr, rfl⟩
    · exact ⟨_, by rw [rowText_len]; omega, strL_row bs, rfl⟩
  refine ok_seq (envT r bs (.fz (.int (rb b))) (.fz (.list marksD)) e6 (.fz (.str t)) e8 e9 e10 e11) (by unfold tw1 envT; simp -implicitDefEqProofs only [ap_runB, ap_sSeq, ap_sNil, ap_sIf, ap_sRet, ap_sRetN, ap_sSet, ap_sOwn, ap_sPar, ap_sAsg, ap_sDrop, ap_sFz, ap_sFor, ap_sApp, ap_sAugI, ap_sRaise, ap_sBreak, ap_vT, ap_v2, ap_vVar, ap_vBor, ap_vC, ap_vIf, ap_vAnd, ap_vOr, ap_vNot, ap_bAnd, ap_bOr, ap_bNot, ap_bYes, ap_vCall, ap_aNil, ap_aCons, ap_aDr, ap_aOwn, ap_vTup, ap_nLst, ap_nList, ap_vL, ap_vB, ap_vIsi, ap_vChain, ap_vIxV, ap_vLenV, ap_vSl, ap_oNone, ap_oSome, ap_wSeq, ap_wArg, ap_vMeth, ap_vRev, ap_nLc, ap_tgName, ap_nCall, ap_vCallB, ap_aBor, nd_int, nd_bool, nd_str, nd_list, nd_tup, nd_none, nd_r, nd_s, nd_Ro, ap_kVar, ap_kOf, ap_vInK, ap_vNiK, ap_vIxK, ap_sPutK, ap_vGetK, ap_vGet1, ap_vLenK, ap_wKeys, ap_kNil, ap_kOne, ap_vD, ap_sOwnK, ap_aOwnK, bind_ret, bind_exc, ofO_some, fzs_nil, fzs_cons, setAll_nil, setAll_cons, asB_b, noOw_nil, noOw_cons, wipeE_nil, wipeE_cons, noExc_r, seqD_l, seqD_t, tgTup_ap, tgCons_ap, tgNil_ap, List.cons_append, List.nil_append, List.replicate, List.set, List.getElem?_cons_zero, List.getElem?_cons_succ, Option.bind_some, Option.map_some, List.length_cons, List.length_nil, beq_self_eq_true, if_true, if_false, Bool.false_eq_true, Nat.reduceAdd, Nat.reduceSub, Nat.reduceBEq, Nat.zero_add, ↓reduceIte, reduceCtorEq, decide_true, decide_false, Bool.true_and, Bool.and_true, Bool.false_and, Bool.and_false, Bool.or_true, Bool.true_or, Bool.or_false, Bool.false_or, Bool.not_true, Bool.not_false, Bool.and_self, Int.reduceLE, Int.reduceLT, Int.reduceToNat, Int.reduceSub, Int.reduceAdd, Int.reduceNeg, Nat.reduceLT, Nat.reduceLeDiff, hix]) ?_
  have ln : fnLen [.str t] = some (.int (t.length : Nat)) := by
    show (if small t.length then _ else none) = _
    rw [small_of (by omega)]; rfl
  have ln1 : dAdd (.int (t.length : Nat)) (.int 1) = some (.int ((t.length + 1 : Nat) : Int)) := rfl
  refine ok_sSeq (ok_sSet (ok_draw (n := t.length + 1) rfl (by unfold envT; simp -implicitDefEqProofs only [ap_runB, ap_sSeq, ap_sNil, ap_sIf, ap_sRet, ap_sRetN, ap_sSet, ap_sOwn, ap_sPar, ap_sAsg, ap_sDrop, ap_sFz, ap_sFor, ap_sApp, ap_sAugI, ap_sRaise, ap_sBreak, ap_vT, ap_v2, ap_vVar, ap_vBor, ap_vC, ap_vIf, ap_vAnd, ap_vOr, ap_vNot, ap_bAnd, ap_bOr, ap_bNot, ap_bYes, ap_vCall, ap_aNil, ap_aCons, ap_aDr, ap_aOwn, ap_vTup, ap_nLst, ap_nList, ap_vL, ap_vB, ap_vIsi, ap_vChain, ap_vIxV, ap_vLenV, ap_vSl, ap_oNone, ap_oSome, ap_wSeq, ap_wArg, ap_vMeth, ap_vRev, ap_nLc, ap_tgName, ap_nCall, ap_vCallB, ap_aBor, nd_int, nd_bool, nd_str, nd_list, nd_tup, nd_none, nd_r, nd_s, nd_Ro, ap_kVar, ap_kOf, ap_vInK, ap_vNiK, ap_vIxK, ap_sPutK, ap_vGetK, ap_vGet1, ap_vLenK, ap_wKeys, ap_kNil, ap_kOne, ap_vD, ap_sOwnK, ap_aOwnK, bind_ret, bind_exc, ofO_some, fzs_nil, fzs_cons, setAll_nil, setAll_cons, asB_b, noOw_nil, noOw_cons, wipeE_nil, wipeE_cons, noExc_r, seqD_l, seqD_t, tgTup_ap, tgCons_ap, tgNil_ap, List.cons_append, List.nil_append, List.replicate, List.set, List.getElem?_cons_zero, List.getElem?_cons_succ, Option.bind_some, Option.map_some, List.length_cons, List.length_nil, beq_self_eq_true, if_true, if_false, Bool.false_eq_true, Nat.reduceAdd, Nat.reduceSub, Nat.reduceBEq, Nat.zero_add, ↓reduceIte, reduceCtorEq, decide_true, decide_false, Bool.true_and, Bool.and_true, Bool.false_and, Bool.and_false, Bool.or_true, Bool.true_or, Bool.or_false, Bool.false_or, Bool.not_true, Bool.not_false, Bool.and_self, Int.reduceLE, Int.reduceLT, Int.reduceToNat, Int.reduceSub, Int.reduceAdd, Int.reduceNeg, Nat.reduceLT, Nat.reduceLeDiff, ln, ln1]) (by omega) (by omega) fun at_ hat => ?_))
  show (sSeq tw3 _ (envT r bs (.fz (.int (rb b))) (.fz (.list marksD)) e6 (.fz (.str t)) (.fz (.int (at_ : Nat))) e9 e10 e11)).ok _ E
  refine ok_sSeq (ok_sSet (ok_dr2 rfl (ok_ret (a := .list marksD) rfl (pick_ok (by decide) (by decide) fun d hd => ?_))))
  obtain ⟨mk, rfl, hm, hms⟩ := marks_len d hd
  have hsp : strL " " = true := by kernel_rfl
  show (sSeq tw4 _ (envT r bs (.fz (.int (rb b))) (.fz (.list marksD)) e6 (.fz (.str t)) (.fz (.int (at_ : Nat))) (.fz (.str mk)) e10 e11)).ok _ E
  have c1 := cutS_len t none (some (at_ : Int))
  have c2 := cutS_len t (some ((at_ : Int) + 1)) none
  have c3 := cutS_len t (some (at_ : Int)) none
  have l1 := app_len (cutS t none (some (at_ : Int))) mk
  have l2 := app_len (cutS t none (some (at_ : Int))) " "
  have l3 := app_len (cutS t none (some (at_ : Int)) ++ " ") mk
  rw [len_sp] at l2
  have a1 := add_ss (cutS t none (some (at_ : Int))) mk (by omega)
  have a2 := add_ss (cutS t none (some (at_ : Int)) ++ mk) (cutS t (some ((at_ : Int) + 1)) none) (by omega)
  have a3 := add_ss (cutS t none (some (at_ : Int)) ++ mk) (cutS t (some (at_ : Int)) none) (by omega)
  have a4 := add_ss (cutS t none (some (at_ : Int))) " " (by rw [len_sp]; omega)
  have a5 := add_ss (cutS t none (some (at_ : Int)) ++ " ") mk (by omega)
  have a6 := add_ss (cutS t none (some (at_ : Int)) ++ " " ++ mk) (cutS t (some (at_ : Int)) none) (by omega)
  have s3 : small 3 = true := rfl
  have sl := fun lo hi => sl_str t (by omega) lo hi
  refine ok_sSeq (ok_sSet (ok_dr2 rfl (ok_ret (a := .list [.str (cutS t none (some (at_ : Int)) ++ mk ++ cutS t (some ((at_ : Int) + 1)) none), .str (cutS t none (some (at_ : Int)) ++ mk ++ cutS t (some (at_ : Int)) none), .str (cutS t none (some (at_ : Int)) ++ " " ++ mk ++ cutS t (some (at_ : Int)) none)]) ?_ (pick_ok (by simp) (by simp) fun d hd => ?_))))
  · unfold envT
    simp -implicitDefEqProofs only [ap_runB, ap_sSeq, ap_sNil, ap_sIf, ap_sRet, ap_sRetN, ap_sSet, ap_sOwn, ap_sPar, ap_sAsg, ap_sDrop, ap_sFz, ap_sFor, ap_sApp, ap_sAugI, ap_sRaise, ap_sBreak, ap_vT, ap_v2, ap_vVar, ap_vBor, ap_vC, ap_vIf, ap_vAnd, ap_vOr, ap_vNot, ap_bAnd, ap_bOr, ap_bNot, ap_bYes, ap_vCall, ap_aNil, ap_aCons, ap_aDr, ap_aOwn, ap_vTup, ap_nLst, ap_nList, ap_vL, ap_vB, ap_vIsi, ap_vChain, ap_vIxV, ap_vLenV, ap_vSl, ap_oNone, ap_oSome, ap_wSeq, ap_wArg, ap_vMeth, ap_vRev, ap_nLc, ap_tgName, ap_nCall, ap_vCallB, ap_aBor, nd_int, nd_bool, nd_str, nd_list, nd_tup, nd_none, nd_r, nd_s, nd_Ro, ap_kVar, ap_kOf, ap_vInK, ap_vNiK, ap_vIxK, ap_sPutK, ap_vGetK, ap_vGet1, ap_vLenK, ap_wKeys, ap_kNil, ap_kOne, ap_vD, ap_sOwnK, ap_aOwnK, bind_ret, bind_exc, ofO_some, fzs_nil, fzs_cons, setAll_nil, setAll_cons, asB_b, noOw_nil, noOw_cons, wipeE_nil, wipeE_cons, noExc_r, seqD_l, seqD_t, tgTup_ap, tgCons_ap, tgNil_ap, List.cons_append, List.nil_append, List.replicate, List.set, List.getElem?_cons_zero, List.getElem?_cons_succ, Option.bind_some, Option.map_some, List.length_cons, List.length_nil, beq_self_eq_true, if_true, if_false, Bool.false_eq_true, Nat.reduceAdd, Nat.reduceSub, Nat.reduceBEq, Nat.zero_add, ↓reduceIte, reduceCtorEq, decide_true, decide_false, Bool.true_and, Bool.and_true, Bool.false_and, Bool.and_false, Bool.or_true, Bool.true_or, Bool.or_false, Bool.false_or, Bool.not_true, Bool.not_false, Bool.and_self, Int.reduceLE, Int.reduceLT, Int.reduceToNat, Int.reduceSub, Int.reduceAdd, Int.reduceNeg, Nat.reduceLT, Nat.reduceLeDiff, sl, a1, a2, a3, a4, a5, a6, add_ii, s3]
  obtain ⟨o, rfl, ho, hos⟩ : ∃ o : Str, d = .str o ∧ o.length ≤ 1000 ∧ strL o = true := by
    simp only [List.mem_cons, List.not_mem_nil, or_false] at hd
    rcases hd with rfl | rfl | rfl
    · exact ⟨_, rfl, by rw [app_len]; omega, strL_app (strL_app (strL_cut hts _ _) hms) (strL_cut hts _ _)⟩
    · exact ⟨_, rfl, by rw [app_len]; omega, strL_app (strL_app (strL_cut hts _ _) hms) (strL_cut hts _ _)⟩
    · exact ⟨_, rfl, by rw [app_len]; omega, strL_app (strL_app (strL_app (strL_cut hts _ _) hsp) hms) (strL_cut hts _ _)⟩
  obtain ⟨e11', h⟩ := tail_eq r bs b o ho hos (.fz (.list marksD)) e6 (.fz (.str t)) (.fz (.int (at_ : Nat))) (.fz (.str mk)) e11
  exact ok_ret h ⟨_, rfl, _, _, _, _, _, _, _, rfl⟩
/-! ### all rules -/
def everyD : List D := [2, 3, 4].flatMap fun p => ["one", "two", "cap"].flatMap fun l => [1, 2, 3].flatMap fun g => ["same", "longer"].flatMap fun d => ["games", "twos", "winner", "only"].map fun s => PyData.tuple [.int p, .str (Str.ofString l), .int g, .str (Str.ofString d), .str (Str.ofString s)]
theorem m_all_rules_eq : m_all_rules [] = .ret (.list everyD) := by kernel_rfl
theorem lw56_eq (e2 e3 e4 e5 e6 e7 e8 e9 e10 e11 : Ent) : ∃ e13 e14 e15 e16, sSeq lw5 lw6 [.un, .dr, e2, e3, e4, e5, e6, e7, e8, e9, e10, e11, .un, .un, .un, .un, .un, .un] = .ret (.nx [.un, .dr, e2, e3, e4, e5, e6, e7, e8, e9, e10, e11, .fz (.list everyD), e13, e14, e15, e16, .un]) :=
  ⟨.fz (.int 4), .fz (.str "cap"), .fz (.int 3), .fz (.str "longer"), by kernel_rfl⟩
theorem every_eq : dEq (.list everyD) (.list everyD) = some (.bool true) := by kernel_rfl
theorem every_len : fnLen [.list everyD] = some (.int 216) := by kernel_rfl
theorem lw7_eq (e2 e3 e4 e5 e6 e7 e8 e9 e10 e11 e13 e14 e15 e16 : Ent) : lw7 [.un, .dr, e2, e3, e4, e5, e6, e7, e8, e9, e10, e11, .fz (.list everyD), e13, e14, e15, e16, .un] = .ret (.rt (.bool true)) := by
  have j := m_law_rejected_eq
  have a := m_all_rules_eq
  have e := every_eq
  have l := every_len
  have z : dEq (.int 216) (.int 216) = some (.bool true) := rfl
  unfold lw7
  generalize m_law_rejected = m1 at j ⊢
  generalize m_all_rules = m2 at a ⊢
  generalize everyD = ev at a e l ⊢
  simp -implicitDefEqProofs only [ap_runB, ap_sSeq, ap_sNil, ap_sIf, ap_sRet, ap_sRetN, ap_sSet, ap_sOwn, ap_sPar, ap_sAsg, ap_sDrop, ap_sFz, ap_sFor, ap_sApp, ap_sAugI, ap_sRaise, ap_sBreak, ap_vT, ap_v2, ap_vVar, ap_vBor, ap_vC, ap_vIf, ap_vAnd, ap_vOr, ap_vNot, ap_bAnd, ap_bOr, ap_bNot, ap_bYes, ap_vCall, ap_aNil, ap_aCons, ap_aDr, ap_aOwn, ap_vTup, ap_nLst, ap_nList, ap_vL, ap_vB, ap_vIsi, ap_vChain, ap_vIxV, ap_vLenV, ap_vSl, ap_oNone, ap_oSome, ap_wSeq, ap_wArg, ap_vMeth, ap_vRev, ap_nLc, ap_tgName, ap_nCall, ap_vCallB, ap_aBor, nd_int, nd_bool, nd_str, nd_list, nd_tup, nd_none, nd_r, nd_s, nd_Ro, ap_kVar, ap_kOf, ap_vInK, ap_vNiK, ap_vIxK, ap_sPutK, ap_vGetK, ap_vGet1, ap_vLenK, ap_wKeys, ap_kNil, ap_kOne, ap_vD, ap_sOwnK, ap_aOwnK, bind_ret, bind_exc, ofO_some, fzs_nil, fzs_cons, setAll_nil, setAll_cons, asB_b, noOw_nil, noOw_cons, wipeE_nil, wipeE_cons, noExc_r, seqD_l, seqD_t, tgTup_ap, tgCons_ap, tgNil_ap, List.cons_append, List.nil_append, List.replicate, List.set, List.getElem?_cons_zero, List.getElem?_cons_succ, Option.bind_some, Option.map_some, List.length_cons, List.length_nil, beq_self_eq_true, if_true, if_false, Bool.false_eq_true, Nat.reduceAdd, Nat.reduceSub, Nat.reduceBEq, Nat.zero_add, ↓reduceIte, reduceCtorEq, decide_true, decide_false, Bool.true_and, Bool.and_true, Bool.false_and, Bool.and_false, Bool.or_true, Bool.true_or, Bool.or_false, Bool.false_or, Bool.not_true, Bool.not_false, Bool.and_self, Int.reduceLE, Int.reduceLT, Int.reduceToNat, Int.reduceSub, Int.reduceAdd, Int.reduceNeg, Nat.reduceLT, Nat.reduceLeDiff, j, a, e, l, z]
theorem lw2_eq {r : Ru} (hr : r.ok) {bs : List Bool} (hb : bs.length ≤ 20) : lw2 (envT r bs .un .un .un .un .un .un .un .un) = .ret (.nx (envT r bs (.fz (.int 1)) .un .un .un .un .un .un .un)) := by
  have w0 := words_rule hr
  have w1 := words_row bs (by omega)
  have p0 := pd0 (ruText r) (by have := ruText_len hr; omega)
  rw [ruM_e hr (ruText_items hr)] at p0
  have p0 : m_law_parsed [.fz (.int 0), .fz (.str (ruText r))] = .ret r.e := by rw [p0, ← ruText_items hr]; rfl
  have p1 := pd1 (rowText bs) (by rw [rowText_len]; omega)
  obtain ⟨q1, q2⟩ := chs_rowText bs
  have q3 : (chs (rowText bs)).length = bs.length := by
    have := congrArg List.length q1
    rw [List.length_map] at this
    exact this
  rw [q1, q2, q3, decide_eq_true (show bs.length ≤ 60 by omega)] at p1
  have p1 : m_law_parsed [.fz (.int 1), .fz (.str (rowText bs))] = .ret (Ro bs) := p1
  have n0 := ne_str (strL_ru hr)
  have n1 := ne_str (strL_row bs)
  have n2 : dNe r.e r.e = some (.bool false) := by
    obtain ⟨p, l, g, d, s⟩ := r
    have : PyData.eqv (Ru.e ⟨p, l, g, d, s⟩) (Ru.e ⟨p, l, g, d, s⟩) = true := by simp [Ru.e, PyData.eqv, PyData.eqvAll]
    have s2 : shp (Ru.e ⟨p, l, g, d, s⟩) = true := by cases l <;> cases d <;> cases s <;> rfl
    unfold dNe
    rw [s2, this]; rfl
  have n3 : dNe (Ro bs) (Ro bs) = some (.bool false) := by
    have := SeqAt.eqv_refl _ (shp_lay (shp_Ro bs))
    unfold dNe
    rw [shp_Ro, this]; rfl
  refine eval_for [.int 0, .int 1] rfl ?_
  unfold envT
  generalize m_law_words = m1 at w0 w1 ⊢
  generalize m_law_parsed = m2 at p0 p1 ⊢
  generalize ruText r = t0 at w0 p0 n0 ⊢
  generalize rowText bs = t1 at w1 p1 n1 ⊢
  have i0 : ∀ a b : D, dIx (.list [a, b]) (.int 0) = some a := fun _ _ => rfl
  have i1 : ∀ a b : D, dIx (.list [a, b]) (.int 1) = some b := fun _ _ => rfl
  simp -implicitDefEqProofs only [sForL, ap_runB, ap_sSeq, ap_sNil, ap_sIf, ap_sRet, ap_sRetN, ap_sSet, ap_sOwn, ap_sPar, ap_sAsg, ap_sDrop, ap_sFz, ap_sFor, ap_sApp, ap_sAugI, ap_sRaise, ap_sBreak, ap_vT, ap_v2, ap_vVar, ap_vBor, ap_vC, ap_vIf, ap_vAnd, ap_vOr, ap_vNot, ap_bAnd, ap_bOr, ap_bNot, ap_bYes, ap_vCall, ap_aNil, ap_aCons, ap_aDr, ap_aOwn, ap_vTup, ap_nLst, ap_nList, ap_vL, ap_vB, ap_vIsi, ap_vChain, ap_vIxV, ap_vLenV, ap_vSl, ap_oNone, ap_oSome, ap_wSeq, ap_wArg, ap_vMeth, ap_vRev, ap_nLc, ap_tgName, ap_nCall, ap_vCallB, ap_aBor, nd_int, nd_bool, nd_str, nd_list, nd_tup, nd_none, nd_r, nd_s, nd_Ro, ap_kVar, ap_kOf, ap_vInK, ap_vNiK, ap_vIxK, ap_sPutK, ap_vGetK, ap_vGet1, ap_vLenK, ap_wKeys, ap_kNil, ap_kOne, ap_vD, ap_sOwnK, ap_aOwnK, bind_ret, bind_exc, ofO_some, fzs_nil, fzs_cons, setAll_nil, setAll_cons, asB_b, noOw_nil, noOw_cons, wipeE_nil, wipeE_cons, noExc_r, seqD_l, seqD_t, tgTup_ap, tgCons_ap, tgNil_ap, List.cons_append, List.nil_append, List.replicate, List.set, List.getElem?_cons_zero, List.getElem?_cons_succ, Option.bind_some, Option.map_some, List.length_cons, List.length_nil, beq_self_eq_true, if_true, if_false, Bool.false_eq_true, Nat.reduceAdd, Nat.reduceSub, Nat.reduceBEq, Nat.zero_add, ↓reduceIte, reduceCtorEq, decide_true, decide_false, Bool.true_and, Bool.and_true, Bool.false_and, Bool.and_false, Bool.or_true, Bool.true_or, Bool.or_false, Bool.false_or, Bool.not_true, Bool.not_false, Bool.and_self, Int.reduceLE, Int.reduceLT, Int.reduceToNat, Int.reduceSub, Int.reduceAdd, Int.reduceNeg, Nat.reduceLT, Nat.reduceLeDiff, i0, i1, w0, w1, p0, p1, n0, n1, n2, n3]
theorem ok_nLst2 {f g : Envt → Tr D} {env : Envt} {P : List D → Prop} {E : Nat → Prop} (h : (f env).ok (fun a => (g env).ok (fun b => P [a, b]) E) E) : (nLst (aCons f (aCons g aNil)) env).ok P E := by
  rw [ap_nLst]
  refine Tr.ok_bind (ok_aCons (Tr.ok_mono (fun a h => ok_aCons (Tr.ok_mono (fun b hb => ok_aNil ?_) (fun _ z => z) h)) (fun _ z => z) h))
  exact ok_ret (a := [a, b]) rfl hb
theorem law_true : LawOk u_law 16 := law_ok_of (by
  rw [lw_split]
  refine ok_sSeq (ok_sSet (ok_vL (ok_nLst2 (ok_dr1 rfl (law_rule_ok fun r hr => ok_dr2 rfl (ok_ret (a := .int (20 : Nat)) rfl (law_row_ok (by decide) fun bs hb => ?_)))))))
  show (lwr1 _).ok _ _
  have f0 := m_format_rule_eq hr
  have f1 := m_format_row_eq bs (by omega)
  have s2 : small 2 = true := rfl
  have i0 : ∀ a b : D, dIx (.list [a, b]) (.int 0) = some a := fun _ _ => rfl
  have i1 : ∀ a b : D, dIx (.list [a, b]) (.int 1) = some b := fun _ _ => rfl
  refine ok_seq (envT r bs .un .un .un .un .un .un .un .un) ?_ ?_
  · unfold lw1 envT env0
    generalize m_format_rule = m1 at f0 ⊢
    generalize m_format_row = m2 at f1 ⊢
    simp -implicitDefEqProofs only [ap_runB, ap_sSeq, ap_sNil, ap_sIf, ap_sRet, ap_sRetN, ap_sSet, ap_sOwn, ap_sPar, ap_sAsg, ap_sDrop, ap_sFz, ap_sFor, ap_sApp, ap_sAugI, ap_sRaise, ap_sBreak, ap_vT, ap_v2, ap_vVar, ap_vBor, ap_vC, ap_vIf, ap_vAnd, ap_vOr, ap_vNot, ap_bAnd, ap_bOr, ap_bNot, ap_bYes, ap_vCall, ap_aNil, ap_aCons, ap_aDr, ap_aOwn, ap_vTup, ap_nLst, ap_nList, ap_vL, ap_vB, ap_vIsi, ap_vChain, ap_vIxV, ap_vLenV, ap_vSl, ap_oNone, ap_oSome, ap_wSeq, ap_wArg, ap_vMeth, ap_vRev, ap_nLc, ap_tgName, ap_nCall, ap_vCallB, ap_aBor, nd_int, nd_bool, nd_str, nd_list, nd_tup, nd_none, nd_r, nd_s, nd_Ro, ap_kVar, ap_kOf, ap_vInK, ap_vNiK, ap_vIxK, ap_sPutK, ap_vGetK, ap_vGet1, ap_vLenK, ap_wKeys, ap_kNil, ap_kOne, ap_vD, ap_sOwnK, ap_aOwnK, bind_ret, bind_exc, ofO_some, fzs_nil, fzs_cons, setAll_nil, setAll_cons, asB_b, noOw_nil, noOw_cons, wipeE_nil, wipeE_cons, noExc_r, seqD_l, seqD_t, tgTup_ap, tgCons_ap, tgNil_ap, List.cons_append, List.nil_append, List.replicate, List.set, List.getElem?_cons_zero, List.getElem?_cons_succ, Option.bind_some, Option.map_some, List.length_cons, List.length_nil, beq_self_eq_true, if_true, if_false, Bool.false_eq_true, Nat.reduceAdd, Nat.reduceSub, Nat.reduceBEq, Nat.zero_add, ↓reduceIte, reduceCtorEq, decide_true, decide_false, Bool.true_and, Bool.and_true, Bool.false_and, Bool.and_false, Bool.or_true, Bool.true_or, Bool.or_false, Bool.false_or, Bool.not_true, Bool.not_false, Bool.and_self, Int.reduceLE, Int.reduceLT, Int.reduceToNat, Int.reduceSub, Int.reduceAdd, Int.reduceNeg, Nat.reduceLT, Nat.reduceLeDiff, i0, i1, f0, f1, s2]
  refine ok_seq _ (lw2_eq hr hb) ?_
  refine ok_seq (envT r bs (.fz (.int 1)) (.fz (.list marksD)) .un .un .un .un .un .un) ?_ ?_
  · unfold lw3 envT
    kernel_rfl
  show (sSeq lw4 lwr5 _).ok _ _
  rw [lw4_eq]
  refine ok_seq_forD (fun _ env => ∃ e4 e6 e7 e8 e9 e10 e11, env = envT r bs e4 (.fz (.list marksD)) e6 e7 e8 e9 e10 e11) (ok_ret (a := rangeD 0 16) rfl ⟨⟨_, _, _, _, _, _, _, rfl⟩, ?_, ?_⟩)
  · rintro k hk _ ⟨e4, e6, e7, e8, e9, e10, e11, rfl⟩
    exact ⟨_, rfl, turn_ok hr hb e4 _ e7 e8 e9 e10 e11⟩
  · rintro _ ⟨e4, e6, e7, e8, e9, e10, e11, rfl⟩
    obtain ⟨e13, e14, e15, e16, h⟩ := lw56_eq (.fz (.list [r.e, Ro bs])) (.fz (.list [.str (ruText r), .str (rowText bs)])) e4 (.fz (.list marksD)) e6 e7 e8 e9 e10 e11
    refine ok_ret (a := .rt (.bool true)) ?_ rfl
    have h7 := lw7_eq (.fz (.list [r.e, Ro bs])) (.fz (.list [.str (ruText r), .str (rowText bs)])) e4 (.fz (.list marksD)) e6 e7 e8 e9 e10 e11 e13 e14 e15 e16
    rw [ap_sSeq] at h
    show sSeq lw5 (sSeq lw6 lw7) _ = _
    generalize lw6 = u6 at h ⊢
    generalize lw7 = u7 at h7 ⊢
    have l5 : lw5 (envT r bs e4 (.fz (.list marksD)) e6 e7 e8 e9 e10 e11) = .ret (.nx ((envT r bs e4 (.fz (.list marksD)) e6 e7 e8 e9 e10 e11).set 12 (.fz (.list [])))) := rfl
    have l5' := l5
    unfold envT at l5'
    rw [l5'] at h
    exact eval_seq _ l5 (eval_seq _ h h7))

end Mb

open PySem PySem.W PyProof.Rows in
set_option maxRecDepth 100000 in
set_option maxHeartbeats 0 in
theorem PySem.Challenge.cw_matchboards_k14_whole_texts_holds : PySem.Challenge.rw_matchboards_k14_whole_texts.Holds := by
  w_on; o_law; k_head; (case hw => w_witness2)
  k_fill
  refine L2.walk_of (l := PySem.Challenge.rw_matchboards_k14_whole_texts) (n := 63) (k := 7) (x := "script") (CX := fun w => L2.CX (PySem.Challenge.rw_matchboards_k14_whole_texts).prog w) (sp := fun w => Mb.spLaw _) rfl (by decide) rfl ⟨rfl, by decide, by decide⟩ (fun w h Y => PySem.W.kIn_of Y) ?F (fun _ _ a ns hl _ hS => ⟨a, ns, rfl, hS, hl, fun _ => rfl⟩) (fun _ _ _ _ _ h => Mb.noCX h)
  case F =>
    intro w mg fa h KX G hmg
    refine' Mb.all_mk Mb.law_true KX G hmg ?a0 ?l0 ?c0 ?k0 ?a1 ?l1 ?c1 ?k1 ?a2 ?l2 ?c2 ?k2 ?a3 ?l3 ?c3 ?k3 ?a4 ?l4 ?c4 ?k4 ?a5 ?l5 ?c5 ?k5 ?a6 ?l6 ?c6 ?k6 ?a7 ?l7 ?c7 ?k7 ?a8 ?l8 ?c8 ?k8 ?a9 ?l9 ?c9 ?k9 ?a10 ?l10 ?c10 ?k10 ?a11 ?l11 ?c11 ?k11 ?a12 ?l12 ?c12 ?k12 ?a13 ?l13 ?c13 ?k13 ?a14 ?l14 ?c14 ?k14 ?a15 ?l15 ?c15 ?k15 ?a16 ?l16 ?c16 ?k16 ?a17 ?l17 ?c17 ?k17 ?a18 ?l18 ?c18 ?k18 ?a19 ?l19 ?c19 ?k19 ?a20 ?l20 ?c20 ?k20 ?a21 ?l21 ?c21 ?k21 ?a22 ?l22 ?c22 ?k22 ?a23 ?l23 ?c23 ?k23 ?z_ValueError ?z_all ?z_bool ?z_int ?z_isinstance ?z_len ?z_list ?z_range ?z_str ?z_tuple ?g_DECIDERS ?gl_DECIDERS ?g_LEADS ?gl_LEADS ?g_MOST_ROW ?g_SERVES ?gl_SERVES ?ec_BadRally ?ex_BadRally ?ek_BadRally ?eb_BadRally ?et_BadRally ?ec_BadRule ?ex_BadRule ?ek_BadRule ?eb_BadRule ?et_BadRule ?ec_BadText ?ex_BadText ?ek_BadText ?eb_BadText ?et_BadText ?ec_BadBoards ?ec_BadNumber ?ec_NotFound ?ec_MatchError ?mS ?mD ?mT ?em_BadRule ?xhg_BadRule ?xhk_BadRule ?xhs_BadRule ?xhd_BadRule ?xha_BadRule ?xhm_BadRule ?kb_BadRule ?kv_BadRule ?kk_BadRule_BadRule ?kk_BadRally_BadRule ?kk_BadBoards_BadRule ?kk_BadNumber_BadRule ?kk_BadText_BadRule ?kk_NotFound_BadRule ?em_BadRally ?xhg_BadRally ?xhk_BadRally ?xhs_BadRally ?xhd_BadRally ?xha_BadRally ?xhm_BadRally ?kb_BadRally ?kv_BadRally ?kk_BadRule_BadRally ?kk_BadRally_BadRally ?kk_BadBoards_BadRally ?kk_BadNumber_BadRally ?kk_BadText_BadRally ?kk_NotFound_BadRally ?em_BadBoards ?xhg_BadBoards ?xhk_BadBoards ?xhs_BadBoards ?xhd_BadBoards ?xha_BadBoards ?xhm_BadBoards ?kb_BadBoards ?kv_BadBoards ?kk_BadRule_BadBoards ?kk_BadRally_BadBoards ?kk_BadBoards_BadBoards ?kk_BadNumber_BadBoards ?kk_BadText_BadBoards ?kk_NotFound_BadBoards ?em_BadNumber ?xhg_BadNumber ?xhk_BadNumber ?xhs_BadNumber ?xhd_BadNumber ?xha_BadNumber ?xhm_BadNumber ?kb_BadNumber ?kv_BadNumber ?kk_BadRule_BadNumber ?kk_BadRally_BadNumber ?kk_BadBoards_BadNumber ?kk_BadNumber_BadNumber ?kk_BadText_BadNumber ?kk_NotFound_BadNumber ?em_BadText ?xhg_BadText ?xhk_BadText ?xhs_BadText ?xhd_BadText ?xha_BadText ?xhm_BadText ?kb_BadText ?kv_BadText ?kk_BadRule_BadText ?kk_BadRally_BadText ?kk_BadBoards_BadText ?kk_BadNumber_BadText ?kk_BadText_BadText ?kk_NotFound_BadText ?em_NotFound ?xhg_NotFound ?xhk_NotFound ?xhs_NotFound ?xhd_NotFound ?xha_NotFound ?xhm_NotFound ?kb_NotFound ?kv_NotFound ?kk_BadRule_NotFound ?kk_BadRally_NotFound ?kk_BadBoards_NotFound ?kk_BadNumber_NotFound ?kk_BadText_NotFound ?kk_NotFound_NotFound ?xn ?xt
    (case a0 => k_is)
    (case l0 => k_is)
    (case c0 => k_is)
    (case k0 => k_is)
    (case a1 => k_is)
    (case l1 => k_is)
    (case c1 => k_is)
    (case k1 => k_is)
    (case a2 => k_is)
    (case l2 => k_is)
    (case c2 => k_is)
    (case k2 => k_is)
    (case a3 => k_is)
    (case l3 => k_is)
    (case c3 => k_is)
    (case k3 => k_is)
    (case a4 => k_is)
    (case l4 => k_is)
    (case c4 => k_is)
    (case k4 => k_is)
    (case a5 => k_is)
    (case l5 => k_is)
    (case c5 => k_is)
    (case k5 => k_is)
    (case a6 => k_is)
    (case l6 => k_is)
    (case c6 => k_is)
    (case k6 => k_is)
    (case a7 => k_is)
    (case l7 => k_is)
    (case c7 => k_is)
    (case k7 => k_is)
    (case a8 => k_is)
    (case l8 => k_is)
    (case c8 => k_is)
    (case k8 => k_is)
    (case a9 => k_is)
    (case l9 => k_is)
    (case c9 => k_is)
    (case k9 => k_is)
    (case a10 => k_is)
    (case l10 => k_is)
    (case c10 => k_is)
    (case k10 => k_is)
    (case a11 => k_is)
    (case l11 => k_is)
    (case c11 => k_is)
    (case k11 => k_is)
    (case a12 => k_is)
    (case l12 => k_is)
    (case c12 => k_is)
    (case k12 => k_is)
    (case a13 => k_is)
    (case l13 => k_is)
    (case c13 => k_is)
    (case k13 => k_is)
    (case a14 => k_is)
    (case l14 => k_is)
    (case c14 => k_is)
    (case k14 => k_is)
    (case a15 => k_is)
    (case l15 => k_is)
    (case c15 => k_is)
    (case k15 => k_is)
    (case a16 => k_is)
    (case l16 => k_is)
    (case c16 => k_is)
    (case k16 => k_is)
    (case a17 => k_is)
    (case l17 => k_is)
    (case c17 => k_is)
    (case k17 => k_is)
    (case a18 => k_is)
    (case l18 => k_is)
    (case c18 => k_is)
    (case k18 => k_is)
    (case a19 => k_is)
    (case l19 => k_is)
    (case c19 => k_is)
    (case k19 => k_is)
    (case a20 => k_is)
    (case l20 => k_is)
    (case c20 => k_is)
    (case k20 => k_is)
    (case a21 => k_is)
    (case l21 => k_is)
    (case c21 => k_is)
    (case k21 => k_is)
    (case a22 => k_is)
    (case l22 => k_is)
    (case c22 => k_is)
    (case k22 => k_is)
    (case a23 => k_is)
    (case l23 => k_is)
    (case c23 => k_is)
    (case k23 => k_is)
    (case z_ValueError => k_is)
    (case z_all => k_is)
    (case z_bool => k_is)
    (case z_int => k_is)
    (case z_isinstance => k_is)
    (case z_len => k_is)
    (case z_list => k_is)
    (case z_range => k_is)
    (case z_str => k_is)
    (case z_tuple => k_is)
    (case g_DECIDERS => k_is)
    (case gl_DECIDERS => k_is)
    (case g_LEADS => k_is)
    (case gl_LEADS => k_is)
    (case g_MOST_ROW => k_is)
    (case g_SERVES => k_is)
    (case gl_SERVES => k_is)
    (case ec_BadRally => k_is)
    (case ex_BadRally => first | k_exc | k_is)
    (case ek_BadRally => k_is)
    (case eb_BadRally => k_is)
    (case et_BadRally => k_is)
    (case ec_BadRule => k_is)
    (case ex_BadRule => first | k_exc | k_is)
    (case ek_BadRule => k_is)
    (case eb_BadRule => k_is)
    (case et_BadRule => k_is)
    (case ec_BadText => k_is)
    (case ex_BadText => first | k_exc | k_is)
    (case ek_BadText => k_is)
    (case eb_BadText => k_is)
    (case et_BadText => k_is)
    (case ec_BadBoards => k_is)
    (case ec_BadNumber => k_is)
    (case ec_NotFound => k_is)
    (case ec_MatchError => k_is)
    (case mS => k_is)
    (case mD => k_is)
    (case mT => k_is)
    (case em_BadRule => k_is)
    (case xhg_BadRule => k_is)
    (case xhk_BadRule => k_is)
    (case xhs_BadRule => k_is)
    (case xhd_BadRule => k_is)
    (case xha_BadRule => k_is)
    (case xhm_BadRule => k_is)
    (case kb_BadRule => first | k_is | kit_is)
    (case kv_BadRule => first | k_is | kit_is)
    (case kk_BadRule_BadRule => first | k_is | kit_is)
    (case kk_BadRally_BadRule => first | k_is | kit_is)
    (case kk_BadBoards_BadRule => first | k_is | kit_is)
    (case kk_BadNumber_BadRule => first | k_is | kit_is)
    (case kk_BadText_BadRule => first | k_is | kit_is)
    (case kk_NotFound_BadRule => first | k_is | kit_is)
    (case em_BadRally => k_is)
    (case xhg_BadRally => k_is)
    (case xhk_BadRally => k_is)
    (case xhs_BadRally => k_is)
    (case xhd_BadRally => k_is)
    (case xha_BadRally => k_is)
    (case xhm_BadRally => k_is)
    (case kb_BadRally => first | k_is | kit_is)
    (case kv_BadRally => first | k_is | kit_is)
    (case kk_BadRule_BadRally => first | k_is | kit_is)
    (case kk_BadRally_BadRally => first | k_is | kit_is)
    (case kk_BadBoards_BadRally => first | k_is | kit_is)
    (case kk_BadNumber_BadRally => first | k_is | kit_is)
    (case kk_BadText_BadRally => first | k_is | kit_is)
    (case kk_NotFound_BadRally => first | k_is | kit_is)
    (case em_BadBoards => k_is)
    (case xhg_BadBoards => k_is)
    (case xhk_BadBoards => k_is)
    (case xhs_BadBoards => k_is)
    (case xhd_BadBoards => k_is)
    (case xha_BadBoards => k_is)
    (case xhm_BadBoards => k_is)
    (case kb_BadBoards => first | k_is | kit_is)
    (case kv_BadBoards => first | k_is | kit_is)
    (case kk_BadRule_BadBoards => first | k_is | kit_is)
    (case kk_BadRally_BadBoards => first | k_is | kit_is)
    (case kk_BadBoards_BadBoards => first | k_is | kit_is)
    (case kk_BadNumber_BadBoards => first | k_is | kit_is)
    (case kk_BadText_BadBoards => first | k_is | kit_is)
    (case kk_NotFound_BadBoards => first | k_is | kit_is)
    (case em_BadNumber => k_is)
    (case xhg_BadNumber => k_is)
    (case xhk_BadNumber => k_is)
    (case xhs_BadNumber => k_is)
    (case xhd_BadNumber => k_is)
    (case xha_BadNumber => k_is)
    (case xhm_BadNumber => k_is)
    (case kb_BadNumber => first | k_is | kit_is)
    (case kv_BadNumber => first | k_is | kit_is)
    (case kk_BadRule_BadNumber => first | k_is | kit_is)
    (case kk_BadRally_BadNumber => first | k_is | kit_is)
    (case kk_BadBoards_BadNumber => first | k_is | kit_is)
    (case kk_BadNumber_BadNumber => first | k_is | kit_is)
    (case kk_BadText_BadNumber => first | k_is | kit_is)
    (case kk_NotFound_BadNumber => first | k_is | kit_is)
    (case em_BadText => k_is)
    (case xhg_BadText => k_is)
    (case xhk_BadText => k_is)
    (case xhs_BadText => k_is)
    (case xhd_BadText => k_is)
    (case xha_BadText => k_is)
    (case xhm_BadText => k_is)
    (case kb_BadText => first | k_is | kit_is)
    (case kv_BadText => first | k_is | kit_is)
    (case kk_BadRule_BadText => first | k_is | kit_is)
    (case kk_BadRally_BadText => first | k_is | kit_is)
    (case kk_BadBoards_BadText => first | k_is | kit_is)
    (case kk_BadNumber_BadText => first | k_is | kit_is)
    (case kk_BadText_BadText => first | k_is | kit_is)
    (case kk_NotFound_BadText => first | k_is | kit_is)
    (case em_NotFound => k_is)
    (case xhg_NotFound => k_is)
    (case xhk_NotFound => k_is)
    (case xhs_NotFound => k_is)
    (case xhd_NotFound => k_is)
    (case xha_NotFound => k_is)
    (case xhm_NotFound => k_is)
    (case kb_NotFound => first | k_is | kit_is)
    (case kv_NotFound => first | k_is | kit_is)
    (case kk_BadRule_NotFound => first | k_is | kit_is)
    (case kk_BadRally_NotFound => first | k_is | kit_is)
    (case kk_BadBoards_NotFound => first | k_is | kit_is)
    (case kk_BadNumber_NotFound => first | k_is | kit_is)
    (case kk_BadText_NotFound => first | k_is | kit_is)
    (case kk_NotFound_NotFound => first | k_is | kit_is)
    (case xn => k_is)
    (case xt => k_is)
