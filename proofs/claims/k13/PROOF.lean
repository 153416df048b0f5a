import PyProof.Rows.All
import Wide.All
import OpenK.AllK
import Wide.FinOn
import HandS.ForMost
import HandS.ForExc
import HandS.EndBits
import HandS.Wide
import HandS.IsInst
import HandS.Style
import HandS.Flow
import HandS.Deep
import HandS.Zip
import KE.KeyNested
import HandS.ForDict
import HandS.TupAny
import HandS.TupMul
import HandS.ExcIs
import KE.KDictZip
import HandS.TupLen
import PyProof.Rows.TupDisplay
import HandS.Text
import HandS.RaiseMore
import HandS.CallLocal
import HandS.DictSubView
import PyProof.SumAny
import PyProof.DictMoreH
import KE.KDictLaws
import HandS.TupSets
import KE.SortData
import KE.KDictCopyH
import PyProof.Transfer
import KE.KDictPairs
import HandS.Conv
import KE.GoesComp
import HandS.NoneIn
import PyProof.SetRoads
import KE.GoesNew
import OpenK.KOps
import PySem.Challenge.RW_matchboards_k13_whole_tables
set_option Elab.async false
set_option linter.all false
set_option maxRecDepth 100000
set_option maxHeartbeats 4000000
namespace Mb
open PySem L2
abbrev D := PyData
def lim : Nat := 16000000
theorem lim_le : lim ≤ sizeLine := by decide
def small (n : Nat) : Bool := decide (n ≤ lim)
mutual
def nk : D → NestedKey
  | .int i => .num i
  | .tuple ds => .tup (nks ds)
  | _ => .none
def nks : List D → List NestedKey
  | [] => []
  | d :: ds => nk d :: nks ds
end
mutual
/-- what may stand in a key -/
def kin : D → Bool
  | .int _ => true
  | .none => true
  | .tuple ds => kins ds
  | _ => false
def kins : List D → Bool
  | [] => true
  | d :: ds => kin d && kins ds
end
mutual
def kdep : D → Nat
  | .tuple ds => kdeps ds + 1
  | _ => 0
def kdeps : List D → Nat
  | [] => 0
  | d :: ds => max (kdep d) (kdeps ds)
end
def tkey : D → Bool
  | .tuple ds => kins ds && decide (kdeps ds ≤ 7)
  | _ => false
def ikey : D → Bool
  | .int _ => true
  | _ => false
mutual
def h0 : NestedKey → Int
  | .none => reduceHash 0xFCA86420
  | .num i => hashInt i
  | .text _ => 0
  | .tup ks => reduceHash (Builtin.Tuple.tupleHashOf (h0s ks))
def h0s : List NestedKey → List Int
  | [] => []
  | k :: ks => h0 k :: h0s ks
end
def hD (d : D) : Int := h0 (nk d)
def lkD (kvs : List (D × D)) (k : D) : Option D := (kvs.find? fun p => PyData.eqv p.1 k).map (·.2)
def putD (kvs : List (D × D)) (k v : D) : List (D × D) := if (lkD kvs k).isSome then kvs.map (fun p => if PyData.eqv p.1 k then (p.1, v) else p) else kvs ++ [(k, v)]
/-- the object at a is o -/
def DicO (a : Addr) (o : Obj) : HO := .ext fun h => h.get? a = some o ∧ (a == sysModules) = false
def kindA (ks : List D) : Bool := ks.all tkey || ks.all ikey
/-- keys of one kind with k -/
def kindK (ks : List D) (k : D) : Bool := (ks.all tkey && tkey k) || (ks.all ikey && ikey k)
theorem tkey_kin {d : D} (h : tkey d = true) : kin d = true := by
  cases d with
  | tuple ds =>
    simp only [tkey, Bool.and_eq_true] at h
    simpa only [kin] using h.1
  | _ => cases h
mutual
/-- == of keys is equality -/
theorem eqv_kin : ∀ (d e : D), kin d = true → kin e = true → (PyData.eqv d e = true ↔ d = e)
  | .none, .none, _, _ => by simp [PyData.eqv]
  | .int i, .int j, _, _ => by simp [PyData.eqv]
  | .tuple xs, .tuple ys, h, k => by
    simp only [kin] at h k
    simp only [PyData.eqv, PyData.tuple.injEq]
    exact eqvs_kin xs ys h k
  | .none, .int _, _, _ => by simp [PyData.eqv]
  | .none, .tuple _, _, _ => by simp [PyData.eqv]
  | .int _, .none, _, _ => by simp [PyData.eqv]
  | .int _, .tuple _, _, _ => by simp [PyData.eqv]
  | .tuple _, .none, _, _ => by simp [PyData.eqv]
  | .tuple _, .int _, _, _ => by simp [PyData.eqv]
  | .bool _, _, h, _ => by simp [kin] at h
  | .str _, _, h, _ => by simp [kin] at h
  | .list _, _, h, _ => by simp [kin] at h
  | .dict _, _, h, _ => by simp [kin] at h
  | _, .bool _, _, h => by simp [kin] at h
  | _, .str _, _, h => by simp [kin] at h
  | _, .list _, _, h => by simp [kin] at h
  | _, .dict _, _, h => by simp [kin] at h
theorem eqvs_kin : ∀ (xs ys : List D), kins xs = true → kins ys = true → (PyData.eqvAll xs ys = true ↔ xs = ys)
  | [], [], _, _ => by simp [PyData.eqvAll]
  | [], _ :: _, _, _ => by simp [PyData.eqvAll]
  | _ :: _, [], _, _ => by simp [PyData.eqvAll]
  | x :: xs, y :: ys, h, k => by
    simp only [kins, Bool.and_eq_true] at h k
    simp only [PyData.eqvAll, Bool.and_eq_true, List.cons.injEq]
    rw [eqv_kin x y h.1 k.1, eqvs_kin xs ys h.2 k.2]
end
end Mb
set_option maxHeartbeats 4000000
namespace Mb
open PySem L2
inductive Tr (α : Type) where
  | ret (a : α)
  | exc (c : Nat)
  | bad
  | draw (n : Nat) (k : Nat → Tr α)
namespace Tr
variable {α β γ : Type}
def bind : Tr α → (α → Tr β) → Tr β
  | .ret a, f => f a
  | .exc c, _ => .exc c
  | .bad, _ => .bad
  | .draw n k, f => .draw n fun r => (k r).bind f
def all (P : α → Prop) (E : Nat → Prop) : Tr α → Prop
  | .ret a => P a
  | .exc c => E c
  | .bad => False
  | .draw n k => ∀ r, r < n → (k r).all P E
theorem all_bind {P : β → Prop} {E : Nat → Prop} {f : α → Tr β} : ∀ {t : Tr α}, (t.bind f).all P E → t.all (fun a => (f a).all P E) E
  | .ret _, h => h
  | .exc _, h => h
  | .bad, h => h
  | .draw _ _, h => fun r hr => all_bind (h r hr)
theorem all_mono {P P' : α → Prop} {E E' : Nat → Prop} (hp : ∀ a, P a → P' a) (he : ∀ c, E c → E' c) : ∀ {t : Tr α}, t.all P E → t.all P' E'
  | .ret a, h => hp a h
  | .exc c, h => he c h
  | .bad, h => h
  | .draw _ _, h => fun r hr => all_mono hp he (h r hr)
theorem bind_all {P : β → Prop} {E : Nat → Prop} {f : α → Tr β} : ∀ {t : Tr α}, t.all (fun a => (f a).all P E) E → (t.bind f).all P E
  | .ret _, h => h
  | .exc _, h => h
  | .bad, h => h
  | .draw _ _, h => fun r hr => bind_all (h r hr)
end Tr
open Classical in
noncomputable def mask (H : Hp) (M : Addr → Prop) : Hp := fun a => if M a then none else H a
theorem mask_in {H : Hp} {M : Addr → Prop} {a : Addr} (h : M a) : mask H M a = none := by unfold mask; rw [if_pos h]
theorem mask_out {H : Hp} {M : Addr → Prop} {a : Addr} (h : ¬ M a) : mask H M a = H a := by unfold mask; rw [if_neg h]
theorem mask_some {H : Hp} {M : Addr → Prop} {a : Addr} {o : HO} (h : mask H M a = some o) : ¬ M a ∧ H a = some o := by
  by_cases q : M a
  · rw [mask_in q] at h; cases h
  · rw [mask_out q] at h; exact ⟨q, h⟩
theorem mask_same {H H' : Hp} {M M' : Addr → Prop} (h : ∀ a o, ¬ M a → H a = some o → ¬ M' a ∧ H' a = some o) : Same (mask H M) (mask H' M') := fun a o e => by
  obtain ⟨n, e⟩ := mask_some e
  obtain ⟨n', e'⟩ := h a o n e
  rw [mask_out n']; exact e'
theorem mask_le (H : Hp) (M : Addr → Prop) : Same (mask H M) H := fun a o e => (mask_some e).2
theorem same_sqT {K : PySem.W.Frag} {H H' : Hp} {a : Addr} {xs : List V} (e : Same H H') (h : SqT K H a xs) : SqT K H' a xs := by
  rcases h with (h | ⟨o, h⟩) | h
  · exact .inl (.inl (e _ _ h))
  · exact .inl (.inr ⟨o, e _ _ h⟩)
  · exact .inr h
mutual
inductive Rep (K : PySem.W.Frag) (H : Hp) : V → D → Prop
  | non : Rep K H .non .none
  | bl (b : Bool) : Rep K H (.bl b) (.bool b)
  | int (i : Int) : Rep K H (.int i) (.int i)
  | str (x : Str) : Rep K H (.str x) (.str x)
  | lst {a : Addr} {xs : List V} {ds : List D} : H a = some (.lst xs) → RepAll K H xs ds → Rep K H (.ref a) (.list ds)
  | tup {a : Addr} {xs : List V} {ds : List D} : SqT K H a xs → RepAll K H xs ds → Rep K H (.ref a) (.tuple ds)
  | dic {a : Addr} {o : Obj} {es : Array DictEntry} {ep : Nat} {ks vs : List V} {dks dvs : List D} : H a = some (DicO a o) → o.ExactDict → o.data = .dict es ep → Vals ks (es.toList.map (·.key)) → Vals vs (es.toList.map (·.val)) → es.toList.map (·.hash) = dks.map hD → dks.Nodup → kindA dks = true → dks.length ≤ lim → RepAll K H ks dks → RepAll K H vs dvs → Rep K H (.ref a) (.dict (dks.zip dvs))
inductive RepAll (K : PySem.W.Frag) (H : Hp) : List V → List D → Prop
  | nil : RepAll K H [] []
  | cons {v : V} {vs : List V} {d : D} {ds : List D} : Rep K H v d → RepAll K H vs ds → RepAll K H (v :: vs) (d :: ds)
end
section
variable {K : PySem.W.Frag} {H H' : Hp}
mutual
theorem Rep.mono (s : Same H H') : ∀ {v : V} {d : D}, Rep K H v d → Rep K H' v d
  | _, _, .non => .non
  | _, _, .bl b => .bl b
  | _, _, .int i => .int i
  | _, _, .str x => .str x
  | _, _, .lst h r => .lst (s _ _ h) (RepAll.mono s r)
  | _, _, .tup h r => .tup (same_sqT s h) (RepAll.mono s r)
  | _, _, .dic h h1 h2 h3 h4 h5 h6 h7 h8 r r' => .dic (s _ _ h) h1 h2 h3 h4 h5 h6 h7 h8 (RepAll.mono s r) (RepAll.mono s r')
theorem RepAll.mono (s : Same H H') : ∀ {vs : List V} {ds : List D}, RepAll K H vs ds → RepAll K H' vs ds
  | _, _, .nil => .nil
  | _, _, .cons h r => .cons (Rep.mono s h) (RepAll.mono s r)
end
theorem RepAll.length : ∀ {vs : List V} {ds : List D}, RepAll K H vs ds → vs.length = ds.length
  | _, _, .nil => rfl
  | _, _, .cons _ r => by rw [List.length_cons, List.length_cons, r.length]
theorem RepAll.get : ∀ {vs : List V} {ds : List D} {i : Nat} {v : V}, RepAll K H vs ds → vs[i]? = some v → ∃ d, ds[i]? = some d ∧ Rep K H v d
  | _, _, _, _, .nil, e => by simp at e
  | _, _, 0, _, .cons h _, e => by simp at e; subst e; exact ⟨_, rfl, h⟩
  | _, _, i + 1, v, .cons _ r, e => by
    obtain ⟨d, h1, h2⟩ := RepAll.get (i := i) (v := v) r (by simpa using e)
    exact ⟨d, by simpa using h1, h2⟩
theorem RepAll.getD : ∀ {vs : List V} {ds : List D} {i : Nat} {d : D}, RepAll K H vs ds → ds[i]? = some d → ∃ v, vs[i]? = some v ∧ Rep K H v d
  | _, _, _, _, .nil, e => by simp at e
  | _, _, 0, _, .cons h _, e => by simp at e; subst e; exact ⟨_, rfl, h⟩
  | _, _, i + 1, d, .cons _ r, e => by
    obtain ⟨v, h1, h2⟩ := RepAll.getD (i := i) (d := d) r (by simpa using e)
    exact ⟨v, by simpa using h1, h2⟩
theorem RepAll.append : ∀ {vs ws : List V} {ds es : List D}, RepAll K H vs ds → RepAll K H ws es → RepAll K H (vs ++ ws) (ds ++ es)
  | _, _, _, _, .nil, s => s
  | _, _, _, _, .cons h r, s => .cons h (RepAll.append r s)
theorem RepAll.drop : ∀ {vs : List V} {ds : List D} (n : Nat), RepAll K H vs ds → RepAll K H (vs.drop n) (ds.drop n)
  | _, _, 0, r => r
  | _, _, _ + 1, .nil => .nil
  | _, _, n + 1, .cons _ r => RepAll.drop n r
theorem RepAll.take : ∀ {vs : List V} {ds : List D} (n : Nat), RepAll K H vs ds → RepAll K H (vs.take n) (ds.take n)
  | _, _, 0, _ => .nil
  | _, _, _ + 1, .nil => .nil
  | _, _, n + 1, .cons h r => .cons h (RepAll.take n r)
theorem RepAll.set {v : V} {d : D} (h : Rep K H v d) : ∀ {vs : List V} {ds : List D} (i : Nat), RepAll K H vs ds → RepAll K H (vs.set i v) (ds.set i d)
  | _, _, _, .nil => .nil
  | _, _, 0, .cons _ r => .cons h r
  | _, _, i + 1, .cons q r => .cons q (RepAll.set h i r)
theorem RepAll.replicate {vs : List V} {ds : List D} (r : RepAll K H vs ds) : ∀ n : Nat, RepAll K H (List.replicate n vs).flatten (List.replicate n ds).flatten
  | 0 => .nil
  | n + 1 => by
    rw [List.replicate_succ, List.replicate_succ, List.flatten_cons, List.flatten_cons]
    exact r.append (RepAll.replicate r n)
theorem RepAll.ints : ∀ {vs : List V} {ns : List Int}, RepAll K H vs (ns.map PyData.int) → vs = ns.map V.int
  | [], [], _ => rfl
  | _ :: _, [], h => by cases h
  | [], _ :: _, h => by cases h
  | v :: vs, n :: ns, h => by
    rw [List.map_cons] at h
    cases h with
    | cons h r =>
      cases h
      rw [RepAll.ints r]; rfl
theorem RepAll.bools : ∀ {vs : List V} {bs : List Bool}, RepAll K H vs (bs.map PyData.bool) → vs = bs.map V.bl
  | [], [], _ => rfl
  | _ :: _, [], h => by cases h
  | [], _ :: _, h => by cases h
  | v :: vs, n :: ns, h => by
    rw [List.map_cons] at h
    cases h with
    | cons h r =>
      cases h
      rw [RepAll.bools r]; rfl
mutual
theorem Rep.dp : ∀ {v : V} {d : D}, Rep K H v d → d.canLay0 = true → Dp K H v d
  | _, _, .non, _ => .non
  | _, _, .bl b, _ => .bl b
  | _, _, .int i, _ => .int i
  | _, _, .str x, _ => .str x
  | _, _, .lst h r, c => .lst (SqL.of h) (RepAll.dp r (by simpa only [PyData.canLay0] using c))
  | _, _, .tup h r, c => .tup h (RepAll.dp r (by simpa only [PyData.canLay0] using c))
  | _, _, .dic _ _ _ _ _ _ _ _ _ _ _, c => by simp only [PyData.canLay0] at c; exact absurd c (by decide)
theorem RepAll.dp : ∀ {vs : List V} {ds : List D}, RepAll K H vs ds → PyData.canLayAll0 ds = true → DpAll K H vs ds
  | _, _, .nil, _ => .nil
  | _, _, .cons h r, c => by
    simp only [PyData.canLayAll0, Bool.and_eq_true] at c
    exact .cons (Rep.dp h c.1) (RepAll.dp r c.2)
end
end
def EnR (K : PySem.W.Frag) (HM : Hp) (e : DictEntry) (p : D × D) : Prop := ∃ kv vv : V, RelV kv e.key ∧ RelV vv e.val ∧ Rep K HM kv p.1 ∧ Rep K HM vv p.2 ∧ e.hash = hD p.1
structure RDk (K : PySem.W.Frag) (HM : Hp) (o : Obj) (kvs : List (D × D)) : Prop where
  ex : o.ExactDict
  en : ∃ es ep, o.data = .dict es ep ∧ Paired (EnR K HM) es.toList kvs
  nd : (kvs.map (·.1)).Nodup
  kd : kindA (kvs.map (·.1)) = true
  le : kvs.length ≤ lim
theorem EnR.mono {K : PySem.W.Frag} {H H' : Hp} (s : Same H H') {e : DictEntry} {p : D × D} (r : EnR K H e p) : EnR K H' e p := by
  obtain ⟨kv, vv, a, b, c, d, e⟩ := r
  exact ⟨kv, vv, a, b, c.mono s, d.mono s, e⟩
theorem RDk.mono {K : PySem.W.Frag} {H H' : Hp} {o : Obj} {kvs : List (D × D)} (s : Same H H') (r : RDk K H o kvs) : RDk K H' o kvs := by
  obtain ⟨h1, ⟨es, ep, h2, h3⟩, h4, h5, h6⟩ := r
  exact ⟨h1, ⟨es, ep, h2, Paired.mapP h3 fun e p q => q.mono s⟩, h4, h5, h6⟩
theorem paired_split {K : PySem.W.Frag} {H : Hp} : ∀ {es : List DictEntry} {kvs : List (D × D)}, Paired (EnR K H) es kvs → ∃ ks vs : List V, Vals ks (es.map (·.key)) ∧ Vals vs (es.map (·.val)) ∧ es.map (·.hash) = (kvs.map (·.1)).map hD ∧ RepAll K H ks (kvs.map (·.1)) ∧ RepAll K H vs (kvs.map (·.2))
  | _, _, .nil => ⟨[], [], .nil, .nil, rfl, .nil, .nil⟩
  | _, _, .cons h t => by
    obtain ⟨kv, vv, a, b, c, d, e⟩ := h
    obtain ⟨ks, vs, h1, h2, h3, h4, h5⟩ := paired_split t
    exact ⟨kv :: ks, vv :: vs, .cons a h1, .cons b h2, by simp only [List.map_cons, e, h3], .cons c h4, .cons d h5⟩
theorem zip_maps {α β : Type} : ∀ (l : List (α × β)), (l.map (·.1)).zip (l.map (·.2)) = l
  | [] => rfl
  | a :: l => by simp only [List.map_cons, List.zip_cons_cons, zip_maps l]
theorem RDk.rep {K : PySem.W.Frag} {H : Hp} {a : Addr} {o : Obj} {kvs : List (D × D)} (h : H a = some (DicO a o)) (r : RDk K H o kvs) : Rep K H (.ref a) (.dict kvs) := by
  obtain ⟨h1, ⟨es, ep, h2, h3⟩, h4, h5, h6⟩ := r
  obtain ⟨ks, vs, q1, q2, q3, q4, q5⟩ := paired_split h3
  have := Rep.dic h h1 h2 q1 q2 q3 h4 h5 (by simpa using h6) q4 q5
  rw [zip_maps] at this
  exact this
/-- an object of the class at C at a, its dict at dx; it has r, k and two stores, at p and q, of which I1, I2 are true -/
structure Vol where
  a : Addr
  dx : Addr
  p : Addr
  q : Addr
  C : Addr
  K : PySem.W.Frag
  r : D
  k : D
  I1 : D → D → Prop
  I2 : D → D → Prop
/-- the list of draws at a, its numbers at n; the objects -/
structure Dl where
  dr : Option (Addr × Addr)
  vs : List Vol
def dlAll (δ : Dl) : List Addr := (match δ.dr with | some (a, n) => [a, n] | none => []) ++ δ.vs.flatMap fun v => [v.a, v.dx, v.p, v.q]
def dl (δ : Dl) (b : Addr) : Prop := b ∈ dlAll δ
def VolOk (M : Addr → Prop) (H : Hp) (v : Vol) : Prop := ∃ (vr vk : V) (o1 o2 : Obj) (kvs1 kvs2 : List (D × D)), H v.a = some (.ins v.C v.dx [("rule", vr), ("sight", vk), ("steps", .ref v.p), ("sets", .ref v.q)]) ∧ H v.dx = some (.own v.a) ∧ Rep v.K (mask H M) vr v.r ∧ Rep v.K (mask H M) vk v.k ∧
  H v.p = some (DicO v.p o1) ∧ RDk v.K (mask H M) o1 kvs1 ∧ (∀ e ∈ kvs1, v.I1 e.1 e.2) ∧ H v.q = some (DicO v.q o2) ∧ RDk v.K (mask H M) o2 kvs2 ∧ ∀ e ∈ kvs2, v.I2 e.1 e.2
structure DrOk (δ : Dl) (M : Addr → Prop) (H : Hp) : Prop where
  nd : (dlAll δ).Nodup
  dr : ∀ a n, δ.dr = some (a, n) → ∃ (c : Int) (ns : List Int), H a = some (.lst [.ref n, .int c]) ∧ 0 ≤ c ∧ H n = some (.lst (ns.map V.int)) ∧ 0 < ns.length ∧ ns.length ≤ 63
  vs : ∀ v ∈ δ.vs, VolOk M H v
structure Kx (δ : Dl) (M : Addr → Prop) (H H' : Hp) : Prop where
  keep : ∀ b o, H b = some o → ¬ dl δ b → H' b = some o
  dr : DrOk δ M H'
theorem dl_dr {δ : Dl} {a n : Addr} (h : δ.dr = some (a, n)) : dl δ a ∧ dl δ n := by
  unfold dl dlAll
  rw [h]
  exact ⟨List.mem_append_left _ List.mem_cons_self, List.mem_append_left _ (List.mem_cons_of_mem _ List.mem_cons_self)⟩
theorem dl_v {δ : Dl} {v : Vol} (h : v ∈ δ.vs) {b : Addr} (hb : b ∈ [v.a, v.dx, v.p, v.q]) : dl δ b := List.mem_append_right _ (List.mem_flatMap.mpr ⟨v, h, hb⟩)
theorem dl_cases {δ : Dl} {b : Addr} (h : dl δ b) : (∃ a n, δ.dr = some (a, n) ∧ (b = a ∨ b = n)) ∨ ∃ v ∈ δ.vs, b ∈ [v.a, v.dx, v.p, v.q] := by
  rcases List.mem_append.mp h with q | q
  · left
    cases e : δ.dr with
    | none => rw [e] at q; cases q
    | some p =>
      obtain ⟨a, n⟩ := p
      rw [e] at q
      refine ⟨a, n, rfl, ?_⟩
      simpa using q
  · exact .inr (List.mem_flatMap.mp q)
theorem dr_ne {δ : Dl} {M : Addr → Prop} {H : Hp} (d : DrOk δ M H) {a n : Addr} (h : δ.dr = some (a, n)) : a ≠ n := by
  have := d.nd
  unfold dlAll at this
  rw [h] at this
  have := (List.nodup_append.mp this).1
  simpa using this
/-- the parts of an object are its own -/
theorem VolOk.move {M M' : Addr → Prop} {H H' : Hp} {v : Vol} (h : VolOk M H v) (ms : Same (mask H M) (mask H' M')) (hk : ∀ b ∈ [v.a, v.dx, v.p, v.q], ∀ x, H b = some x → H' b = some x) : VolOk M' H' v := by
  obtain ⟨vr, vk, o1, o2, kvs1, kvs2, h1, h2, h3, h4, h5, h6, h7, h8, h9, h10⟩ := h
  exact ⟨vr, vk, o1, o2, kvs1, kvs2, hk _ (by simp) _ h1, hk _ (by simp) _ h2, h3.mono ms, h4.mono ms, hk _ (by simp) _ h5, h6.mono ms, h7, hk _ (by simp) _ h8, h9.mono ms, h10⟩
theorem DrOk.move {δ : Dl} {M M' : Addr → Prop} {H H' : Hp} (d : DrOk δ M H) (ms : Same (mask H M) (mask H' M')) (hk : ∀ b x, dl δ b → H b = some x → H' b = some x) : DrOk δ M' H' where
  nd := d.nd
  dr := fun a n e => by
    obtain ⟨c, ns, h1, h2, h3, h4⟩ := d.dr a n e
    exact ⟨c, ns, hk _ _ (dl_dr e).1 h1, h2, hk _ _ (dl_dr e).2 h3, h4⟩
  vs := fun v hv => (d.vs v hv).move ms fun b hb x => hk b x (dl_v hv hb)
theorem mask_w {H : Hp} {M M' : Addr → Prop} (h : ∀ a, M' a → M a) : Same (mask H M) (mask H M') := mask_same fun a _ n e => ⟨fun q => n (h a q), e⟩
/-- fewer things to stay off -/
theorem DrOk.weak {δ : Dl} {M M' : Addr → Prop} {H : Hp} (d : DrOk δ M H) (h : ∀ a, M' a → M a) : DrOk δ M' H := d.move (mask_w h) fun _ _ _ e => e
theorem Kx.weak {δ : Dl} {M M' : Addr → Prop} {H H' : Hp} (k : Kx δ M H H') (h : ∀ a, M' a → M a) : Kx δ M' H H' := ⟨k.keep, k.dr.weak h⟩
theorem Kx.trans {δ : Dl} {M M' : Addr → Prop} {H H1 H2 : Hp} (a : Kx δ M H H1) (b : Kx δ M' H1 H2) : Kx δ M' H H2 := ⟨fun c o e n => b.keep c o (a.keep c o e n) n, b.dr⟩
theorem Kx.refl {δ : Dl} {M : Addr → Prop} {H : Hp} (d : DrOk δ M H) : Kx δ M H H := ⟨fun _ _ e _ => e, d⟩
theorem mask_s {H H' : Hp} {M : Addr → Prop} (s : Same H H') : Same (mask H M) (mask H' M) := mask_same fun a _ n e => ⟨n, s a _ e⟩
theorem DrOk.same {δ : Dl} {M : Addr → Prop} {H H' : Hp} (d : DrOk δ M H) (s : Same H H') : DrOk δ M H' := d.move (mask_s s) fun b x _ e => s b x e
theorem Kx.of_same {δ : Dl} {M : Addr → Prop} {H H' : Hp} (d : DrOk δ M H) (s : Same H H') : Kx δ M H H' := ⟨fun b o e _ => s b o e, d.same s⟩
theorem DrOk.some {δ : Dl} {M : Addr → Prop} {H : Hp} (d : DrOk δ M H) {b : Addr} (h : dl δ b) : ∃ o, H b = some o := by
  rcases dl_cases h with ⟨a, n, e, q⟩ | ⟨v, hv, q⟩
  · obtain ⟨c, ns, h1, _, h3, _⟩ := d.dr a n e
    rcases q with rfl | rfl
    · exact ⟨_, h1⟩
    · exact ⟨_, h3⟩
  · obtain ⟨vr, vk, o1, o2, kvs1, kvs2, h1, h2, h3, h4, h5, h6, h7, h8, h9, h10⟩ := d.vs v hv
    simp only [List.mem_cons, List.not_mem_nil, or_false] at q
    rcases q with rfl | rfl | rfl | rfl
    · exact ⟨_, h1⟩
    · exact ⟨_, h2⟩
    · exact ⟨_, h5⟩
    · exact ⟨_, h8⟩
theorem Kx.free {δ : Dl} {M M' : Addr → Prop} {H H' : Hp} (k : Kx δ M H H') (d : DrOk δ M' H) {b : Addr} (h : H' b = none) : H b = none := by
  cases q : H b with
  | none => rfl
  | some o =>
    by_cases hd : dl δ b
    · obtain ⟨o', e⟩ := k.dr.some hd
      rw [e] at h; cases h
    · rw [k.keep b o q hd] at h; cases h
theorem same_new {H : Hp} {p : Addr} {o : HO} (h : H p = none) : Same H (upd H p o) := fun b x e => by
  rw [upd_ne (ne_of_none e h)]; exact e
/-- a new thing: nothing leads to it -/
theorem DrOk.new {δ : Dl} {M : Addr → Prop} {H : Hp} {p : Addr} {o : HO} (d : DrOk δ M H) (h : H p = none) : DrOk δ (fun a => M a ∨ a = p) (upd H p o) := d.move (mask_same fun a x n e => ⟨fun q => q.elim n (fun y => by rw [y, h] at e; cases e), same_new h a x e⟩) fun b x _ e => same_new h b x e
theorem Kx.newW {δ : Dl} {M : Addr → Prop} {H : Hp} {p : Addr} {o : HO} (d : DrOk δ M H) (h : H p = none) : Kx δ (fun a => M a ∨ a = p) H (upd H p o) := ⟨fun b x e _ => same_new h b x e, d.new h⟩
/-- a thing is changed that is to be stayed off -/
theorem DrOk.put {δ : Dl} {M : Addr → Prop} {H : Hp} {p : Addr} {o : HO} (d : DrOk δ M H) (hp : M p) (np : ¬ dl δ p) : DrOk δ M (upd H p o) := d.move (mask_same fun a x n e => ⟨n, by rw [upd_ne (fun z => n (by rw [z]; exact hp))]; exact e⟩) fun b x hb e => by
  rw [upd_ne (fun z => np (by rw [← z]; exact hb))]; exact e
/-- an exception object of the class C, kept -/
def ExT (C : Addr) (a : Addr) : HO := .ext fun h => ∃ (oe : Obj) (vs : Array Value), h.get? a = some oe ∧ Zc (.ref C) none oe ∧ oe.data = .fields vs
/-- an attribute: a value that is not the object's own, a list, a dict of its own -/
inductive Fld where
  | fz (d : D)
  | ow (ds : List D)
  | od (kvs : List (D × D))
/-- the numbers of classes and defs; what the hidden stores of an object may hold -/
structure CL where
  f : Nat → Addr
  J1 : D → D → List D → D → D → Prop
  J2 : D → D → List D → D → D → Prop
instance : CoeFun CL (fun _ => Nat → Addr) := ⟨CL.f⟩
inductive Ent where
  | un
  | fz (d : D)
  | ow (ds : List D)
  | od (kvs : List (D × D))
  | dr
  | ex (c : Nat)
  | fn (c : Nat)
  | ob (c : Nat) (fs : List (Str × Fld))
  | ll (dss : List (List D))
  | bo (c : Nat) (fs : List (Str × Fld))
  | vo (r k : D) (L : List D)
  | vp (r1 k1 : D) (L1 : List D) (r2 k2 : D) (L2 : List D)
  | om (c : Nat) (fs : List (Str × Fld))
/-- an object by its parts -/
structure OTok where
  a : Addr
  dx : Addr
  ps : List Addr
structure Fx where
  K : PySem.W.Frag
  cl : CL
  H0 : Hp
  O : Addr → Prop
  dt : Dl
  oin : ∀ a, O a → ∃ o, H0 a = some o
  odl : ∀ a, dl dt a → O a
  d0 : DrOk dt O H0
  tk : Option OTok
/-- what a slot owns: a thing, its parts -/
abbrev Own := Addr × List Addr
def inW (w : Own) (a : Addr) : Prop := a = w.1 ∨ a ∈ w.2
abbrev Ads := List (Option Own)
def Mm (F : Fx) (ad : Ads) (a : Addr) : Prop := F.O a ∨ ∃ w, some w ∈ ad ∧ inW w a
inductive FldsOk (K : PySem.W.Frag) (M H : Hp) : List Addr → List (Str × V) → List (Str × Fld) → Prop
  | nil : FldsOk K M H [] [] []
  | fz {n : Str} {v : V} {d : D} {ps : List Addr} {vs : List (Str × V)} {fs : List (Str × Fld)} : Rep K M v d → FldsOk K M H ps vs fs → FldsOk K M H ps ((n, v) :: vs) ((n, .fz d) :: fs)
  | ow {n : Str} {p : Addr} {xs : List V} {ds : List D} {ps : List Addr} {vs : List (Str × V)} {fs : List (Str × Fld)} : H p = some (.lst xs) → RepAll K M xs ds → FldsOk K M H ps vs fs → FldsOk K M H (p :: ps) ((n, .ref p) :: vs) ((n, .ow ds) :: fs)
  | od {n : Str} {p : Addr} {o : Obj} {kvs : List (D × D)} {ps : List Addr} {vs : List (Str × V)} {fs : List (Str × Fld)} : H p = some (DicO p o) → RDk K M o kvs → FldsOk K M H ps vs fs → FldsOk K M H (p :: ps) ((n, .ref p) :: vs) ((n, .od kvs) :: fs)
inductive LolOk (K : PySem.W.Frag) (M H : Hp) : List Addr → List (List D) → Prop
  | nil : LolOk K M H [] []
  | cons {p : Addr} {xs : List V} {ds : List D} {ps : List Addr} {dss : List (List D)} : H p = some (.lst xs) → RepAll K M xs ds → LolOk K M H ps dss → LolOk K M H (p :: ps) (ds :: dss)
theorem FldsOk.move {K : PySem.W.Frag} {M M' H H' : Hp} (ms : Same M M') {ps : List Addr} {vs : List (Str × V)} {fs : List (Str × Fld)} (h : FldsOk K M H ps vs fs) : (∀ p ∈ ps, ∀ x, H p = some x → H' p = some x) → FldsOk K M' H' ps vs fs := by
  induction h with
  | nil => intro _; exact .nil
  | fz r _ ih => intro k; exact .fz (r.mono ms) (ih k)
  | ow q r _ ih => intro k; exact .ow (k _ List.mem_cons_self _ q) (r.mono ms) (ih fun p hp => k p (List.mem_cons_of_mem _ hp))
  | od q r _ ih => intro k; exact .od (k _ List.mem_cons_self _ q) (r.mono ms) (ih fun p hp => k p (List.mem_cons_of_mem _ hp))
theorem FldsOk.has {K : PySem.W.Frag} {M H : Hp} {ps : List Addr} {vs : List (Str × V)} {fs : List (Str × Fld)} (h : FldsOk K M H ps vs fs) : ∀ p ∈ ps, ∃ x, H p = some x := by
  induction h with
  | nil => intro p hp; cases hp
  | fz r _ ih => exact ih
  | ow q r _ ih =>
    intro p hp
    rcases List.mem_cons.mp hp with z | z
    · subst z; exact ⟨_, q⟩
    · exact ih p z
  | od q r _ ih =>
    intro p hp
    rcases List.mem_cons.mp hp with z | z
    · subst z; exact ⟨_, q⟩
    · exact ih p z
theorem LolOk.move {K : PySem.W.Frag} {M M' H H' : Hp} (ms : Same M M') {ps : List Addr} {dss : List (List D)} (h : LolOk K M H ps dss) : (∀ p ∈ ps, ∀ x, H p = some x → H' p = some x) → LolOk K M' H' ps dss := by
  induction h with
  | nil => intro _; exact .nil
  | cons q r _ ih => intro k; exact .cons (k _ List.mem_cons_self _ q) (r.mono ms) (ih fun p hp => k p (List.mem_cons_of_mem _ hp))
theorem LolOk.has {K : PySem.W.Frag} {M H : Hp} {ps : List Addr} {dss : List (List D)} (h : LolOk K M H ps dss) : ∀ p ∈ ps, ∃ x, H p = some x := by
  induction h with
  | nil => intro p hp; cases hp
  | cons q r _ ih =>
    intro p hp
    rcases List.mem_cons.mp hp with z | z
    · subst z; exact ⟨_, q⟩
    · exact ih p z
def VolIs (F : Fx) (r k : D) (L : List D) (v : Vol) : Prop := v.K = F.K ∧ v.C = F.cl 60 ∧ v.r = r ∧ v.k = k ∧ v.I1 = F.cl.J1 r k L ∧ v.I2 = F.cl.J2 r k L
def EntOk (F : Fx) (ad : Ads) (H : Hp) (oa : Option Own) (sv : Option V) : Ent → Prop
  | .un => oa = none
  | .fz d => oa = none ∧ ∃ v, sv = some v ∧ Rep F.K (mask H (Mm F ad)) v d
  | .ow ds => ∃ a vs, oa = some (a, []) ∧ sv = some (.ref a) ∧ H a = some (.lst vs) ∧ RepAll F.K (mask H (Mm F ad)) vs ds
  | .od kvs => ∃ a o, oa = some (a, []) ∧ sv = some (.ref a) ∧ H a = some (DicO a o) ∧ RDk F.K (mask H (Mm F ad)) o kvs
  | .dr => oa = none ∧ ∃ a n, F.dt.dr = some (a, n) ∧ sv = some (.ref a)
  | .ex c => oa = none ∧ ∃ a, sv = some (.ref a) ∧ mask H (Mm F ad) a = some (ExT (F.cl c) a)
  | .fn c => oa = none ∧ sv = some (.ref (F.cl c))
  | .ob c fs => ∃ a dx ps vs, oa = some (a, dx :: ps) ∧ sv = some (.ref a) ∧ H a = some (.ins (F.cl c) dx vs) ∧ H dx = some (.own a) ∧ (a :: dx :: ps).Nodup ∧ FldsOk F.K (mask H (Mm F ad)) H ps vs fs
  | .ll dss => ∃ a ps, oa = some (a, ps) ∧ sv = some (.ref a) ∧ H a = some (.lst (ps.map V.ref)) ∧ (a :: ps).Nodup ∧ LolOk F.K (mask H (Mm F ad)) H ps dss
  | .bo c fs => oa = none ∧ ∃ a dx ps vs, sv = some (.ref a) ∧ ((∀ p, inW (a, dx :: ps) p → F.O p ∧ ¬ dl F.dt p) ∧ ∀ t, F.tk = some t → t = ⟨a, dx, ps⟩) ∧ H a = some (.ins (F.cl c) dx vs) ∧ H dx = some (.own a) ∧ (a :: dx :: ps).Nodup ∧ FldsOk F.K (mask H (Mm F ad)) H ps vs fs
  | .vo r k L => oa = none ∧ ∃ v ∈ F.dt.vs, v.K = F.K ∧ v.C = F.cl 60 ∧ v.r = r ∧ v.k = k ∧ v.I1 = F.cl.J1 r k L ∧ v.I2 = F.cl.J2 r k L ∧ sv = some (.ref v.a)
  | .vp r1 k1 L1 r2 k2 L2 => oa = none ∧ ∃ v1 ∈ F.dt.vs, ∃ v2 ∈ F.dt.vs, VolIs F r1 k1 L1 v1 ∧ VolIs F r2 k2 L2 v2 ∧ ∃ t, sv = some (.ref t) ∧ SqT F.K (mask H (Mm F ad)) t [.ref v1.a, .ref v2.a]
  | .om c fs => ∃ t ps vs, F.tk = some t ∧ oa = some (t.a, t.dx :: ps) ∧ sv = some (.ref t.a) ∧ H t.a = some (.ins (F.cl c) t.dx vs) ∧ H t.dx = some (.own t.a) ∧ (t.a :: t.dx :: ps).Nodup ∧ FldsOk F.K (mask H (Mm F ad)) H ps vs fs
theorem EntOk.move {F F' : Fx} {ad ad' : Ads} {H H' : Hp} {oa : Option Own} {sv : Option V} {e : Ent} (hK : F'.K = F.K) (hc : F'.cl = F.cl) (hd : F'.dt = F.dt) (ht : F'.tk = F.tk) (ms : Same (mask H (Mm F ad)) (mask H' (Mm F' ad'))) (hk : ∀ w a x, oa = some w → inW w a → H a = some x → H' a = some x) (ho : ∀ a, F.O a → F'.O a) (hb : ∀ a x, F.O a → ¬ dl F.dt a → H a = some x → H' a = some x) (q : EntOk F ad H oa sv e) : EntOk F' ad' H' oa sv e := by
  cases e with
  | un => exact q
  | fz d => obtain ⟨q1, v, q2, r⟩ := q; exact ⟨q1, v, q2, by rw [hK]; exact r.mono ms⟩
  | ow ds =>
    obtain ⟨a, vs, q1, q2, q3, r⟩ := q
    exact ⟨a, vs, q1, q2, hk _ _ _ q1 (.inl rfl) q3, by rw [hK]; exact r.mono ms⟩
  | od kvs =>
    obtain ⟨a, ob, q1, q2, q3, r⟩ := q
    exact ⟨a, ob, q1, q2, hk _ _ _ q1 (.inl rfl) q3, by rw [hK]; exact r.mono ms⟩
  | dr => obtain ⟨q1, a, n, q2, q3⟩ := q; exact ⟨q1, a, n, by rw [hd]; exact q2, q3⟩
  | ex c => obtain ⟨q1, a, q2, q3⟩ := q; exact ⟨q1, a, q2, by rw [hc]; exact ms _ _ q3⟩
  | fn c => obtain ⟨q1, q2⟩ := q; exact ⟨q1, by rw [hc]; exact q2⟩
  | ob c fs =>
    obtain ⟨a, dx, ps, vs, q1, q2, q3, q4, q5, q6⟩ := q
    exact ⟨a, dx, ps, vs, q1, q2, by rw [hc]; exact hk _ _ _ q1 (.inl rfl) q3, hk _ _ _ q1 (.inr List.mem_cons_self) q4, q5, by rw [hK]; exact q6.move ms fun p hp x => hk _ _ x q1 (.inr (List.mem_cons_of_mem _ hp))⟩
  | ll dss =>
    obtain ⟨a, ps, q1, q2, q3, q4, q5⟩ := q
    exact ⟨a, ps, q1, q2, hk _ _ _ q1 (.inl rfl) q3, q4, by rw [hK]; exact q5.move ms fun p hp x => hk _ _ x q1 (.inr hp)⟩
  | bo c fs =>
    obtain ⟨q1, a, dx, ps, vs, q2, ⟨q0, qt⟩, q3, q4, q5, q6⟩ := q
    exact ⟨q1, a, dx, ps, vs, q2, ⟨fun p hp => ⟨ho p (q0 p hp).1, by rw [hd]; exact (q0 p hp).2⟩, fun t e => qt t (by rw [← ht]; exact e)⟩, by rw [hc]; exact hb _ _ (q0 a (.inl rfl)).1 (q0 a (.inl rfl)).2 q3, hb _ _ (q0 dx (.inr List.mem_cons_self)).1 (q0 dx (.inr List.mem_cons_self)).2 q4, q5, by rw [hK]; exact q6.move ms fun p hp x => hb _ x (q0 p (.inr (List.mem_cons_of_mem _ hp))).1 (q0 p (.inr (List.mem_cons_of_mem _ hp))).2⟩
  | vo r k L =>
    obtain ⟨q1, v, q2, q3, q4, q5⟩ := q
    exact ⟨q1, v, by rw [hd]; exact q2, by rw [hK]; exact q3, by rw [hc]; exact q4, by rw [hc]; exact q5⟩
  | vp r1 k1 L1 r2 k2 L2 =>
    obtain ⟨q1, v1, m1, v2, m2, i1, i2, t, q2, q3⟩ := q
    exact ⟨q1, v1, by rw [hd]; exact m1, v2, by rw [hd]; exact m2, by unfold VolIs at i1 ⊢; rw [hK, hc]; exact i1, by unfold VolIs at i2 ⊢; rw [hK, hc]; exact i2, t, q2, by rw [hK]; exact same_sqT ms q3⟩
  | om c fs =>
    obtain ⟨t, ps, vs, q0, q1, q2, q3, q4, q5, q6⟩ := q
    exact ⟨t, ps, vs, by rw [ht]; exact q0, q1, q2, by rw [hc]; exact hk _ _ _ q1 (.inl rfl) q3, hk _ _ _ q1 (.inr List.mem_cons_self) q4, q5, by rw [hK]; exact q6.move ms fun p hp x => hk _ _ x q1 (.inr (List.mem_cons_of_mem _ hp))⟩
theorem EntOk.has {F : Fx} {ad : Ads} {H : Hp} {w : Own} {sv : Option V} {e : Ent} (q : EntOk F ad H (some w) sv e) {a : Addr} (h : inW w a) : ∃ x, H a = some x := by
  cases e with
  | un => cases q
  | fz d => cases q.1
  | ow ds =>
    obtain ⟨a', vs, r, _, r', _⟩ := q
    cases r
    rcases h with rfl | h
    · exact ⟨_, r'⟩
    · cases h
  | od kvs =>
    obtain ⟨a', vs, r, _, r', _⟩ := q
    cases r
    rcases h with rfl | h
    · exact ⟨_, r'⟩
    · cases h
  | dr => cases q.1
  | ex c => cases q.1
  | fn c => cases q.1
  | ob c fs =>
    obtain ⟨a', dx, ps, vs, r, q2, q3, q4, q5, q6⟩ := q
    cases r
    rcases h with rfl | h
    · exact ⟨_, q3⟩
    · rcases List.mem_cons.mp h with z | z
      · rw [z]; exact ⟨_, q4⟩
      · exact q6.has a z
  | ll dss =>
    obtain ⟨a', ps, r, q2, q3, q4, q5⟩ := q
    cases r
    rcases h with rfl | h
    · exact ⟨_, q3⟩
    · exact q5.has a h
  | bo c fs => cases q.1
  | vo r k L => cases q.1
  | vp _ _ _ _ _ _ => cases q.1
  | om c fs =>
    obtain ⟨t, ps, vs, q0, r, q2, q3, q4, q5, q6⟩ := q
    cases r
    rcases h with rfl | h
    · exact ⟨_, q3⟩
    · rcases List.mem_cons.mp h with z | z
      · rw [z]; exact ⟨_, q4⟩
      · exact q6.has a z
structure Ok (F : Fx) (B : Hp) (ad : Ads) (σ : St) (H : Hp) (env : List Ent) : Prop where
  hb : Same B (mask H (Mm F ad))
  k0 : Kx F.dt (Mm F ad) F.H0 H
  ls : σ.length = env.length
  la : ad.length = env.length
  ent : ∀ (i : Nat) oa sv e, ad[i]? = some oa → σ[i]? = some sv → env[i]? = some e → EntOk F ad H oa sv e
  inj : ∀ (i j : Nat) v w a, ad[i]? = some (some v) → ad[j]? = some (some w) → inW v a → inW w a → i = j
  new : ∀ (i : Nat) w a, ad[i]? = some (some w) → inW w a → F.H0 a = none
section
variable {F : Fx} {B : Hp} {ad : Ads} {σ : St} {H H' : Hp} {env : List Ent}
theorem Ok.at_ (o : Ok F B ad σ H env) {i : Nat} {e : Ent} (h : env[i]? = some e) : ∃ oa sv, ad[i]? = some oa ∧ σ[i]? = some sv ∧ EntOk F ad H oa sv e := by
  have hi : i < env.length := (List.getElem?_eq_some_iff.mp h).1
  have h1 : i < ad.length := by rw [o.la]; exact hi
  have h2 : i < σ.length := by rw [o.ls]; exact hi
  exact ⟨_, _, List.getElem?_eq_getElem h1, List.getElem?_eq_getElem h2, o.ent i _ _ e (List.getElem?_eq_getElem h1) (List.getElem?_eq_getElem h2) h⟩
theorem Ok.Msome (o : Ok F B ad σ H env) {a : Addr} (h : Mm F ad a) : ∃ x, H a = some x := by
  rcases h with h | ⟨w, h, hw⟩
  · by_cases q : dl F.dt a
    · exact o.k0.dr.some q
    · obtain ⟨x, e⟩ := F.oin a h
      exact ⟨x, o.k0.keep a x e q⟩
  · obtain ⟨i, hi, e⟩ := List.getElem_of_mem h
    have he : ad[i]? = some (some w) := by rw [List.getElem?_eq_getElem hi, e]
    have h2 : i < env.length := by rw [← o.la]; exact hi
    obtain ⟨oa, sv, e1, e2, q⟩ := o.at_ (List.getElem?_eq_getElem h2)
    rw [he] at e1; cases e1
    exact q.has hw
theorem Ok.notM (o : Ok F B ad σ H env) {p : Addr} (h : H p = none) : ¬ Mm F ad p := fun q => by
  obtain ⟨x, e⟩ := o.Msome q
  rw [h] at e; cases e
theorem Mm_dl (h : dl F.dt a) : Mm F ad a := .inl (F.odl a h)
theorem Ok.notdlW (o : Ok F B ad σ H env) {i : Nat} {w : Own} {a : Addr} (h : ad[i]? = some (some w)) (hw : inW w a) : ¬ dl F.dt a := fun q => by
  obtain ⟨x, e⟩ := F.oin a (F.odl a q)
  rw [o.new i w a h hw] at e; cases e
theorem Ok.notdl (o : Ok F B ad σ H env) {i : Nat} {a : Addr} {ps : List Addr} (h : ad[i]? = some (some (a, ps))) : ¬ dl F.dt a := o.notdlW h (.inl rfl)
theorem Ok.notOW (o : Ok F B ad σ H env) {i : Nat} {w : Own} {a : Addr} (h : ad[i]? = some (some w)) (hw : inW w a) : ¬ F.O a := fun q => by
  obtain ⟨x, e⟩ := F.oin a q
  rw [o.new i w a h hw] at e; cases e
theorem Mm_at {i : Nat} {w : Own} {a : Addr} (h : ad[i]? = some (some w)) (hw : inW w a) : Mm F ad a := .inr ⟨w, List.mem_of_getElem? h, hw⟩
/-- the heap has grown (the draws may have turned) -/
theorem Kx.msame {M : Addr → Prop} (k : Kx F.dt M H H') : Same (mask H (Mm F ad)) (mask H' (Mm F ad)) := mask_same fun a o n e => ⟨n, k.keep a o e fun q => n (Mm_dl q)⟩
theorem Ok.kx (o : Ok F B ad σ H env) (k : Kx F.dt (Mm F ad) H H') : Ok F B ad σ H' env where
  hb := o.hb.trans k.msame
  k0 := o.k0.trans k
  ls := o.ls
  la := o.la
  ent := fun i oa sv e h1 h2 h3 => (o.ent i oa sv e h1 h2 h3).move rfl rfl rfl rfl k.msame (fun w a x e1 e2 e3 => k.keep a x e3 (o.notdlW (by rw [h1, e1]) e2)) (fun _ q => q) fun a x _ n e => k.keep a x e n
  inj := o.inj
  new := o.new
theorem Ok.kO (o : Ok F B ad σ H env) : Kx F.dt F.O F.H0 H := o.k0.weak fun _ q => .inl q
/-- another, larger ground -/
theorem Ok.ground (o : Ok F B ad σ H env) : Ok F (mask H (Mm F ad)) ad σ H env := ⟨Same.refl _, o.k0, o.ls, o.la, o.ent, o.inj, o.new⟩
theorem Ok.base {B' : Hp} (o : Ok F B ad σ H env) (s : Same B' B) : Ok F B' ad σ H env := ⟨s.trans o.hb, o.k0, o.ls, o.la, o.ent, o.inj, o.new⟩
theorem Mm_setW {i : Nat} {a : Addr} {w : Own} (h : Mm F (ad.set i (some w)) a) : Mm F ad a ∨ inW w a := by
  rcases h with h | ⟨v, h, hv⟩
  · exact .inl (.inl h)
  · rcases List.mem_or_eq_of_mem_set h with q | q
    · exact .inl (.inr ⟨v, q, hv⟩)
    · cases q; exact .inr hv
theorem Mm_set {i : Nat} {a b : Addr} (h : Mm F (ad.set i (some (b, []))) a) : Mm F ad a ∨ a = b := by
  rcases Mm_setW h with q | q | q
  · exact .inl q
  · exact .inr q
  · cases q
theorem Mm_setN {i : Nat} {a : Addr} (h : Mm F (ad.set i none) a) : Mm F ad a := by
  rcases h with h | ⟨v, h, hv⟩
  · exact .inl h
  · rcases List.mem_or_eq_of_mem_set h with q | q
    · exact .inr ⟨v, q, hv⟩
    · cases q
theorem set_none {i j : Nat} {w : Own} (h : (ad.set i none)[j]? = some (some w)) : i ≠ j ∧ ad[j]? = some (some w) := by
  by_cases hj : i = j
  · subst hj
    have := (List.getElem?_eq_some_iff.mp h).1
    rw [List.getElem?_set_self (by simpa using this)] at h; cases h
  · rw [List.getElem?_set_ne hj] at h
    exact ⟨hj, h⟩
/-- a slot is said anew, its own thing forgotten -/
theorem Ok.setG {i : Nat} {σ' : St} {e' : Ent} (o : Ok F B ad σ H env) (hσ : σ'.length = σ.length) (hs : ∀ j, i ≠ j → σ'[j]? = σ[j]?) (hE : i < env.length → Same (mask H (Mm F ad)) (mask H (Mm F (ad.set i none))) → ∀ sv, σ'[i]? = some sv → EntOk F (ad.set i none) H none sv e') : Ok F B (ad.set i none) σ' H (env.set i e') := by
  have ms : Same (mask H (Mm F ad)) (mask H (Mm F (ad.set i none))) := mask_same fun a x n e => ⟨fun q => n (Mm_setN q), e⟩
  refine ⟨o.hb.trans ms, o.k0.weak fun a q => Mm_setN q, by simp [hσ, o.ls], by simp [o.la], fun j oa sv e h1 h2 h3 => ?_, fun j k v w a h1 h2 => o.inj j k v w a (set_none h1).2 (set_none h2).2, fun j w a h => o.new j w a (set_none h).2⟩
  by_cases hj : i = j
  · subst hj
    have hi : i < env.length := by
      have := (List.getElem?_eq_some_iff.mp h3).1
      simpa using this
    rw [List.getElem?_set_self (by rw [o.la]; exact hi)] at h1
    rw [List.getElem?_set_self hi] at h3
    cases h1; cases h3
    exact hE hi ms sv h2
  · rw [List.getElem?_set_ne hj] at h1 h3
    rw [hs j hj] at h2
    exact (o.ent j oa sv e h1 h2 h3).move rfl rfl rfl rfl ms (fun _ _ _ _ _ q => q) (fun _ q => q) fun _ _ _ _ q => q
/-- a slot is given a value that is not its own -/
theorem Ok.setFz {i : Nat} {v : V} {d : D} (o : Ok F B ad σ H env) (r : Rep F.K (mask H (Mm F ad)) v d) : Ok F B (ad.set i none) (σ.set i (some v)) H (env.set i (.fz d)) :=
  o.setG (by simp) (fun j hj => by rw [List.getElem?_set_ne hj]) fun hi ms sv e => by
    rw [List.getElem?_set_self (by rw [o.ls]; exact hi)] at e
    cases e
    exact ⟨rfl, v, rfl, r.mono ms⟩
theorem Ok.H0new (o : Ok F B ad σ H env) {p : Addr} (hn : H p = none) : F.H0 p = none := by
  cases q : F.H0 p with
  | none => rfl
  | some x =>
    by_cases z : dl F.dt p
    · obtain ⟨y, e⟩ := o.k0.dr.some z
      rw [hn] at e; cases e
    · rw [o.k0.keep p x q z] at hn; cases hn
/-- a slot is given a thing of its own: new -/
theorem Ok.setNewW {i : Nat} {w : Own} {sv' : V} {e' : Ent} (o : Ok F B ad σ H env) (k : Kx F.dt (fun a => Mm F ad a ∨ inW w a) H H') (hn : ∀ a, inW w a → H a = none) (hE : EntOk F (ad.set i (some w)) H' (some w) (some sv') e') :
    Ok F B (ad.set i (some w)) (σ.set i (some sv')) H' (env.set i e') := by
  have ms : Same (mask H (Mm F ad)) (mask H' (Mm F (ad.set i (some w)))) := mask_same fun a x n e => ⟨fun q => (Mm_setW q).elim n (fun z => by rw [hn a z] at e; cases e), k.keep a x e fun q => n (Mm_dl q)⟩
  have nin : ∀ j v a, inW w a → inW v a → ad[j]? ≠ some (some v) := fun j v a ha hv e => o.notM (hn a ha) (Mm_at e hv)
  refine ⟨o.hb.trans ms, (o.k0.trans k).weak fun a q => Mm_setW q, by simp [o.ls], by simp [o.la], fun j oa sv e h1 h2 h3 => ?_, fun j l u v a h1 h2 hu hv => ?_, fun j v a h hv => ?_⟩
  · by_cases hj : i = j
    · subst hj
      have hi : i < env.length := by
        have := (List.getElem?_eq_some_iff.mp h3).1
        simpa using this
      rw [List.getElem?_set_self (by rw [o.la]; exact hi)] at h1
      rw [List.getElem?_set_self (by rw [o.ls]; exact hi)] at h2
      rw [List.getElem?_set_self hi] at h3
      cases h1; cases h2; cases h3
      exact hE
    · rw [List.getElem?_set_ne hj] at h1 h2 h3
      exact (o.ent j oa sv e h1 h2 h3).move rfl rfl rfl rfl ms (fun v a x e1 e2 e3 => k.keep a x e3 (o.notdlW (by rw [h1, e1]) e2)) (fun _ q => q) fun a x _ n e => k.keep a x e n
  · by_cases hj : i = j
    · by_cases hl : i = l
      · exact hj.symm.trans hl
      · subst hj
        have := (List.getElem?_eq_some_iff.mp h1).1
        rw [List.getElem?_set_self (by simpa using this)] at h1; cases h1
        rw [List.getElem?_set_ne hl] at h2
        exact absurd h2 (nin l v a hu hv)
    · rw [List.getElem?_set_ne hj] at h1
      by_cases hl : i = l
      · subst hl
        have := (List.getElem?_eq_some_iff.mp h2).1
        rw [List.getElem?_set_self (by simpa using this)] at h2; cases h2
        exact absurd h1 (nin j u a hv hu)
      · rw [List.getElem?_set_ne hl] at h2
        exact o.inj j l u v a h1 h2 hu hv
  · by_cases hj : i = j
    · subst hj
      have := (List.getElem?_eq_some_iff.mp h).1
      rw [List.getElem?_set_self (by simpa using this)] at h; cases h
      exact o.H0new (hn a hv)
    · rw [List.getElem?_set_ne hj] at h; exact o.new j v a h hv
theorem Ok.setNew {i : Nat} {p : Addr} {e' : Ent} (o : Ok F B ad σ H env) (k : Kx F.dt (fun a => Mm F ad a ∨ a = p) H H') (hn : H p = none) (hE : EntOk F (ad.set i (some (p, []))) H' (some (p, [])) (some (.ref p)) e') :
    Ok F B (ad.set i (some (p, []))) (σ.set i (some (.ref p))) H' (env.set i e') := o.setNewW (k.weak fun a q => q.elim .inl fun z => .inr (z.elim id fun y => by cases y)) (fun a h => by
  rcases h with rfl | h
  · exact hn
  · cases h) hE
theorem Mm_new {i : Nat} {p : Addr} : Same (mask H' fun a => Mm F ad a ∨ a = p) (mask H' (Mm F (ad.set i (some (p, []))))) := mask_same fun a x n e => ⟨fun q => n (Mm_set q), e⟩
/-- .. a list -/
theorem Ok.setOw {i : Nat} {p : Addr} {vs : List V} {ds : List D} (o : Ok F B ad σ H env) (k : Kx F.dt (fun a => Mm F ad a ∨ a = p) H H') (hn : H p = none) (hp : H' p = some (.lst vs)) (r : RepAll F.K (mask H' fun a => Mm F ad a ∨ a = p) vs ds) :
    Ok F B (ad.set i (some (p, []))) (σ.set i (some (.ref p))) H' (env.set i (.ow ds)) := o.setNew k hn ⟨p, vs, rfl, rfl, hp, r.mono Mm_new⟩
/-- .. a dict -/
theorem Ok.setOd {i : Nat} {p : Addr} {ob : Obj} {kvs : List (D × D)} (o : Ok F B ad σ H env) (k : Kx F.dt (fun a => Mm F ad a ∨ a = p) H H') (hn : H p = none) (hp : H' p = some (DicO p ob)) (r : RDk F.K (mask H' fun a => Mm F ad a ∨ a = p) ob kvs) :
    Ok F B (ad.set i (some (p, []))) (σ.set i (some (.ref p))) H' (env.set i (.od kvs)) := o.setNew k hn ⟨p, ob, rfl, rfl, hp, r.mono Mm_new⟩
/-- an own thing, or a part of it, is changed -/
theorem Ok.putW {i : Nat} {w : Own} {p : Addr} {ob : HO} {e' : Ent} (o : Ok F B ad σ H env) (ha : ad[i]? = some (some w)) (hp : inW w p) (hE : Same (mask H (Mm F ad)) (mask (upd H p ob) (Mm F ad)) → ∀ sv, σ[i]? = some sv → EntOk F ad (upd H p ob) (some w) sv e') :
    Ok F B ad σ (upd H p ob) (env.set i e') := by
  have pm : Mm F ad p := Mm_at ha hp
  have me : ∀ a, mask (upd H p ob) (Mm F ad) a = mask H (Mm F ad) a := fun a => by
    by_cases q : Mm F ad a
    · rw [mask_in q, mask_in q]
    · rw [mask_out q, mask_out q, upd_ne (fun z => q (by rw [z]; exact pm))]
  have ms : Same (mask H (Mm F ad)) (mask (upd H p ob) (Mm F ad)) := fun a x e => (me a).trans e
  have k : Kx F.dt (Mm F ad) F.H0 (upd H p ob) := ⟨fun b x e n => by rw [upd_ne (ne_of_none e (o.new i w p ha hp))]; exact o.k0.keep b x e n, o.k0.dr.put pm (o.notdlW ha hp)⟩
  refine ⟨o.hb.trans ms, k, by simp [o.ls], by simp [o.la], fun j oa sv e h1 h2 h3 => ?_, o.inj, o.new⟩
  by_cases hj : i = j
  · subst hj
    have hi : i < env.length := by rw [← o.la]; exact (List.getElem?_eq_some_iff.mp ha).1
    rw [List.getElem?_set_self hi] at h3
    cases h3
    rw [ha] at h1; cases h1
    exact hE ms sv h2
  · rw [List.getElem?_set_ne hj] at h3
    refine (o.ent j oa sv e h1 h2 h3).move rfl rfl rfl rfl ms (fun v a x e1 e2 e3 => ?_) (fun _ q => q) fun a x q _ e => ?_
    · have ne : a ≠ p := fun z => hj (o.inj i j w v p ha (by rw [h1, e1]) hp (z ▸ e2))
      rw [upd_ne ne]; exact e3
    · have ne : a ≠ p := fun z => o.notOW ha hp (z ▸ q)
      rw [upd_ne ne]; exact e
theorem Ok.putNew {i : Nat} {p : Addr} {ob : HO} {e' : Ent} (o : Ok F B ad σ H env) (hs : σ[i]? = some (some (.ref p))) (ha : ad[i]? = some (some (p, []))) (hE : Same (mask H (Mm F ad)) (mask (upd H p ob) (Mm F ad)) → EntOk F ad (upd H p ob) (some (p, [])) (some (.ref p)) e') :
    Ok F B ad σ (upd H p ob) (env.set i e') := o.putW ha (.inl rfl) fun ms sv e => by
  rw [hs] at e; cases e
  exact hE ms
theorem Ok.putOw {i : Nat} {p : Addr} {ps : List Addr} {vs : List V} {ds ds0 : List D} (o : Ok F B ad σ H env) (he : env[i]? = some (.ow ds0)) (ha : ad[i]? = some (some (p, ps))) (r : RepAll F.K (mask H (Mm F ad)) vs ds) :
    Ok F B ad σ (upd H p (.lst vs)) (env.set i (.ow ds)) := by
  obtain ⟨oa, sv, e1, e2, a, ws, q1, q2, q3, _⟩ := o.at_ he
  subst q1 q2
  rw [ha] at e1; cases e1
  exact o.putNew e2 ha fun ms => ⟨p, vs, rfl, rfl, upd_same, r.mono ms⟩
/-- an own thing is no longer changed -/
theorem Ok.gone (o : Ok F B ad σ H env) {i : Nat} {w : Own} {a : Addr} (e1 : ad[i]? = some (some w)) (hw : inW w a) : ¬ Mm F (ad.set i none) a := fun q => by
  rcases q with q | ⟨v, q, hv⟩
  · exact o.notOW e1 hw q
  · obtain ⟨j, hj, e⟩ := List.getElem_of_mem q
    have e' : (ad.set i none)[j]? = some (some v) := by rw [List.getElem?_eq_getElem hj, e]
    obtain ⟨n, e'⟩ := set_none e'
    exact n (o.inj i j w v a e1 e' hw hv)
theorem Ok.freezeG {i : Nat} {a : Addr} {d : D} (o : Ok F B ad σ H env) (e1 : ad[i]? = some (some (a, []))) (e2 : σ[i]? = some (some (.ref a))) (hE : Same (mask H (Mm F ad)) (mask H (Mm F (ad.set i none))) → ¬ Mm F (ad.set i none) a → Rep F.K (mask H (Mm F (ad.set i none))) (.ref a) d) :
    Ok F B (ad.set i none) σ H (env.set i (.fz d)) := o.setG rfl (fun _ _ => rfl) fun hi ms sv e => by
  rw [e2] at e; cases e
  exact ⟨rfl, _, rfl, hE ms (o.gone e1 (.inl rfl))⟩
theorem Ok.freeze {i : Nat} {ds : List D} (o : Ok F B ad σ H env) (he : env[i]? = some (.ow ds)) : Ok F B (ad.set i none) σ H (env.set i (.fz (.list ds))) := by
  obtain ⟨oa, sv, e1, e2, q⟩ := o.at_ he
  obtain ⟨a, vs, rfl, rfl, q3, r⟩ := q
  exact o.freezeG e1 e2 fun ms na => .lst (by rw [mask_out na]; exact q3) (r.mono ms)
theorem Ok.freezeD {i : Nat} {kvs : List (D × D)} (o : Ok F B ad σ H env) (he : env[i]? = some (.od kvs)) : Ok F B (ad.set i none) σ H (env.set i (.fz (.dict kvs))) := by
  obtain ⟨oa, sv, e1, e2, q⟩ := o.at_ he
  obtain ⟨a, ob, rfl, rfl, q3, r⟩ := q
  exact o.freezeG e1 e2 fun ms na => (r.mono ms).rep (by rw [mask_out na]; exact q3)
end
end Mb
set_option maxHeartbeats 4000000
namespace Mb
open PySem L2
abbrev Envt := List Ent
def ofO {α : Type} : Option α → Tr α
  | some a => .ret a
  | none => .bad
/-- what is wanted of an exception of the class c -/
def EOk (F : Fx) (E : XK) (c : Nat) : Prop := ∀ H', Kx F.dt F.O F.H0 H' → E (.ref (F.cl c)) none H'
def Post (F : Fx) (ad : Ads) (H : Hp) (Q : VK) (d : D) : Prop := ∀ v H', Kx F.dt (Mm F ad) H H' → Rep F.K (mask H' (Mm F ad)) v d → Q v H'
def PostB (F : Fx) (ad : Ads) (H : Hp) (Q : VK) (d : D) : Prop := ∀ v H', Kx F.dt (Mm F ad) H H' → Rep F.K (mask H' F.O) v d → Q v H'
def PostN (F : Fx) (ad : Ads) (H : Hp) (Q : VK) (ds : List D) : Prop := ∀ p H' vs, Kx F.dt (fun a => Mm F ad a ∨ a = p) H H' → H p = none → H' p = some (.lst vs) → RepAll F.K (mask H' fun a => Mm F ad a ∨ a = p) vs ds → Q (.ref p) H'
def PostT (F : Fx) (ad : Ads) (H : Hp) (Q : Bool → Hp → Prop) (b : Bool) : Prop := ∀ H', Kx F.dt (Mm F ad) H H' → Q b H'
/-- an expression: its value is no list of a slot's own -/
def DE (cl : CL) (X : Cx) (E : XK) (e : Expr) (f : Envt → Tr D) : Prop := ∃ t, PE X e t ∧ ∀ (F : Fx) (B : Hp) (ad : Ads) (σ : St) (H : Hp) (env : Envt) (Q : VK), F.K = X.K → F.cl = cl → Ok F B ad σ H env →
  (f env).all (Post F ad H Q) (EOk F E) → t σ H Q
/-- .. it may be -/
def DB (cl : CL) (X : Cx) (E : XK) (e : Expr) (f : Envt → Tr D) : Prop := ∃ t, PE X e t ∧ ∀ (F : Fx) (B : Hp) (ad : Ads) (σ : St) (H : Hp) (env : Envt) (Q : VK), F.K = X.K → F.cl = cl → Ok F B ad σ H env →
  (f env).all (PostB F ad H Q) (EOk F E) → t σ H Q
/-- .. it is a new list -/
def DN (cl : CL) (X : Cx) (E : XK) (e : Expr) (f : Envt → Tr (List D)) : Prop := ∃ t, PE X e t ∧ ∀ (F : Fx) (B : Hp) (ad : Ads) (σ : St) (H : Hp) (env : Envt) (Q : VK), F.K = X.K → F.cl = cl → Ok F B ad σ H env →
  (f env).all (PostN F ad H Q) (EOk F E) → t σ H Q
def DT (cl : CL) (X : Cx) (E : XK) (e : Expr) (f : Envt → Tr Bool) : Prop := ∃ t, PT X e t ∧ ∀ (F : Fx) (B : Hp) (ad : Ads) (σ : St) (H : Hp) (env : Envt) (Q : Bool → Hp → Prop), F.K = X.K → F.cl = cl → Ok F B ad σ H env →
  (f env).all (PostT F ad H Q) (EOk F E) → t σ H Q
def DW (cl : CL) (X : Cx) (E : XK) (e : Expr) (f : Envt → Tr Bool) : Prop := ∃ t, PW X e t ∧ ∀ (F : Fx) (B : Hp) (ad : Ads) (σ : St) (H : Hp) (env : Envt) (Q : Bool → Hp → Prop), F.K = X.K → F.cl = cl → Ok F B ad σ H env →
  (f env).all (PostT F ad H Q) (EOk F E) → t σ H Q
/-- arguments: values, or the draws -/
def ArgOk (K : PySem.W.Frag) (cl : CL) (dt : Dl) (HM : Hp) (v : V) : Ent → Prop
  | .fz d => Rep K HM v d
  | .dr => ∃ a n, dt.dr = some (a, n) ∧ v = .ref a
  | .ex c => ∃ a, v = .ref a ∧ HM a = some (ExT (cl c) a)
  | .fn c => v = .ref (cl c)
  | .vo r k L => ∃ w ∈ dt.vs, w.K = K ∧ w.C = cl 60 ∧ w.r = r ∧ w.k = k ∧ w.I1 = cl.J1 r k L ∧ w.I2 = cl.J2 r k L ∧ v = .ref w.a
  | _ => False
inductive ArgsOk (K : PySem.W.Frag) (cl : CL) (dt : Dl) (HM : Hp) : List V → List Ent → Prop
  | nil : ArgsOk K cl dt HM [] []
  | cons {v : V} {vs : List V} {e : Ent} {es : List Ent} : ArgOk K cl dt HM v e → ArgsOk K cl dt HM vs es → ArgsOk K cl dt HM (v :: vs) (e :: es)
theorem ArgOk.mono {K : PySem.W.Frag} {cl : CL} {dt : Dl} {H H' : Hp} (s : Same H H') {v : V} {e : Ent} (h : ArgOk K cl dt H v e) : ArgOk K cl dt H' v e := by
  cases e with
  | fz d => exact Rep.mono s h
  | dr => exact h
  | ex c => obtain ⟨a, q1, q2⟩ := h; exact ⟨a, q1, s _ _ q2⟩
  | fn c => exact h
  | un => exact h
  | ow _ => exact h
  | od _ => exact h
  | ob _ _ => exact h
  | ll _ => exact h
  | bo _ _ => exact h
  | vo _ _ _ => exact h
  | vp _ _ _ _ _ _ => exact h
  | om _ _ => exact h
theorem ArgsOk.mono {K : PySem.W.Frag} {cl : CL} {dt : Dl} {H H' : Hp} (s : Same H H') : ∀ {vs : List V} {es : List Ent}, ArgsOk K cl dt H vs es → ArgsOk K cl dt H' vs es
  | _, _, .nil => .nil
  | _, _, .cons h r => .cons (h.mono s) (ArgsOk.mono s r)
theorem ArgsOk.length {K : PySem.W.Frag} {cl : CL} {dt : Dl} {H : Hp} : ∀ {vs : List V} {es : List Ent}, ArgsOk K cl dt H vs es → vs.length = es.length
  | _, _, .nil => rfl
  | _, _, .cons _ r => by rw [List.length_cons, List.length_cons, r.length]
def PostA (F : Fx) (ad : Ads) (H : Hp) (Q : List V → Hp → Prop) (es : List Ent) : Prop := ∀ vs H', Kx F.dt (Mm F ad) H H' → ArgsOk F.K F.cl F.dt (mask H' (Mm F ad)) vs es → Q vs H'
def DA (cl : CL) (X : Cx) (E : XK) (es : List Expr) (f : Envt → Tr (List Ent)) : Prop := ∃ t, PA X es t ∧ ∀ (F : Fx) (B : Hp) (ad : Ads) (σ : St) (H : Hp) (env : Envt) (Q : List V → Hp → Prop), F.K = X.K → F.cl = cl → Ok F B ad σ H env →
  (f env).all (PostA F ad H Q) (EOk F E) → t σ H Q
section
variable {cl : CL} {X : Cx} {E : XK} {e a b c : Expr} {f g h : Envt → Tr D} {pos : Pos}
theorem mm_O {F : Fx} (ad : Ads) (H : Hp) : Same (mask H (Mm F ad)) (mask H F.O) := mask_same fun a x n e => ⟨fun q => n (.inl q), e⟩
theorem kxO {F : Fx} {M : Addr → Prop} {H H' : Hp} (k : Kx F.dt M H H') : Same (mask H F.O) (mask H' F.O) := mask_same fun a o n e => ⟨n, k.keep a o e fun q => n (F.odl a q)⟩
theorem DE.db (q : DE cl X E e f) : DB cl X E e f := by
  obtain ⟨t, p, r⟩ := q
  exact ⟨t, p, fun F B ad σ H env Q hk hc o k => r F B ad σ H env Q hk hc o (Tr.all_mono (fun d z v H' kx rp => z v H' kx (rp.mono (mm_O _ _))) (fun _ z => z) k)⟩
theorem Ok.nm {F : Fx} {B : Hp} {ad : Ads} {σ : St} {H H' : Hp} {env : Envt} (o : Ok F B ad σ H env) (k : Kx F.dt (Mm F ad) H H') {p : Addr} (h : H' p = none) : ¬ Mm F ad p := (o.kx k).notM h
theorem DN.de {f : Envt → Tr (List D)} (q : DN cl X E e f) : DE cl X E e (fun env => (f env).bind fun ds => .ret (.list ds)) := by
  obtain ⟨t, p, r⟩ := q
  refine ⟨t, p, fun F B ad σ H env Q hk hc o k => r F B ad σ H env Q hk hc o (Tr.all_mono (fun ds z p H' vs kx hn hp rp => z _ H' (kx.weak fun _ q => .inl q) ?_) (fun _ z => z) (Tr.all_bind k))⟩
  refine .lst (by rw [mask_out (o.notM hn)]; exact hp) (rp.mono (mask_same fun a x n e => ⟨fun m => n (.inl m), e⟩))
def vVar (i : Nat) : Envt → Tr D := fun env => match env[i]? with
  | some (.fz d) => .ret d
  | _ => .bad
def vBor (i : Nat) : Envt → Tr D := fun env => match env[i]? with
  | some (.fz d) => .ret d
  | some (.ow ds) => .ret (.list ds)
  | some (.od kvs) => .ret (.dict kvs)
  | _ => .bad
def vC (d : D) : Envt → Tr D := fun _ => .ret d
theorem de_var (i : Nat) {x : Str} (hN : X.N[i]? = some x := by rfl) (hv : Vis X.env.scope x := by first | exact Or.inl rfl | exact Or.inr (Or.inl rfl) | exact Or.inr (Or.inr rfl)) (hd : (x == ("__debug__" : Str)) = false := by decide)
    (hcd : (x == ("__classdict__" : Str)) = false := by decide) : DE cl X E (.Name x pos) (vVar i) := by
  refine ⟨_, pe_var (i := i) hN hv hd hcd, fun F B ad σ H env Q hk hc o k => ?_⟩
  unfold vVar at k
  split at k
  · rename_i d he
    obtain ⟨oa, sv, e1, e2, q1, v, rfl, r⟩ := o.at_ he
    exact ⟨v, e2, k v H (Kx.refl o.k0.dr) r⟩
  · exact k.elim
theorem de_c {t : TE} {v : V} {d : D} (p : PE X e (tC v)) (r : ∀ H, Rep X.K H v d) : DE cl X E e (vC d) :=
  ⟨_, p, fun F B ad σ H env Q hk hc o k => k v H (Kx.refl o.k0.dr) (by rw [hk]; exact r _)⟩
theorem de_int {i : Int} {j : Nat} : DE cl X E (.Constant (.int i) j pos) (vC (.int i)) := de_c (t := tC .non) pe_int fun _ => .int i
theorem de_bl {i : Bool} {j : Nat} : DE cl X E (.Constant (.bool i) j pos) (vC (.bool i)) := de_c (t := tC .non) pe_bl fun _ => .bl i
theorem de_non {j : Nat} : DE cl X E (.Constant .none j pos) (vC .none) := de_c (t := tC .non) pe_non fun _ => .non
theorem de_str {i : Str} {j : Nat} : DE cl X E (.Constant (.str i) j pos) (vC (.str i)) := de_c (t := tC .non) pe_str fun _ => .str i
theorem de_glob {x : Str} {v : V} {u : Value} {d : D} (hm : X.mg x = some u) (r : RelV v u) (q : ∀ H, Rep X.K H v d) (hg : Gl X x := by rfl) (hd : (x == ("__debug__" : Str)) = false := by decide) : DE cl X E (.Name x pos) (vC d) :=
  de_c (t := tC .non) (pe_glob hg hm r hd) q
/-- the reading r of two values computes f -/
def Sem2 (K : PySem.W.Frag) (r : R2) (f : D → D → Option D) : Prop := ∀ (dt : Dl) (M : Addr → Prop) (H : Hp) (x y : V) (d e z : D) (Q : VK), DrOk dt M H → (∀ a, dl dt a → M a) → (∀ p, H p = none → ¬ M p) → Rep K (mask H M) x d → Rep K (mask H M) y e → f d e = some z →
  (∀ v H', Kx dt M H H' → Rep K (mask H' M) v z → Q v H') → r x y H Q
def SemB (K : PySem.W.Frag) (r : R2) (f : D → D → Option D) : Prop := ∀ (H : Hp) (x y : V) (d e z : D) (Q : VK), Rep K H x d → Rep K H y e → f d e = some z → (∀ v, (∀ H, Rep K H v z) → Q v H) → r x y H Q
def v2 (op : D → D → Option D) (f g : Envt → Tr D) : Envt → Tr D := fun env => (f env).bind fun x => (g env).bind fun y => ofO (op x y)
theorem opr_or {fn : Value → Value → Sem Value} {r r' : R2} (h : OpR X fn r) (h' : OpR X fn r') : OpR X fn (fun x y H Q => r x y H Q ∨ r' x y H Q) := by
  intro pins s σ H x y v u Q I rx ry q
  rcases q with q | q
  · exact h pins s σ H x y v u Q I rx ry q
  · exact h' pins s σ H x y v u Q I rx ry q
theorem two_core {r : R2} {op : D → D → Option D} {ta tb : TE} (hr : Sem2 X.K r op)
    (ra : ∀ (F : Fx) (B : Hp) (ad : Ads) (σ : St) (H : Hp) (env : Envt) (Q : VK), F.K = X.K → F.cl = cl → Ok F B ad σ H env → (f env).all (Post F ad H Q) (EOk F E) → ta σ H Q)
    (rb : ∀ (F : Fx) (B : Hp) (ad : Ads) (σ : St) (H : Hp) (env : Envt) (Q : VK), F.K = X.K → F.cl = cl → Ok F B ad σ H env → (g env).all (Post F ad H Q) (EOk F E) → tb σ H Q)
    {F : Fx} {B : Hp} {ad : Ads} {σ : St} {H : Hp} {env : Envt} {Q : VK} (hk : F.K = X.K) (hc : F.cl = cl) (o : Ok F B ad σ H env) (k : (v2 op f g env).all (Post F ad H Q) (EOk F E)) : tOp r ta tb σ H Q := by
  refine ra F B ad σ H env _ hk hc o (Tr.all_mono (fun d z x H1 k1 rx => ?_) (fun _ z => z) (Tr.all_bind k))
  refine rb F B ad σ H1 env _ hk hc (o.kx k1) (Tr.all_mono (fun e z y H2 k2 ry => ?_) (fun _ z => z) (Tr.all_bind z))
  cases hz : op d e with
  | none => rw [hz] at z; exact z.elim
  | some w =>
    rw [hz] at z
    refine hr F.dt (Mm F ad) H2 x y d e w Q k2.dr (fun a q => Mm_dl q) (fun p hp => ((o.kx k1).kx k2).notM hp) ?_ ?_ hz (fun v H' k3 rv => z v H' (k1.trans (k2.trans k3)) (by rw [hk]; exact rv))
    · rw [← hk]; exact rx.mono k2.msame
    · rw [← hk]; exact ry
theorem twoB_core {r : R2} {op : D → D → Option D} {ta tb : TE} (hr : SemB X.K r op)
    (ra : ∀ (F : Fx) (B : Hp) (ad : Ads) (σ : St) (H : Hp) (env : Envt) (Q : VK), F.K = X.K → F.cl = cl → Ok F B ad σ H env → (f env).all (PostB F ad H Q) (EOk F E) → ta σ H Q)
    (rb : ∀ (F : Fx) (B : Hp) (ad : Ads) (σ : St) (H : Hp) (env : Envt) (Q : VK), F.K = X.K → F.cl = cl → Ok F B ad σ H env → (g env).all (PostB F ad H Q) (EOk F E) → tb σ H Q)
    {F : Fx} {B : Hp} {ad : Ads} {σ : St} {H : Hp} {env : Envt} {Q : VK} (hk : F.K = X.K) (hc : F.cl = cl) (o : Ok F B ad σ H env) (k : (v2 op f g env).all (Post F ad H Q) (EOk F E)) : tOp r ta tb σ H Q := by
  refine ra F B ad σ H env _ hk hc o (Tr.all_mono (fun d z x H1 k1 rx => ?_) (fun _ z => z) (Tr.all_bind k))
  refine rb F B ad σ H1 env _ hk hc (o.kx k1) (Tr.all_mono (fun e z y H2 k2 ry => ?_) (fun _ z => z) (Tr.all_bind z))
  cases hz : op d e with
  | none => rw [hz] at z; exact z.elim
  | some w =>
    rw [hz] at z
    refine hr H2 x y d e w Q ?_ ?_ hz (fun v rv => z v H2 (k1.trans k2) (by rw [hk]; exact rv _))
    · rw [← hk]; exact (rx.mono (kxO k2)).mono (mask_le _ _)
    · rw [← hk]; exact ry.mono (mask_le _ _)
theorem de_bin {o : Operator} {r : R2} {op : D → D → Option D} (ho : OpR X (binaryOp o) r) (hr : Sem2 X.K r op) (ha : DE cl X E a f) (hb : DE cl X E b g) : DE cl X E (.BinOp a o b pos) (v2 op f g) := by
  obtain ⟨ta, pa, ra⟩ := ha
  obtain ⟨tb, pb, rb⟩ := hb
  exact ⟨_, pe_op ho pa pb, fun F B ad σ H env Q hk hc o k => two_core hr ra rb hk hc o k⟩
theorem de_cmpB {o : CmpOp} {r : R2} {op : D → D → Option D} (ho : OpR X (compareOp o) r) (hr : SemB X.K r op) (ha : DB cl X E a f) (hb : DB cl X E b g) (hm : behindInMarks o b = false) : DE cl X E (.Compare a [o] [b] pos) (v2 op f g) := by
  obtain ⟨ta, pa, ra⟩ := ha
  obtain ⟨tb, pb, rb⟩ := hb
  exact ⟨_, pe_cmpR ho pa pb hm, fun F B ad σ H env Q hk hc o k => twoB_core hr ra rb hk hc o k⟩
/-- a value that is True or False -/
def asB : D → Option Bool
  | .bool b => some b
  | _ => none
def vT (f : Envt → Tr D) : Envt → Tr Bool := fun env => (f env).bind fun d => ofO (asB d)
theorem tt_core {ta : TE} (ra : ∀ (F : Fx) (B : Hp) (ad : Ads) (σ : St) (H : Hp) (env : Envt) (Q : VK), F.K = X.K → F.cl = cl → Ok F B ad σ H env → (f env).all (Post F ad H Q) (EOk F E) → ta σ H Q)
    {F : Fx} {B : Hp} {ad : Ads} {σ : St} {H : Hp} {env : Envt} {Q : Bool → Hp → Prop} (hk : F.K = X.K) (hc : F.cl = cl) (o : Ok F B ad σ H env) (k : (vT f env).all (PostT F ad H Q) (EOk F E)) : tTest ta σ H Q := by
  refine ra F B ad σ H env _ hk hc o (Tr.all_mono (fun d z x H1 k1 rx => ?_) (fun _ z => z) (Tr.all_bind k))
  cases d with
  | bool b =>
    cases rx
    exact ⟨b, rfl, z H1 k1⟩
  | _ => exact z.elim
theorem dt_cmpB {o : CmpOp} {r : R2} {op : D → D → Option D} (ho : OpR X (compareOp o) r) (hr : SemB X.K r op) (ha : DB cl X E a f) (hb : DB cl X E b g) (hm : behindInMarks o b = false) : DT cl X E (.Compare a [o] [b] pos) (vT (v2 op f g)) := by
  obtain ⟨ta, pa, ra⟩ := ha
  obtain ⟨tb, pb, rb⟩ := hb
  exact ⟨_, pt_cmpR ho pa pb hm, fun F B ad σ H env Q hk hc o k => tt_core (cl := cl) (fun F B ad σ H env Q hk hc o k => twoB_core hr ra rb hk hc o k) hk hc o k⟩
theorem dt_val (ha : DE cl X E a f) (he : ∀ whole, isTrue a X.env whole = (do let v ← whole; standAt a.pos; holding [v] (truthy v)) := by intro _; rfl) : DT cl X E a (vT f) := by
  obtain ⟨ta, pa, ra⟩ := ha
  exact ⟨_, pt_val pa he, fun F B ad σ H env Q hk hc o k => tt_core (cl := cl) ra hk hc o k⟩
def bAnd (f g : Envt → Tr Bool) : Envt → Tr Bool := fun env => (f env).bind fun x => if x then g env else .ret false
def bOr (f g : Envt → Tr Bool) : Envt → Tr Bool := fun env => (f env).bind fun x => if x then .ret true else g env
def bNot (f : Envt → Tr Bool) : Envt → Tr Bool := fun env => (f env).bind fun x => .ret (!x)
theorem DW.dt {f : Envt → Tr Bool} (h : DW cl X E e f) : DT cl X E e f := by
  obtain ⟨t, p, r⟩ := h
  exact ⟨t, p.pt, r⟩
theorem dw_and1 {f : Envt → Tr Bool} (h : DT cl X E a f) : DW cl X E (.BoolOp .And [a] pos) f := by
  obtain ⟨t, p, r⟩ := h
  exact ⟨t, pw_and1 p, r⟩
theorem dw_or1 {f : Envt → Tr Bool} (h : DT cl X E a f) : DW cl X E (.BoolOp .Or [a] pos) f := by
  obtain ⟨t, p, r⟩ := h
  exact ⟨t, pw_or1 p, r⟩
theorem dw_and {rest : List Expr} {f g : Envt → Tr Bool} (ha : DT cl X E a f) (hb : DW cl X E (.BoolOp .And (b :: rest) pos) g) : DW cl X E (.BoolOp .And (a :: b :: rest) pos) (bAnd f g) := by
  obtain ⟨t, p, r⟩ := ha
  obtain ⟨u, q, s⟩ := hb
  refine ⟨_, pw_and p q, fun F B ad σ H env Q hk hc o k => ?_⟩
  refine r F B ad σ H env _ hk hc o (Tr.all_mono (fun x z H1 k1 => ?_) (fun _ z => z) (Tr.all_bind k))
  cases x with
  | true => exact iteT (s F B ad σ H1 env Q hk hc (o.kx k1) (Tr.all_mono (fun y z H2 k2 => z H2 (k1.trans k2)) (fun _ z => z) z))
  | false => exact iteF (z H1 k1)
theorem dw_or {rest : List Expr} {f g : Envt → Tr Bool} (ha : DT cl X E a f) (hb : DW cl X E (.BoolOp .Or (b :: rest) pos) g) : DW cl X E (.BoolOp .Or (a :: b :: rest) pos) (bOr f g) := by
  obtain ⟨t, p, r⟩ := ha
  obtain ⟨u, q, s⟩ := hb
  refine ⟨_, pw_or p q, fun F B ad σ H env Q hk hc o k => ?_⟩
  refine r F B ad σ H env _ hk hc o (Tr.all_mono (fun x z H1 k1 => ?_) (fun _ z => z) (Tr.all_bind k))
  cases x with
  | true => exact iteT (z H1 k1)
  | false => exact iteF (s F B ad σ H1 env Q hk hc (o.kx k1) (Tr.all_mono (fun y z H2 k2 => z H2 (k1.trans k2)) (fun _ z => z) z))
theorem dt_not {f : Envt → Tr Bool} (ha : DT cl X E a f) : DT cl X E (.UnaryOp .Not a pos) (bNot f) := by
  obtain ⟨t, p, r⟩ := ha
  refine ⟨_, pt_not p, fun F B ad σ H env Q hk hc o k => ?_⟩
  exact r F B ad σ H env _ hk hc o (Tr.all_mono (fun x z H1 k1 => z H1 k1) (fun _ z => z) (Tr.all_bind k))
/-- values that are True or False -/
def vAnd (f g : Envt → Tr D) : Envt → Tr D := fun env => (f env).bind fun x => (ofO (asB x)).bind fun x => if x then g env else .ret (.bool false)
def vOr (f g : Envt → Tr D) : Envt → Tr D := fun env => (f env).bind fun x => (ofO (asB x)).bind fun x => if x then .ret (.bool true) else g env
def vNot (f : Envt → Tr D) : Envt → Tr D := fun env => (f env).bind fun x => (ofO (asB x)).bind fun x => .ret (.bool !x)
theorem de_one {op : BoolOp} (h : DE cl X E a f) : DE cl X E (.BoolOp op [a] pos) f := by
  obtain ⟨t, p, r⟩ := h
  exact ⟨t, pe_one p, r⟩
theorem de_and {rest : List Expr} (ha : DE cl X E a f) (hb : DE cl X E (.BoolOp .And (b :: rest) pos) g) : DE cl X E (.BoolOp .And (a :: b :: rest) pos) (vAnd f g) := by
  obtain ⟨t, p, r⟩ := ha
  obtain ⟨u, q, s⟩ := hb
  refine ⟨_, pe_and p q, fun F B ad σ H env Q hk hc o k => ?_⟩
  refine r F B ad σ H env _ hk hc o (Tr.all_mono (fun d z x H1 k1 rx => ?_) (fun _ z => z) (Tr.all_bind k))
  cases d with
  | bool b =>
    cases rx
    refine ⟨b, rfl, ?_⟩
    cases b with
    | true => exact iteT (s F B ad σ H1 env Q hk hc (o.kx k1) (Tr.all_mono (fun y z v H2 k2 => z v H2 (k1.trans k2)) (fun _ z => z) z))
    | false => exact iteF (z (.bl false) H1 k1 (.bl false))
  | _ => exact z.elim
theorem de_or {rest : List Expr} (ha : DE cl X E a f) (hb : DE cl X E (.BoolOp .Or (b :: rest) pos) g) : DE cl X E (.BoolOp .Or (a :: b :: rest) pos) (vOr f g) := by
  obtain ⟨t, p, r⟩ := ha
  obtain ⟨u, q, s⟩ := hb
  refine ⟨_, pe_or p q, fun F B ad σ H env Q hk hc o k => ?_⟩
  refine r F B ad σ H env _ hk hc o (Tr.all_mono (fun d z x H1 k1 rx => ?_) (fun _ z => z) (Tr.all_bind k))
  cases d with
  | bool b =>
    cases rx
    refine ⟨b, rfl, ?_⟩
    cases b with
    | false => exact iteF (s F B ad σ H1 env Q hk hc (o.kx k1) (Tr.all_mono (fun y z v H2 k2 => z v H2 (k1.trans k2)) (fun _ z => z) z))
    | true => exact iteT (z (.bl true) H1 k1 (.bl true))
  | _ => exact z.elim
theorem de_not (ha : DE cl X E a f) : DE cl X E (.UnaryOp .Not a pos) (vNot f) := by
  obtain ⟨t, p, r⟩ := ha
  refine ⟨_, pe_not p, fun F B ad σ H env Q hk hc o k => ?_⟩
  refine r F B ad σ H env _ hk hc o (Tr.all_mono (fun d z x H1 k1 rx => ?_) (fun _ z => z) (Tr.all_bind k))
  cases d with
  | bool b =>
    cases rx
    exact ⟨b, rfl, z (.bl !b) H1 k1 (.bl _)⟩
  | _ => exact z.elim
def vIf (c : Envt → Tr Bool) (f g : Envt → Tr D) : Envt → Tr D := fun env => (c env).bind fun x => if x then f env else g env
theorem de_if {k : Envt → Tr Bool} (hc : DT cl X E c k) (ha : DE cl X E a f) (hb : DE cl X E b g) : DE cl X E (.IfExp c a b pos) (vIf k f g) := by
  obtain ⟨t, p, r⟩ := hc
  obtain ⟨ta, pa, ra⟩ := ha
  obtain ⟨tb, pb, rb⟩ := hb
  refine ⟨_, pe_ifExp p pa pb, fun F B ad σ H env Q hk hc o k => ?_⟩
  refine r F B ad σ H env _ hk hc o (Tr.all_mono (fun x z H1 k1 => ?_) (fun _ z => z) (Tr.all_bind k))
  cases x with
  | true => exact iteT (ra F B ad σ H1 env Q hk hc (o.kx k1) (Tr.all_mono (fun y z v H2 k2 => z v H2 (k1.trans k2)) (fun _ z => z) z))
  | false => exact iteF (rb F B ad σ H1 env Q hk hc (o.kx k1) (Tr.all_mono (fun y z v H2 k2 => z v H2 (k1.trans k2)) (fun _ z => z) z))
def aNil : Envt → Tr (List Ent) := fun _ => .ret []
def aCons (f : Envt → Tr D) (g : Envt → Tr (List Ent)) : Envt → Tr (List Ent) := fun env => (f env).bind fun d => (g env).bind fun es => .ret (.fz d :: es)
def aDr (i : Nat) (g : Envt → Tr (List Ent)) : Envt → Tr (List Ent) := fun env => match env[i]? with
  | some .dr => (g env).bind fun es => .ret (.dr :: es)
  | _ => .bad
theorem da_nil : DA cl X E [] aNil := ⟨_, pa_nil, fun F B ad σ H env Q hk hc o k => k [] H (Kx.refl o.k0.dr) .nil⟩
theorem da_cons {es : List Expr} {g : Envt → Tr (List Ent)} (ha : DE cl X E a f) (hr : DA cl X E es g) (hs : starEach (a :: es) X.env = (false, eval a X.env) :: starEach es X.env := by rfl) : DA cl X E (a :: es) (aCons f g) := by
  obtain ⟨t, p, r⟩ := ha
  obtain ⟨u, q, s⟩ := hr
  refine ⟨_, pa_cons p q hs, fun F B ad σ H env Q hk hc o k => ?_⟩
  refine r F B ad σ H env _ hk hc o (Tr.all_mono (fun d z x H1 k1 rx => ?_) (fun _ z => z) (Tr.all_bind k))
  refine s F B ad σ H1 env _ hk hc (o.kx k1) (Tr.all_mono (fun es z xs H2 k2 rs => ?_) (fun _ z => z) (Tr.all_bind z))
  exact z _ H2 (k1.trans k2) (.cons (rx.mono k2.msame) rs)
theorem da_dr (i : Nat) {x : Str} {es : List Expr} {g : Envt → Tr (List Ent)} (hr : DA cl X E es g) (hN : X.N[i]? = some x := by rfl) (hv : Vis X.env.scope x := by first | exact Or.inl rfl | exact Or.inr (Or.inl rfl) | exact Or.inr (Or.inr rfl))
    (hd : (x == ("__debug__" : Str)) = false := by decide) (hcd : (x == ("__classdict__" : Str)) = false := by decide) (hs : starEach (.Name x pos :: es) X.env = (false, eval (.Name x pos) X.env) :: starEach es X.env := by rfl) : DA cl X E (.Name x pos :: es) (aDr i g) := by
  obtain ⟨u, q, s⟩ := hr
  refine ⟨_, pa_cons (pe_var (i := i) hN hv hd hcd) q hs, fun F B ad σ H env Q hk hc o k => ?_⟩
  unfold aDr at k
  split at k
  · rename_i he
    obtain ⟨oa, sv, e1, e2, q1, a, n, q2, rfl⟩ := o.at_ he
    refine ⟨_, e2, s F B ad σ H env _ hk hc o (Tr.all_mono (fun es z xs H2 k2 rs => ?_) (fun _ z => z) (Tr.all_bind k))⟩
    exact z _ H2 k2 (.cons ⟨a, n, q2, rfl⟩ rs)
  · exact k.elim
/-- values alone -/
def fzs : List Ent → Option (List D)
  | [] => some []
  | .fz d :: r => (fzs r).map (d :: ·)
  | _ :: _ => none
theorem fzs_rep {K : PySem.W.Frag} {cl : CL} {dt : Dl} {H : Hp} : ∀ {vs : List V} {es : List Ent} {ds : List D}, ArgsOk K cl dt H vs es → fzs es = some ds → RepAll K H vs ds
  | _, _, _, .nil, h => by cases h; exact .nil
  | _, .fz d :: r, ds, .cons h t, q => by
    unfold fzs at q
    cases e : fzs r with
    | none => rw [e] at q; cases q
    | some l =>
      rw [e] at q; cases q
      exact .cons h (fzs_rep t e)
  | _, .dr :: _, _, .cons h _, q => by cases q
  | _, .ex _ :: _, _, .cons h _, q => by cases q
  | _, .un :: _, _, .cons h _, q => by cases q
  | _, .ow _ :: _, _, .cons h _, q => by cases q
  | _, .od _ :: _, _, .cons h _, q => by cases q
  | _, .fn _ :: _, _, .cons h _, q => by cases q
def vTup (g : Envt → Tr (List Ent)) : Envt → Tr D := fun env => (g env).bind fun es => ofO ((fzs es).bind fun ds => if small ds.length then some (.tuple ds) else none)
def nLst (g : Envt → Tr (List Ent)) : Envt → Tr (List D) := fun env => (g env).bind fun es => ofO ((fzs es).bind fun ds => if small ds.length then some ds else none)
theorem small_le {n : Nat} (h : small n = true) : n ≤ sizeLine := Nat.le_trans (of_decide_eq_true h) lim_le
theorem de_tup {es : List Expr} {g : Envt → Tr (List Ent)} {k : Nat} (hr : DA cl X E es g) : DE cl X E (.Tuple es k pos) (vTup g) := by
  obtain ⟨u, q, s⟩ := hr
  refine ⟨_, pe_tup q, fun F B ad σ H env Q hk hc o k => ?_⟩
  refine s F B ad σ H env _ hk hc o (Tr.all_mono (fun es z xs H1 k1 rs => ?_) (fun _ z => z) (Tr.all_bind k))
  cases h : fzs es with
  | none => rw [h] at z; exact z.elim
  | some ds =>
    rw [h] at z
    have z : (ofO (if small ds.length then some (PyData.tuple ds) else none)).all (Post F ad H Q) (EOk F E) := z
    cases hs : small ds.length with
    | false => rw [hs] at z; exact z.elim
    | true =>
      rw [hs] at z
      have r := fzs_rep rs h
      refine ⟨by rw [r.length]; exact small_le hs, fun p hp => ?_⟩
      have k2 : Kx F.dt (Mm F ad) H1 (upd H1 p (.tup xs)) := Kx.of_same k1.dr (same_new hp)
      exact z _ _ (k1.trans k2) (.tup (SqT.of (by rw [mask_out (o.nm k1 hp)]; exact upd_same)) (r.mono k2.msame))
theorem dn_lst {es : List Expr} {g : Envt → Tr (List Ent)} (hr : DA cl X E es g) : DN cl X E (.List es pos) (nLst g) := by
  obtain ⟨u, q, s⟩ := hr
  refine ⟨_, pe_lst q, fun F B ad σ H env Q hk hc o k => ?_⟩
  refine s F B ad σ H env _ hk hc o (Tr.all_mono (fun es z xs H1 k1 rs => ?_) (fun _ z => z) (Tr.all_bind k))
  cases h : fzs es with
  | none => rw [h] at z; exact z.elim
  | some ds =>
    rw [h] at z
    have z : (ofO (if small ds.length then some ds else none)).all (PostN F ad H Q) (EOk F E) := z
    cases hs : small ds.length with
    | false => rw [hs] at z; exact z.elim
    | true =>
      rw [hs] at z
      have r := fzs_rep rs h
      refine ⟨by rw [r.length]; exact small_le hs, fun p hp => ?_⟩
      have k2 : Kx F.dt (fun a => Mm F ad a ∨ a = p) H1 (upd H1 p (.lst xs)) := Kx.newW k1.dr hp
      refine z p _ xs (k1.trans k2) (k1.free o.k0.dr hp) upd_same (r.mono (mask_same fun a x n e => ⟨fun q => q.elim n fun y => ?_, same_new hp a x e⟩))
      rw [y, hp] at e; cases e
end
end Mb
set_option maxHeartbeats 4000000
namespace Mb
open PySem L2
def strL (x : Str) : Bool := x.cps.toList.all (· < 0x110000)
def okAt : Nat → D → Bool
  | _, .none => true
  | _, .bool _ => true
  | _, .int _ => true
  | _, .str x => strL x
  | _, .dict _ => false
  | 0, .list _ => false
  | 0, .tuple _ => false
  | n + 1, .list xs => xs.all (okAt n)
  | n + 1, .tuple xs => xs.all (okAt n)
def shp (d : D) : Bool := okAt 40 d
theorem okAt_lay : ∀ (n : Nat) (d : D), okAt n d = true → d.canLay0 = true ∧ d.depth ≤ n := by
  intro n
  induction n with
  | zero =>
    intro d h
    cases d with
    | list _ => simp [okAt] at h
    | tuple _ => simp [okAt] at h
    | dict _ => simp [okAt] at h
    | str x =>
      refine ⟨?_, by simp [PyData.depth]⟩
      have h : x.cps.toList.all (· < 0x110000) = true := h
      simp only [PyData.canLay0, PyData.strOk]
      simpa using h
    | _ => exact ⟨by simp only [PyData.canLay0], by simp [PyData.depth]⟩
  | succ n ih =>
    intro d h
    have all : ∀ xs : List D, xs.all (okAt n) = true → PyData.canLayAll0 xs = true ∧ PyData.depthAll xs ≤ n := by
      intro xs
      induction xs with
      | nil => intro _; exact ⟨by simp only [PyData.canLayAll0], by simp [PyData.depthAll]⟩
      | cons x r ihx =>
        intro h
        rw [List.all_cons, Bool.and_eq_true] at h
        obtain ⟨h1, h2⟩ := ih x h.1
        obtain ⟨h3, h4⟩ := ihx h.2
        refine ⟨by simp only [PyData.canLayAll0, h1, h3, Bool.and_self], ?_⟩
        simp only [PyData.depthAll]
        omega
    cases d with
    | list xs =>
      obtain ⟨h1, h2⟩ := all xs (by simpa only [okAt] using h)
      exact ⟨by simpa only [PyData.canLay0] using h1, by simp only [PyData.depth]; omega⟩
    | tuple xs =>
      obtain ⟨h1, h2⟩ := all xs (by simpa only [okAt] using h)
      exact ⟨by simpa only [PyData.canLay0] using h1, by simp only [PyData.depth]; omega⟩
    | dict _ => simp [okAt] at h
    | str x =>
      refine ⟨?_, by simp [PyData.depth]⟩
      have h : x.cps.toList.all (· < 0x110000) = true := by
        have h : strL x = true := by simpa only [okAt] using h
        exact h
      simp only [PyData.canLay0, PyData.strOk]
      simpa using h
    | _ => exact ⟨by simp only [PyData.canLay0], by simp [PyData.depth]⟩
theorem shp_shaped {d : D} (h : shp d = true) : SeqAt.shaped d = true := by
  obtain ⟨h1, h2⟩ := okAt_lay 40 d h
  show (d.canLay0 && decide (d.depth ≤ 64)) = true
  rw [h1, decide_eq_true (by omega)]; rfl
theorem shp_lay {d : D} (h : shp d = true) : d.canLay0 = true := (okAt_lay 40 d h).1
section
variable {K : PySem.W.Frag}
theorem Sem2.keep {r : R2} {f : D → D → Option D} (h : ∀ (H : Hp) (M : Addr → Prop) (x y : V) (d e z : D) (Q : VK), Rep K (mask H M) x d → Rep K (mask H M) y e → f d e = some z → (∀ v, Rep K (mask H M) v z → Q v H) → r x y H Q) : Sem2 K r f :=
  fun dt M H x y d e z Q hd hm hp rx ry hz q => h H M x y d e z Q rx ry hz fun v rv => q v H (Kx.refl hd) rv
/-- a new object -/
theorem new_lst {dt : Dl} {M : Addr → Prop} {H : Hp} {Q : VK} {vs : List V} {ds : List D} (hd : DrOk dt M H) (hm : ∀ a, dl dt a → M a) (hp : ∀ p, H p = none → ¬ M p) (r : RepAll K (mask H M) vs ds) (q : ∀ v H', Kx dt M H H' → Rep K (mask H' M) v (.list ds) → Q v H') :
    ∀ p, H p = none → Q (.ref p) (upd H p (.lst vs)) := fun p hn => by
  have k : Kx dt M H (upd H p (.lst vs)) := Kx.of_same hd (same_new hn)
  exact q _ _ k (.lst (by rw [mask_out (hp p hn)]; exact upd_same) (r.mono (mask_same fun a x n e => ⟨n, same_new hn a x e⟩)))
theorem new_tup {dt : Dl} {M : Addr → Prop} {H : Hp} {Q : VK} {vs : List V} {ds : List D} (hd : DrOk dt M H) (hm : ∀ a, dl dt a → M a) (hp : ∀ p, H p = none → ¬ M p) (r : RepAll K (mask H M) vs ds) (q : ∀ v H', Kx dt M H H' → Rep K (mask H' M) v (.tuple ds) → Q v H') :
    ∀ p, H p = none → Q (.ref p) (upd H p (.tup vs)) := fun p hn => by
  have k : Kx dt M H (upd H p (.tup vs)) := Kx.of_same hd (same_new hn)
  exact q _ _ k (.tup (SqT.of (by rw [mask_out (hp p hn)]; exact upd_same)) (r.mono (mask_same fun a x n e => ⟨n, same_new hn a x e⟩)))
def dAdd : D → D → Option D
  | .int i, .int j => some (.int (i + j))
  | .list xs, .list ys => if small (xs.length + ys.length) then some (.list (xs ++ ys)) else none
  | .tuple xs, .tuple ys => if small (xs.length + ys.length) then some (.tuple (xs ++ ys)) else none
  | .str x, .str y => if small (x.length + y.length) then some (.str (x ++ y)) else none
  | _, _ => none
def rAddD (K : PySem.W.Frag) : R2 := fun x y H Q => (rI0 fun i j => .int (i + j)) x y H Q ∨ (rCat x y H Q ∨ (rCatA K x y H Q ∨ ∃ i j, x = .str i ∧ y = .str j ∧ i.length + j.length ≤ sizeLine ∧ Q (.str (i ++ j)) H))
theorem op_addD {X : Cx} : OpR X (binaryOp .Add) (rAddD X.K) := opr_or op_add (opr_or op_cat (opr_or op_catA op_add_str))
theorem if_some {α : Type} {c : Bool} {a z : α} (h : (if c then some a else none) = some z) : c = true ∧ a = z := by
  cases c with
  | true => exact ⟨rfl, Option.some.inj h⟩
  | false => cases h
theorem sem_add : Sem2 K (rAddD K) dAdd := by
  intro dt M H x y d e z Q hd hm hp rx ry hz q
  cases rx with
  | int i =>
    cases ry with
    | int j => cases hz; exact .inl ⟨i, j, rfl, rfl, q _ H (Kx.refl hd) (.int _)⟩
    | _ => cases hz
  | str i =>
    cases ry with
    | str j =>
      obtain ⟨h1, rfl⟩ := if_some hz
      exact .inr (.inr (.inr ⟨i, j, rfl, rfl, small_le h1, q _ H (Kx.refl hd) (.str _)⟩))
    | _ => cases hz
  | @lst a xs ds h1 h2 =>
    cases ry with
    | @lst b ys es h3 h4 =>
      obtain ⟨hs, rfl⟩ := if_some hz
      refine .inr (.inl ⟨a, b, xs, ys, rfl, rfl, (mask_some h1).2, (mask_some h3).2, ?_, new_lst hd hm hp (h2.append h4) q⟩)
      rw [h2.length, h4.length]; exact small_le hs
    | _ => cases hz
  | @tup a xs ds h1 h2 =>
    cases ry with
    | @tup b ys es h3 h4 =>
      obtain ⟨hs, rfl⟩ := if_some hz
      refine .inr (.inr (.inl ⟨a, b, xs, ys, rfl, rfl, same_sqT (mask_le _ _) h1, same_sqT (mask_le _ _) h3, ?_, fun e => ?_, fun _ e => ?_, fun _ _ => new_tup hd hm hp (h2.append h4) q⟩))
      · rw [h2.length, h4.length]; exact small_le hs
      · subst e
        cases h2
        exact q _ H (Kx.refl hd) (.tup h3 h4)
      · subst e
        cases h4
        rw [List.append_nil] at q
        exact q _ H (Kx.refl hd) (.tup h1 h2)
    | _ => cases hz
  | _ => cases hz
def dI (p : Int → Int → Bool) (g : Int → Int → D) : D → D → Option D
  | .int i, .int j => if p i j then some (g i j) else none
  | _, _ => none
def dI0 (g : Int → Int → D) : D → D → Option D
  | .int i, .int j => some (g i j)
  | _, _ => none
theorem sem_I {C : Int → Int → Prop} {p : Int → Int → Bool} {gv : Int → Int → V} {g : Int → Int → D} (hc : ∀ i j, p i j = true → C i j) (hr : ∀ i j H, Rep K H (gv i j) (g i j)) : Sem2 K (rI C gv) (dI p g) := by
  intro dt M H x y d e z Q hd hm hp rx ry hz q
  cases rx with
  | int i =>
    cases ry with
    | int j =>
      obtain ⟨h1, rfl⟩ := if_some hz
      exact ⟨i, j, rfl, rfl, hc i j h1, q _ H (Kx.refl hd) (hr i j _)⟩
    | _ => cases hz
  | _ => cases hz
theorem sem_I0 {gv : Int → Int → V} {g : Int → Int → D} (hr : ∀ i j H, Rep K H (gv i j) (g i j)) : Sem2 K (rI0 gv) (dI0 g) := by
  intro dt M H x y d e z Q hd hm hp rx ry hz q
  cases rx with
  | int i =>
    cases ry with
    | int j =>
      cases hz
      exact ⟨i, j, rfl, rfl, q _ H (Kx.refl hd) (hr i j _)⟩
    | _ => cases hz
  | _ => cases hz
def dSub : D → D → Option D := dI0 fun i j => .int (i - j)
theorem sem_sub : Sem2 K (rI0 fun i j => .int (i - j)) dSub := sem_I0 fun i j _ => .int _
def dMod : D → D → Option D := dI (fun _ j => decide (0 < j)) fun i j => .int (i % j)
theorem sem_mod : Sem2 K (rI (fun _ j => 0 < j) fun i j => .int (i % j)) dMod := sem_I (fun _ _ h => of_decide_eq_true h) fun i j _ => .int _
def okMul (i j : Int) : Bool := (decide (-(2 ^ 64) < i) && decide (i < 2 ^ 64)) || (decide (-(2 ^ 64) < j) && decide (j < 2 ^ 64))
def dMul : D → D → Option D
  | .int i, .int j => if okMul i j then some (.int (i * j)) else none
  | .list xs, .int k => if decide (-(2 ^ 63) ≤ k) && decide (k < 2 ^ 63) && small (xs.length * k.toNat) then some (.list (List.replicate k.toNat xs).flatten) else none
  | .tuple xs, .int k => if !xs.isEmpty && decide (2 ≤ k) && decide (k ≤ 1000) && decide (xs.length ≤ 1000) then some (.tuple (List.replicate k.toNat xs).flatten) else none
  | _, _ => none
def rMulD (K : PySem.W.Frag) : R2 := fun x y H Q => (rI CMul fun i j => .int (i * j)) x y H Q ∨ (rRep x y H Q ∨ rRepT K x y H Q)
theorem op_mulD {X : Cx} : OpR X (binaryOp .Mult) (rMulD X.K) := opr_or op_mul (opr_or op_rep op_repT)
theorem sem_mul : Sem2 K (rMulD K) dMul := by
  intro dt M H x y d e z Q hd hm hp rx ry hz q
  cases rx with
  | int i =>
    cases ry with
    | int j =>
      obtain ⟨h1, rfl⟩ := if_some hz
      refine .inl ⟨i, j, rfl, rfl, ?_, q _ H (Kx.refl hd) (.int _)⟩
      unfold okMul at h1
      rw [Bool.or_eq_true, Bool.and_eq_true, Bool.and_eq_true] at h1
      rcases h1 with h1 | h1
      · exact .inl ⟨of_decide_eq_true h1.1, of_decide_eq_true h1.2⟩
      · exact .inr ⟨of_decide_eq_true h1.1, of_decide_eq_true h1.2⟩
    | _ => cases hz
  | @lst a xs ds h1 h2 =>
    cases ry with
    | int k =>
      obtain ⟨hs, rfl⟩ := if_some hz
      rw [Bool.and_eq_true, Bool.and_eq_true] at hs
      refine .inr (.inl ⟨a, k, xs, rfl, rfl, (mask_some h1).2, of_decide_eq_true hs.1.1, of_decide_eq_true hs.1.2, ?_, new_lst hd hm hp (h2.replicate _) q⟩)
      rw [h2.length]; exact small_le hs.2
    | _ => cases hz
  | @tup a xs ds h1 h2 =>
    cases ry with
    | int k =>
      obtain ⟨hs, rfl⟩ := if_some hz
      rw [Bool.and_eq_true, Bool.and_eq_true, Bool.and_eq_true] at hs
      have e : xs ≠ [] := fun e => by
        subst e
        cases h2
        exact absurd hs.1.1.1 (by decide)
      exact .inr (.inr ⟨a, k, xs, rfl, rfl, same_sqT (mask_le _ _) h1, e, of_decide_eq_true hs.1.1.2, of_decide_eq_true hs.1.2, by rw [h2.length]; exact of_decide_eq_true hs.2, new_tup hd hm hp (h2.replicate _) q⟩)
    | _ => cases hz
  | _ => cases hz
theorem semB_I {gv : Int → Int → Bool} : SemB K (rI0 fun i j => .bl (gv i j)) (dI0 fun i j => .bool (gv i j)) := by
  intro H x y d e z Q rx ry hz q
  cases rx with
  | int i =>
    cases ry with
    | int j =>
      cases hz
      exact ⟨i, j, rfl, rfl, q _ fun _ => .bl _⟩
    | _ => cases hz
  | _ => cases hz
def dLt : D → D → Option D := dI0 fun i j => .bool (decide (i < j))
def dLe : D → D → Option D := dI0 fun i j => .bool (decide (i ≤ j))
def dGt : D → D → Option D := dI0 fun i j => .bool (decide (j < i))
def dGe : D → D → Option D := dI0 fun i j => .bool (decide (j ≤ i))
theorem sem_lt : SemB K (rI0 fun i j => .bl (decide (i < j))) dLt := semB_I
theorem sem_le : SemB K (rI0 fun i j => .bl (decide (i ≤ j))) dLe := semB_I
theorem sem_gt : SemB K (rI0 fun i j => .bl (decide (j < i))) dGt := semB_I
theorem sem_ge : SemB K (rI0 fun i j => .bl (decide (j ≤ i))) dGe := semB_I
def dEq (d e : D) : Option D := if shp d && shp e then some (.bool (PyData.eqv d e)) else none
def dNe (d e : D) : Option D := if shp d && shp e then some (.bool (!PyData.eqv d e)) else none
theorem sem_eq : SemB K (rEqD K) dEq := by
  intro H x y d e z Q rx ry hz q
  obtain ⟨h1, rfl⟩ := if_some hz
  rw [Bool.and_eq_true] at h1
  exact ⟨d, e, rx.dp (shp_lay h1.1), ry.dp (shp_lay h1.2), shp_shaped h1.1, shp_shaped h1.2, q _ fun _ => .bl _⟩
theorem sem_ne : SemB K (rNeD K) dNe := by
  intro H x y d e z Q rx ry hz q
  obtain ⟨h1, rfl⟩ := if_some hz
  rw [Bool.and_eq_true] at h1
  exact ⟨d, e, rx.dp (shp_lay h1.1), ry.dp (shp_lay h1.2), shp_shaped h1.1, shp_shaped h1.2, q _ fun _ => .bl _⟩
def dIsNot : D → D → Option D
  | .none, .none => some (.bool false)
  | _, .none => some (.bool true)
  | .bool a, .bool b => some (.bool (!decide (a = b)))
  | _, _ => none
def rIsD : R2 := fun x y H Q => (y = .non ∧ Q (.bl (decide (x = .non))) H) ∨ rIsB x y H Q
def rIsNotD : R2 := fun x y H Q => (y = .non ∧ Q (.bl (!decide (x = .non))) H) ∨ rNotB x y H Q
theorem op_isD {X : Cx} : OpR X (compareOp .Is) rIsD := opr_or op_isN op_isBl
theorem op_isNotD {X : Cx} : OpR X (compareOp .IsNot) rIsNotD := opr_or op_notN op_notBl
theorem sem_isNot : SemB K rIsNotD dIsNot := by
  intro H x y d e z Q rx ry hz q
  cases ry with
  | non => cases rx <;> (cases hz; exact .inl ⟨rfl, q _ fun _ => .bl _⟩)
  | bl b =>
    cases rx with
    | bl a => cases hz; exact .inr ⟨a, b, rfl, rfl, q _ fun _ => .bl _⟩
    | _ => cases hz
  | _ => cases rx <;> cases hz
def flatD : D → Bool
  | .none => true
  | .bool _ => true
  | .int _ => true
  | .str _ => true
  | _ => false
theorem flat_of {H : Hp} {v : V} {d : D} (r : Rep K H v d) (h : flatD d = true) : flatV v = true := by
  cases r <;> first | rfl | cases h
theorem flats_of {H : Hp} : ∀ {vs : List V} {ds : List D}, RepAll K H vs ds → ds.all flatD = true → vs.all flatV = true
  | _, _, .nil, _ => rfl
  | _, _, .cons h r, q => by
    rw [List.all_cons, Bool.and_eq_true] at q
    rw [List.all_cons, flat_of h q.1, flats_of r q.2]; rfl
theorem eqV_of {H : Hp} {x y : V} {d e : D} (rx : Rep K H x d) (ry : Rep K H y e) (hd : flatD d = true) (he : flatD e = true) : eqV x y = PyData.eqv d e := by
  cases rx <;> first | (cases ry <;> first | (simp only [eqV, PyData.eqv]; done) | rfl | (cases he; done)) | (cases hd; done)
theorem inV_of {H : Hp} {x : V} {d : D} (rx : Rep K H x d) (hd : flatD d = true) : ∀ {vs : List V} {ds : List D}, RepAll K H vs ds → ds.all flatD = true → inV x vs = ds.any fun z => PyData.eqv z d
  | _, _, .nil, _ => rfl
  | _, _, .cons h r, q => by
    rw [List.all_cons, Bool.and_eq_true] at q
    have ih := inV_of rx hd r q.2
    unfold inV at ih ⊢
    rw [List.any_cons, List.any_cons, ih, eqV_of h rx q.1 hd]
def dIn : D → D → Option D
  | d, .tuple ds => if flatD d && ds.all flatD then some (.bool (ds.any fun z => PyData.eqv z d)) else none
  | d, .list ds => if shp d && shp (.list ds) then some (.bool (ds.any fun z => PyData.eqv z d)) else none
  | .str x, .str y => some (.bool (!(Builtin.Str.occurrences y x 0 y.length 1).isEmpty))
  | _, _ => none
def dNotIn : D → D → Option D
  | d, .tuple ds => if flatD d && ds.all flatD then some (.bool (!ds.any fun z => PyData.eqv z d)) else none
  | d, .list ds => if shp d && shp (.list ds) then some (.bool (!ds.any fun z => PyData.eqv z d)) else none
  | .str x, .str y => some (.bool (!(!(Builtin.Str.occurrences y x 0 y.length 1).isEmpty)))
  | _, _ => none
def rInAll (K : PySem.W.Frag) : R2 := fun x y H Q => rIn K false x y H Q ∨ (rInD K x y H Q ∨ ∃ i j, x = .str i ∧ y = .str j ∧ Q (.bl (!(Builtin.Str.occurrences j i 0 j.length 1).isEmpty)) H)
def rNotInAll (K : PySem.W.Frag) : R2 := fun x y H Q => rIn K true x y H Q ∨ (rNotInD K x y H Q ∨ ∃ i j, x = .str i ∧ y = .str j ∧ Q (.bl (!(!(Builtin.Str.occurrences j i 0 j.length 1).isEmpty))) H)
theorem op_inAll {X : Cx} (hu : X.A.units + 65 < cLine) : OpR X (compareOp .In) (rInAll X.K) := opr_or op_in_seq (opr_or (op_inD hu) op_in_str)
theorem op_notInAll {X : Cx} (hu : X.A.units + 65 < cLine) : OpR X (compareOp .NotIn) (rNotInAll X.K) := opr_or op_notIn_seq (opr_or (op_notInD hu) op_notin_str)
theorem sem_in : SemB K (rInAll K) dIn := by
  intro H x y d e z Q rx ry hz q
  cases ry with
  | @tup a xs ds h1 h2 =>
    have hz : (if flatD d && ds.all flatD then some (PyData.bool (ds.any fun z => PyData.eqv z d)) else none) = some z := by cases d <;> exact hz
    obtain ⟨h, rfl⟩ := if_some hz
    rw [Bool.and_eq_true] at h
    refine .inl ⟨a, xs, rfl, .inr h1, flat_of rx h.1, flats_of h2 h.2, ?_⟩
    rw [if_neg Bool.false_ne_true, inV_of rx h.1 h2 h.2]
    exact q _ fun _ => .bl _
  | @lst a xs ds h1 h2 =>
    have hz : (if shp d && shp (.list ds) then some (PyData.bool (ds.any fun z => PyData.eqv z d)) else none) = some z := by cases d <;> exact hz
    obtain ⟨h, rfl⟩ := if_some hz
    rw [Bool.and_eq_true] at h
    exact .inr (.inl ⟨d, ds, rx.dp (shp_lay h.1), Rep.dp (.lst h1 h2) (shp_lay h.2), shp_shaped h.1, shp_shaped h.2, q _ fun _ => .bl _⟩)
  | str j =>
    cases rx with
    | str i => cases hz; exact .inr (.inr ⟨i, j, rfl, rfl, q _ fun _ => .bl _⟩)
    | _ => cases hz
  | _ => cases rx <;> cases hz
theorem sem_notIn : SemB K (rNotInAll K) dNotIn := by
  intro H x y d e z Q rx ry hz q
  cases ry with
  | @tup a xs ds h1 h2 =>
    have hz : (if flatD d && ds.all flatD then some (PyData.bool (!ds.any fun z => PyData.eqv z d)) else none) = some z := by cases d <;> exact hz
    obtain ⟨h, rfl⟩ := if_some hz
    rw [Bool.and_eq_true] at h
    refine .inl ⟨a, xs, rfl, .inr h1, flat_of rx h.1, flats_of h2 h.2, ?_⟩
    rw [if_pos rfl, inV_of rx h.1 h2 h.2]
    exact q _ fun _ => .bl _
  | @lst a xs ds h1 h2 =>
    have hz : (if shp d && shp (.list ds) then some (PyData.bool (!ds.any fun z => PyData.eqv z d)) else none) = some z := by cases d <;> exact hz
    obtain ⟨h, rfl⟩ := if_some hz
    rw [Bool.and_eq_true] at h
    exact .inr (.inl ⟨d, ds, rx.dp (shp_lay h.1), Rep.dp (.lst h1 h2) (shp_lay h.2), shp_shaped h.1, shp_shaped h.2, q _ fun _ => .bl _⟩)
  | str j =>
    cases rx with
    | str i => cases hz; exact .inr (.inr ⟨i, j, rfl, rfl, q _ fun _ => .bl _⟩)
    | _ => cases hz
  | _ => cases rx <;> cases hz
def dIx : D → D → Option D
  | .list ds, .int i => atI ds i
  | .tuple ds, .int i => atI ds i
  | .str z, .int i => if small z.length then (atI z.cps.toList i).map fun c => .str ⟨#[c]⟩ else none
  | _, _ => none
theorem atI_rep {H : Hp} {vs : List V} {ds : List D} {i : Int} {z : D} (r : RepAll K H vs ds) (h : atI ds i = some z) : ∃ v, atI vs i = some v ∧ Rep K H v z := by
  unfold atI at h ⊢
  rw [r.length]
  cases hx : ixN ds.length i with
  | none => rw [hx] at h; cases h
  | some j =>
    rw [hx] at h
    exact r.getD h
theorem sem_ix : Sem2 K (rIx K) dIx := by
  refine Sem2.keep fun H M x y d e z Q rx ry hz q => ?_
  cases rx with
  | str w =>
    cases ry with
    | int i =>
      obtain ⟨h1, h2⟩ : small w.length = true ∧ (atI w.cps.toList i).map (fun c => PyData.str ⟨#[c]⟩) = some z := by
        have hz : (if small w.length then (atI w.cps.toList i).map (fun c => PyData.str ⟨#[c]⟩) else none) = some z := hz
        cases hs : small w.length with
        | true => rw [hs] at hz; exact ⟨rfl, hz⟩
        | false => rw [hs] at hz; cases hz
      cases ha : atI w.cps.toList i with
      | none => rw [ha] at h2; cases h2
      | some c =>
        rw [ha] at h2; cases h2
        exact .inr (.inr ⟨w, i, c, rfl, rfl, small_le h1, ha, q _ (.str _)⟩)
    | _ => cases hz
  | @lst a xs ds h1 h2 =>
    cases ry with
    | int i =>
      obtain ⟨v, e1, e2⟩ := atI_rep h2 hz
      exact .inl ⟨a, xs, i, v, rfl, rfl, SqL.of (mask_some h1).2, e1, q _ e2⟩
    | _ => cases hz
  | @tup a xs ds h1 h2 =>
    cases ry with
    | int i =>
      obtain ⟨v, e1, e2⟩ := atI_rep h2 hz
      exact .inr (.inl ⟨a, xs, i, v, rfl, rfl, same_sqT (mask_le _ _) h1, e1, q _ e2⟩)
    | _ => cases hz
  | _ => cases ry <;> cases hz
end
section
variable {cl : CL} {X : Cx} {E : XK} {e a b c : Expr} {f g h : Envt → Tr D} {pos : Pos}
theorem de_add (ha : DE cl X E a f) (hb : DE cl X E b g) : DE cl X E (.BinOp a .Add b pos) (v2 dAdd f g) := de_bin op_addD sem_add ha hb
theorem de_sub (ha : DE cl X E a f) (hb : DE cl X E b g) : DE cl X E (.BinOp a .Sub b pos) (v2 dSub f g) := de_bin op_sub sem_sub ha hb
theorem de_mul (ha : DE cl X E a f) (hb : DE cl X E b g) : DE cl X E (.BinOp a .Mult b pos) (v2 dMul f g) := de_bin op_mulD sem_mul ha hb
theorem de_mod (ha : DE cl X E a f) (hb : DE cl X E b g) : DE cl X E (.BinOp a .Mod b pos) (v2 dMod f g) := de_bin op_mod sem_mod ha hb
theorem de_eq {k : Nat} (hr : Room k X.A) (ha : DB cl X E a f) (hb : DB cl X E b g) : DE cl X E (.Compare a [.Eq] [b] pos) (v2 dEq f g) := de_cmpB (op_eqD hr.units) sem_eq ha hb (nomark _)
theorem de_le (ha : DB cl X E a f) (hb : DB cl X E b g) : DE cl X E (.Compare a [.LtE] [b] pos) (v2 dLe f g) := de_cmpB op_le sem_le ha hb (nomark _)
theorem de_gt (ha : DB cl X E a f) (hb : DB cl X E b g) : DE cl X E (.Compare a [.Gt] [b] pos) (v2 dGt f g) := de_cmpB op_gt sem_gt ha hb (nomark _)
theorem de_ge (ha : DB cl X E a f) (hb : DB cl X E b g) : DE cl X E (.Compare a [.GtE] [b] pos) (v2 dGe f g) := de_cmpB op_ge sem_ge ha hb (nomark _)
theorem de_in {k : Nat} (hr : Room k X.A) (ha : DB cl X E a f) (hb : DB cl X E b g) (hm : behindInMarks .In b = false := by rfl) : DE cl X E (.Compare a [.In] [b] pos) (v2 dIn f g) := de_cmpB (op_inAll (by have := hr.un; omega)) sem_in ha hb hm
theorem dt_eq {k : Nat} (hr : Room k X.A) (ha : DB cl X E a f) (hb : DB cl X E b g) : DT cl X E (.Compare a [.Eq] [b] pos) (vT (v2 dEq f g)) := dt_cmpB (op_eqD hr.units) sem_eq ha hb (nomark _)
theorem dt_ne {k : Nat} (hr : Room k X.A) (ha : DB cl X E a f) (hb : DB cl X E b g) : DT cl X E (.Compare a [.NotEq] [b] pos) (vT (v2 dNe f g)) := dt_cmpB (op_neD hr.units) sem_ne ha hb (nomark _)
theorem dt_lt (ha : DB cl X E a f) (hb : DB cl X E b g) : DT cl X E (.Compare a [.Lt] [b] pos) (vT (v2 dLt f g)) := dt_cmpB op_lt sem_lt ha hb (nomark _)
theorem dt_gt (ha : DB cl X E a f) (hb : DB cl X E b g) : DT cl X E (.Compare a [.Gt] [b] pos) (vT (v2 dGt f g)) := dt_cmpB op_gt sem_gt ha hb (nomark _)
theorem dt_isNot (ha : DB cl X E a f) (hb : DB cl X E b g) : DT cl X E (.Compare a [.IsNot] [b] pos) (vT (v2 dIsNot f g)) := dt_cmpB op_isNotD sem_isNot ha hb (nomark _)
theorem dt_in {k : Nat} (hr : Room k X.A) (ha : DB cl X E a f) (hb : DB cl X E b g) (hm : behindInMarks .In b = false := by rfl) : DT cl X E (.Compare a [.In] [b] pos) (vT (v2 dIn f g)) := dt_cmpB (op_inAll (by have := hr.un; omega)) sem_in ha hb hm
theorem dt_notIn {k : Nat} (hr : Room k X.A) (ha : DB cl X E a f) (hb : DB cl X E b g) (hm : behindInMarks .NotIn b = false := by rfl) : DT cl X E (.Compare a [.NotIn] [b] pos) (vT (v2 dNotIn f g)) := dt_cmpB (op_notInAll (by have := hr.un; omega)) sem_notIn ha hb hm
/-- a <= b <= c -/
def vChain (op op' : D → D → Option D) (f g h : Envt → Tr D) : Envt → Tr D := fun env => (f env).bind fun x => (g env).bind fun y => (ofO (op x y)).bind fun z => (ofO (asB z)).bind fun k => if k then (h env).bind fun w => ofO (op' y w) else .ret (.bool false)
theorem de_chain {o o' : CmpOp} {r r' : R2} {op op' : D → D → Option D} (ho : OpR X (compareOp o) r) (ho' : OpR X (compareOp o') r') (hr : SemB X.K r op) (hr' : SemB X.K r' op') (ha : DE cl X E a f) (hb : DE cl X E b g) (hc : DE cl X E c h)
    (hm : lastMarks [o, o'] [b, c] = false := by with_unfolding_all rfl) : DE cl X E (.Compare a [o, o'] [b, c] pos) (vChain op op' f g h) := by
  obtain ⟨ta, pa, ra⟩ := ha
  obtain ⟨tb, pb, rb⟩ := hb
  obtain ⟨tc, pc, rc⟩ := hc
  refine ⟨_, pe_chain ho ho' pa pb pc hm, fun F B ad σ H env Q hk hc o k => ?_⟩
  refine ra F B ad σ H env _ hk hc o (Tr.all_mono (fun d z x H1 k1 rx => ?_) (fun _ z => z) (Tr.all_bind k))
  refine rb F B ad σ H1 env _ hk hc (o.kx k1) (Tr.all_mono (fun e z y H2 k2 ry => ?_) (fun _ z => z) (Tr.all_bind z))
  cases hz : op d e with
  | none => rw [hz] at z; exact z.elim
  | some w =>
    rw [hz] at z
    refine hr H2 x y d e w _ (by rw [← hk]; exact (rx.mono k2.msame).mono (mask_le _ _)) (by rw [← hk]; exact ry.mono (mask_le _ _)) hz fun v rv => ?_
    have rv0 := rv H2
    cases w with
    | bool b =>
      cases rv0
      refine ⟨b, rfl, ?_⟩
      cases b with
      | false => exact iteF (z _ H2 (k1.trans k2) (.bl _))
      | true =>
        refine iteT ?_
        refine rc F B ad σ H2 env _ hk hc ((o.kx k1).kx k2) (Tr.all_mono (fun e3 z w' H3 k3 rw' => ?_) (fun _ z => z) (Tr.all_bind z))
        cases hz3 : op' e e3 with
        | none => rw [hz3] at z; exact z.elim
        | some w3 =>
          rw [hz3] at z
          refine hr' H3 y w' e e3 w3 _ (by rw [← hk]; exact (ry.mono k3.msame).mono (mask_le _ _)) (by rw [← hk]; exact rw'.mono (mask_le _ _)) hz3 fun v rv => ?_
          exact z v H3 (k1.trans (k2.trans k3)) (by rw [hk]; exact rv _)
    | _ => exact z.elim
theorem de_lele (ha : DE cl X E a f) (hb : DE cl X E b g) (hc : DE cl X E c h) (hm : lastMarks [.LtE, .LtE] [b, c] = false := by with_unfolding_all rfl) : DE cl X E (.Compare a [.LtE, .LtE] [b, c] pos) (vChain dLe dLe f g h) := de_chain op_le op_le sem_le sem_le ha hb hc hm
theorem de_ix (ha : DE cl X E a f) (hb : DE cl X E b g) (hs : PlainIx b := by exact fun _ _ => rfl) : DE cl X E (.Subscript a b pos) (v2 dIx f g) := by
  obtain ⟨ta, pa, ra⟩ := ha
  obtain ⟨tb, pb, rb⟩ := hb
  exact ⟨_, pe_ix ix_seq pa pb hs, fun F B ad σ H env Q hk hc o k => two_core sem_ix ra rb hk hc o k⟩
/-- an item of a slot's own list -/
def vIxV (i : Nat) (g : Envt → Tr D) : Envt → Tr D := fun env => match env[i]? with
  | some (.ow ds) => (g env).bind fun y => ofO (dIx (.list ds) y)
  | some (.fz d) => (g env).bind fun y => ofO (dIx d y)
  | _ => .bad
theorem de_ixV (i : Nat) {x : Str} {p2 : Pos} (hb : DE cl X E b g) (hN : X.N[i]? = some x := by rfl) (hv : Vis X.env.scope x := by first | exact Or.inl rfl | exact Or.inr (Or.inl rfl) | exact Or.inr (Or.inr rfl)) (hd : (x == ("__debug__" : Str)) = false := by decide)
    (hcd : (x == ("__classdict__" : Str)) = false := by decide) (hs : PlainIx b := by exact fun _ _ => rfl) : DE cl X E (.Subscript (.Name x p2) b pos) (vIxV i g) := by
  obtain ⟨tb, pb, rb⟩ := hb
  refine ⟨_, pe_ix ix_seq (pe_var (i := i) hN hv hd hcd) pb hs, fun F B ad σ H env Q hk hc o k => ?_⟩
  unfold vIxV at k
  split at k
  · rename_i ds he
    obtain ⟨oa, sv, e1, e2, p, vs, rfl, rfl, hp, r⟩ := o.at_ he
    refine ⟨_, e2, rb F B ad σ H env _ hk hc o (Tr.all_mono (fun d z y H1 k1 ry => ?_) (fun _ z => z) (Tr.all_bind k))⟩
    cases ry with
    | int j =>
      cases hz : dIx (.list ds) (.int j) with
      | none => rw [hz] at z; exact z.elim
      | some w =>
        rw [hz] at z
        obtain ⟨v, a1, a2⟩ := atI_rep r hz
        exact .inl ⟨p, vs, j, v, rfl, rfl, SqL.of (k1.keep _ _ hp (o.notdl e1)), a1, z v H1 k1 (a2.mono k1.msame)⟩
    | _ => exact z.elim
  · rename_i d he
    obtain ⟨oa, sv, e1, e2, q1, v, rfl, r⟩ := o.at_ he
    refine ⟨v, e2, rb F B ad σ H env _ hk hc o (Tr.all_mono (fun e z y H1 k1 ry => ?_) (fun _ z => z) (Tr.all_bind k))⟩
    cases hz : dIx d e with
    | none => rw [hz] at z; exact z.elim
    | some w =>
      rw [hz] at z
      exact sem_ix (K := X.K) F.dt (Mm F ad) H1 v y d e w Q k1.dr (fun a q => Mm_dl q) (fun p hp => (o.kx k1).notM hp) (by rw [← hk]; exact r.mono k1.msame) (by rw [← hk]; exact ry) hz fun v' H' k3 rv => z v' H' (k1.trans k3) (by rw [hk]; exact rv)
  · exact k.elim
def DO (cl : CL) (X : Cx) (E : XK) (e : Option Expr) (f : Envt → Tr (Option Int)) : Prop := ∃ t, PO X e t ∧ ∀ (F : Fx) (B : Hp) (ad : Ads) (σ : St) (H : Hp) (env : Envt) (Q : Option Int → Hp → Prop), F.K = X.K → F.cl = cl → Ok F B ad σ H env →
  (f env).all (fun i => ∀ H', Kx F.dt (Mm F ad) H H' → Q i H') (EOk F E) → t σ H Q
def oNone : Envt → Tr (Option Int) := fun _ => .ret none
def oSome (f : Envt → Tr D) : Envt → Tr (Option Int) := fun env => (f env).bind fun d => match d with
  | .int i => .ret (some i)
  | _ => .bad
theorem do_none : DO cl X E none oNone := ⟨_, po_none, fun F B ad σ H env Q hk hc o k => k H (Kx.refl o.k0.dr)⟩
theorem do_some (ha : DE cl X E a f) : DO cl X E (some a) (oSome f) := by
  obtain ⟨ta, pa, ra⟩ := ha
  refine ⟨_, po_some pa, fun F B ad σ H env Q hk hc o k => ra F B ad σ H env _ hk hc o (Tr.all_mono (fun d z x H1 k1 rx => ?_) (fun _ z => z) (Tr.all_bind k))⟩
  cases rx with
  | int i => exact ⟨i, rfl, z H1 k1⟩
  | _ => exact z.elim
def cutD {α : Type} (xs : List α) (lo hi : Option Int) : List α := (xs.drop (HT.sIx xs.length 0 lo)).take (HT.sIx xs.length xs.length hi - HT.sIx xs.length 0 lo)
def dSl : D → Option Int → Option Int → Option D
  | .list ds, lo, hi => some (.list (cutD ds lo hi))
  | .tuple ds, lo, hi => some (.tuple (cutD ds lo hi))
  | .str z, lo, hi => if small z.length then some (.str (cutS z lo hi)) else none
  | _, _, _ => none
def vSl (f : Envt → Tr D) (l u : Envt → Tr (Option Int)) : Envt → Tr D := fun env => (f env).bind fun d => (l env).bind fun lo => (u env).bind fun hi => ofO (dSl d lo hi)
theorem slr_or {r r' : V → Option Int → Option Int → Hp → VK → Prop} (h : SlR X r) (h' : SlR X r') : SlR X (fun x l u H Q => r x l u H Q ∨ r' x l u H Q) := by
  intro pins s σ H x v vl vu lo hi sl Q I rx hs pl pu q
  rcases q with q | q
  · exact h pins s σ H x v vl vu lo hi sl Q I rx hs pl pu q
  · exact h' pins s σ H x v vl vu lo hi sl Q I rx hs pl pu q
theorem cut_rep {K : PySem.W.Frag} {H : Hp} {vs : List V} {ds : List D} {lo hi : Option Int} (r : RepAll K H vs ds) : RepAll K H (cutV vs lo hi) (cutD ds lo hi) := by
  unfold cutV cutD
  rw [r.length]
  exact (r.drop _).take _
theorem cut_whole {α : Type} {xs : List α} {lo hi : Option Int} (h : HT.sIx xs.length 0 lo = 0 ∧ HT.sIx xs.length xs.length hi = xs.length) : cutD xs lo hi = xs := by
  unfold cutD
  rw [h.1, h.2, List.drop_zero, Nat.sub_zero, List.take_length]
theorem de_slice {lo hi : Option Expr} {l u : Envt → Tr (Option Int)} {p2 : Pos} (ha : DE cl X E a f) (hl : DO cl X E lo l) (hh : DO cl X E hi u) : DE cl X E (.Subscript a (.Slice lo hi none p2) pos) (vSl f l u) := by
  obtain ⟨ta, pa, ra⟩ := ha
  obtain ⟨tl, pl, rl⟩ := hl
  obtain ⟨th, ph, rh⟩ := hh
  refine ⟨_, pe_slice (slr_or sl_list (slr_or sl_tupA sl_str)) pa pl ph, fun F B ad σ H env Q hk hc o k => ?_⟩
  refine ra F B ad σ H env _ hk hc o (Tr.all_mono (fun d z x H1 k1 rx => ?_) (fun _ z => z) (Tr.all_bind k))
  refine rl F B ad σ H1 env _ hk hc (o.kx k1) (Tr.all_mono (fun lo z H2 k2 => ?_) (fun _ z => z) (Tr.all_bind z))
  refine rh F B ad σ H2 env _ hk hc ((o.kx k1).kx k2) (Tr.all_mono (fun hi z H3 k3 => ?_) (fun _ z => z) (Tr.all_bind z))
  have o3 := ((o.kx k1).kx k2).kx k3
  have rx3 := (rx.mono k2.msame).mono k3.msame
  have k13 := k1.trans (k2.trans k3)
  cases hz : dSl d lo hi with
  | none => rw [hz] at z; exact z.elim
  | some w =>
    rw [hz] at z
    cases rx3 with
    | str y =>
      obtain ⟨h1, rfl⟩ := if_some hz
      exact .inr (.inr ⟨y, rfl, small_le h1, z _ H3 k13 (.str _)⟩)
    | @lst p xs ds h1 h2 =>
      cases hz
      refine .inl ⟨p, xs, rfl, SqL.of (mask_some h1).2, ?_⟩
      exact new_lst (K := F.K) k3.dr (fun a q => Mm_dl (F := F) (ad := ad) q) (fun p hp => o3.notM hp) (cut_rep h2) fun v H' k4 rv => z v H' (k13.trans k4) rv
    | @tup p xs ds h1 h2 =>
      cases hz
      refine .inr (.inl ⟨p, xs, rfl, by rw [← hk]; exact same_sqT (mask_le _ _) h1, fun hw => ?_, fun _ => ?_⟩)
      · rw [h2.length] at hw
        rw [cut_whole hw] at z
        exact z _ H3 k13 (.tup h1 h2)
      · exact new_tup (K := F.K) k3.dr (fun a q => Mm_dl (F := F) (ad := ad) q) (fun p hp => o3.notM hp) (cut_rep h2) fun v H' k4 rv => z v H' (k13.trans k4) rv
    | _ => cases hz
end
end Mb
set_option maxHeartbeats 4000000
namespace Mb
open PySem L2
theorem PE.weak {X : Cx} {e : Expr} {t t' : TE} (h : PE X e t) (w : ∀ σ H Q, t' σ H Q → t σ H Q) : PE X e t' := ⟨fun pins s σ H Q I q => h.run pins s σ H Q I (w σ H Q q)⟩
theorem PT.weak {X : Cx} {e : Expr} {t t' : TT} (h : PT X e t) (w : ∀ σ H Q, t' σ H Q → t σ H Q) : PT X e t' := ⟨fun pins s σ H Q I q => h.run pins s σ H Q I (w σ H Q q)⟩
theorem PG.weak {X : Cx} {e : Expr} {t t' : TG} (h : PG X e t) (w : ∀ v σ H Q, t' v σ H Q → t v σ H Q) : PG X e t' := ⟨fun pins s σ H v u Q I r q => h.run pins s σ H v u Q I r (w v σ H Q q)⟩
def tDE (cl : CL) (K : PySem.W.Frag) (E : XK) (f : Envt → Tr D) : TE := fun σ H Q => ∃ F B ad env, F.K = K ∧ F.cl = cl ∧ Ok F B ad σ H env ∧ (f env).all (Post F ad H Q) (EOk F E)
def tDT (cl : CL) (K : PySem.W.Frag) (E : XK) (f : Envt → Tr Bool) : TT := fun σ H Q => ∃ F B ad env, F.K = K ∧ F.cl = cl ∧ Ok F B ad σ H env ∧ (f env).all (PostT F ad H Q) (EOk F E)
section
variable {cl : CL} {X : Cx} {E : XK} {e a b c : Expr} {f g h : Envt → Tr D} {pos : Pos}
theorem DE.pe (h : DE cl X E e f) : PE X e (tDE cl X.K E f) := by
  obtain ⟨t, p, r⟩ := h
  exact PE.weak p fun σ H Q ⟨F, B, ad, env, hk, hc, o, k⟩ => r F B ad σ H env Q hk hc o k
theorem DT.pt {f : Envt → Tr Bool} (h : DT cl X E e f) : PT X e (tDT cl X.K E f) := by
  obtain ⟨t, p, r⟩ := h
  exact PT.weak p fun σ H Q ⟨F, B, ad, env, hk, hc, o, k⟩ => r F B ad σ H env Q hk hc o k
/-- the turns of J yield ds, over a ground HB -/
def Yields (K : PySem.W.Frag) (dt : Dl) (J : It) (HB : Hp) (ds : List D) : Prop := ∀ (i : Nat) (H : Hp) (M : Addr → Prop), Same HB (mask H M) → DrOk dt M H → (∀ p, H p = none → ¬ M p) →
  (∀ d, ds[i]? = some d → J.go i H ∧ ∀ x H', J.yld i H x H' → Kx dt M H H' ∧ Rep K (mask H' M) x d) ∧ (ds.length ≤ i → J.stop i H)
def DI (cl : CL) (X : Cx) (E : XK) (tg iter : Expr) (f : Envt → Tr (List D)) : Prop := ∃ wi, PI X tg iter wi ∧ ∀ (F : Fx) (B : Hp) (ad : Ads) (σ : St) (H : Hp) (env : Envt) (R : It → Hp → Prop), F.K = X.K → F.cl = cl → Ok F B ad σ H env →
  (f env).all (fun ds => ∀ J H1, Kx F.dt (Mm F ad) H H1 → Yields F.K F.dt J (mask H1 (Mm F ad)) ds → R J H1) (EOk F E) → wi σ H R
def iSeq (K : PySem.W.Frag) (tl : TE) : TI := fun σ H R => tl σ H fun x H1 => (∃ a, x = .ref a ∧ (∃ xs, SqL K H1 a xs) ∧ R (Itl K a) H1) ∨ ((∃ a, x = .ref a ∧ (∃ xs, SqT K H1 a xs) ∧ R (Itt K a) H1) ∨ ∃ z, x = .str z ∧ R (Its z) H1)
theorem pi_seq {tg l : Expr} {tl : TE} (hl : PE X l tl) : PI X tg l (iSeq X.K tl) := by
  refine ⟨fun pins s σ H R I h => ?_⟩
  refine thn (hl.run pins s σ H _ I h) fun v s1 ⟨x, H1, I1, r1, q1⟩ => ?_
  rcases q1 with ⟨a, e, ⟨xs, hq⟩, q⟩ | ⟨a, e, ⟨xs, hq⟩, q⟩ | ⟨x, ex, q⟩
  · subst e
    cases r1
    obtain ⟨its, rv, p, hz⟩ := I1.list hq
    refine wpAny_pyIter_list p.isList ?_
    refine ⟨s1.heap.objs.size, [s1.heap.objs.size], _, _, H1, rfl, I1.kept (t' := s1.toks) fun b o e => Heap.get?_push_of_some _ e, turn_list a _, ⟨_, Heap.get?_push_size _ rfl, rfl, rfl⟩, fun b hb => ?_, q⟩
    have e : b = s1.heap.objs.size := by simpa using hb
    subst e
    exact I1.fpOk (Nat.le_refl _) (I1.hok.fresh (Nat.le_refl _))
  · subst e
    cases r1
    obtain ⟨its, rv, p, hz⟩ := I1.tuple hq
    refine wpAny_pyIter_tuple (show s1.heap.IsTuple a its.toArray from p) ?_
    refine ⟨s1.heap.objs.size, [s1.heap.objs.size], _, _, H1, rfl, I1.kept (t' := s1.toks) fun b o e => Heap.get?_push_of_some _ e, turn_tuple a _, ⟨_, Heap.get?_push_size _ rfl, rfl, rfl⟩, fun b hb => ?_, q⟩
    have e : b = s1.heap.objs.size := by simpa using hb
    subst e
    exact I1.fpOk (Nat.le_refl _) (I1.hok.fresh (Nat.le_refl _))
  · subst ex
    obtain ⟨t, rfl⟩ := r1
    cases ha : x.cps.all (· < 128)
    · exact wpAny_pyIter_wide ha (pi_one (tk := s1.toks) I1 _ (turn_str _ x t "str_iterator" (.inr rfl)) ⟨_, Heap.get?_push_size _ rfl, rfl, rfl⟩ q)
    · exact wpAny_pyIter_ascii ha (pi_one (tk := s1.toks) I1 _ (turn_str _ x t "str_ascii_iterator" (.inl rfl)) ⟨_, Heap.get?_push_size _ rfl, rfl, rfl⟩ q)
def itD : D → Option (List D)
  | .list ds => some ds
  | .tuple ds => some ds
  | .str z => some (z.cps.toList.map fun c => .str ⟨#[c]⟩)
  | _ => none
def wSeq (f : Envt → Tr D) : Envt → Tr (List D) := fun env => (f env).bind fun d => ofO (itD d)
theorem yl_list {K : PySem.W.Frag} {dt : Dl} {HB : Hp} {a : Addr} {xs : List V} {ds : List D} (h : HB a = some (.lst xs)) (r : RepAll K HB xs ds) : Yields K dt (Itl K a) HB ds := fun i H M s hd hp => by
  have hq : SqL K H a xs := SqL.of (mask_some (s _ _ h)).2
  refine ⟨fun d e => ?_, fun hl => ⟨xs, hq, by rw [r.length]; exact hl⟩⟩
  obtain ⟨v, e1, e2⟩ := r.getD e
  refine ⟨⟨xs, v, hq, e1⟩, fun x H' ⟨q1, q2⟩ => ?_⟩
  subst q1
  have := q2 xs hq
  rw [e1] at this; cases this
  exact ⟨Kx.refl hd, e2.mono s⟩
theorem yl_tup {K : PySem.W.Frag} {dt : Dl} {HB : Hp} {a : Addr} {xs : List V} {ds : List D} (h : SqT K HB a xs) (r : RepAll K HB xs ds) : Yields K dt (Itt K a) HB ds := fun i H M s hd hp => by
  have hq : SqT K H a xs := same_sqT (mask_le _ _) (same_sqT s h)
  refine ⟨fun d e => ?_, fun hl => ⟨xs, hq, by rw [r.length]; exact hl⟩⟩
  obtain ⟨v, e1, e2⟩ := r.getD e
  refine ⟨⟨xs, v, hq, e1⟩, fun x H' ⟨q1, q2⟩ => ?_⟩
  subst q1
  have := q2 xs hq
  rw [e1] at this; cases this
  exact ⟨Kx.refl hd, e2.mono s⟩
theorem yl_str {K : PySem.W.Frag} {dt : Dl} {HB : Hp} {z : Str} : Yields K dt (Its z) HB (z.cps.toList.map fun c => .str ⟨#[c]⟩) := fun i H M s hd hp => by
  refine ⟨fun d e => ?_, fun hl => ?_⟩
  · rw [List.getElem?_map] at e
    cases hc : z.cps.toList[i]? with
    | none => rw [hc] at e; cases e
    | some c =>
      rw [hc] at e; cases e
      have hi : i < z.cps.size := by
        have := (List.getElem?_eq_some_iff.mp hc).1
        simpa using this
      refine ⟨hi, fun x H' ⟨q1, c', q2, q3⟩ => ?_⟩
      subst q1 q3
      have : z.cps[i]? = some c := by rw [← Array.getElem?_toList]; exact hc
      rw [this] at q2; cases q2
      exact ⟨Kx.refl hd, .str _⟩
  · show z.cps.size ≤ i
    rw [List.length_map] at hl
    simpa using hl
theorem di_seq {tg : Expr} (ha : DE cl X E a f) : DI cl X E tg a (wSeq f) := by
  obtain ⟨ta, pa, ra⟩ := ha
  refine ⟨_, pi_seq pa, fun F B ad σ H env R hk hc o k => ?_⟩
  refine ra F B ad σ H env _ hk hc o (Tr.all_mono (fun d z x H1 k1 rx => ?_) (fun _ z => z) (Tr.all_bind k))
  cases rx with
  | @lst p xs ds h1 h2 => exact .inl ⟨p, rfl, ⟨xs, SqL.of (mask_some h1).2⟩, by rw [← hk]; exact z _ H1 k1 (yl_list h1 h2)⟩
  | @tup p xs ds h1 h2 => exact .inr (.inl ⟨p, rfl, ⟨xs, by rw [← hk]; exact same_sqT (mask_le _ _) h1⟩, by rw [← hk]; exact z _ H1 k1 (yl_tup h1 h2)⟩)
  | str y => exact .inr (.inr ⟨y, rfl, z _ H1 k1 yl_str⟩)
  | _ => exact z.elim
def rangeD (lo : Int) (n : Nat) : List D := (List.range n).map fun i => .int (lo + (i : Nat))
theorem yl_rng {K : PySem.W.Frag} {dt : Dl} {HB : Hp} {lo : Int} {n : Nat} : Yields K dt (Itr lo n) HB (rangeD lo n) := fun i H M s hd hp => by
  unfold rangeD
  refine ⟨fun d e => ?_, fun hl => (show n ≤ i by simpa using hl)⟩
  rw [List.getElem?_map] at e
  by_cases hi : i < n
  · rw [List.getElem?_range hi] at e
    cases e
    refine ⟨hi, fun x H' ⟨q1, q2⟩ => ?_⟩
    subst q1 q2
    exact ⟨Kx.refl hd, .int _⟩
  · rw [List.getElem?_eq_none (by simpa using hi)] at e; cases e
def okR (i : Int) : Bool := decide (-(2 ^ 62) ≤ i) && decide (i < 2 ^ 62)
theorem okR_of {i : Int} (h : okR i = true) : -(2 ^ 62) ≤ i ∧ i < 2 ^ 62 := by
  unfold okR at h
  rw [Bool.and_eq_true] at h
  exact ⟨of_decide_eq_true h.1, of_decide_eq_true h.2⟩
def rng1 : List D → Option (List D)
  | [.int j] => if okR j then some (rangeD 0 j.toNat) else none
  | _ => none
def wArg (fn : List D → Option (List D)) (g : Envt → Tr (List Ent)) : Envt → Tr (List D) := fun env => (g env).bind fun es => ofO ((fzs es).bind fn)
theorem args_fz {α : Type} {fn : List D → Option α} {es : List Ent} {P : α → Prop} {EE : Nat → Prop} (z : (ofO ((fzs es).bind fn)).all P EE) : ∃ ds w, fzs es = some ds ∧ fn ds = some w ∧ P w := by
  cases h : fzs es with
  | none => rw [h] at z; exact z.elim
  | some ds =>
    rw [h] at z
    have z : (ofO (fn ds)).all P EE := z
    cases hf : fn ds with
    | none => rw [hf] at z; exact z.elim
    | some w => rw [hf] at z; exact ⟨ds, w, rfl, hf, z⟩
theorem di_range1 {tg : Expr} {p : Pos} {g : Envt → Tr (List Ent)} (hm : X.mg "range" = none) (ha : DA cl X E [a] g) (hg : Gl X "range" := by rfl) (hs : starEach [a] X.env = [(false, eval a X.env)] := by rfl) : DI cl X E tg (.Call (.Name "range" p) [a] [] pos) (wArg rng1 g) := by
  obtain ⟨u, q, s⟩ := ha
  refine ⟨_, pi_range1 hg hm q hs, fun F B ad σ H env R hk hc o k => ?_⟩
  refine s F B ad σ H env _ hk hc o (Tr.all_mono (fun es z xs H1 k1 rs => ?_) (fun _ z => z) (Tr.all_bind k))
  obtain ⟨ds, w, e1, e2, z⟩ := args_fz z
  have r := fzs_rep rs e1
  match ds, e2 with
  | [.int j], e2 =>
    obtain ⟨hj, rfl⟩ := if_some e2
    cases r with
    | cons r rr =>
      cases rr
      cases r
      exact ⟨j, rfl, (okR_of hj).1, (okR_of hj).2, z _ H1 k1 yl_rng⟩
theorem Kx.new {dt : Dl} {M : Addr → Prop} {H : Hp} {T : Addr} {o : HO} (hd : DrOk dt M H) (h : H T = none) : Kx dt M H (upd H T o) := Kx.of_same hd (same_new h)
abbrev Tgt := D → Envt → Option Envt
/-- what a target does: sl the slots that it stores -/
def DG (X : Cx) (tg : Expr) (sl : List Nat) (gd : Tgt) : Prop := ∃ g, PG X tg g ∧ ∀ (F : Fx) (B : Hp) (ad : Ads) (σ : St) (H : Hp) (env env' : Envt) (v : V) (d : D) (Q : St → Hp → Prop), F.K = X.K → Ok F B ad σ H env → Rep F.K (mask H (Mm F ad)) v d → gd d env = some env' →
  (∀ ad' σ', Ok F B ad' σ' H env' → Same (mask H (Mm F ad)) (mask H (Mm F ad')) → (∀ vs, (∀ i ∈ sl, i ∈ vs) → wipe σ' vs = wipe σ vs) → (∀ j : Nat, j ∉ sl → ad'[j]? = ad[j]?) → Q σ' H) → g v σ H Q
def DGs (X : Cx) (tgs : List Expr) (sl : List Nat) (gd : List D → Envt → Option Envt) : Prop := ∃ g, PGs X tgs g ∧ ∀ (F : Fx) (B : Hp) (ad : Ads) (σ : St) (H : Hp) (env env' : Envt) (vs : List V) (ds : List D) (Q : St → Hp → Prop), F.K = X.K → Ok F B ad σ H env → RepAll F.K (mask H (Mm F ad)) vs ds → gd ds env = some env' →
  (∀ ad' σ', Ok F B ad' σ' H env' → Same (mask H (Mm F ad)) (mask H (Mm F ad')) → (∀ vs, (∀ i ∈ sl, i ∈ vs) → wipe σ' vs = wipe σ vs) → (∀ j : Nat, j ∉ sl → ad'[j]? = ad[j]?) → Q σ' H) → g vs σ H Q
def tgName (i : Nat) : Tgt := fun d env => some (env.set i (.fz d))
theorem wipe_set {σ : St} {i : Nat} {o : Option V} : ∀ {vs : List Nat}, i ∈ vs → wipe (σ.set i o) vs = wipe σ vs
  | v :: vs, h => by
    unfold wipe
    by_cases hi : i ∈ vs
    · rw [wipe_set hi]
    · have e : i = v := (List.mem_cons.mp h).resolve_right hi
      subst e
      have : ∀ ws : List Nat, i ∉ ws → wipe (σ.set i o) ws = (wipe σ ws).set i o := fun ws => by
        induction ws with
        | nil => intro _; rfl
        | cons w ws ih =>
          intro hw
          unfold wipe
          rw [ih fun z => hw (List.mem_cons_of_mem _ z), List.set_comm _ _ (fun z => hw (by rw [z]; exact List.mem_cons_self))]
      rw [this vs hi, List.set_set]
theorem dg_name (i : Nat) {x : Str} (hN : X.N.Nodup) (hi : X.N[i]? = some x := by rfl) (hx : Loc X.env.scope x := by first | exact Or.inl rfl | exact Or.inr rfl) (hf : X.fn x = true ∨ X.env.scope.names.lookup x = some .local := by first | exact .inl rfl | exact .inr rfl | assumption) : DG X (.Name x pos) [i] (tgName i) := by
  refine ⟨_, pg_name (i := i) hN hi hx hf, fun F B ad σ H env env' v d Q hk o r e q => ?_⟩
  cases e
  exact q _ _ (o.setFz r) (mask_same fun a x n e => ⟨fun z => n (Mm_setN z), e⟩) (fun vs hv => wipe_set (hv i (by simp))) fun j hj => List.getElem?_set_ne (fun z => hj (by simp [z]))
def tgNil : List D → Envt → Option Envt
  | [], env => some env
  | _, _ => none
def tgCons (g : Tgt) (gs : List D → Envt → Option Envt) : List D → Envt → Option Envt
  | d :: ds, env => (g d env).bind fun env1 => gs ds env1
  | [], _ => none
def tgTup (n : Nat) (gs : List D → Envt → Option Envt) : Tgt
  | .tuple ds, env => if ds.length == n then gs ds env else none
  | _, _ => none
theorem dgs_nil : DGs X [] [] tgNil := ⟨_, pgs_nil, fun F B ad σ H env env' vs ds Q hk o r e q => by
  cases r with
  | nil =>
    cases e
    exact ⟨rfl, q ad σ o (Same.refl _) (fun _ _ => rfl) fun _ _ => rfl⟩
  | cons _ _ => cases e⟩
theorem dgs_cons {es : List Expr} {sl sl' : List Nat} {g : Tgt} {gs : List D → Envt → Option Envt} (h1 : DG X e sl g) (h2 : DGs X es sl' gs) (hs : (assignEach (e :: es) X.env).map (·.2) = assign e X.env :: (assignEach es X.env).map (·.2) := by rfl) : DGs X (e :: es) (sl ++ sl') (tgCons g gs) := by
  obtain ⟨t, p, r1⟩ := h1
  obtain ⟨u, q, r2⟩ := h2
  refine ⟨_, pgs_cons p q hs, fun F B ad σ H env env' vs ds Q hk o r e q => ?_⟩
  cases r with
  | nil => cases e
  | @cons v vs d ds hd hr =>
    have e : (g d env).bind (fun env1 => gs ds env1) = some env' := e
    cases he : g d env with
    | none => rw [he] at e; cases e
    | some env1 =>
      rw [he] at e
      refine ⟨v, vs, rfl, r1 F B ad σ H env env1 v d _ hk o hd he fun ad1 σ1 o1 s1 w1 j1 => ?_⟩
      refine r2 F B ad1 σ1 H env1 env' vs ds _ hk o1 (hr.mono s1) e fun ad2 σ2 o2 s2 w2 j2 => ?_
      exact q ad2 σ2 o2 (s1.trans s2) (fun vs hv => (w2 vs fun i hi => hv i (List.mem_append_right _ hi)).trans (w1 vs fun i hi => hv i (List.mem_append_left _ hi))) fun j hj => (j2 j fun z => hj (List.mem_append_right _ z)).trans (j1 j fun z => hj (List.mem_append_left _ z))
theorem dg_tup {es : List Expr} {k n : Nat} {sl : List Nat} {gs : List D → Envt → Option Envt} (h : DGs X es sl gs) (hc : X.calm = true := by rfl) (hn : (assignEach es X.env).length = n := by rfl) (hst : (assignEach es X.env).findIdx? (·.1) = none := by rfl) : DG X (.Tuple es k pos) sl (tgTup n gs) := by
  obtain ⟨t, p, r⟩ := h
  refine ⟨_, pg_tup hc p hn hst, fun F B ad σ H env env' v d Q hk o rv e q => ?_⟩
  cases rv with
  | @tup a xs ds h1 h2 =>
    have e : (if ds.length == n then gs ds env else none) = some env' := e
    cases hl : ds.length == n with
    | false => rw [hl] at e; cases e
    | true =>
      rw [hl] at e
      refine ⟨a, xs, rfl, by rw [← hk]; exact same_sqT (mask_le _ _) h1, by rw [h2.length]; exact of_decide_eq_true hl, r F B ad σ H env env' xs ds Q hk o h2 e q⟩
  | _ => cases e
def tDG (K : PySem.W.Frag) (sl : List Nat) (gd : Tgt) : TG := fun v σ H Q => ∃ F B ad env env' d, F.K = K ∧ Ok F B ad σ H env ∧ Rep F.K (mask H (Mm F ad)) v d ∧ gd d env = some env' ∧
  ∀ ad' σ', Ok F B ad' σ' H env' → Same (mask H (Mm F ad)) (mask H (Mm F ad')) → (∀ vs, (∀ i ∈ sl, i ∈ vs) → wipe σ' vs = wipe σ vs) → (∀ j : Nat, j ∉ sl → ad'[j]? = ad[j]?) → Q σ' H
theorem DG.pg {tg : Expr} {sl : List Nat} {gd : Tgt} (h : DG X tg sl gd) : PG X tg (tDG X.K sl gd) := by
  obtain ⟨t, p, r⟩ := h
  exact PG.weak p fun v σ H Q ⟨F, B, ad, env, env', d, hk, o, rv, e, q⟩ => r F B ad σ H env env' v d Q hk o rv e q
end
end Mb
set_option maxHeartbeats 4000000
namespace Mb
open PySem L2
def wipeE (env : Envt) : List Nat → Envt
  | [] => env
  | v :: vs => (wipeE env vs).set v .un
def wipeA (ad : Ads) : List Nat → Ads
  | [] => ad
  | v :: vs => (wipeA ad vs).set v none
section
variable {F : Fx} {B : Hp} {ad : Ads} {σ : St} {H H' : Hp} {env : Envt}
theorem Ok.setUn {i : Nat} (o : Ok F B ad σ H env) : Ok F B (ad.set i none) (σ.set i none) H (env.set i .un) := o.setG (by simp) (fun j hj => by rw [List.getElem?_set_ne hj]) fun _ _ _ _ => rfl
theorem Ok.wipe (o : Ok F B ad σ H env) : ∀ vs : List Nat, Ok F B (wipeA ad vs) (L2.wipe σ vs) H (wipeE env vs)
  | [] => o
  | v :: vs => (Ok.wipe o vs).setUn
def noOw (env : Envt) (vs : List Nat) : Bool := vs.all fun i => match env[i]? with
  | some (.ow _) => false
  | some (.od _) => false
  | some (.ob _ _) => false
  | some (.ll _) => false
  | some (.om _ _) => false
  | _ => true
theorem Ok.noOw (o : Ok F B ad σ H env) {i : Nat} (h : ∀ e, env[i]? = some e → (match some e with
  | some (.ow _) => false
  | some (.od _) => false
  | some (.ob _ _) => false
  | some (.ll _) => false
  | some (.om _ _) => false
  | _ => true) = true) (w : Own) : ad[i]? ≠ some (some w) := fun q => by
  have hi : i < env.length := by rw [← o.la]; exact (List.getElem?_eq_some_iff.mp q).1
  obtain ⟨oa, sv, e1, e2, z⟩ := o.at_ (List.getElem?_eq_getElem hi)
  rw [q] at e1; cases e1
  have h' := h _ (List.getElem?_eq_getElem hi)
  cases hq : env[i] with
  | un => rw [hq] at z; cases z
  | fz d => rw [hq] at z; cases z.1
  | ow ds => rw [hq] at h'; cases h'
  | od ds => rw [hq] at h'; cases h'
  | dr => rw [hq] at z; cases z.1
  | ex c => rw [hq] at z; cases z.1
  | fn c => rw [hq] at z; cases z.1
  | ob c fs => rw [hq] at h'; cases h'
  | ll c => rw [hq] at h'; cases h'
  | bo c fs => rw [hq] at z; cases z.1
  | vo r k L => rw [hq] at z; cases z.1
  | vp _ _ _ _ _ _ => rw [hq] at z; cases z.1
  | om c fs => rw [hq] at h'; cases h'
theorem noOw_ad (o : Ok F B ad σ H env) {vs : List Nat} (h : Mb.noOw env vs = true) : ∀ i ∈ vs, ∀ w, ad[i]? ≠ some (some w) := fun i hi w => o.noOw (fun e q => by
  have := List.all_eq_true.mp h i hi
  rw [q] at this
  exact this) w
theorem wipeA_get : ∀ {vs : List Nat} {j : Nat}, j ∉ vs → (wipeA ad vs)[j]? = ad[j]?
  | [], _, _ => rfl
  | v :: vs, j, h => by
    unfold wipeA
    rw [List.getElem?_set_ne (fun z => h (by rw [z]; exact List.mem_cons_self)), wipeA_get fun z => h (List.mem_cons_of_mem _ z)]
theorem wipe_wipe {σ : St} : ∀ {vs ws : List Nat}, (∀ i ∈ ws, i ∈ vs) → L2.wipe (L2.wipe σ ws) vs = L2.wipe σ vs
  | vs, [], _ => rfl
  | vs, w :: ws, h => by
    show L2.wipe ((L2.wipe σ ws).set w none) vs = _
    rw [wipe_set (h w List.mem_cons_self), wipe_wipe fun i hi => h i (List.mem_cons_of_mem _ hi)]
/-- one more address of the caller's -/
def Fx.plus (F : Fx) (D : Addr) (x : HO) (h : F.H0 D = none) : Fx where
  K := F.K
  cl := F.cl
  H0 := upd F.H0 D x
  O := fun a => F.O a ∨ a = D
  dt := F.dt
  oin := fun a q => by
    rcases q with q | q
    · obtain ⟨o, e⟩ := F.oin a q
      exact ⟨o, same_new h a o e⟩
    · subst q; exact ⟨x, upd_same⟩
  odl := fun a q => .inl (F.odl a q)
  d0 := F.d0.new h
  tk := F.tk
theorem Ok.H0none (o : Ok F B ad σ H env) {D : Addr} (h : H D = none) : F.H0 D = none := o.k0.free F.d0 h
theorem Ok.plus {D : Addr} (o : Ok F B ad σ H env) (k : Kx F.dt (fun a => Mm F ad a ∨ a = D) H H') {x : HO} (hD : H D = none) (hD' : H' D = some x) (h0 : F.H0 D = none) : Ok (F.plus D x h0) B ad σ H' env := by
  have ms : Same (mask H (Mm F ad)) (mask H' (Mm (F.plus D x h0) ad)) := mask_same fun a y n e => by
    refine ⟨fun q => ?_, k.keep a y e fun q => n (Mm_dl q)⟩
    rcases q with (q | q) | q
    · exact n (.inl q)
    · rw [q, hD] at e; cases e
    · exact n (.inr q)
  refine ⟨o.hb.trans ms, ⟨fun b y e n => ?_, k.dr.weak fun a q => by
    rcases q with (q | q) | q
    · exact .inl (.inl q)
    · exact .inr q
    · exact .inl (.inr q)⟩, o.ls, o.la, fun i oa sv e h1 h2 h3 => ?_, o.inj, fun i w a h hw => ?_⟩
  · by_cases hb : b = D
    · subst hb
      have e : upd F.H0 b x b = some y := e
      rw [upd_same] at e; cases e; exact hD'
    · have e : upd F.H0 D x b = some y := e
      rw [upd_ne hb] at e
      exact (o.k0.trans k).keep b y e n
  · exact EntOk.move (F := F) (F' := F.plus D x h0) rfl rfl rfl rfl ms (fun w a x e1 e2 e3 => k.keep a x e3 (o.notdlW (by rw [h1, e1]) e2)) (fun _ q => .inl q) (fun a x _ n e => k.keep a x e n) (o.ent i oa sv e h1 h2 h3)
  · show upd F.H0 D x a = none
    rw [upd_ne]
    · exact o.new i w a h hw
    · intro z
      obtain ⟨y, e⟩ := o.Msome (Mm_at h hw)
      rw [z, hD] at e; cases e
end
def vL (f : Envt → Tr (List D)) : Envt → Tr D := fun env => (f env).bind fun ds => .ret (.list ds)
theorem DN.dl {cl : CL} {X : Cx} {E : XK} {e : Expr} {f : Envt → Tr (List D)} (q : DN cl X E e f) : DE cl X E e (vL f) := q.de
def noExc {α : Type} : Tr α → Tr α
  | .ret a => .ret a
  | .exc _ => .bad
  | .bad => .bad
  | .draw n k => .draw n fun r => noExc (k r)
theorem noExc_all {α : Type} {P : α → Prop} {E : Nat → Prop} : ∀ {t : Tr α}, (noExc t).all P E → t.all P (fun _ => False)
  | .ret _, h => h
  | .exc _, h => h
  | .bad, h => h
  | .draw _ _, h => fun r hr => noExc_all (h r hr)
def lcRun (gd : Tgt) (t : Envt → Tr Bool) (f : Envt → Tr D) (env : Envt) : List D → Tr (List D)
  | [] => .ret []
  | x :: xs => (ofO (gd x env)).bind fun env1 => (t env1).bind fun b => if b then (f env1).bind fun y => (lcRun gd t f env xs).bind fun ys => .ret (y :: ys) else lcRun gd t f env xs
def nLc (vs : List Nat) (src : Envt → Tr (List D)) (gd : Tgt) (t : Envt → Tr Bool) (f : Envt → Tr D) : Envt → Tr (List D) := fun env => (src env).bind fun ds => if small ds.length && noOw env vs then noExc (lcRun gd t f (wipeE env vs) ds) else .bad
def DTs (cl : CL) (X : Cx) (E : XK) (ifs : List Expr) (t : Envt → Tr Bool) : Prop := PTs X ifs (tDT cl X.K E t)
section
variable {cl : CL} {X : Cx} {E : XK} {e a b c : Expr} {f g h : Envt → Tr D} {pos : Pos}
def bYes : Envt → Tr Bool := fun _ => .ret true
theorem dts_nil : DTs cl X E [] bYes := ⟨fun pins s σ H Q I ⟨F, B, ad, env, hk, hc, o, k⟩ => pts_nil.run pins s σ H Q I (k H (Kx.refl o.k0.dr))⟩
theorem lc_sound {K : PySem.W.Frag} (own : List (Str × Nat)) {sl : List Nat} {gd : Tgt} {src : Envt → Tr (List D)} {t : Envt → Tr Bool} {wi : TI} (hsl : ∀ i ∈ sl, i ∈ own.map (·.2))
    (ri : ∀ (F : Fx) (B : Hp) (ad : Ads) (σ : St) (H : Hp) (env : Envt) (R : It → Hp → Prop), F.K = K → F.cl = cl → Ok F B ad σ H env → (src env).all (fun ds => ∀ J H1, Kx F.dt (Mm F ad) H H1 → Yields F.K F.dt J (mask H1 (Mm F ad)) ds → R J H1) (EOk F E) → wi σ H R)
    {F : Fx} {B : Hp} {ad : Ads} {σ : St} {H : Hp} {env : Envt} {Q : VK} (hk : F.K = K) (hc : F.cl = cl) (o : Ok F B ad σ H env) (k : (nLc (own.map (·.2)) src gd t f env).all (PostN F ad H Q) (EOk F E)) :
    tLc wi (tDG K sl gd) (tDT cl K E0 t) (tDE cl K E0 f) (own.map (·.2)) σ H Q := by
  refine ri F B ad σ H env _ hk hc o (Tr.all_mono (fun ds z J H1 k1 yl => ?_) (fun _ z => z) (Tr.all_bind k))
  intro D hD
  cases hsm : small ds.length && noOw env (own.map (·.2)) with
  | false => rw [hsm] at z; exact z.elim
  | true =>
    rw [hsm] at z
    rw [Bool.and_eq_true] at hsm
    have z := noExc_all z
    have o1 := (o.kx k1).ground
    have nad := noOw_ad o hsm.2
    have ow := o1.wipe (own.map (·.2))
    have h0 : F.H0 D = none := o1.H0none hD
    have ndl : ¬ dl F.dt D := fun q => by
      obtain ⟨y, e⟩ := k1.dr.some q
      rw [hD] at e; cases e
    have aw : ∀ j : Nat, ∀ a, (wipeA ad (own.map (·.2)))[j]? = some (some a) ↔ ad[j]? = some (some a) := fun j a => by
      by_cases hj : j ∈ own.map (·.2)
      · constructor
        · intro q
          have hj2 : j < (wipeA ad (own.map (·.2))).length := (List.getElem?_eq_some_iff.mp q).1
          have hw : ∀ ws : List Nat, j ∈ ws → ¬ (wipeA ad ws)[j]? = some (some a) := fun ws => by
            induction ws with
            | nil => intro q; cases q
            | cons w ws ih =>
              intro hw q
              unfold wipeA at q
              by_cases hjw : w = j
              · subst hjw
                have := (List.getElem?_eq_some_iff.mp q).1
                rw [List.getElem?_set_self (by simpa using this)] at q; cases q
              · rw [List.getElem?_set_ne hjw] at q
                exact ih ((List.mem_cons.mp hw).resolve_left fun z => hjw z.symm) q
          exact absurd q (hw _ hj)
        · intro q
          exact absurd q (nad j hj a)
      · rw [wipeA_get hj]
    have mmW : ∀ a, Mm F (wipeA ad (own.map (·.2))) a → Mm F ad a := fun a q => by
      rcases q with q | ⟨w, q, hw⟩
      · exact .inl q
      · obtain ⟨j, hj, e⟩ := List.getElem_of_mem q
        exact .inr ⟨w, List.mem_of_getElem? ((aw j w).mp (by rw [List.getElem?_eq_getElem hj, e])), hw⟩
    have mmV : ∀ a, Mm F ad a → Mm F (wipeA ad (own.map (·.2))) a := fun a q => by
      rcases q with q | ⟨w, q, hw⟩
      · exact .inl q
      · obtain ⟨j, hj, e⟩ := List.getElem_of_mem q
        exact .inr ⟨w, List.mem_of_getElem? ((aw j w).mpr (by rw [List.getElem?_eq_getElem hj, e])), hw⟩
    refine ⟨fun i m H' => m = ds.length - i ∧ i ≤ ds.length ∧ Kx F.dt (fun a => Mm F ad a ∨ a = D) H1 H' ∧ ∃ acc rs, H' D = some (.lst acc) ∧ acc.length ≤ i ∧ RepAll F.K (mask H' fun a => Mm F ad a ∨ a = D) acc rs ∧ (lcRun gd t f (wipeE env (own.map (·.2))) (ds.drop i)).all (fun ys => PostN F ad H Q (rs ++ ys)) (fun _ => False),
      ⟨_, rfl, Nat.zero_le _, Kx.newW k1.dr hD, [], [], upd_same, Nat.le_refl _, .nil, ?_⟩, fun i m H' ⟨hm, hil, kx, acc, rs, hacc, hal, rp, za⟩ => ?_⟩
    · rw [List.drop_zero]
      exact z
    · have oi := ow.plus (kx.weak fun a q => q.imp_left (mmW a)) hD hacc h0
      have mmD : ∀ a, Mm (F.plus D (.lst acc) h0) (wipeA ad (own.map (·.2))) a → Mm F ad a ∨ a = D := fun a q => by
        rcases q with (q | q) | q
        · exact .inl (.inl q)
        · exact .inr q
        · obtain ⟨w, q, hw⟩ := q
          obtain ⟨j, hj, e⟩ := List.getElem_of_mem q
          exact .inl (.inr ⟨w, List.mem_of_getElem? ((aw j w).mp (by rw [List.getElem?_eq_getElem hj, e])), hw⟩)
      have yi := yl i H' (Mm (F.plus D (.lst acc) h0) (wipeA ad (own.map (·.2)))) (mask_same fun a y n e => ⟨fun q => (mmD a q).elim n (fun q => by rw [q, hD] at e; cases e), kx.keep a y e fun q => n (Mm_dl q)⟩) (kx.dr.weak mmD) (fun p hp => oi.notM hp)
      by_cases hlt : i < ds.length
      · have hd : ds[i]? = some ds[i] := List.getElem?_eq_getElem hlt
        rw [List.drop_eq_getElem_cons hlt] at za
        obtain ⟨go, yld⟩ := yi.1 _ hd
        refine .inr ⟨go, fun H5 => Kx F.dt (fun a => Mm F ad a ∨ a = D) H1 H5 ∧ ∃ acc rs, H5 D = some (.lst acc) ∧ acc.length ≤ i + 1 ∧ RepAll F.K (mask H5 fun a => Mm F ad a ∨ a = D) acc rs ∧ (lcRun gd t f (wipeE env (own.map (·.2))) (ds.drop (i + 1))).all (fun ys => PostN F ad H Q (rs ++ ys)) (fun _ => False), fun H5 ⟨k5, acc, rs, q1, q2, q3, q4⟩ => ⟨ds.length - (i + 1), by omega, rfl, by omega, k5, acc, rs, q1, q2, q3, q4⟩, fun x H2 y => ?_⟩
        obtain ⟨k2, rx⟩ := yld x H2 y
        have hD2 : H2 D = some (.lst acc) := k2.keep _ _ hacc ndl
        have k2 : Kx F.dt (fun a => Mm F ad a ∨ a = D) H' H2 := k2.weak fun a q => by
          rcases q with q | q
          · rcases mmV a q with z | z
            · exact .inl (.inl z)
            · exact .inr z
          · exact .inl (.inr q)
        have k12 := kx.trans k2
        have za := Tr.all_bind za
        cases hgd : gd ds[i] (wipeE env (own.map (·.2))) with
        | none => rw [hgd] at za; exact za.elim
        | some env1 =>
          rw [hgd] at za
          have za : ((t env1).bind fun b => if b then (f env1).bind fun y => (lcRun gd t f (wipeE env (own.map (·.2))) (ds.drop (i + 1))).bind fun ys => .ret (y :: ys) else lcRun gd t f (wipeE env (own.map (·.2))) (ds.drop (i + 1))).all (fun ys => PostN F ad H Q (rs ++ ys)) (fun _ => False) := za
          refine ⟨F.plus D (.lst acc) h0, mask H1 (Mm F ad), _, _, env1, ds[i], hk, ow.plus (k12.weak fun a q => q.imp_left (mmW a)) hD hD2 h0, rx, hgd, fun ad' σ' o' ms' w' j' => ?_⟩
          refine ⟨(w' _ hsl).trans (wipe_wipe fun _ q => q), ?_⟩
          have mm' : ∀ a, Mm F ad a ∨ a = D → Mm (F.plus D (.lst acc) h0) ad' a := fun a q => by
            rcases q with (q | q) | q
            · exact .inl (.inl q)
            · obtain ⟨w, q, hw⟩ := q
              obtain ⟨j, hj, e⟩ := List.getElem_of_mem q
              have ej : ad[j]? = some (some w) := by rw [List.getElem?_eq_getElem hj, e]
              have nj : j ∉ sl := fun z => nad j (hsl j z) w ej
              exact .inr ⟨w, List.mem_of_getElem? ((j' j nj).trans ((aw j w).mpr ej)), hw⟩
            · exact .inl (.inr q)
          refine ⟨F.plus D (.lst acc) h0, mask H1 (Mm F ad), ad', env1, hk, hc, o', Tr.all_mono (fun b zb H3 k3' => ?_) (fun _ q => q.elim) (Tr.all_bind za)⟩
          have k3 : Kx F.dt (fun a => Mm F ad a ∨ a = D) H2 H3 := Kx.weak k3' mm'
          have hD3 : H3 D = some (.lst acc) := k3.keep _ _ hD2 ndl
          cases b with
          | false =>
            refine iteF ⟨k12.trans k3, acc, rs, hD3, by omega, ?_, zb⟩
            exact rp.mono (mask_same fun a y n e => ⟨n, (k2.trans k3).keep a y e fun q => n (.inl (Mm_dl q))⟩)
          | true =>
            refine iteT ?_
            refine ⟨F.plus D (.lst acc) h0, mask H1 (Mm F ad), ad', env1, hk, hc, o'.kx k3', Tr.all_mono (fun yd zy v H4 k4 rv => ?_) (fun _ q => q.elim) (Tr.all_bind zb)⟩
            have k4 : Kx F.dt (fun a => Mm F ad a ∨ a = D) H3 H4 := Kx.weak k4 mm'
            have hD4 : H4 D = some (.lst acc) := k4.keep _ _ hD3 ndl
            refine ⟨acc, hD4, Nat.lt_of_le_of_lt hal (Nat.lt_of_lt_of_le hlt (small_le hsm.1)), ?_, acc ++ [v], rs ++ [yd], upd_same, by rw [List.length_append, List.length_singleton]; omega, ?_, ?_⟩
            · refine ⟨fun b y e n => ?_, ?_⟩
              · rw [upd_ne (ne_of_none e hD)]
                exact ((k12.trans k3).trans k4).keep b y e n
              · exact k4.dr.put (.inr rfl) ndl
            · have msf : Same (mask H4 fun a => Mm F ad a ∨ a = D) (mask (upd H4 D (.lst (acc ++ [v]))) fun a => Mm F ad a ∨ a = D) := mask_same fun a y n e => ⟨n, by rw [upd_ne fun z => n (.inr z)]; exact e⟩
              refine RepAll.append ?_ (.cons ?_ .nil)
              · exact (rp.mono (mask_same fun a y n e => ⟨n, ((k2.trans k3).trans k4).keep a y e fun q => n (.inl (Mm_dl q))⟩)).mono msf
              · exact Rep.mono ((mask_same fun a y n e => ⟨fun q => n (mm' a q), e⟩ : Same (mask H4 (Mm (F.plus D (.lst acc) h0) ad')) (mask H4 fun a => Mm F ad a ∨ a = D)).trans msf) rv
            · refine Tr.all_mono (fun ys zz => ?_) (fun _ q => q) (Tr.all_bind zy)
              have e : rs ++ [yd] ++ ys = rs ++ (yd :: ys) := by simp
              rw [e]
              exact zz
      · have ei : i = ds.length := by omega
        subst ei
        rw [List.drop_length] at za
        have za : PostN F ad H Q (rs ++ []) := za
        rw [List.append_nil] at za
        exact .inl ⟨yi.2 (Nat.le_refl _), za D H' acc (k1.trans kx) (k1.free o.k0.dr hD) hacc rp⟩
theorem dn_lc {elt tg iter : Expr} {ifs : List Expr} {scope : Scope} (own : List (Str × Nat)) {sl : List Nat} {gd : Tgt} {src : Envt → Tr (List D)} {t : Envt → Tr Bool} (hN : X.N.Nodup) (hi : DI cl X E tg iter src) (ok : BlkOk X.N X.env.scope scope own)
    (hg : ∀ (s : Shared) (H : Hp) (C : Addr) (cs : List (Str × Addr)) (fp : List Addr), DG (X.blk s H scope (compEnvC scope cs C X.env) fp) tg sl gd)
    (ht : ∀ (s : Shared) (H : Hp) (C : Addr) (cs : List (Str × Addr)) (fp : List Addr), DTs cl (X.blk s H scope (compEnvC scope cs C X.env) fp) E0 ifs t)
    (he : ∀ (s : Shared) (H : Hp) (C : Addr) (cs : List (Str × Addr)) (fp : List Addr), DE cl (X.blk s H scope (compEnvC scope cs C X.env) fp) E0 elt f)
    (hsl : ∀ i ∈ sl, i ∈ own.map (·.2) := by decide) (hcalm : X.calm = true := by rfl) (hs : ∀ x, foldedSetIterable iter X.env x = pure x := by intro _; rfl) :
    DN cl X E (.ListComp elt [⟨tg, iter, ifs, 0⟩] scope pos) (nLc (own.map (·.2)) src gd t f) := by
  obtain ⟨wi, pi, ri⟩ := hi
  refine ⟨_, pe_lc (g := tDG X.K sl gd) (tt := tDT cl X.K E0 t) (te := tDE cl X.K E0 f) hcalm hN pi ok (fun s H C cs fp => (hg s H C cs fp).pg) (fun s H C cs fp => ht s H C cs fp) (fun s H C cs fp => (he s H C cs fp).pe) hs, fun F B ad σ H env Q hk hc o k => lc_sound own hsl ri hk hc o k⟩
end
end Mb
set_option maxHeartbeats 4000000
namespace Mb
open PySem L2
def spD (K : PySem.W.Frag) (cl : CL) (n : Nat) (m : List Ent → Tr D) : Sp := fun vs H Q E => ∃ (O : Addr → Prop) (dt : Dl) (es : List Ent), es.length = n ∧ (∀ a, O a → ∃ o, H a = some o) ∧ (∀ a, dl dt a → O a) ∧ DrOk dt O H ∧ ArgsOk K cl dt (mask H O) vs es ∧
  (m es).all (fun d => ∀ v H', Kx dt O H H' → Rep K (mask H' O) v d → Q v H') (fun c => ∀ H', Kx dt O H H' → E (.ref (cl c)) none H')
section
variable {cl : CL} {X : Cx} {E : XK} {e a b c : Expr} {f g h : Envt → Tr D} {pos : Pos}
def vCall (n : Nat) (m : List Ent → Tr D) (g : Envt → Tr (List Ent)) : Envt → Tr D := fun env => (g env).bind fun es => if es.length == n then m es else .bad
theorem call_core {t : TA} {n : Nat} {m : List Ent → Tr D} {g : Envt → Tr (List Ent)}
    (s : ∀ (F : Fx) (B : Hp) (ad : Ads) (σ : St) (H : Hp) (env : Envt) (Q : List V → Hp → Prop), F.K = X.K → F.cl = cl → Ok F B ad σ H env → (g env).all (PostA F ad H Q) (EOk F E) → t σ H Q)
    {F : Fx} {B : Hp} {ad : Ads} {σ : St} {H : Hp} {env : Envt} {Q : VK} (hk : F.K = X.K) (hc : F.cl = cl) (o : Ok F B ad σ H env) (k : (vCall n m g env).all (Post F ad H Q) (EOk F E)) : tCall (spD X.K cl n m) [] E t σ H Q := by
  refine s F B ad σ H env _ hk hc o (Tr.all_mono (fun es z vs H1 k1 rs => ?_) (fun _ z => z) (Tr.all_bind k))
  cases hl : es.length == n with
  | false => rw [hl] at z; exact z.elim
  | true =>
    rw [hl] at z
    have o1 := o.kx k1
    rw [List.append_nil]
    refine ⟨Mm F ad, F.dt, es, of_decide_eq_true hl, fun a q => o1.Msome q, fun a q => Mm_dl q, k1.dr, by rw [← hk, ← hc]; exact rs, Tr.all_mono (fun d zd v H' k2 rv => ?_) (fun c zc H' k2 => ?_) z⟩
    · exact zd v H' (k1.trans k2) (by rw [hk]; exact rv)
    · rw [← hc]; exact zc H' ((o1.k0.trans k2).weak fun a q => .inl q)
theorem de_call {k n : Nat} {m : List Ent → Tr D} {x : Str} {fa : Addr} {fd : FuncData} {ps : List Str} {es : List Expr} {p : Pos} {g : Envt → Tr (List Ent)} (G : FnOk X.prog X.w X.K X.mg X.base (L2.CX X.prog X.w) k fa fd ps (spD X.K cl n m)) (hr : Room k X.A) (hx : Passes (L2.CX X.prog X.w) X E)
    (hm : X.mg x = some (.ref fa)) (hk : PySem.W.keepIn X.K (.ref fa) = true) (hb : Binds X.K fd ps []) (ha : DA cl X E (e :: es) g) (hg : Gl X x := by rfl) (hdb : (x == ("__debug__" : Str)) = false := by decide)
    (he : starEach (e :: es) X.env = (false, eval e X.env) :: starEach es X.env := by rfl) (hpl : (backTo pos (starEach es X.env)).any (·.1) = false := by rfl) : DE cl X E (.Call (.Name x p) (e :: es) [] pos) (vCall n m g) := by
  obtain ⟨t, pa, s⟩ := ha
  exact ⟨_, pe_call G hr hg hm hk hb .nil hx pa hdb he hpl, fun F B ad σ H env Q hk hc o k => call_core s hk hc o k⟩
def SemC (K : PySem.W.Frag) (r : List V → Hp → VK → Prop) (fn : List D → Option D) : Prop := ∀ (dt : Dl) (M : Addr → Prop) (H : Hp) (vs : List V) (ds : List D) (z : D) (Q : VK), DrOk dt M H → (∀ a, dl dt a → M a) → (∀ p, H p = none → ¬ M p) → RepAll K (mask H M) vs ds → fn ds = some z →
  (∀ v H', Kx dt M H H' → Rep K (mask H' M) v z → Q v H') → r vs H Q
def vB (fn : List D → Option D) (g : Envt → Tr (List Ent)) : Envt → Tr D := fun env => (g env).bind fun es => ofO ((fzs es).bind fn)
theorem cb_core {t : TA} {r : List V → Hp → VK → Prop} {fn : List D → Option D} {g : Envt → Tr (List Ent)} (hr : SemC X.K r fn)
    (s : ∀ (F : Fx) (B : Hp) (ad : Ads) (σ : St) (H : Hp) (env : Envt) (Q : List V → Hp → Prop), F.K = X.K → F.cl = cl → Ok F B ad σ H env → (g env).all (PostA F ad H Q) (EOk F E) → t σ H Q)
    {F : Fx} {B : Hp} {ad : Ads} {σ : St} {H : Hp} {env : Envt} {Q : VK} (hk : F.K = X.K) (hc : F.cl = cl) (o : Ok F B ad σ H env) (k : (vB fn g env).all (Post F ad H Q) (EOk F E)) : tCB r t σ H Q := by
  refine s F B ad σ H env _ hk hc o (Tr.all_mono (fun es z vs H1 k1 rs => ?_) (fun _ z => z) (Tr.all_bind k))
  obtain ⟨ds, w, e1, e2, z⟩ := args_fz z
  exact hr F.dt (Mm F ad) H1 vs ds w Q k1.dr (fun a q => Mm_dl q) (fun p hp => (o.kx k1).notM hp) (by rw [← hk]; exact fzs_rep rs e1) e2 fun v H' k2 rv => z v H' (k1.trans k2) (by rw [hk]; exact rv)
theorem de_callB {id : String} {r : List V → Hp → VK → Prop} {fn : List D → Option D} {x : Str} {es : List Expr} {p : Pos} {g : Envt → Tr (List Ent)} (hcr : CallR X (.builtin id) r) (hr : SemC X.K r fn) (hm : X.mg x = none) (hv : bootBuiltins x = some (.builtin id)) (ha : DA cl X E (e :: es) g) (hg : Gl X x := by rfl)
    (hn : x ≠ "__name__" := by decide) (hdb : (x == ("__debug__" : Str)) = false := by decide) (he : starEach (e :: es) X.env = (false, eval e X.env) :: starEach es X.env := by rfl) (hpl : (backTo pos (starEach es X.env)).any (·.1) = false := by rfl) : DE cl X E (.Call (.Name x p) (e :: es) [] pos) (vB fn g) := by
  obtain ⟨t, pa, s⟩ := ha
  exact ⟨_, pe_callB hcr hg hm hv pa hn hdb he hpl, fun F B ad σ H env Q hk hc o k => cb_core hr s hk hc o k⟩
theorem de_callTy {T : String} {r : List V → Hp → VK → Prop} {fn : List D → Option D} {x : Str} {es : List Expr} {p : Pos} {g : Envt → Tr (List Ent)} (hcr : CallR X (.type T) r) (hr : SemC X.K r fn) (hm : X.mg x = none) (hv : bootBuiltins x = some (.type T)) (ha : DA cl X E (e :: es) g) (hg : Gl X x := by rfl)
    (hn : x ≠ "__name__" := by decide) (hdb : (x == ("__debug__" : Str)) = false := by decide) (he : starEach (e :: es) X.env = (false, eval e X.env) :: starEach es X.env := by rfl) (hpl : (backTo pos (starEach es X.env)).any (·.1) = false := by rfl) : DE cl X E (.Call (.Name x p) (e :: es) [] pos) (vB fn g) := by
  obtain ⟨t, pa, s⟩ := ha
  exact ⟨_, pe_callTy hcr hg hm hv pa hn hdb he hpl, fun F B ad σ H env Q hk hc o k => cb_core hr s hk hc o k⟩
def asInts : List D → Option (List Int)
  | [] => some []
  | .int i :: r => (asInts r).map (i :: ·)
  | _ :: _ => none
def asBools : List D → Option (List Bool)
  | [] => some []
  | .bool i :: r => (asBools r).map (i :: ·)
  | _ :: _ => none
theorem asInts_eq : ∀ {ds : List D} {ns : List Int}, asInts ds = some ns → ds = ns.map PyData.int
  | [], _, h => by cases h; rfl
  | .int i :: r, _, h => by
    unfold asInts at h
    cases e : asInts r with
    | none => rw [e] at h; cases h
    | some l => rw [e] at h; cases h; rw [asInts_eq e]; rfl
  | .none :: _, _, h => by cases h
  | .bool _ :: _, _, h => by cases h
  | .str _ :: _, _, h => by cases h
  | .list _ :: _, _, h => by cases h
  | .tuple _ :: _, _, h => by cases h
  | .dict _ :: _, _, h => by cases h
theorem asBools_eq : ∀ {ds : List D} {ns : List Bool}, asBools ds = some ns → ds = ns.map PyData.bool
  | [], _, h => by cases h; rfl
  | .bool i :: r, _, h => by
    unfold asBools at h
    cases e : asBools r with
    | none => rw [e] at h; cases h
    | some l => rw [e] at h; cases h; rw [asBools_eq e]; rfl
  | .none :: _, _, h => by cases h
  | .int _ :: _, _, h => by cases h
  | .str _ :: _, _, h => by cases h
  | .list _ :: _, _, h => by cases h
  | .tuple _ :: _, _, h => by cases h
  | .dict _ :: _, _, h => by cases h
def lenD : D → Option D
  | .list ds => some (.int (ds.length : Nat))
  | .tuple ds => some (.int (ds.length : Nat))
  | .str z => if small z.length then some (.int (z.length : Nat)) else none
  | _ => none
def fnLen : List D → Option D
  | [d] => lenD d
  | _ => none
theorem len_sem {K : PySem.W.Frag} {H : Hp} {v : V} {d z : D} {Q : VK} (r : Rep K H v d) (hz : lenD d = some z) (q : ∀ w, (∀ H, Rep K H w z) → Q w H) : ∃ x n, [v] = [x] ∧ LenV K x H n ∧ Q (.int (n : Nat)) H := by
  cases r with
  | str y =>
    obtain ⟨h1, rfl⟩ := if_some hz
    exact ⟨_, _, rfl, ⟨small_le h1, rfl⟩, q _ fun _ => .int _⟩
  | lst h1 h2 =>
    cases hz
    exact ⟨_, _, rfl, .inl ⟨_, SqL.of h1, h2.length.symm⟩, q _ fun _ => .int _⟩
  | tup h1 h2 =>
    cases hz
    exact ⟨_, _, rfl, .inr ⟨_, h1, h2.length.symm⟩, q _ fun _ => .int _⟩
  | _ => cases hz
theorem sem_len {K : PySem.W.Frag} : SemC K (fun xs H Q => ∃ x n, xs = [x] ∧ LenV K x H n ∧ Q (.int (n : Nat)) H) fnLen := by
  intro dt M H vs ds z Q hd hm hp rs hz q
  match ds, hz with
  | [d], hz =>
    cases rs with
    | cons r rr =>
      cases rr
      exact len_sem (r.mono (mask_le _ _)) hz fun w rw' => q w H (Kx.refl hd) (rw' _)
theorem de_len {p : Pos} {g : Envt → Tr (List Ent)} (hm : X.mg "len" = none) (ha : DA cl X E [a] g) (hg : Gl X "len" := by rfl) (he : starEach [a] X.env = (false, eval a X.env) :: starEach [] X.env := by rfl) (hpl : (backTo pos (starEach [] X.env)).any (·.1) = false := by rfl) : DE cl X E (.Call (.Name "len" p) [a] [] pos) (vB fnLen g) :=
  de_callB call_len sem_len hm PySem.boot_len ha hg (by decide) (by decide) he hpl
/-- len of a slot's own list -/
def vLenV (i : Nat) : Envt → Tr D := fun env => (vBor i env).bind fun d => ofO (lenD d)
def seqD : List D → Option (List D)
  | [.list ds] => some ds
  | [.tuple ds] => some ds
  | _ => none
def nList (g : Envt → Tr (List Ent)) : Envt → Tr (List D) := fun env => (g env).bind fun es => ofO ((fzs es).bind seqD)
theorem dn_list {p : Pos} {g : Envt → Tr (List Ent)} (hm : X.mg "list" = none) (ha : DA cl X E [a] g) (hg : Gl X "list" := by rfl) (he : starEach [a] X.env = (false, eval a X.env) :: starEach [] X.env := by rfl) (hpl : (backTo pos (starEach [] X.env)).any (·.1) = false := by rfl) : DN cl X E (.Call (.Name "list" p) [a] [] pos) (nList g) := by
  obtain ⟨t, pa, s⟩ := ha
  refine ⟨_, pe_callTy call_list_of hg hm (by decide +kernel) pa (by decide) (by decide) he hpl, fun F B ad σ H env Q hk hc o k => ?_⟩
  refine s F B ad σ H env _ hk hc o (Tr.all_mono (fun es z vs H1 k1 rs => ?_) (fun _ z => z) (Tr.all_bind k))
  obtain ⟨ds, w, e1, e2, z⟩ := args_fz z
  have r := fzs_rep rs e1
  have fin : ∀ {xs : List V} {es : List D}, RepAll F.K (mask H1 (Mm F ad)) xs es → PostN F ad H Q es → ∀ l, H1 l = none → Q (.ref l) (upd H1 l (.lst xs)) := fun {xs es} rx z l hl => by
    have k2 : Kx F.dt (fun a => Mm F ad a ∨ a = l) H1 (upd H1 l (.lst xs)) := Kx.newW k1.dr hl
    refine z l _ xs (k1.trans k2) (k1.free o.k0.dr hl) upd_same (rx.mono (mask_same fun a x n e => ⟨fun q => q.elim n fun y => ?_, same_new hl a x e⟩))
    rw [y, hl] at e; cases e
  match ds, e2 with
  | [.list l], e2 =>
    cases e2
    cases r with
    | cons r rr =>
      cases rr
      cases r with
      | lst h1 h2 => exact ⟨_, _, rfl, .inl (SqL.of (mask_some h1).2), fin h2 z⟩
  | [.tuple l], e2 =>
    cases e2
    cases r with
    | cons r rr =>
      cases rr
      cases r with
      | tup h1 h2 => exact ⟨_, _, rfl, .inr (by rw [← hk]; exact same_sqT (mask_le _ _) h1), fin h2 z⟩
def fnTuple : List D → Option D
  | [.list ds] => some (.tuple ds)
  | [.tuple ds] => some (.tuple ds)
  | _ => none
theorem sem_tuple {K : PySem.W.Frag} : SemC K (fun xs H Q => ∃ p ys, xs = [.ref p] ∧ ((SqL K H p ys ∧ ∀ l, H l = none → Q (.ref l) (upd H l (.tup ys))) ∨ (SqT K H p ys ∧ Q (.ref p) H))) fnTuple := by
  intro dt M H vs ds z Q hd hm hp rs hz q
  match ds, hz with
  | [.list l], hz =>
    cases hz
    cases rs with
    | cons r rr =>
      cases rr
      cases r with
      | lst h1 h2 => exact ⟨_, _, rfl, .inl ⟨SqL.of (mask_some h1).2, new_tup hd hm hp h2 q⟩⟩
  | [.tuple l], hz =>
    cases hz
    cases rs with
    | cons r rr =>
      cases rr
      cases r with
      | tup h1 h2 => exact ⟨_, _, rfl, .inr ⟨same_sqT (mask_le _ _) h1, q _ H (Kx.refl hd) (.tup h1 h2)⟩⟩
theorem de_tuple {p : Pos} {g : Envt → Tr (List Ent)} (hm : X.mg "tuple" = none) (ha : DA cl X E [a] g) (hg : Gl X "tuple" := by rfl) (he : starEach [a] X.env = (false, eval a X.env) :: starEach [] X.env := by rfl) (hpl : (backTo pos (starEach [] X.env)).any (·.1) = false := by rfl) : DE cl X E (.Call (.Name "tuple" p) [a] [] pos) (vB fnTuple g) :=
  de_callTy call_tuple_of sem_tuple hm (by decide +kernel) ha hg (by decide) (by decide) he hpl
def rSumT (K : PySem.W.Frag) : List V → Hp → VK → Prop := fun vs H Q => ∃ (a : Addr) (ns : List Int), vs = [V.ref a] ∧ SqT K H a (ns.map V.int) ∧ Q (.int ns.sum) H
theorem callr_or {fn : Value} {r r' : List V → Hp → VK → Prop} (h : CallR X fn r) (h' : CallR X fn r') : CallR X fn (fun vs H Q => r vs H Q ∨ r' vs H Q) := by
  intro pins s σ H xs us Q I r q
  rcases q with q | q
  · exact h pins s σ H xs us Q I r q
  · exact h' pins s σ H xs us Q I r q
def fnSum : List D → Option D
  | [.list ds] => (asInts ds).map fun ns => .int ns.sum
  | [.tuple ds] => (asInts ds).map fun ns => .int ns.sum
  | _ => none
def fnMin2 : List D → Option D
  | [.int i, .int j] => some (.int (if j < i then j else i))
  | _ => none
theorem sem_min2 {K : PySem.W.Frag} : SemC K (fun xs H Q => ∃ i j, xs = [.int i, .int j] ∧ Q (.int (if j < i then j else i)) H) fnMin2 := by
  intro dt M H vs ds z Q hd hm hp rs hz q
  match ds, hz with
  | [.int i, .int j], hz =>
    cases hz
    cases rs with
    | cons r rr =>
      cases rr with
      | cons r' rr =>
        cases rr
        cases r
        cases r'
        exact ⟨i, j, rfl, q _ H (Kx.refl hd) (.int _)⟩
theorem list_ints {K : PySem.W.Frag} {H : Hp} {v : V} {ds : List D} {ns : List Int} (r : Rep K H v (.list ds)) (h : asInts ds = some ns) : ∃ a, v = .ref a ∧ H a = some (.lst (ns.map V.int)) := by
  rw [asInts_eq h] at r
  cases r with
  | lst h1 h2 =>
    rw [h2.ints] at h1
    exact ⟨_, rfl, h1⟩
theorem tup_ints {K : PySem.W.Frag} {H : Hp} {v : V} {ds : List D} {ns : List Int} (r : Rep K H v (.tuple ds)) (h : asInts ds = some ns) : ∃ a, v = .ref a ∧ SqT K H a (ns.map V.int) := by
  rw [asInts_eq h] at r
  cases r with
  | tup h1 h2 =>
    rw [h2.ints] at h1
    exact ⟨_, rfl, h1⟩
theorem sem_sumL {K : PySem.W.Frag} : SemC K (fun vs H Q => rSum K vs H Q ∨ rSumT K vs H Q) fnSum := by
  intro dt M H vs ds z Q hd hm hp rs hz q
  match ds, hz with
  | [.list l], hz =>
    cases rs with
    | cons r rr =>
      cases rr
      have hz : (asInts l).map (fun ns => PyData.int ns.sum) = some z := hz
      cases hn : asInts l with
      | none => rw [hn] at hz; cases hz
      | some ns =>
        rw [hn] at hz; cases hz
        obtain ⟨a, rfl, h⟩ := list_ints r hn
        exact .inl ⟨a, ns, rfl, SqL.of (mask_some h).2, q _ H (Kx.refl hd) (.int _)⟩
  | [.tuple l], hz =>
    cases rs with
    | cons r rr =>
      cases rr
      have hz : (asInts l).map (fun ns => PyData.int ns.sum) = some z := hz
      cases hn : asInts l with
      | none => rw [hn] at hz; cases hz
      | some ns =>
        rw [hn] at hz; cases hz
        obtain ⟨a, rfl, h⟩ := tup_ints r hn
        exact .inr ⟨a, ns, rfl, same_sqT (mask_le _ _) h, q _ H (Kx.refl hd) (.int _)⟩
open PySem.Spec PyProof.Rows in
theorem cr_sumT (hc : X.calm = true) : CallR X (.builtin "sum") (rSumT X.K) := by
  intro pins s σ H vs us Q I r h
  obtain ⟨a, ns, rfl, hs, q⟩ := h
  obtain ⟨its, rv, hl, _⟩ := I.tuple hs
  rw [Vals.ref1 r]
  obtain ⟨xs, e⟩ := rv.ints.allInts.items
  have hn : numsOf (intItems xs).toList = ns := by rw [← e]; exact rv.ints.numsOf
  rw [nums_intItems] at hn
  rw [e] at hl
  refine PySem.W.ktm_sumG (I.ok.hd hc) hl fun h' tk t' hk => ⟨.int _, H, I.kept hk, ⟨_, rfl⟩, ?_⟩
  rw [preSum_eq, List.take_of_length_le (by simp), hn]
  exact q
def allD : List D → Option D
  | [.list ds] => (asBools ds).map fun bs => .bool (bs.all id)
  | _ => none
theorem list_bools {K : PySem.W.Frag} {H : Hp} {v : V} {ds : List D} {ns : List Bool} (r : Rep K H v (.list ds)) (h : asBools ds = some ns) : ∃ a, v = .ref a ∧ H a = some (.lst (ns.map V.bl)) := by
  rw [asBools_eq h] at r
  cases r with
  | lst h1 h2 =>
    rw [h2.bools] at h1
    exact ⟨_, rfl, h1⟩
theorem sem_all {K : PySem.W.Frag} : SemC K (rAll K) allD := by
  intro dt M H vs ds z Q hd hm hp rs hz q
  match ds, hz with
  | [.list l], hz =>
    cases rs with
    | cons r rr =>
      cases rr
      have hz : (asBools l).map (fun bs => PyData.bool (bs.all id)) = some z := hz
      cases hn : asBools l with
      | none => rw [hn] at hz; cases hz
      | some ns =>
        rw [hn] at hz; cases hz
        obtain ⟨a, rfl, h⟩ := list_bools r hn
        exact ⟨a, ns, rfl, SqL.of (mask_some h).2, q _ H (Kx.refl hd) (.bl _)⟩
/-- the least of ints -/
def minL : List Int → Option Int
  | [] => none
  | x :: r => some (r.foldl (fun m y => if y < m then y else m) x)
theorem foldMin : ∀ (r : List Int) (x : Int), r.foldl (fun m y => if y < m then y else m) x ∈ x :: r ∧ ∀ y ∈ x :: r, r.foldl (fun m y => if y < m then y else m) x ≤ y
  | [], x => ⟨List.mem_cons_self, fun y hy => by cases hy with | head => exact Int.le_refl _ | tail _ h => cases h⟩
  | z :: r, x => by
    rw [List.foldl_cons]
    have hw : (if z < x then z else x) ≤ z ∧ (if z < x then z else x) ≤ x ∧ ((if z < x then z else x) = z ∨ (if z < x then z else x) = x) := by split <;> omega
    generalize (if z < x then z else x) = w at *
    have ih := foldMin r w
    refine ⟨?_, fun y hy => ?_⟩
    · rcases List.mem_cons.mp ih.1 with h | h
      · rw [h]
        rcases hw.2.2 with q | q
        · rw [q]; exact List.mem_cons_of_mem _ List.mem_cons_self
        · rw [q]; exact List.mem_cons_self
      · exact List.mem_cons_of_mem _ (List.mem_cons_of_mem _ h)
    · have h0 := ih.2 _ List.mem_cons_self
      rcases List.mem_cons.mp hy with h | h
      · subst h
        omega
      · rcases List.mem_cons.mp h with h | h
        · subst h
          omega
        · exact ih.2 y (List.mem_cons_of_mem _ h)
def fnMin : List D → Option D
  | [.list ds] => (asInts ds).bind fun ns => (minL ns).map .int
  | _ => none
theorem sem_min {K : PySem.W.Frag} : SemC K (rMin K) fnMin := by
  intro dt M H vs ds z Q hd hm hp rs hz q
  match ds, hz with
  | [.list l], hz =>
    cases rs with
    | cons r rr =>
      cases rr
      have hz : (asInts l).bind (fun ns => (minL ns).map PyData.int) = some z := hz
      cases hn : asInts l with
      | none => rw [hn] at hz; cases hz
      | some ns =>
        rw [hn] at hz
        obtain ⟨a, rfl, h⟩ := list_ints r hn
        cases ns with
        | nil => cases hz
        | cons x r2 =>
          cases hz
          obtain ⟨f1, f2⟩ := foldMin r2 x
          refine ⟨a, _, rfl, SqL.of (mask_some h).2, by simp, fun m h1 h2 => ?_⟩
          have e : m = r2.foldl (fun m y => if y < m then y else m) x := Int.le_antisymm (h2 _ f1) (f2 _ h1)
          rw [e]
          exact q _ H (Kx.refl hd) (.int _)
end
end Mb
set_option maxHeartbeats 4000000
namespace Mb
open PySem L2
def tyD : D → String
  | .none => "NoneType"
  | .bool _ => "bool"
  | .int _ => "int"
  | .str _ => "str"
  | .list _ => "list"
  | .tuple _ => "tuple"
  | .dict _ => "dict"
def isInt : D → Bool
  | .int _ => true
  | .bool _ => true
  | _ => false
def isBool : D → Bool
  | .bool _ => true
  | _ => false
def isStr : D → Bool
  | .str _ => true
  | _ => false
def isList : D → Bool
  | .list _ => true
  | _ => false
def isTuple : D → Bool
  | .tuple _ => true
  | _ => false
theorem kit_int (d : D) : kitB (tyD d) "int" = some (isInt d) := by
  cases d <;> first
    | exact (by decide +kernel : kitB "NoneType" "int" = some false)
    | exact (by decide +kernel : kitB "bool" "int" = some true)
    | exact (by decide +kernel : kitB "int" "int" = some true)
    | exact (by decide +kernel : kitB "str" "int" = some false)
    | exact (by decide +kernel : kitB "list" "int" = some false)
    | exact (by decide +kernel : kitB "tuple" "int" = some false)
    | exact (by decide +kernel : kitB "dict" "int" = some false)
theorem kit_bool (d : D) : kitB (tyD d) "bool" = some (isBool d) := by
  cases d <;> first
    | exact (by decide +kernel : kitB "NoneType" "bool" = some false)
    | exact (by decide +kernel : kitB "bool" "bool" = some true)
    | exact (by decide +kernel : kitB "int" "bool" = some false)
    | exact (by decide +kernel : kitB "str" "bool" = some false)
    | exact (by decide +kernel : kitB "list" "bool" = some false)
    | exact (by decide +kernel : kitB "tuple" "bool" = some false)
    | exact (by decide +kernel : kitB "dict" "bool" = some false)
theorem kit_str (d : D) : kitB (tyD d) "str" = some (isStr d) := by
  cases d <;> first
    | exact (by decide +kernel : kitB "NoneType" "str" = some false)
    | exact (by decide +kernel : kitB "bool" "str" = some false)
    | exact (by decide +kernel : kitB "int" "str" = some false)
    | exact (by decide +kernel : kitB "str" "str" = some true)
    | exact (by decide +kernel : kitB "list" "str" = some false)
    | exact (by decide +kernel : kitB "tuple" "str" = some false)
    | exact (by decide +kernel : kitB "dict" "str" = some false)
theorem kit_list (d : D) : kitB (tyD d) "list" = some (isList d) := by
  cases d <;> first
    | exact (by decide +kernel : kitB "NoneType" "list" = some false)
    | exact (by decide +kernel : kitB "bool" "list" = some false)
    | exact (by decide +kernel : kitB "int" "list" = some false)
    | exact (by decide +kernel : kitB "str" "list" = some false)
    | exact (by decide +kernel : kitB "list" "list" = some true)
    | exact (by decide +kernel : kitB "tuple" "list" = some false)
    | exact (by decide +kernel : kitB "dict" "list" = some false)
theorem kit_tuple (d : D) : kitB (tyD d) "tuple" = some (isTuple d) := by
  cases d <;> first
    | exact (by decide +kernel : kitB "NoneType" "tuple" = some false)
    | exact (by decide +kernel : kitB "bool" "tuple" = some false)
    | exact (by decide +kernel : kitB "int" "tuple" = some false)
    | exact (by decide +kernel : kitB "str" "tuple" = some false)
    | exact (by decide +kernel : kitB "list" "tuple" = some false)
    | exact (by decide +kernel : kitB "tuple" "tuple" = some true)
    | exact (by decide +kernel : kitB "dict" "tuple" = some false)
def notD : D → Bool
  | .dict _ => false
  | _ => true
theorem rep_ty {K : PySem.W.Frag} {H : Hp} {v : V} {d : D} (r : Rep K H v d) (hn : notD d = true) : TyX K H v (.type (tyD d)) := by
  cases r with
  | non => exact .base .non
  | bl b => exact .base (.bl b)
  | int i => exact .base (.int i)
  | str x => exact .base (.str x)
  | lst h _ => exact .base (.lst h)
  | tup h _ =>
    rcases h with (h | ⟨o, h⟩) | ⟨o, its, n, hk, hc, _⟩
    · exact .base (.tup h)
    · exact .fTuple h
    · exact .kTuple hk hc
  | dic => cases hn
def vIsi (fn : D → Bool) (f : Envt → Tr D) : Envt → Tr D := fun env => (f env).bind fun d => if notD d then .ret (.bool (fn d)) else .bad
section
variable {cl : CL} {X : Cx} {E : XK} {e a b c : Expr} {f g h : Envt → Tr D} {pos : Pos}
theorem de_isi {T : String} {x : Str} {p p2 : Pos} {fn : D → Bool} (hk : ∀ d, kitB (tyD d) T = some (fn d)) (hm : X.mg "isinstance" = none) (hmT : X.mg x = none) (hvT : bootBuiltins x = some (.type T)) (ha : DE cl X E a f) (hg : Gl X "isinstance" := by rfl) (hgT : Gl X x := by rfl)
    (hn : x ≠ "__name__" := by decide) (hdb : (x == ("__debug__" : Str)) = false := by decide) (he : starEach [a, .Name x p2] X.env = (false, eval a X.env) :: starEach [.Name x p2] X.env := by rfl) (he2 : starEach [.Name x p2] X.env = (false, eval (.Name x p2) X.env) :: starEach [] X.env := by rfl)
    (hpl : (backTo pos (starEach [.Name x p2] X.env)).any (·.1) = false := by rfl) : DE cl X E (.Call (.Name "isinstance" p) [a, .Name x p2] [] pos) (vIsi fn f) := by
  obtain ⟨ta, pa, ra⟩ := ha
  refine ⟨_, pe_callB call_isi hg hm (by decide +kernel) (pa_cons pa (pa_cons (pe_bltn (v := .ty T) hgT hmT hvT rfl hn hdb) pa_nil he2) he) (by decide) (by decide) he hpl, fun F B ad σ H env Q hk' hc o k => ?_⟩
  refine ra F B ad σ H env _ hk' hc o (Tr.all_mono (fun d z v H1 k1 rv => ?_) (fun _ z => z) (Tr.all_bind k))
  cases hnd : notD d with
  | false => rw [hnd] at z; exact z.elim
  | true =>
    rw [hnd] at z
    exact ⟨v, .ty T, .type (tyD d), .type T, fn d, rfl, .ty T, by rw [← hk']; exact rep_ty (rv.mono (mask_le _ _)) hnd, kit_ty (hk d), z _ H1 k1 (.bl _)⟩
def rCntD (K : PySem.W.Frag) : V → List V → Hp → VK → Prop := fun x xs H Q => ∃ (a : Addr) (y : V) (d : PyData) (ds : List PyData), x = V.ref a ∧ xs = [y] ∧ Dp K H (V.ref a) (.list ds) ∧ Dp K H y d ∧ SeqAt.shaped (.list ds) = true ∧ SeqAt.shaped d = true ∧ Q (.int ((ds.countP fun z => PyData.eqv z d : Nat) : Int)) H
open PySem.Spec PyProof.Rows in
theorem mt_countD (hu : X.A.units + 65 < cLine) : MtR X "list.count" (rCntD X.K) := by
  intro pins s σ H x xs v us Q I rx rxs h
  obtain ⟨a, y, d, ds, rfl, rfl, hl, hy, sl, sd, q⟩ := h
  cases rx
  cases rxs with
  | cons ry rt =>
    rename_i uy ut
    cases rt
    obtain ⟨bs, r1⟩ := Dp.reads I d y uy hy ry
    have hxs : PyData.canLayAll0 ds = true := SeqAt.canLay_of_shaped sl
    have hroom : X.A.units + 1 + min (PyData.depthAll ds) d.depth < cLine := room_in_shaped sd hu
    cases hl with
    | lst hs ha =>
      obtain ⟨its, rv, ⟨⟨cls, dd, data, sls⟩, n, ho, hc, hdn, hdt⟩, hlen⟩ := I.list hs
      simp only at hc hdt
      subst hc hdt
      obtain ⟨as, h4⟩ := Dp.readsAll I ds _ its ha rv
      have hmap : its.map (SeqAt.readOf s.heap) = ds := SeqAt.readsAll_map ds its as hxs h4
      refine call_meets PySem.F.slot_list_count ⟨_, ho, rfl⟩ PySem.F.entry_list_count (PySem.F.args_list_count_2 _ _)
        (SeqAt.list_countAt a its.toArray n dd sls uy (fun u => PyData.eqv (SeqAt.readOf s.heap u) d)) ⟨ho, SeqAt.items_eqAt (vs := its.toArray) (show ReadsAll s.heap its.toArray.toList ds as from h4) r1 hxs (SeqAt.canLay_of_shaped sd) hroom, ?_⟩
      refine ⟨.int _, H, I.tok _, ⟨s.toks, ?_⟩, q⟩
      show Value.int ((its.toArray.toList.countP (fun u => PyData.eqv (SeqAt.readOf s.heap u) d) : Nat) : Int) s.toks = Value.int ((ds.countP fun z => PyData.eqv z d : Nat) : Int) s.toks
      rw [← hmap, List.countP_map]
      rfl
def dCount (d e : D) : Option D := match d with
  | .list ds => if shp (.list ds) && shp e then some (.int ((ds.countP fun z => PyData.eqv z e : Nat) : Int)) else none
  | _ => none
/-- the first place of an equal one -/
def dIndex (d e : D) : Option D := match d with
  | .list ds => if shp (.list ds) && shp e then (ds.findIdx? fun z => PyData.eqv z e).map fun (j : Nat) => .int (j : Int) else none
  | _ => none
def vMeth (chk : D → Bool) (op : D → D → Option D) (f g : Envt → Tr D) : Envt → Tr D := fun env => (f env).bind fun x => if chk x then (g env).bind fun y => ofO (op x y) else .bad
theorem de_count {k : Nat} {p : Pos} (hr : Room k X.A) (ha : DE cl X E a f) (hb : DE cl X E b g) (hbase : attributeBase a "count" X.env (eval a X.env) = eval a X.env := by rfl)
    (hfew : ((backTo pos (starEach [b] X.env)).all (fun x => !x.1) && (backToKw pos (keywordEach [] X.env)).all (fun x => x.1.isSome) && decide ([b].length + ([] : List Keyword).length + (if ([] : List Keyword).isEmpty then 0 else 1) < 30)) = true := by rfl)
    (hline : (p.endLine == pos.line) = true := by rfl) (hs : starEach [b] X.env = (false, eval b X.env) :: starEach [] X.env := by rfl) (hplain : (backTo pos (starEach [] X.env)).any (·.1) = false := by rfl) : DE cl X E (.Call (.Attribute a "count" p) [b] [] pos) (vMeth isList dCount f g) := by
  obtain ⟨ta, pa, ra⟩ := ha
  obtain ⟨tb, pb, rb⟩ := hb
  refine ⟨_, pe_bm PySem.F.plainAttrs_list PySem.F.slot_list_count PySem.F.type_list_count (mt_countD (by have := hr.un; omega)) pa (pa_cons pb pa_nil hs) hbase hfew hline hs hplain, fun F B ad σ H env Q hk hc o k => ?_⟩
  refine ra F B ad σ H env _ hk hc o (Tr.all_mono (fun d z x H1 k1 rx => ?_) (fun _ z => z) (Tr.all_bind k))
  cases rx with
  | @lst p xs ds h1 h2 =>
    refine ⟨.inl ⟨rfl, xs, SqL.of (mask_some h1).2⟩, rb F B ad σ H1 env _ hk hc (o.kx k1) (Tr.all_mono (fun e z y H2 k2 ry => ?_) (fun _ z => z) (Tr.all_bind z))⟩
    cases hz : dCount (.list ds) e with
    | none => rw [hz] at z; exact z.elim
    | some w =>
      rw [hz] at z
      obtain ⟨h3, rfl⟩ := if_some hz
      rw [Bool.and_eq_true] at h3
      refine ⟨p, y, e, ds, rfl, rfl, ?_, ?_, shp_shaped h3.1, shp_shaped h3.2, z _ H2 (k1.trans k2) (.int _)⟩
      · rw [← hk]; exact Rep.dp (Rep.mono (mask_le _ _) (Rep.mono k2.msame (.lst h1 h2))) (shp_lay h3.1)
      · rw [← hk]; exact Rep.dp (Rep.mono (mask_le _ _) ry) (shp_lay h3.2)
  | _ => exact z.elim
theorem de_index {k : Nat} {p : Pos} (hr : Room k X.A) (ha : DE cl X E a f) (hb : DE cl X E b g) (hbase : attributeBase a "index" X.env (eval a X.env) = eval a X.env := by rfl)
    (hfew : ((backTo pos (starEach [b] X.env)).all (fun x => !x.1) && (backToKw pos (keywordEach [] X.env)).all (fun x => x.1.isSome) && decide ([b].length + ([] : List Keyword).length + (if ([] : List Keyword).isEmpty then 0 else 1) < 30)) = true := by rfl)
    (hline : (p.endLine == pos.line) = true := by rfl) (hs : starEach [b] X.env = (false, eval b X.env) :: starEach [] X.env := by rfl) (hplain : (backTo pos (starEach [] X.env)).any (·.1) = false := by rfl) : DE cl X E (.Call (.Attribute a "index" p) [b] [] pos) (vMeth isList dIndex f g) := by
  obtain ⟨ta, pa, ra⟩ := ha
  obtain ⟨tb, pb, rb⟩ := hb
  refine ⟨_, pe_bm PySem.F.plainAttrs_list PySem.F.slot_list_index PySem.F.type_list_index (mt_indexD (by have := hr.un; omega)) pa (pa_cons pb pa_nil hs) hbase hfew hline hs hplain, fun F B ad σ H env Q hk hc o k => ?_⟩
  refine ra F B ad σ H env _ hk hc o (Tr.all_mono (fun d z x H1 k1 rx => ?_) (fun _ z => z) (Tr.all_bind k))
  cases rx with
  | @lst p xs ds h1 h2 =>
    refine ⟨.inl ⟨rfl, xs, SqL.of (mask_some h1).2⟩, rb F B ad σ H1 env _ hk hc (o.kx k1) (Tr.all_mono (fun e z y H2 k2 ry => ?_) (fun _ z => z) (Tr.all_bind z))⟩
    cases hz : dIndex (.list ds) e with
    | none => rw [hz] at z; exact z.elim
    | some w =>
      rw [hz] at z
      have hz : (if shp (.list ds) && shp e then (ds.findIdx? fun z => PyData.eqv z e).map (fun (j : Nat) => PyData.int (j : Int)) else none) = some w := hz
      cases h3 : shp (.list ds) && shp e with
      | false => rw [h3] at hz; cases hz
      | true =>
        rw [h3] at hz
        rw [Bool.and_eq_true] at h3
        cases hj : ds.findIdx? fun z => PyData.eqv z e with
        | none => rw [hj] at hz; cases hz
        | some j =>
          rw [hj] at hz
          cases hz
          obtain ⟨hjl, h5, h6⟩ := List.findIdx?_eq_some_iff_getElem.mp hj
          refine ⟨p, y, e, ds, j, ds[j], rfl, rfl, ?_, ?_, shp_shaped h3.1, shp_shaped h3.2, List.getElem?_eq_getElem hjl, h5, fun m z' hm hz' => ?_, z _ H2 (k1.trans k2) (.int _)⟩
          · rw [← hk]; exact Rep.dp (Rep.mono (mask_le _ _) (Rep.mono k2.msame (.lst h1 h2))) (shp_lay h3.1)
          · rw [← hk]; exact Rep.dp (Rep.mono (mask_le _ _) ry) (shp_lay h3.2)
          · have := h6 m hm
            rw [List.getElem?_eq_getElem (by omega)] at hz'
            cases hz'
            simpa using this
  | _ => exact z.elim
end
inductive Out where
  | nx (env : Envt)
  | rt (d : D)
  | bk (env : Envt)
  | ct (env : Envt)
abbrev Stm := Envt → Tr Out
def SPost (F : Fx) (B : Hp) (N : Ends) : Out → Prop
  | .nx env => ∀ ad σ H, Ok F B ad σ H env → N.nx σ H
  | .bk env => ∀ ad σ H, Ok F B ad σ H env → N.bk σ H
  | .ct env => ∀ ad σ H, Ok F B ad σ H env → N.ct σ H
  | .rt d => ∀ v H, Kx F.dt F.O F.H0 H → Rep F.K (mask H F.O) v d → N.rt v H
def DS (cl : CL) (X : Cx) (E : XK) (st : Stmt) (g : Stm) : Prop := ∃ t, PS X st t ∧ ∀ (F : Fx) (B : Hp) (ad : Ads) (σ : St) (H : Hp) (env : Envt) (N : Ends), F.K = X.K → F.cl = cl → Ok F B ad σ H env → (g env).all (SPost F B N) (EOk F E) → t N σ H
def DSs (cl : CL) (X : Cx) (E : XK) (st : List Stmt) (g : Stm) : Prop := ∃ t, PSs X st t ∧ ∀ (F : Fx) (B : Hp) (ad : Ads) (σ : St) (H : Hp) (env : Envt) (N : Ends), F.K = X.K → F.cl = cl → Ok F B ad σ H env → (g env).all (SPost F B N) (EOk F E) → t N σ H
def sNil : Stm := fun env => .ret (.nx env)
def sSeq (g h : Stm) : Stm := fun env => (g env).bind fun o => match o with
  | .nx env' => h env'
  | .rt d => .ret (.rt d)
  | .bk e => .ret (.bk e)
  | .ct e => .ret (.ct e)
section
variable {cl : CL} {X : Cx} {E : XK} {e a b c : Expr} {f g h : Envt → Tr D} {pos : Pos} {st : Stmt} {sts : List Stmt} {u v : Stm}
theorem dss_nil : DSs cl X E [] sNil := ⟨_, pss_nil, fun F B ad σ H env N hk hc o k => k ad σ H o⟩
theorem dss_one (h : DS cl X E st u) : DSs cl X E [st] u := by
  obtain ⟨t, p, r⟩ := h
  exact ⟨t, pss_one p, r⟩
theorem dss_cons (h1 : DS cl X E st u) (h2 : DSs cl X E sts v) : DSs cl X E (st :: sts) (sSeq u v) := by
  obtain ⟨t, p, r⟩ := h1
  obtain ⟨t2, p2, r2⟩ := h2
  refine ⟨_, pss_cons p p2, fun F B ad σ H env N hk hc o k => ?_⟩
  refine r F B ad σ H env _ hk hc o (Tr.all_mono (fun ou z => ?_) (fun _ z => z) (Tr.all_bind k))
  cases ou with
  | nx env' => exact fun ad' σ' H' o' => r2 F B ad' σ' H' env' N hk hc o' z
  | rt d => exact z
  | bk e => exact z
  | ct e => exact z
/-- a slot's own list is no longer changed from here on -/
def sFz (i : Nat) (u : Stm) : Stm := fun env => match env[i]? with
  | some (.ow ds) => u (env.set i (.fz (.list ds)))
  | some (.od kvs) => u (env.set i (.fz (.dict kvs)))
  | _ => u env
theorem dss_fz (i : Nat) (h : DSs cl X E sts u) : DSs cl X E sts (sFz i u) := by
  obtain ⟨t, p, r⟩ := h
  refine ⟨t, p, fun F B ad σ H env N hk hc o k => ?_⟩
  unfold sFz at k
  split at k
  · rename_i ds he
    exact r F B _ σ H _ N hk hc (o.freeze he) k
  · rename_i ds he
    exact r F B _ σ H _ N hk hc (o.freezeD he) k
  · exact r F B ad σ H env N hk hc o k
def sSet (i : Nat) (f : Envt → Tr D) : Stm := fun env => (f env).bind fun d => .ret (.nx (env.set i (.fz d)))
def sOwn (i : Nat) (f : Envt → Tr (List D)) : Stm := fun env => (f env).bind fun ds => .ret (.nx (env.set i (.ow ds)))
theorem ds_set (i : Nat) {x : Str} {p2 : Pos} (hN : X.N.Nodup) (he : DE cl X E e f) (hi : X.N[i]? = some x := by rfl) (hx : Loc X.env.scope x := by first | exact Or.inl rfl | exact Or.inr rfl) (hs : swapsWith e (some (.Name x p2)) pos.line X.env = pure false := by rfl)
    (hf : X.fn x = true ∨ X.env.scope.names.lookup x = some .local := by first | exact .inl rfl | exact .inr rfl | assumption) : DS cl X E (.Assign [.Name x p2] e pos) (sSet i f) := by
  obtain ⟨t, p, r⟩ := he
  refine ⟨_, ps_set (i := i) hN hi hx p hs hf, fun F B ad σ H env N hk hc o k => ?_⟩
  refine r F B ad σ H env _ hk hc o (Tr.all_mono (fun d z v H1 k1 rv => ?_) (fun _ z => z) (Tr.all_bind k))
  exact z _ _ H1 ((o.kx k1).setFz rv)
theorem ds_own (i : Nat) {x : Str} {p2 : Pos} {f : Envt → Tr (List D)} (hN : X.N.Nodup) (he : DN cl X E e f) (hi : X.N[i]? = some x := by rfl) (hx : Loc X.env.scope x := by first | exact Or.inl rfl | exact Or.inr rfl) (hs : swapsWith e (some (.Name x p2)) pos.line X.env = pure false := by rfl)
    (hf : X.fn x = true ∨ X.env.scope.names.lookup x = some .local := by first | exact .inl rfl | exact .inr rfl | assumption) : DS cl X E (.Assign [.Name x p2] e pos) (sOwn i f) := by
  obtain ⟨t, p, r⟩ := he
  refine ⟨_, ps_set (i := i) hN hi hx p hs hf, fun F B ad σ H env N hk hc o k => ?_⟩
  refine r F B ad σ H env _ hk hc o (Tr.all_mono (fun ds z p H1 vs k1 hn hp rv => ?_) (fun _ z => z) (Tr.all_bind k))
  exact z _ _ H1 (o.setOw k1 hn hp rv)
/-- target = value, the target a tuple of names -/
def sAsg (gd : Tgt) (f : Envt → Tr D) : Stm := fun env => (f env).bind fun d => (ofO (gd d env)).bind fun env' => .ret (.nx env')
theorem ds_asg {tg : Expr} {sl : List Nat} {gd : Tgt} (he : DE cl X E e f) (hg : DG X tg sl gd) (hs : swapsWithSole [tg] e pos.line X.env = pure false := by rfl) (hw : swappedStores [tg] e X.env = pure none := by rfl)
    (h1 : (assignEach [tg] X.env).map (·.2) = [assign tg X.env] := by rfl) : DS cl X E (.Assign [tg] e pos) (sAsg gd f) := by
  obtain ⟨t, p, r⟩ := he
  obtain ⟨g, pg, rg⟩ := hg
  refine ⟨_, ps_asg p pg hs hw h1, fun F B ad σ H env N hk hc o k => ?_⟩
  refine r F B ad σ H env _ hk hc o (Tr.all_mono (fun d z v H1 k1 rv => ?_) (fun _ z => z) (Tr.all_bind k))
  cases hgd : gd d env with
  | none => rw [hgd] at z; exact z.elim
  | some env' =>
    rw [hgd] at z
    exact rg F B ad σ H1 env env' v d _ hk (o.kx k1) rv hgd fun ad' σ' o' _ _ _ => z ad' σ' H1 o'
inductive PEnts (K : PySem.W.Frag) (dt : Dl) : (Addr → Prop) → Hp → Hp → List V → List Ent → Prop
  | nil {M : Addr → Prop} {H H' : Hp} : Kx dt M H H' → PEnts K dt M H H' [] []
  | fz {M : Addr → Prop} {H H1 H' : Hp} {v : V} {vs : List V} {d : D} {es : List Ent} : Kx dt M H H1 → Rep K (mask H1 M) v d → PEnts K dt M H1 H' vs es → PEnts K dt M H H' (v :: vs) (.fz d :: es)
  | ow {M : Addr → Prop} {H H1 H' : Hp} {p : Addr} {xs : List V} {vs : List V} {ds : List D} {es : List Ent} : Kx dt (fun a => M a ∨ a = p) H H1 → H p = none → H1 p = some (.lst xs) → RepAll K (mask H1 fun a => M a ∨ a = p) xs ds → PEnts K dt (fun a => M a ∨ a = p) H1 H' vs es →
    PEnts K dt M H H' (.ref p :: vs) (.ow ds :: es)
  | od {M : Addr → Prop} {H H1 H' : Hp} {p : Addr} {ob : Obj} {vs : List V} {kvs : List (D × D)} {es : List Ent} : Kx dt (fun a => M a ∨ a = p) H H1 → H p = none → H1 p = some (DicO p ob) → RDk K (mask H1 fun a => M a ∨ a = p) ob kvs → PEnts K dt (fun a => M a ∨ a = p) H1 H' vs es →
    PEnts K dt M H H' (.ref p :: vs) (.od kvs :: es)
theorem PEnts.kx {K : PySem.W.Frag} {dt : Dl} {M : Addr → Prop} {H H' H2 : Hp} {vs : List V} {es : List Ent} (h : PEnts K dt M H H' vs es) (k : ∀ M, DrOk dt M H' → Kx dt M H' H2) : PEnts K dt M H H2 vs es := by
  induction h with
  | nil k0 => exact .nil (k0.trans (k _ k0.dr))
  | fz k0 r _ ih => exact .fz k0 r (ih k)
  | ow k0 hn hp r _ ih => exact .ow k0 hn hp r (ih k)
  | od k0 hn hp r _ ih => exact .od k0 hn hp r (ih k)
theorem PEnts.all {K : PySem.W.Frag} {dt : Dl} {M : Addr → Prop} {H H' : Hp} {vs : List V} {es : List Ent} (h : PEnts K dt M H H' vs es) : Kx dt M H H' := by
  induction h with
  | nil k0 => exact k0
  | fz k0 r _ ih => exact k0.trans ih
  | ow k0 hn hp r _ ih => exact (k0.trans ih).weak fun _ q => .inl q
  | od k0 hn hp r _ ih => exact (k0.trans ih).weak fun _ q => .inl q
theorem PEnts.length {K : PySem.W.Frag} {dt : Dl} {M : Addr → Prop} {H H' : Hp} {vs : List V} {es : List Ent} (h : PEnts K dt M H H' vs es) : vs.length = es.length := by
  induction h with
  | nil k0 => rfl
  | fz k0 r _ ih => rw [List.length_cons, List.length_cons, ih]
  | ow k0 hn hp r _ ih => rw [List.length_cons, List.length_cons, ih]
  | od k0 hn hp r _ ih => rw [List.length_cons, List.length_cons, ih]
def setAll : Envt → List Nat → List Ent → Envt
  | env, i :: is, e :: es => setAll (env.set i e) is es
  | env, _, _ => env
def setV : St → List Nat → List V → St
  | σ, i :: is, v :: vs => setV (σ.set i (some v)) is vs
  | σ, _, _ => σ
theorem Ok.sets {F : Fx} {B : Hp} {M : Addr → Prop} {H H' : Hp} {vs : List V} {es : List Ent} (h : PEnts F.K F.dt M H H' vs es) : ∀ {ad : Ads} {σ : St} {env : Envt} (is : List Nat), Ok F B ad σ H env → (∀ a, Mm F ad a → M a) → ∃ ad', Ok F B ad' (setV σ is vs) H' (setAll env is es) := by
  induction h with
  | nil k0 =>
    intro ad σ env is o hm
    cases is <;> exact ⟨ad, o.kx (k0.weak hm)⟩
  | @fz M H H1 H' v vs d es k0 r rest ih =>
    intro ad σ env is o hm
    cases is with
    | nil => exact ⟨ad, o.kx ((k0.trans rest.all).weak hm)⟩
    | cons i is =>
      refine ih is ((o.kx (k0.weak hm)).setFz (r.mono (mask_same fun a x n e => ⟨fun q => n (hm a q), e⟩))) fun a q => hm a (Mm_setN q)
  | @ow M H H1 H' p xs vs ds es k0 hn hp r rest ih =>
    intro ad σ env is o hm
    cases is with
    | nil => exact ⟨ad, o.kx ((k0.trans rest.all).weak fun a q => .inl (hm a q))⟩
    | cons i is =>
      refine ih is (o.setOw (k0.weak fun a q => q.imp_left (hm a)) hn hp (r.mono (mask_same fun a x n e => ⟨fun q => n (q.elim (fun q => .inl (hm a q)) .inr), e⟩))) fun a q => (Mm_set q).elim (fun q => .inl (hm a q)) .inr
  | @od M H H1 H' p ob vs kvs es k0 hn hp r rest ih =>
    intro ad σ env is o hm
    cases is with
    | nil => exact ⟨ad, o.kx ((k0.trans rest.all).weak fun a q => .inl (hm a q))⟩
    | cons i is =>
      refine ih is (o.setOd (k0.weak fun a q => q.imp_left (hm a)) hn hp (r.mono (mask_same fun a x n e => ⟨fun q => n (q.elim (fun q => .inl (hm a q)) .inr), e⟩))) fun a q => (Mm_set q).elim (fun q => .inl (hm a q)) .inr
def DPs (cl : CL) (X : Cx) (E : XK) (es : List Expr) (g : Envt → Tr (List Ent)) : Prop := ∃ t, PA X es t ∧ ∀ (F : Fx) (B : Hp) (ad : Ads) (σ : St) (H : Hp) (env : Envt) (Q : List V → Hp → Prop), F.K = X.K → F.cl = cl → Ok F B ad σ H env →
  (g env).all (fun ents => ∀ vs H', PEnts F.K F.dt (Mm F ad) H H' vs ents → Q vs H') (EOk F E) → t σ H Q
theorem dps_nil : DPs cl X E [] aNil := ⟨_, pa_nil, fun F B ad σ H env Q hk hc o k => k [] H (.nil (Kx.refl o.k0.dr))⟩
theorem dps_fz {es : List Expr} {g : Envt → Tr (List Ent)} (ha : DE cl X E a f) (hr : DPs cl X E es g) (hs : starEach (a :: es) X.env = (false, eval a X.env) :: starEach es X.env := by rfl) : DPs cl X E (a :: es) (aCons f g) := by
  obtain ⟨t, p, r⟩ := ha
  obtain ⟨u, q, s⟩ := hr
  refine ⟨_, pa_cons p q hs, fun F B ad σ H env Q hk hc o k => ?_⟩
  refine r F B ad σ H env _ hk hc o (Tr.all_mono (fun d z x H1 k1 rx => ?_) (fun _ z => z) (Tr.all_bind k))
  refine s F B ad σ H1 env _ hk hc (o.kx k1) (Tr.all_mono (fun es z xs H2 ps => ?_) (fun _ z => z) (Tr.all_bind z))
  exact z _ H2 (.fz k1 rx ps)
def aOwn (f : Envt → Tr (List D)) (g : Envt → Tr (List Ent)) : Envt → Tr (List Ent) := fun env => (f env).bind fun ds => (g env).bind fun es => .ret (.ow ds :: es)
theorem EOk.plus {F : Fx} {D : Addr} {x : HO} {h : F.H0 D = none} {c : Nat} (k : EOk F E c) : EOk (F.plus D x h) E c := fun H' kx => k H' ⟨fun b o e n => kx.keep b o (same_new h b o e) n, kx.dr.weak fun _ q => .inl q⟩
theorem Mm_plus {F : Fx} {D : Addr} {x : HO} {h : F.H0 D = none} {ad : Ads} : Mm (F.plus D x h) ad = fun a => Mm F ad a ∨ a = D := by
  funext a
  apply propext
  constructor
  · rintro ((q | q) | q)
    · exact .inl (.inl q)
    · exact .inr q
    · exact .inl (.inr q)
  · rintro ((q | q) | q)
    · exact .inl (.inl q)
    · exact .inr q
    · exact .inl (.inr q)
theorem dps_ow {es : List Expr} {f : Envt → Tr (List D)} {g : Envt → Tr (List Ent)} (ha : DN cl X E a f) (hr : DPs cl X E es g) (hs : starEach (a :: es) X.env = (false, eval a X.env) :: starEach es X.env := by rfl) : DPs cl X E (a :: es) (aOwn f g) := by
  obtain ⟨t, p, r⟩ := ha
  obtain ⟨u, q, s⟩ := hr
  refine ⟨_, pa_cons p q hs, fun F B ad σ H env Q hk hc o k => ?_⟩
  refine r F B ad σ H env _ hk hc o (Tr.all_mono (fun ds z p H1 vs k1 hn hp rp => ?_) (fun _ z => z) (Tr.all_bind k))
  have h0 := o.H0none hn
  refine s (F.plus p (.lst vs) h0) B ad σ H1 env _ hk hc (o.plus k1 hn hp h0) (Tr.all_mono (fun es z xs H2 ps => ?_) (fun _ z => z.plus) (Tr.all_bind z))
  rw [Mm_plus] at ps
  exact z _ H2 (.ow k1 hn hp rp ps)
def sPar (is : List Nat) (g : Envt → Tr (List Ent)) : Stm := fun env => (g env).bind fun es => if es.length == is.length then .ret (.nx (setAll env is es)) else .bad
theorem ds_par2 (i j : Nat) {x y : Str} {px py pt : Pos} {kt k2 : Nat} {pt2 : Pos} {g : Envt → Tr (List Ent)} (hN : X.N.Nodup) (ha : DPs cl X E [a, b] g) (hw : swappedStores [.Tuple [.Name x px, .Name y py] kt pt] (.Tuple [a, b] k2 pt2) X.env = pure (some [x, y]) := by rfl)
    (hi : X.N[i]? = some x := by rfl) (hj : X.N[j]? = some y := by rfl) (hij : i ≠ j := by decide) (hx : X.env.scope.names.lookup x = some .local := by rfl) (hy : X.env.scope.names.lookup y = some .local := by rfl) (hc : X.calm = true := by rfl)
    (hs : swapsWithSole [.Tuple [.Name x px, .Name y py] kt pt] (.Tuple [a, b] k2 pt2) pos.line X.env = pure false := by rfl) : DS cl X E (.Assign [.Tuple [.Name x px, .Name y py] kt pt] (.Tuple [a, b] k2 pt2) pos) (sPar [i, j] g) := by
  obtain ⟨t, p, r⟩ := ha
  refine ⟨_, ps_par hc hN hi hj hij hx hy p hw hs, fun F B ad σ H env N hk hcl o k => ?_⟩
  refine r F B ad σ H env _ hk hcl o (Tr.all_mono (fun es z vs H1 ps => ?_) (fun _ z => z) (Tr.all_bind k))
  have hl := ps.length
  match es, vs, z, ps, hl with
  | [e1, e2], [v1, v2], z, ps, _ =>
    obtain ⟨ad', o'⟩ := Ok.sets ps [i, j] o fun _ q => q
    exact ⟨v1, v2, rfl, z ad' _ H1 o'⟩
  | [], _, z, _, _ => exact z.elim
  | [_], _, z, _, _ => exact z.elim
  | _ :: _ :: _ :: _, _, z, _, _ => exact (show False from z).elim
/-- names that are stored one after the other -/
structure Names (X : Cx) (tgs : List Expr) (is : List Nat) : Prop where
  pg : ∃ t, PGs X tgs t ∧ ∀ (vs : List V) (σ : St) (H : Hp) (Q : St → Hp → Prop), vs.length = is.length → Q (setV σ is vs) H → t vs σ H Q
theorem nms_nil : Names X [] [] := ⟨_, pgs_nil, fun vs σ H Q hl q => by
  cases vs with
  | nil => exact ⟨rfl, q⟩
  | cons _ _ => cases hl⟩
theorem nms_cons (i : Nat) {x : Str} {es : List Expr} {is : List Nat} (hN : X.N.Nodup) (h : Names X es is) (hi : X.N[i]? = some x := by rfl) (hx : Loc X.env.scope x := by first | exact Or.inl rfl | exact Or.inr rfl) (hf : X.fn x = true ∨ X.env.scope.names.lookup x = some .local := by first | exact .inl rfl | exact .inr rfl | assumption)
    (hs : (assignEach (.Name x pos :: es) X.env).map (·.2) = assign (.Name x pos) X.env :: (assignEach es X.env).map (·.2) := by rfl) : Names X (.Name x pos :: es) (i :: is) := by
  obtain ⟨t, p, r⟩ := h
  refine ⟨_, pgs_cons (pg_name (i := i) hN hi hx hf) p hs, fun vs σ H Q hl q => ?_⟩
  cases vs with
  | nil => cases hl
  | cons v vs => exact ⟨v, vs, rfl, r vs _ H Q (by simpa using hl) q⟩
theorem ds_parN {tgs es : List Expr} {is : List Nat} {kt k2 : Nat} {pt pt2 : Pos} {g : Envt → Tr (List Ent)} (ha : DPs cl X E es g) (hn : Names X tgs is) (hc : X.calm = true := by rfl) (hlen : (assignEach tgs X.env).length = is.length := by rfl) (hst : (assignEach tgs X.env).findIdx? (·.1) = none := by rfl)
    (hs : swapsWithSole [.Tuple tgs kt pt] (.Tuple es k2 pt2) pos.line X.env = pure false := by rfl) (hw : swappedStores [.Tuple tgs kt pt] (.Tuple es k2 pt2) X.env = pure none := by rfl) (h1 : (assignEach [.Tuple tgs kt pt] X.env).map (·.2) = [assign (.Tuple tgs kt pt) X.env] := by rfl) (hz : is.length ≤ 1000 := by decide) : DS cl X E (.Assign [.Tuple tgs kt pt] (.Tuple es k2 pt2) pos) (sPar is g) := by
  obtain ⟨t, p, r⟩ := ha
  obtain ⟨tg, pg, rg⟩ := hn
  refine ⟨_, ps_asg (pe_tup p) (pg_tup hc pg hlen hst) hs hw h1, fun F B ad σ H env N hk hcl o k => ?_⟩
  refine r F B ad σ H env _ hk hcl o (Tr.all_mono (fun es z vs H1 ps => ?_) (fun _ z => z) (Tr.all_bind k))
  have hl := ps.length
  cases hq : es.length == is.length with
  | false => rw [hq] at z; exact z.elim
  | true =>
    rw [hq] at z
    have hq := of_decide_eq_true hq
    refine ⟨by rw [hl, hq]; exact Nat.le_trans hz (by decide), fun T hT => ⟨T, vs, rfl, SqT.of upd_same, by rw [hl, hq], rg vs σ _ _ (by rw [hl, hq]) ?_⟩⟩
    obtain ⟨ad', o'⟩ := Ok.sets (ps.kx (fun _ d => Kx.new d hT)) is o fun _ q => q
    exact z ad' _ _ o'
end
end Mb
set_option maxHeartbeats 4000000
namespace Mb
open PySem L2
section
variable {cl : CL} {X : Cx} {E : XK} {e a b c : Expr} {f g h : Envt → Tr D} {pos : Pos} {st : Stmt} {sts : List Stmt} {u v : Stm}
def sRet (f : Envt → Tr D) : Stm := fun env => (f env).bind fun d => .ret (.rt d)
theorem ds_ret (he : DE cl X E e f) : DS cl X E (.Return (some e) pos) (sRet f) := by
  obtain ⟨t, p, r⟩ := he
  refine ⟨_, ps_ret p, fun F B ad σ H env N hk hc o k => ?_⟩
  refine r F B ad σ H env _ hk hc o (Tr.all_mono (fun d z v H1 k1 rv => ?_) (fun _ z => z) (Tr.all_bind k))
  exact z v H1 ((o.kx k1).kO) (rv.mono (mm_O _ _))
def sRetN : Stm := fun _ => .ret (.rt .none)
def sDrop (f : Envt → Tr D) : Stm := fun env => (f env).bind fun _ => .ret (.nx env)
theorem ds_expr (he : DE cl X E e f) (hs : swapsWith e none pos.line X.env = pure false := by rfl) : DS cl X E (.Expr e pos) (sDrop f) := by
  obtain ⟨t, p, r⟩ := he
  refine ⟨_, ps_expr p hs, fun F B ad σ H env N hk hc o k => ?_⟩
  refine r F B ad σ H env _ hk hc o (Tr.all_mono (fun d z v H1 k1 rv => ?_) (fun _ z => z) (Tr.all_bind k))
  exact z _ _ H1 (o.kx k1)
def sIf (c : Envt → Tr Bool) (u v : Stm) : Stm := fun env => (c env).bind fun b => if b then u env else v env
theorem ds_if {k : Envt → Tr Bool} {s1 s2 : List Stmt} (hc : DT cl X E c k) (ha : DSs cl X E s1 u) (hb : DSs cl X E s2 v) : DS cl X E (.If c s1 s2 pos) (sIf k u v) := by
  obtain ⟨t, p, r⟩ := hc
  obtain ⟨ta, pa, ra⟩ := ha
  obtain ⟨tb, pb, rb⟩ := hb
  refine ⟨_, ps_if p pa pb, fun F B ad σ H env N hk hc o k => ?_⟩
  refine r F B ad σ H env _ hk hc o (Tr.all_mono (fun x z H1 k1 => ?_) (fun _ z => z) (Tr.all_bind k))
  cases x with
  | true => exact iteT (ra F B ad σ H1 env N hk hc (o.kx k1) z)
  | false => exact iteF (rb F B ad σ H1 env N hk hc (o.kx k1) z)
def sBreak : Stm := fun env => .ret (.bk env)
def sWhile (c : Envt → Tr Bool) (u : Stm) : Nat → Stm
  | 0 => fun _ => .bad
  | n + 1 => fun env => (c env).bind fun b => if b then (u env).bind fun o => match o with
      | .nx env' => sWhile c u n env'
      | .ct env' => sWhile c u n env'
      | .bk env' => .ret (.nx env')
      | .rt d => .ret (.rt d)
    else .ret (.nx env)
theorem ds_while (n : Nat) {k : Envt → Tr Bool} (hp : PassesOwn (model X.prog X.w) X.A X.env X.xe) (hc : DT cl X E c k) (hb : DSs cl X E sts u) : DS cl X E (.While c sts [] pos) (sWhile k u n) := by
  obtain ⟨t, p, r⟩ := hc
  obtain ⟨tb, pb, rb⟩ := hb
  refine ⟨_, ps_while hp p pb, fun F B ad σ H env N hk hc o z => ?_⟩
  refine ⟨fun m σ H => ∃ ad env, Ok F B ad σ H env ∧ (sWhile k u m env).all (SPost F B N) (EOk F E), ⟨n, ad, env, o, z⟩, ?_⟩
  rintro m σ H ⟨ad, env, o, z⟩
  cases m with
  | zero => exact z.elim
  | succ m =>
    refine r F B ad σ H env _ hk hc o (Tr.all_mono (fun x z H1 k1 => ?_) (fun _ z => z) (Tr.all_bind z))
    cases x with
    | false => exact iteF (z ad σ H1 (o.kx k1))
    | true =>
      refine iteT ⟨fun σ' H' => ∃ ad env, Ok F B ad σ' H' env ∧ (sWhile k u m env).all (SPost F B N) (EOk F E), fun σ' H' q => ⟨m, Nat.lt_succ_self m, q⟩, ?_⟩
      refine rb F B ad σ H1 env _ hk hc (o.kx k1) (Tr.all_mono (fun ou z => ?_) (fun _ z => z) (Tr.all_bind z))
      cases ou with
      | nx env' => exact fun ad' σ' H' o' => ⟨ad', env', o', z⟩
      | ct env' => exact fun ad' σ' H' o' => ⟨ad', env', o', z⟩
      | bk env' => exact z
      | rt d => exact z
def sForL (gd : Tgt) (u : Stm) : List D → Stm
  | [] => fun env => .ret (.nx env)
  | d :: ds => fun env => (ofO (gd d env)).bind fun env1 => (u env1).bind fun o => match o with
      | .nx env' => sForL gd u ds env'
      | .ct env' => sForL gd u ds env'
      | .bk env' => .ret (.nx env')
      | .rt d => .ret (.rt d)
def sFor (src : Envt → Tr (List D)) (gd : Tgt) (u : Stm) : Stm := fun env => (src env).bind fun ds => sForL gd u ds env
theorem ds_for {tg iter : Expr} {src : Envt → Tr (List D)} {sl : List Nat} {gd : Tgt} (hp : PassesOwn (model X.prog X.w) X.A X.env X.xe) (hi : DI cl X E tg iter src) (hg : DG X tg sl gd) (hb : DSs cl X E sts u) (hc : X.calm = true := by rfl) (hs : ∀ x, foldedSetIterable iter X.env x = pure x := by intro _; rfl) :
    DS cl X E (.For tg iter sts [] pos) (sFor src gd u) := by
  obtain ⟨wi, pi, ri⟩ := hi
  obtain ⟨g, pg, rg⟩ := hg
  obtain ⟨tb, pb, rb⟩ := hb
  refine ⟨_, ps_for hp hc pi pg pb hs, fun F B ad σ H env N hk hc o k => ?_⟩
  refine ri F B ad σ H env _ hk hc o (Tr.all_mono (fun ds z J H1 k1 yl => ?_) (fun _ z => z) (Tr.all_bind k))
  have o1 := o.kx k1
  refine ⟨fun i m σ H => m = ds.length - i ∧ i ≤ ds.length ∧ ∃ ad' env', Ok F (mask H1 (Mm F ad)) ad' σ H env' ∧ (sForL gd u (ds.drop i) env').all (SPost F B N) (EOk F E), ⟨_, rfl, Nat.zero_le _, ad, env, o1.ground, by rw [List.drop_zero]; exact z⟩, ?_⟩
  rintro i m σ H ⟨rfl, hil, ad', env', o', z⟩
  have yi := yl i H (Mm F ad') o'.hb o'.k0.dr fun p hp => o'.notM hp
  by_cases hlt : i < ds.length
  · have hd : ds[i]? = some ds[i] := List.getElem?_eq_getElem hlt
    rw [List.drop_eq_getElem_cons hlt] at z
    obtain ⟨go, yld⟩ := yi.1 _ hd
    refine .inr ⟨go, fun σ' H' => ∃ ad' env', Ok F (mask H1 (Mm F ad)) ad' σ' H' env' ∧ (sForL gd u (ds.drop (i + 1)) env').all (SPost F B N) (EOk F E), fun σ' H' q => ⟨ds.length - (i + 1), by omega, rfl, by omega, q⟩, fun x H2 y => ?_⟩
    obtain ⟨k2, rx⟩ := yld x H2 y
    have z := Tr.all_bind z
    cases hgd : gd ds[i] env' with
    | none => rw [hgd] at z; exact z.elim
    | some env1 =>
      rw [hgd] at z
      refine rg F _ ad' σ H2 env' env1 x _ _ hk (o'.kx k2) rx hgd fun ad2 σ2 o2 _ _ _ => ?_
      refine rb F _ ad2 σ2 H2 env1 _ hk hc o2 (Tr.all_mono (fun ou z => ?_) (fun _ z => z) (Tr.all_bind z))
      cases ou with
      | nx env' => exact fun ad' σ' H' o' => ⟨ad', env', o', z⟩
      | ct env' => exact fun ad' σ' H' o' => ⟨ad', env', o', z⟩
      | bk env' => exact fun ad' σ' H' o' => z ad' σ' H' (o'.base o1.hb)
      | rt d => exact z
  · have ei : i = ds.length := by omega
    subst ei
    rw [List.drop_length] at z
    exact .inl ⟨yi.2 (Nat.le_refl _), z ad' σ H (o'.base o1.hb)⟩
def sApp (i : Nat) (f : Envt → Tr D) : Stm := fun env => match env[i]? with
  | some (.ow ds) => (f env).bind fun d => if small ds.length then .ret (.nx (env.set i (.ow (ds ++ [d])))) else .bad
  | _ => .bad
theorem ds_append (i : Nat) {x : Str} {p p2 : Pos} {cpos : Pos} (he : DE cl X E a f) (hN : X.N[i]? = some x := by rfl) (hv : Vis X.env.scope x := by first | exact Or.inl rfl | exact Or.inr (Or.inl rfl) | exact Or.inr (Or.inr rfl)) (hd : (x == ("__debug__" : Str)) = false := by decide)
    (hcd : (x == ("__classdict__" : Str)) = false := by decide) (hbase : attributeBase (.Name x p) "append" X.env (eval (.Name x p) X.env) = eval (.Name x p) X.env := by rfl)
    (hfew : ((backTo cpos (starEach [a] X.env)).all (fun x => !x.1) && (backToKw cpos (keywordEach [] X.env)).all (fun x => x.1.isSome) && decide ([a].length + ([] : List Keyword).length + (if ([] : List Keyword).isEmpty then 0 else 1) < 30)) = true := by rfl)
    (hline : (p2.endLine == cpos.line) = true := by rfl) (hs : starEach [a] X.env = (false, eval a X.env) :: starEach [] X.env := by rfl) (hplain : (backTo cpos (starEach [] X.env)).any (·.1) = false := by rfl) (hsw : swapsWith (.Call (.Attribute (.Name x p) "append" p2) [a] [] cpos) none pos.line X.env = pure false := by rfl) :
    DS cl X E (.Expr (.Call (.Attribute (.Name x p) "append" p2) [a] [] cpos) pos) (sApp i f) := by
  obtain ⟨t, pe, r⟩ := he
  refine ⟨_, ps_expr (pe_bm PySem.F.plainAttrs_list PySem.F.slot_list_append PySem.F.type_list_append mt_append (pe_var (i := i) hN hv hd hcd) (pa_cons pe pa_nil hs) hbase hfew hline hs hplain) hsw, fun F B ad σ H env N hk hc o k => ?_⟩
  unfold sApp at k
  split at k
  · rename_i ds he
    obtain ⟨oa, sv, e1, e2, p, vs, rfl, rfl, hp, rp⟩ := o.at_ he
    refine ⟨_, e2, .inl ⟨rfl, vs, SqL.of hp⟩, r F B ad σ H env _ hk hc o (Tr.all_mono (fun d z v H1 k1 rv => ?_) (fun _ z => z) (Tr.all_bind k))⟩
    have hp1 : H1 p = some (.lst vs) := k1.keep _ _ hp (o.notdl e1)
    cases hsm : small ds.length with
    | false => rw [hsm] at z; exact z.elim
    | true =>
      rw [hsm] at z
      refine ⟨p, vs, v, rfl, rfl, hp1, ?_, ?_⟩
      · rw [rp.length]; exact Nat.lt_of_le_of_lt (of_decide_eq_true hsm) (by decide)
      · have z : SPost F B N (.nx (env.set i (.ow (ds ++ [d])))) := z
        exact z ad σ _ ((o.kx k1).putOw he e1 ((rp.mono k1.msame).append (.cons rv .nil)))
  · exact k.elim
/-- x[i] += e of an own list of ints -/
def rGetL (K : PySem.W.Frag) : V → V → Hp → VK → Prop := fun x y H Q => ∃ p xs i v, x = .ref p ∧ y = .int i ∧ SqL K H p xs ∧ 0 ≤ i ∧ i < 2 ^ 63 ∧ xs[i.toNat]? = some v ∧ Q v H
theorem get_list : PGet X (rGetL X.K) := by
  intro pins s σ H x y ov iv Q I rx ry h
  obtain ⟨p, xs, i, v, rfl, rfl, hs, h0, h1, hx, q⟩ := h
  cases rx
  obtain ⟨t, rfl⟩ := ry
  obtain ⟨its, r, hl, _⟩ := I.list hs
  obtain ⟨u, e1, e2⟩ := r.get hx
  exact wpAny_getItem_list hl.isList h0 h1 (by simpa using e1) ⟨v, H, I, e2, q⟩
def sAugI (i : Nat) (gi f : Envt → Tr D) : Stm := fun env => match env[i]? with
  | some (.ow ds) => (gi env).bind fun j => match j with
    | .int j => if decide (0 ≤ j) && decide (j < 1000000) then match ds[j.toNat]? with
      | some (.int old) => (f env).bind fun d => match d with
        | .int y => .ret (.nx (env.set i (.ow (ds.set j.toNat (.int (old + y))))))
        | _ => .bad
      | _ => .bad
      else .bad
    | _ => .bad
  | _ => .bad
theorem ds_augI (i : Nat) {x : Str} {p p2 : Pos} (hi : DE cl X E b g) (he : DE cl X E e f) (hN : X.N[i]? = some x := by rfl) (hv : Vis X.env.scope x := by first | exact Or.inl rfl | exact Or.inr (Or.inl rfl) | exact Or.inr (Or.inr rfl)) (hd : (x == ("__debug__" : Str)) = false := by decide)
    (hcd : (x == ("__classdict__" : Str)) = false := by decide) (ha : ∀ ov iv new, augStore b ov iv new = (do holding [new, ov, iv] (setItem ov iv new); release [new, ov, iv] []; pure .next) := by intros; rfl) : DS cl X E (.AugAssign (.Subscript (.Name x p) b p2) .Add e pos) (sAugI i g f) := by
  obtain ⟨t, pe, r⟩ := he
  obtain ⟨ti, pi, ri⟩ := hi
  refine ⟨_, ps_augS (pe_var (i := i) hN hv hd hcd) pi get_list pe ip_add set_list ha, fun F B ad σ H env N hk hc o k => ?_⟩
  unfold sAugI at k
  split at k
  · rename_i ds he
    obtain ⟨oa, sv, e1, e2, p, vs, rfl, rfl, hp, rp⟩ := o.at_ he
    refine ⟨_, e2, ri F B ad σ H env _ hk hc o (Tr.all_mono (fun j z y H1 k1 ry => ?_) (fun _ z => z) (Tr.all_bind k))⟩
    have o1 := o.kx k1
    have hp1 : H1 p = some (.lst vs) := k1.keep _ _ hp (o.notdl e1)
    have rp1 := rp.mono k1.msame
    cases ry with
    | int j =>
      have z : (if decide (0 ≤ j) && decide (j < 1000000) then match ds[j.toNat]? with
        | some (.int old) => (f env).bind fun d => match d with
          | .int y => Tr.ret (Out.nx (env.set i (.ow (ds.set j.toNat (.int (old + y))))))
          | _ => .bad
        | _ => .bad
        else .bad).all (SPost F B N) (EOk F E) := z
      cases hb : decide (0 ≤ j) && decide (j < 1000000) with
      | false => rw [hb] at z; exact z.elim
      | true =>
        rw [hb] at z
        rw [Bool.and_eq_true] at hb
        have j0 := of_decide_eq_true hb.1
        have j1 := of_decide_eq_true hb.2
        cases hx : ds[j.toNat]? with
        | none => rw [hx] at z; exact z.elim
        | some od =>
          rw [hx] at z
          obtain ⟨ov, h1, h2⟩ := rp1.getD hx
          cases h2 with
          | int old =>
            have z : ((f env).bind fun d => match d with
              | .int y => Tr.ret (Out.nx (env.set i (.ow (ds.set j.toNat (.int (old + y))))))
              | _ => .bad).all (SPost F B N) (EOk F E) := z
            refine ⟨p, vs, j, .int old, rfl, rfl, SqL.of hp1, j0, by omega, h1, r F B ad σ H1 env _ hk hc o1 (Tr.all_mono (fun d z w H2 k2 rw' => ?_) (fun _ z => z) (Tr.all_bind z))⟩
            cases rw' with
            | int y =>
              have hp2 : H2 p = some (.lst vs) := k2.keep _ _ hp1 (o.notdl e1)
              have hj : j.toNat < vs.length := (List.getElem?_eq_some_iff.mp h1).1
              refine ⟨old, y, rfl, rfl, p, vs, j, j.toNat, rfl, rfl, hp2, ?_, ?_⟩
              · unfold ixN
                rw [if_pos j0, if_pos (by omega)]
              · have z : SPost F B N (.nx (env.set i (.ow (ds.set j.toNat (.int (old + y)))))) := z
                exact z ad σ _ ((o1.kx k2).putOw he e1 ((rp1.mono k2.msame).set (.int _) _))
            | _ => exact z.elim
          | _ => exact z.elim
    | _ => exact z.elim
  · exact k.elim
def sRaise (c : Nat) : Stm := fun _ => .exc c
theorem ds_raise (c : Nat) {x m : Str} {j : Nat} {p p2 p3 : Pos} {bmB : List Value} {Bc newId initId : String} (tk : Takes X (fun cls d _ H => E cls d H)) (Fb : ExcBaseFacts Bc newId initId bmB) (q : PySem.W.excIn X.K (cl c) bmB newId = true) (gC : X.mg x = some (.ref (cl c))) (kC : PySem.W.keepIn X.K (.ref (cl c)) = true)
    (bC : PySem.W.subIn X.K (.ref (cl c)) (.type "BaseException") = some true) (tC : PySem.W.typeIn X.K (.ref (cl c)) = some (.type "type")) (hg : Gl X x := by rfl) (hc : X.calm = true := by rfl) (hdb : (x == ("__debug__" : Str)) = false := by decide) :
    DS cl X E (.Raise (some (.Call (.Name x p) [.Constant (.str m) j p2] [] p3)) none pos) (sRaise c) := by
  refine ⟨_, ps_raise hc tk (pmk_own Fb q gC kC (raises_own bC tC) hg hdb), fun F B ad σ H env N hk hcl o k => ?_⟩
  have := k H o.kO
  rw [hcl] at this
  exact this
end
def runB (N n : Nat) (u : Stm) : List Ent → Tr D := fun es => (u (es ++ List.replicate (N - n) .un)).bind fun o => match o with
  | .nx _ => .ret .none
  | .rt d => .ret d
  | _ => .bad
section
variable {P : Program} {w : World} {K : PySem.W.Frag} {mg : Str → Option Value} {base : Heap} {cl : CL}
theorem start_ok {F : Fx} {N : List Str} {vs : List V} {es : List Ent} (hargs : ArgsOk F.K F.cl F.dt (mask F.H0 F.O) vs es) : Ok F (mask F.H0 F.O) (List.replicate (es.length + (N.length - es.length)) none) (L2.start N vs) F.H0 (es ++ List.replicate (N.length - es.length) .un) := by
  have hl := hargs.length
  have hM : Mm F (List.replicate (es.length + (N.length - es.length)) none) = F.O := by
    funext a
    apply propext
    constructor
    · rintro (q | q)
      · exact q
      · obtain ⟨w, q, _⟩ := q
        cases List.eq_of_mem_replicate q
    · exact .inl
  refine ⟨by rw [hM]; exact Same.refl _, Kx.refl (by rw [hM]; exact F.d0), ?_, by simp, fun i oa sv e h1 h2 h3 => ?_, fun i j _ _ a h1 h2 _ _ => ?_, fun i _ a h _ => ?_⟩
  · unfold L2.start
    simp [hl]
  · have ho : oa = none := by
      have := List.mem_of_getElem? h1
      exact List.eq_of_mem_replicate this
    subst ho
    by_cases hi : i < es.length
    · rw [List.getElem?_append_left hi] at h3
      have hv : i < (vs.map some).length := by rw [List.length_map, hl]; exact hi
      unfold L2.start at h2
      rw [List.getElem?_append_left hv, List.getElem?_map] at h2
      have : ∀ {vs : List V} {es : List Ent} {i : Nat} {e : Ent}, ArgsOk F.K F.cl F.dt (mask F.H0 F.O) vs es → es[i]? = some e → ∃ v, vs[i]? = some v ∧ ArgOk F.K F.cl F.dt (mask F.H0 F.O) v e := by
        intro vs es i e h
        induction h generalizing i with
        | nil => intro q; simp at q
        | cons ha _ ih =>
          intro q
          cases i with
          | zero => simp at q; subst q; exact ⟨_, rfl, ha⟩
          | succ i => simp at q; simpa using ih q
      obtain ⟨v, e1, e2⟩ := this hargs h3
      rw [e1] at h2; cases h2
      cases e with
      | un => exact rfl
      | fz d => exact ⟨rfl, v, rfl, by rw [hM]; exact e2⟩
      | ow ds => exact e2.elim
      | od ds => exact e2.elim
      | ob _ _ => exact e2.elim
      | ll _ => exact e2.elim
      | bo _ _ => exact e2.elim
      | vp _ _ _ _ _ _ => exact e2.elim
      | om _ _ => exact e2.elim
      | dr => obtain ⟨a, n, q1, q2⟩ := e2; exact ⟨rfl, a, n, q1, by rw [q2]⟩
      | ex c => obtain ⟨a, q1, q2⟩ := e2; exact ⟨rfl, a, by rw [q1], by rw [hM]; exact q2⟩
      | fn c => exact ⟨rfl, by rw [e2]⟩
      | vo r k L =>
        obtain ⟨w, q1, q2, q3, q4, q5, q6, q7, q8⟩ := e2
        exact ⟨rfl, w, q1, q2, q3, q4, q5, q6, q7, by rw [q8]⟩
    · rw [List.getElem?_append_right (by omega)] at h3
      have := List.eq_of_mem_replicate (List.mem_of_getElem? h3)
      subst this
      exact rfl
  · cases List.eq_of_mem_replicate (List.mem_of_getElem? h1)
  · cases List.eq_of_mem_replicate (List.mem_of_getElem? h)
open PySem.Spec PyProof.Rows in
theorem fn_ok {x qual : Str} {st : Stmt} {f : Addr} {fd : FuncData} {N ps : List Str} {k n : Nat} {u : Stm} (F : Fun K x qual st f fd) (S : FnScope N ps (defScope st)) (hps : ps.length = n)
    (hbody : ∀ (cdv : Value) (A : Around) (outer : List Env) (s : Shared) (H : Hp) (E : XK), Room k (A.deeper (envOfC qual (defScope st) s.heap.objs.size f cdv)) →
      DSs cl (cxOf (L2.CX P w) P w K mg base N qual (defScope st) f cdv A outer s H E) E (defBody st) u) : FnOk P w K mg base (L2.CX P w) (k + 1) f fd ps (spD K cl n (runB N.length n u)) := by
  refine F.okX S (fun vs H Q E h => ?_) (fun cdv A outer s H vs Q E hr h => ?_)
  · obtain ⟨O, dt, es, hl, _, _, _, ha, _⟩ := h
    rw [ha.length, hl, hps]
  · obtain ⟨O, dt, es, hl, h1, h2, h3, ha, hm⟩ := h
    obtain ⟨t, p, r⟩ := hbody cdv A outer s H E hr
    refine ⟨t, p, ?_⟩
    have o := start_ok (F := ⟨K, cl, H, O, dt, h1, h2, h3, none⟩) (N := N) (vs := vs) (es := es) ha
    refine r ⟨K, cl, H, O, dt, h1, h2, h3, none⟩ _ _ _ H _ _ rfl rfl o (Tr.all_mono (fun ou z => ?_) (fun c z => z) (Tr.all_bind (by unfold runB at hm; rw [← hl] at hm; exact hm)))
    cases ou with
    | nx env => exact fun ad σ H' o' => z .non H' o'.kO .non
    | rt d => exact fun v H' k rv => z v H' k rv
    | bk env => exact z.elim
    | ct env => exact z.elim
end
end Mb
set_option maxHeartbeats 4000000
namespace Mb
open PySem L2
/-- a def as it stands behind the top -/
structure DefAt (K : PySem.W.Frag) (mg : Str → Option Value) (x : Str) (st : Stmt) (ps : List Str) : Prop where
  ex : ∃ f fd, Fun K x x st f fd ∧ mg x = some (.ref f) ∧ Binds K fd ps []
/-- a def whose promise is kept -/
structure Cal (P : Program) (w : World) (K : PySem.W.Frag) (mg : Str → Option Value) (base : Heap) (cl : CL) (x : Str) (k n : Nat) (m : List Ent → Tr D) : Prop where
  ex : ∃ f fd ps, FnOk P w K mg base (L2.CX P w) k f fd ps (spD K cl n m) ∧ mg x = some (.ref f) ∧ PySem.W.keepIn K (.ref f) = true ∧ Binds K fd ps []
/-- a constant of the module -/
structure GlobAt (K : PySem.W.Frag) (mg : Str → Option Value) (x : Str) (d : D) : Prop where
  ex : ∃ v u, mg x = some u ∧ RelV v u ∧ ∀ H, Rep K H v d
/-- an exception of the text's own -/
structure ExcAt (K : PySem.W.Frag) (mg : Str → Option Value) (x : Str) (C : Addr) : Prop where
  q : PySem.W.excIn K C [.type "ValueError", .type "Exception", .type "BaseException", .type "object"] "ValueError.__new__" = true
  g : mg x = some (.ref C)
  k : PySem.W.keepIn K (.ref C) = true
  b : PySem.W.subIn K (.ref C) (.type "BaseException") = some true
  t : PySem.W.typeIn K (.ref C) = some (.type "type")
section
variable {P : Program} {w : World} {K : PySem.W.Frag} {mg : Str → Option Value} {base : Heap} {cl : CL}
open PySem.Spec PyProof.Rows in
theorem cal_of {x : Str} {st : Stmt} {N ps : List Str} {k n : Nat} {u : Stm} (T : DefAt K mg x st ps) (S : FnScope N ps (defScope st)) (hps : ps.length = n)
    (hbody : ∀ (f : Addr) (cdv : Value) (A : Around) (outer : List Env) (s : Shared) (H : Hp) (E : XK), Room k (A.deeper (envOfC x (defScope st) s.heap.objs.size f cdv)) →
      DSs cl (cxOf (L2.CX P w) P w K mg base N x (defScope st) f cdv A outer s H E) E (defBody st) u) : Cal P w K mg base cl x (k + 1) n (runB N.length n u) := by
  obtain ⟨f, fd, F, g, b⟩ := T.ex
  exact ⟨f, fd, ps, fn_ok F S hps (fun cdv A outer s H E hr => hbody f cdv A outer s H E hr), g, F.kp, b⟩
theorem defAt_mk {x : Str} {st : Stmt} {ps : List Str} {f : Addr} {oc : Value} {od an : Option Addr} {osl : Array (Option Value)} {kV doc pm cdv ct : Value} (g : mg x = some (.ref f)) (l : K.lookup f = some ⟨oc, od, .func (PySem.W.fnOf x x (defArgs st) (defBody st) (defScope st) .none kV doc pm an cdv ct), osl⟩)
    (c : PySem.W.codeIn K cdv x = true) (k : PySem.W.keepIn K (.ref f) = true)
    (h : ∀ (kV doc pm : Value) (an : Option Addr) (cdv ct : Value) (us : List Value), us.length = ps.length → bindArgs (PySem.W.fnOf x x (defArgs st) (defBody st) (defScope st) .none kV doc pm an cdv ct) ⟨us, []⟩ = pure (ps.zip us)) : DefAt K mg x st ps :=
  have F := fun_mk (st := st) l c k
  ⟨f, _, F, g, F.binds h⟩
theorem globAt_int {x : Str} {i : Int} {t : Tok} (g : mg x = some (.int i t)) : GlobAt K mg x (.int i) := ⟨.int i, _, g, ⟨t, rfl⟩, fun _ => .int i⟩
/-- flat values of a written tuple -/
def flatOf : Value → Option (V × D)
  | .int i _ => some (.int i, .int i)
  | .str x _ => some (.str x, .str x)
  | .none => some (.non, .none)
  | .bool b => some (.bl b, .bool b)
  | _ => none
theorem flats_rep : ∀ {us : List Value} {ds : List D}, (us.map fun u => (flatOf u).map (·.2)) = ds.map some → ∃ vs, Vals vs us ∧ ∀ H, RepAll K H vs ds
  | [], [], _ => ⟨[], .nil, fun _ => .nil⟩
  | [], _ :: _, h => by cases h
  | _ :: _, [], h => by cases h
  | u :: us, d :: ds, h => by
    rw [List.map_cons, List.map_cons] at h
    injection h with h1 h2
    obtain ⟨vs, r, q⟩ := flats_rep h2
    cases u with
    | int i t => cases h1; exact ⟨.int i :: vs, .cons ⟨t, rfl⟩ r, fun H => .cons (.int i) (q H)⟩
    | str i t => cases h1; exact ⟨.str i :: vs, .cons ⟨t, rfl⟩ r, fun H => .cons (.str i) (q H)⟩
    | none => cases h1; exact ⟨.non :: vs, .cons rfl r, fun H => .cons .non (q H)⟩
    | bool b => cases h1; exact ⟨.bl b :: vs, .cons rfl r, fun H => .cons (.bl b) (q H)⟩
    | _ => cases h1
theorem globAt_tup {x : Str} {a : Addr} {dd : Option Addr} {us : List Value} {n : Nat} {sl : Array (Option Value)} {ds : List D} (g : mg x = some (.ref a)) (l : K.lookup a = some ⟨.type "tuple", dd, .seq us.toArray n, sl⟩) (hz : us.length ≤ 1000) (h : (us.map fun u => (flatOf u).map (·.2)) = ds.map some) : GlobAt K mg x (.tuple ds) := by
  obtain ⟨vs, r, q⟩ := flats_rep (K := K) h
  refine ⟨.ref a, _, g, rfl, fun H => .tup (.inr ⟨_, us.toArray, n, l, rfl, rfl, ?_, by simpa using r⟩) (q H)⟩
  rw [List.size_toArray]; exact Nat.le_trans hz (by decide)
end
section
variable {cl : CL} {X : Cx} {E : XK} {e a b c : Expr} {f g h : Envt → Tr D} {pos : Pos} {st : Stmt} {sts : List Stmt} {u v : Stm}
theorem de_fn {k n : Nat} {m : List Ent → Tr D} {x : Str} {es : List Expr} {p : Pos} {g : Envt → Tr (List Ent)} (G : Cal X.prog X.w X.K X.mg X.base cl x k n m) (hr : Room k X.A) (hx : Passes (L2.CX X.prog X.w) X E) (ha : DA cl X E (e :: es) g) (hg : Gl X x := by rfl) (hdb : (x == ("__debug__" : Str)) = false := by decide)
    (he : starEach (e :: es) X.env = (false, eval e X.env) :: starEach es X.env := by rfl) (hpl : (backTo pos (starEach es X.env)).any (·.1) = false := by rfl) : DE cl X E (.Call (.Name x p) (e :: es) [] pos) (vCall n m g) := by
  obtain ⟨f, fd, ps, G, g, kp, b⟩ := G.ex
  exact de_call G hr hx g kp b ha hg hdb he hpl
theorem de_gl {x : Str} {d : D} (G : GlobAt X.K X.mg x d) (hg : Gl X x := by rfl) (hd : (x == ("__debug__" : Str)) = false := by decide) : DE cl X E (.Name x pos) (vC d) := by
  obtain ⟨v, u, h1, h2, h3⟩ := G.ex
  exact de_glob h1 h2 h3 hg hd
theorem ds_raiseX (c : Nat) {x m : Str} {j : Nat} {p p2 p3 : Pos} (tk : Takes X (fun cls d _ H => E cls d H)) (G : ExcAt X.K X.mg x (cl c)) (hg : Gl X x := by rfl) (hc : X.calm = true := by rfl) (hdb : (x == ("__debug__" : Str)) = false := by decide) :
    DS cl X E (.Raise (some (.Call (.Name x p) [.Constant (.str m) j p2] [] p3)) none pos) (sRaise c) := ds_raise c tk PySem.F.excBase_ValueError G.q G.g G.k G.b G.t hg hc hdb
theorem de_sum {p : Pos} {g : Envt → Tr (List Ent)} (hm : X.mg "sum" = none) (ha : DA cl X E [a] g) (hc : X.calm = true := by rfl) (hg : Gl X "sum" := by rfl) (he : starEach [a] X.env = (false, eval a X.env) :: starEach [] X.env := by rfl) (hpl : (backTo pos (starEach [] X.env)).any (·.1) = false := by rfl) : DE cl X E (.Call (.Name "sum" p) [a] [] pos) (vB fnSum g) :=
  de_callB (callr_or (cr_sum hc) (cr_sumT hc)) sem_sumL hm (by decide +kernel) ha hg (by decide) (by decide) he hpl
theorem de_all {p : Pos} {g : Envt → Tr (List Ent)} (hm : X.mg "all" = none) (ha : DA cl X E [a] g) (hc : X.calm = true := by rfl) (hg : Gl X "all" := by rfl) (he : starEach [a] X.env = (false, eval a X.env) :: starEach [] X.env := by rfl) (hpl : (backTo pos (starEach [] X.env)).any (·.1) = false := by rfl) : DE cl X E (.Call (.Name "all" p) [a] [] pos) (vB allD g) :=
  de_callB (cr_all hc) sem_all hm (by decide +kernel) ha hg (by decide) (by decide) he hpl
theorem de_min2 {p : Pos} {g : Envt → Tr (List Ent)} (hm : X.mg "min" = none) (ha : DA cl X E [a, b] g) (hc : X.calm = true := by rfl) (hg : Gl X "min" := by rfl) (he : starEach [a, b] X.env = (false, eval a X.env) :: starEach [b] X.env := by rfl) (hpl : (backTo pos (starEach [b] X.env)).any (·.1) = false := by rfl) : DE cl X E (.Call (.Name "min" p) [a, b] [] pos) (vB fnMin2 g) :=
  de_callB (call_min2 hc) sem_min2 hm (by decide +kernel) ha hg (by decide) (by decide) he hpl
theorem de_min {p : Pos} {g : Envt → Tr (List Ent)} (hm : X.mg "min" = none) (ha : DA cl X E [a] g) (hc : X.calm = true := by rfl) (hg : Gl X "min" := by rfl) (he : starEach [a] X.env = (false, eval a X.env) :: starEach [] X.env := by rfl) (hpl : (backTo pos (starEach [] X.env)).any (·.1) = false := by rfl) : DE cl X E (.Call (.Name "min" p) [a] [] pos) (vB fnMin g) :=
  de_callB (cr_min hc) sem_min hm (by decide +kernel) ha hg (by decide) (by decide) he hpl
theorem de_isInt {p p2 : Pos} (hm : X.mg "isinstance" = none) (hmT : X.mg "int" = none) (ha : DE cl X E a f) (hg : Gl X "isinstance" := by rfl) (hgT : Gl X "int" := by rfl) (he : starEach [a, .Name "int" p2] X.env = (false, eval a X.env) :: starEach [.Name "int" p2] X.env := by rfl) (he2 : starEach [.Name "int" p2] X.env = (false, eval (.Name "int" p2) X.env) :: starEach [] X.env := by rfl)
    (hpl : (backTo pos (starEach [.Name "int" p2] X.env)).any (·.1) = false := by rfl) : DE cl X E (.Call (.Name "isinstance" p) [a, .Name "int" p2] [] pos) (vIsi isInt f) := de_isi kit_int hm hmT (by decide +kernel) ha hg hgT (by decide) (by decide) he he2 hpl
theorem de_isBool {p p2 : Pos} (hm : X.mg "isinstance" = none) (hmT : X.mg "bool" = none) (ha : DE cl X E a f) (hg : Gl X "isinstance" := by rfl) (hgT : Gl X "bool" := by rfl) (he : starEach [a, .Name "bool" p2] X.env = (false, eval a X.env) :: starEach [.Name "bool" p2] X.env := by rfl) (he2 : starEach [.Name "bool" p2] X.env = (false, eval (.Name "bool" p2) X.env) :: starEach [] X.env := by rfl)
    (hpl : (backTo pos (starEach [.Name "bool" p2] X.env)).any (·.1) = false := by rfl) : DE cl X E (.Call (.Name "isinstance" p) [a, .Name "bool" p2] [] pos) (vIsi isBool f) := de_isi kit_bool hm hmT (by decide +kernel) ha hg hgT (by decide) (by decide) he he2 hpl
theorem de_isStr {p p2 : Pos} (hm : X.mg "isinstance" = none) (hmT : X.mg "str" = none) (ha : DE cl X E a f) (hg : Gl X "isinstance" := by rfl) (hgT : Gl X "str" := by rfl) (he : starEach [a, .Name "str" p2] X.env = (false, eval a X.env) :: starEach [.Name "str" p2] X.env := by rfl) (he2 : starEach [.Name "str" p2] X.env = (false, eval (.Name "str" p2) X.env) :: starEach [] X.env := by rfl)
    (hpl : (backTo pos (starEach [.Name "str" p2] X.env)).any (·.1) = false := by rfl) : DE cl X E (.Call (.Name "isinstance" p) [a, .Name "str" p2] [] pos) (vIsi isStr f) := de_isi kit_str hm hmT (by decide +kernel) ha hg hgT (by decide) (by decide) he he2 hpl
theorem de_isList {p p2 : Pos} (hm : X.mg "isinstance" = none) (hmT : X.mg "list" = none) (ha : DE cl X E a f) (hg : Gl X "isinstance" := by rfl) (hgT : Gl X "list" := by rfl) (he : starEach [a, .Name "list" p2] X.env = (false, eval a X.env) :: starEach [.Name "list" p2] X.env := by rfl) (he2 : starEach [.Name "list" p2] X.env = (false, eval (.Name "list" p2) X.env) :: starEach [] X.env := by rfl)
    (hpl : (backTo pos (starEach [.Name "list" p2] X.env)).any (·.1) = false := by rfl) : DE cl X E (.Call (.Name "isinstance" p) [a, .Name "list" p2] [] pos) (vIsi isList f) := de_isi kit_list hm hmT (by decide +kernel) ha hg hgT (by decide) (by decide) he he2 hpl
theorem de_isTuple {p p2 : Pos} (hm : X.mg "isinstance" = none) (hmT : X.mg "tuple" = none) (ha : DE cl X E a f) (hg : Gl X "isinstance" := by rfl) (hgT : Gl X "tuple" := by rfl) (he : starEach [a, .Name "tuple" p2] X.env = (false, eval a X.env) :: starEach [.Name "tuple" p2] X.env := by rfl) (he2 : starEach [.Name "tuple" p2] X.env = (false, eval (.Name "tuple" p2) X.env) :: starEach [] X.env := by rfl)
    (hpl : (backTo pos (starEach [.Name "tuple" p2] X.env)).any (·.1) = false := by rfl) : DE cl X E (.Call (.Name "isinstance" p) [a, .Name "tuple" p2] [] pos) (vIsi isTuple f) := de_isi kit_tuple hm hmT (by decide +kernel) ha hg hgT (by decide) (by decide) he he2 hpl
/-- a number with a minus -/
theorem de_neg {i : Int} {j : Nat} {p : Pos} : DE cl X E (.UnaryOp .USub (.Constant (.int i) j p) pos) (vC (.int (-i))) :=
  ⟨_, pe_un un_neg pe_int, fun F B ad σ H env Q hk hc o k => ⟨i, rfl, k _ H (Kx.refl o.k0.dr) (.int _)⟩⟩
end
def mDraw : List Ent → Tr D
  | [.dr, .fz (.int l)] => if decide (0 < l) && decide (l < 1073741824) then .draw l.toNat fun r => .ret (.int (r : Nat)) else .bad
  | _ => .bad
def spStart (K : PySem.W.Frag) : Sp := fun vs H Q _ => ∃ (a : Addr) (ns : List Int), vs = [.ref a] ∧ SqL K H a (ns.map V.int) ∧ ns.length ≤ 63 ∧ ∀ H' p n, Same H H' → H p = none → H n = none → (∀ M, DrOk ⟨some (p, n), []⟩ M H') → Q (.ref p) H'
end Mb
namespace Mb
open PySem L2
section
variable {P : Program} {w : World} {K : PySem.W.Frag} {mg : Str → Option Value} {base : Heap} {N : List Str} {q : Str} {sc : Scope} {f : Addr} {cd : Value} {A : Around} {outer : List Env} {s : Shared} {H : Hp} {E : XK}
theorem tkOf : Takes (cxOf (L2.CX P w) P w K mg base N q sc f cd A outer s H E) (fun cls d _ H => E cls d H) := takes_of rfl rfl rfl rfl
theorem psOf : Passes (L2.CX P w) (cxOf (L2.CX P w) P w K mg base N q sc f cd A outer s H E) E := passes_call tkOf fun _ _ _ _ h => h
theorem poOf : PassesOwn (model P w) (cxOf (L2.CX P w) P w K mg base N q sc f cd A outer s H E).A (cxOf (L2.CX P w) P w K mg base N q sc f cd A outer s H E).env (cxOf (L2.CX P w) P w K mg base N q sc f cd A outer s H E).xe := passes_of rfl
end
end Mb
set_option maxHeartbeats 4000000
namespace Mb
open PySem L2
section
variable {cl : CL} {X : Cx} {E : XK} {e a b c : Expr} {f g h : Envt → Tr D} {pos : Pos}
def dRev : D → Option D
  | .tuple [a, b] => some (.tuple [b, a])
  | _ => none
def vRev (f : Envt → Tr D) : Envt → Tr D := fun env => (f env).bind fun d => ofO (dRev d)
end
end Mb
set_option maxHeartbeats 4000000
namespace Mb
open PySem L2
def spLaw (K : PySem.W.Frag) : Sp := fun vs H Q _ => ∃ (a : Addr) (ns : List Int), vs = [.ref a] ∧ SqL K H a (ns.map V.int) ∧ ns.length ≤ 63 ∧ ∀ H', Q (.bl true) H'
def env0 (n : Nat) : Envt := .un :: .dr :: List.replicate n .un
theorem law_ok {K : PySem.W.Frag} {cl : CL} {H' : Hp} {p n : Addr} {σ : St} {m : Nat} (hd : ∀ M, DrOk ⟨some (p, n), []⟩ M H') (h1 : σ.length = m + 2) (h2 : σ[1]? = some (some (.ref p))) :
    ∃ F : Fx, F.K = K ∧ F.cl = cl ∧ F.H0 = H' ∧ ∃ B ad, Ok F B ad σ H' (env0 m) := by
  obtain ⟨c, ns, e1, _, e2, _⟩ := (hd fun _ => False).dr p n rfl
  refine ⟨⟨K, cl, H', fun b => b = p ∨ b = n, ⟨some (p, n), []⟩, fun a q => ?_, fun a q => ?_, hd _, none⟩, rfl, rfl, rfl, mask H' fun b => b = p ∨ b = n, List.replicate (m + 2) none, ?_⟩
  · rcases q with rfl | rfl
    · exact ⟨_, e1⟩
    · exact ⟨_, e2⟩
  · rcases dl_cases q with ⟨a', n', e, q⟩ | ⟨v, hv, _⟩
    · cases e
      exact q
    · cases hv
  · refine ⟨?_, Kx.refl (hd _), by simp [env0, h1], by simp [env0], fun i oa sv e q1 q2 q3 => ?_, fun i j _ _ a q1 q2 _ _ => ?_, fun i _ a q _ => ?_⟩
    · refine mask_same fun a o nm e => ⟨fun q => ?_, e⟩
      rcases q with q | q
      · exact nm q
      · obtain ⟨w, q, _⟩ := q
        cases List.eq_of_mem_replicate q
    · have ho : oa = none := List.eq_of_mem_replicate (List.mem_of_getElem? q1)
      subst ho
      match i, q3 with
      | 0, q3 => cases q3; exact rfl
      | 1, q3 =>
        cases q3
        rw [h2] at q2
        cases q2
        exact ⟨rfl, p, n, rfl, rfl⟩
      | i + 2, q3 =>
        have q3 : (List.replicate m Ent.un)[i]? = some e := q3
        have := List.eq_of_mem_replicate (List.mem_of_getElem? q3)
        subst this
        exact rfl
    · cases List.eq_of_mem_replicate (List.mem_of_getElem? q1)
    · cases List.eq_of_mem_replicate (List.mem_of_getElem? q)
theorem noCX {P : Program} {w : World} {H : Hp} {s : Shared} {e : Value} {s' : Shared} (h : L2.CX P w [] H s (fun _ _ _ => False) e s') : False := by
  obtain ⟨_, _, _, _, _, _, _, _, _, _, _, _, z⟩ := h
  exact z.elim
end Mb
namespace Mb
open PySem L2
section
variable (env : Envt) (f g h : Envt → Tr D) (c k : Envt → Tr Bool) (u v : Stm) (ga gb : Envt → Tr (List Ent)) (fl : Envt → Tr (List D)) (i : Nat)
theorem ap_runB (N n : Nat) (es : List Ent) : runB N n u es = (u (es ++ List.replicate (N - n) .un)).bind fun o => match o with | .nx _ => .ret .none | .rt d => .ret d | _ => .bad := rfl
theorem ap_sSeq : sSeq u v env = (u env).bind fun o => match o with | .nx env' => v env' | .rt d => .ret (.rt d) | .bk e => .ret (.bk e) | .ct e => .ret (.ct e) := rfl
theorem ap_sNil : sNil env = .ret (.nx env) := rfl
theorem ap_sIf : sIf c u v env = (c env).bind fun b => if b then u env else v env := rfl
theorem ap_sRet : sRet f env = (f env).bind fun d => .ret (.rt d) := rfl
theorem ap_sRetN : sRetN env = .ret (.rt .none) := rfl
theorem ap_sSet : sSet i f env = (f env).bind fun d => .ret (.nx (env.set i (.fz d))) := rfl
theorem ap_sOwn : sOwn i fl env = (fl env).bind fun ds => .ret (.nx (env.set i (.ow ds))) := rfl
theorem ap_sPar (is : List Nat) : sPar is ga env = (ga env).bind fun es => if es.length == is.length then .ret (.nx (setAll env is es)) else .bad := rfl
theorem ap_sAsg (gd : Tgt) : sAsg gd f env = (f env).bind fun d => (ofO (gd d env)).bind fun env' => .ret (.nx env') := rfl
theorem ap_sDrop : sDrop f env = (f env).bind fun _ => .ret (.nx env) := rfl
theorem ap_sFz : sFz i u env = match env[i]? with | some (.ow ds) => u (env.set i (.fz (.list ds))) | some (.od kvs) => u (env.set i (.fz (.dict kvs))) | _ => u env := rfl
theorem ap_sFor (src : Envt → Tr (List D)) (gd : Tgt) : sFor src gd u env = (src env).bind fun ds => sForL gd u ds env := rfl
theorem ap_sApp : sApp i f env = match env[i]? with | some (.ow ds) => (f env).bind fun d => if small ds.length then .ret (.nx (env.set i (.ow (ds ++ [d])))) else .bad | _ => .bad := rfl
theorem ap_sAugI : sAugI i g f env = match env[i]? with
  | some (.ow ds) => (g env).bind fun j => match j with
    | .int j => if decide (0 ≤ j) && decide (j < 1000000) then match ds[j.toNat]? with
      | some (.int old) => (f env).bind fun d => match d with
        | .int y => .ret (.nx (env.set i (.ow (ds.set j.toNat (.int (old + y))))))
        | _ => .bad
      | _ => .bad
      else .bad
    | _ => .bad
  | _ => .bad := rfl
theorem ap_sRaise (n : Nat) : sRaise n env = .exc n := rfl
theorem ap_sBreak : sBreak env = .ret (.bk env) := rfl
theorem ap_vT : vT f env = (f env).bind fun d => ofO (asB d) := rfl
theorem ap_v2 (op : D → D → Option D) : v2 op f g env = (f env).bind fun x => (g env).bind fun y => ofO (op x y) := rfl
theorem ap_vVar : vVar i env = match env[i]? with | some (.fz d) => .ret d | _ => .bad := rfl
theorem ap_vBor : vBor i env = match env[i]? with | some (.fz d) => .ret d | some (.ow ds) => .ret (.list ds) | some (.od kvs) => .ret (.dict kvs) | _ => .bad := rfl
theorem ap_vC (d : D) : vC d env = .ret d := rfl
theorem ap_vIf : vIf c f g env = (c env).bind fun x => if x then f env else g env := rfl
theorem ap_vAnd : vAnd f g env = (f env).bind fun x => (ofO (asB x)).bind fun x => if x then g env else .ret (.bool false) := rfl
theorem ap_vOr : vOr f g env = (f env).bind fun x => (ofO (asB x)).bind fun x => if x then .ret (.bool true) else g env := rfl
theorem ap_vNot : vNot f env = (f env).bind fun x => (ofO (asB x)).bind fun x => .ret (.bool !x) := rfl
theorem ap_bAnd : bAnd c k env = (c env).bind fun x => if x then k env else .ret false := rfl
theorem ap_bOr : bOr c k env = (c env).bind fun x => if x then .ret true else k env := rfl
theorem ap_bNot : bNot c env = (c env).bind fun x => .ret (!x) := rfl
theorem ap_bYes : bYes env = .ret true := rfl
theorem ap_vCall (n : Nat) (m : List Ent → Tr D) : vCall n m ga env = (ga env).bind fun es => if es.length == n then m es else .bad := rfl
theorem ap_aNil : aNil env = .ret [] := rfl
theorem ap_aCons : aCons f ga env = (f env).bind fun d => (ga env).bind fun es => .ret (.fz d :: es) := rfl
theorem ap_aDr : aDr i ga env = match env[i]? with | some .dr => (ga env).bind fun es => .ret (.dr :: es) | _ => .bad := rfl
theorem ap_aOwn : aOwn fl ga env = (fl env).bind fun ds => (ga env).bind fun es => .ret (.ow ds :: es) := rfl
theorem ap_vTup : vTup ga env = (ga env).bind fun es => ofO ((fzs es).bind fun ds => if small ds.length then some (.tuple ds) else none) := rfl
theorem ap_nLst : nLst ga env = (ga env).bind fun es => ofO ((fzs es).bind fun ds => if small ds.length then some ds else none) := rfl
theorem ap_nList : nList ga env = (ga env).bind fun es => ofO ((fzs es).bind seqD) := rfl
theorem ap_vL : vL fl env = (fl env).bind fun ds => .ret (.list ds) := rfl
theorem ap_vB (fn : List D → Option D) : vB fn ga env = (ga env).bind fun es => ofO ((fzs es).bind fn) := rfl
theorem ap_vIsi (fn : D → Bool) : vIsi fn f env = (f env).bind fun d => if notD d then .ret (.bool (fn d)) else .bad := rfl
theorem ap_vChain (op op' : D → D → Option D) : vChain op op' f g h env = (f env).bind fun x => (g env).bind fun y => (ofO (op x y)).bind fun z => (ofO (asB z)).bind fun k => if k then (h env).bind fun w => ofO (op' y w) else .ret (.bool false) := rfl
theorem ap_vIxV : vIxV i g env = match env[i]? with | some (.ow ds) => (g env).bind fun y => ofO (dIx (.list ds) y) | some (.fz d) => (g env).bind fun y => ofO (dIx d y) | _ => .bad := rfl
theorem ap_vLenV : vLenV i env = (vBor i env).bind fun d => ofO (lenD d) := rfl
theorem ap_vSl (l r : Envt → Tr (Option Int)) : vSl f l r env = (f env).bind fun d => (l env).bind fun lo => (r env).bind fun hi => ofO (dSl d lo hi) := rfl
theorem ap_oNone : oNone env = .ret none := rfl
theorem ap_oSome : oSome f env = (f env).bind fun d => match d with | .int i => .ret (some i) | _ => .bad := rfl
theorem ap_wSeq : wSeq f env = (f env).bind fun d => ofO (itD d) := rfl
theorem ap_wArg (fn : List D → Option (List D)) : wArg fn ga env = (ga env).bind fun es => ofO ((fzs es).bind fn) := rfl
theorem ap_vMeth (chk : D → Bool) (op : D → D → Option D) : vMeth chk op f g env = (f env).bind fun x => if chk x then (g env).bind fun y => ofO (op x y) else .bad := rfl
theorem ap_vRev : vRev f env = (f env).bind fun d => ofO (dRev d) := rfl
theorem ap_nLc (vs : List Nat) (src : Envt → Tr (List D)) (gd : Tgt) (t : Envt → Tr Bool) : nLc vs src gd t f env = (src env).bind fun ds => if small ds.length && noOw env vs then noExc (lcRun gd t f (wipeE env vs) ds) else .bad := rfl
theorem ap_tgName (d : D) : tgName i d env = some (env.set i (.fz d)) := rfl
end
theorem bind_ret {α β : Type} (a : α) (f : α → Tr β) : (Tr.ret a).bind f = f a := rfl
theorem bind_exc {α β : Type} (c : Nat) (f : α → Tr β) : (Tr.exc c : Tr α).bind f = .exc c := rfl
theorem ofO_some {α : Type} (a : α) : ofO (some a) = .ret a := rfl
theorem fzs_nil : fzs [] = some [] := rfl
theorem fzs_cons (d : D) (r : List Ent) : fzs (.fz d :: r) = (fzs r).map (d :: ·) := rfl
theorem setAll_nil (env : Envt) : setAll env [] [] = env := rfl
theorem setAll_cons (env : Envt) (i : Nat) (is : List Nat) (e : Ent) (es : List Ent) : setAll env (i :: is) (e :: es) = setAll (env.set i e) is es := rfl
theorem asB_b (b : Bool) : asB (.bool b) = some b := rfl
theorem noOw_nil (env : Envt) : noOw env [] = true := rfl
theorem noOw_cons (env : Envt) (i : Nat) (vs : List Nat) : noOw env (i :: vs) = ((match env[i]? with | some (.ow _) => false | some (.od _) => false | some (.ob _ _) => false | some (.ll _) => false | some (.om _ _) => false | _ => true) && noOw env vs) := rfl
theorem wipeE_nil (env : Envt) : wipeE env [] = env := rfl
theorem wipeE_cons (env : Envt) (i : Nat) (vs : List Nat) : wipeE env (i :: vs) = (wipeE env vs).set i .un := rfl
theorem noExc_r {α : Type} (a : α) : noExc (.ret a) = Tr.ret a := rfl
theorem seqD_l (ds : List D) : seqD [.list ds] = some ds := rfl
theorem seqD_t (ds : List D) : seqD [.tuple ds] = some ds := rfl
theorem tgTup_ap (n : Nat) (gs : List D → Envt → Option Envt) (ds : List D) (env : Envt) : tgTup n gs (.tuple ds) env = if ds.length == n then gs ds env else none := rfl
theorem tgCons_ap (g : Tgt) (gs : List D → Envt → Option Envt) (d : D) (ds : List D) (env : Envt) : tgCons g gs (d :: ds) env = (g d env).bind fun env1 => gs ds env1 := rfl
theorem tgNil_ap (env : Envt) : tgNil [] env = some env := rfl
theorem eval_seq {u v : Stm} {env : Envt} {o : Tr Out} (env' : Envt) (h1 : u env = .ret (.nx env')) (h2 : v env' = o) : sSeq u v env = o := by
  rw [ap_sSeq, h1]; exact h2
theorem eval_run {N n : Nat} {u : Stm} {es : List Ent} {d : D} (h : u (es ++ List.replicate (N - n) .un) = .ret (.rt d)) : runB N n u es = .ret d := by
  rw [ap_runB, h]; rfl
theorem all_seq {u v : Stm} {env : Envt} {P : Out → Prop} {E : Nat → Prop} (env' : Envt) (h1 : u env = .ret (.nx env')) (h2 : (v env').all P E) : (sSeq u v env).all P E := by
  rw [ap_sSeq, h1]; exact h2
theorem eval_for {src : Envt → Tr (List D)} {gd : Tgt} {u : Stm} {env : Envt} {o : Tr Out} (ds : List D) (h1 : src env = .ret ds) (h2 : sForL gd u ds env = o) : sFor src gd u env = o := by
  rw [ap_sFor, h1]; exact h2
theorem eval_ifT {c : Envt → Tr Bool} {u v : Stm} {env : Envt} {o : Tr Out} (h1 : c env = .ret true) (h2 : u env = o) : sIf c u v env = o := by
  rw [ap_sIf, h1]; exact h2
theorem eval_ifF {c : Envt → Tr Bool} {u v : Stm} {env : Envt} {o : Tr Out} (h1 : c env = .ret false) (h2 : v env = o) : sIf c u v env = o := by
  rw [ap_sIf, h1]; exact h2
end Mb
set_option maxHeartbeats 4000000
namespace Mb
open PySem L2
inductive Ld | one | two | cap deriving DecidableEq
inductive Dc | same | longer deriving DecidableEq
inductive Sv | games | twos | winner | only deriving DecidableEq
def Ld.s : Ld → Str | .one => "one" | .two => "two" | .cap => "cap"
def Dc.s : Dc → Str | .same => "same" | .longer => "longer"
def Sv.s : Sv → Str | .games => "games" | .twos => "twos" | .winner => "winner" | .only => "only"
structure Ru where
  p : Int
  l : Ld
  g : Int
  d : Dc
  s : Sv
structure Sta where
  sv : Int
  p0 : Int
  p1 : Int
  g0 : Int
  g1 : Int
  tn : Int
deriving DecidableEq
def Ru.e (r : Ru) : D := .tuple [.int r.p, .str r.l.s, .int r.g, .str r.d.s, .str r.s.s]
def Sta.e (s : Sta) : D := .tuple [.int s.sv, .int s.p0, .int s.p1, .int s.g0, .int s.g1, .int s.tn]
theorem r0 (r : Ru) : dIx r.e (.int 0) = some (.int r.p) := rfl
theorem r1 (r : Ru) : dIx r.e (.int 1) = some (.str r.l.s) := rfl
theorem r2 (r : Ru) : dIx r.e (.int 2) = some (.int r.g) := rfl
theorem r3 (r : Ru) : dIx r.e (.int 3) = some (.str r.d.s) := rfl
theorem r4 (r : Ru) : dIx r.e (.int 4) = some (.str r.s.s) := rfl
theorem s0 (s : Sta) : dIx s.e (.int 0) = some (.int s.sv) := rfl
theorem s3 (s : Sta) : dIx s.e (.int 3) = some (.int s.g0) := rfl
theorem s5 (s : Sta) : dIx s.e (.int 5) = some (.int s.tn) := rfl
theorem s13 (s : Sta) : dSl s.e (some 1) (some 3) = some (.tuple [.int s.p0, .int s.p1]) := rfl
theorem s35 (s : Sta) : dSl s.e (some 3) (some 5) = some (.tuple [.int s.g0, .int s.g1]) := rfl
theorem eq_ii (i j : Int) : dEq (.int i) (.int j) = some (.bool (i == j)) := rfl
theorem ne_ii (i j : Int) : dNe (.int i) (.int j) = some (.bool (!(i == j))) := rfl
theorem sub_ii (i j : Int) : dSub (.int i) (.int j) = some (.int (i - j)) := rfl
theorem add_ii (i j : Int) : dAdd (.int i) (.int j) = some (.int (i + j)) := rfl
theorem ge_ii (i j : Int) : dGe (.int i) (.int j) = some (.bool (decide (j ≤ i))) := rfl
theorem gt_ii (i j : Int) : dGt (.int i) (.int j) = some (.bool (decide (j < i))) := rfl
theorem lt_ii (i j : Int) : dLt (.int i) (.int j) = some (.bool (decide (i < j))) := rfl
theorem in2 (i a b : Int) : dIn (.int i) (.tuple [.int a, .int b]) = some (.bool (a == i || b == i)) := by
  show some (PyData.bool (a == i || (b == i || false))) = _
  rw [Bool.or_false]
theorem ld_one (l : Ld) : dEq (.str l.s) (.str "one") = some (.bool (l = .one)) := by cases l <;> rfl
theorem ld_two (l : Ld) : dEq (.str l.s) (.str "two") = some (.bool (l = .two)) := by cases l <;> rfl
theorem ld_cap (l : Ld) : dEq (.str l.s) (.str "cap") = some (.bool (l = .cap)) := by cases l <;> rfl
theorem dc_longer (l : Dc) : dEq (.str l.s) (.str "longer") = some (.bool (l = .longer)) := by cases l <;> rfl
theorem sv_only (l : Sv) : dEq (.str l.s) (.str "only") = some (.bool (l = .only)) := by cases l <;> rfl
theorem sv_onlyN (l : Sv) : dNe (.str l.s) (.str "only") = some (.bool (!(l = .only))) := by cases l <;> rfl
theorem sv_games (l : Sv) : dEq (.str l.s) (.str "games") = some (.bool (l = .games)) := by cases l <;> rfl
theorem sv_in (l : Sv) : dIn (.str l.s) (.tuple [.str "winner", .str "only"]) = some (.bool (l = .winner || l = .only)) := by cases l <;> rfl
def endedM (r : Ru) (s : Sta) : Bool := s.g0 == r.g || s.g1 == r.g
def wantedM (r : Ru) (s : Sta) : Int := r.p + (if (r.d = .longer) && (s.g0 == r.g - 1 || s.g1 == r.g - 1) then 1 else 0)
def winsM (l : Ld) (many own other : Int) : Bool := match l with
  | .one => decide (many ≤ own)
  | .two => decide (many ≤ own) && decide (2 ≤ own - other)
  | .cap => decide (many ≤ own) && decide (2 ≤ own - other) || decide (many < own)
def makerM (r : Ru) (s : Sta) (b : Int) : Bool := !endedM r s && !(r.s = .only && !(b == s.sv))
def foldM (many a b : Int) : Int × Int := if min a b < many - 1 then (a, b) else (many - 1 + (if b < a then 1 else 0), many - 1 + (if a < b then 1 else 0))
def servM (r : Ru) (s : Sta) (b g0 g1 : Int) (over : Bool) : Int × Int := if (r.s = .winner || r.s = .only) then (b, 0) else if (r.s = .games || over) then ((g0 + g1) % 2, 0) else if s.tn == 0 then (s.sv, 1) else (1 - s.sv, 0)
theorem min_ii (a b : Int) : fnMin2 [.int a, .int b] = some (.int (min a b)) := by
  show some (PyData.int (if b < a then b else a)) = _
  rw [Int.min_def]
  split <;> split <;> first | rfl | (congr 2; omega)
theorem sum2 (a b : Int) : fnSum [.list [.int a, .int b]] = some (.int (a + b)) := by
  show some (PyData.int ([a, b] : List Int).sum) = _
  simp
theorem mod2 (a : Int) : dMod (.int a) (.int 2) = some (.int (a % 2)) := rfl
def rb (b : Bool) : Int := if b then 1 else 0
theorem rb_t : rb true = 1 := rfl
theorem rb_f : rb false = 0 := rfl
def stepM (r : Ru) (s : Sta) (b : Bool) : Sta :=
  if endedM r s then s
  else if makerM r s (rb b) then
    let a0 := if b then s.p0 else s.p0 + 1
    let a1 := if b then s.p1 + 1 else s.p1
    if winsM r.l (wantedM r s) (if b then a1 else a0) (if b then a0 else a1) then
      let h0 := if b then s.g0 else s.g0 + 1
      let h1 := if b then s.g1 + 1 else s.g1
      let z := servM r s (rb b) h0 h1 true
      ⟨z.1, 0, 0, h0, h1, z.2⟩
    else
      let z := servM r s (rb b) s.g0 s.g1 false
      if decide (r.l = .two) then ⟨z.1, (foldM (wantedM r s) a0 a1).1, (foldM (wantedM r s) a0 a1).2, s.g0, s.g1, z.2⟩
      else ⟨z.1, a0, a1, s.g0, s.g1, z.2⟩
  else
    let z := servM r s (rb b) s.g0 s.g1 false
    ⟨z.1, s.p0, s.p1, s.g0, s.g1, z.2⟩
theorem ixl0 (a b : D) : dIx (.list [a, b]) (.int 0) = some a := rfl
theorem ixl1 (a b : D) : dIx (.list [a, b]) (.int 1) = some b := rfl
theorem isN_n : dIsNot .none .none = some (.bool false) := rfl
theorem isN_i (i : Int) : dIsNot (.int i) .none = some (.bool true) := rfl
theorem tup_l (ds : List D) : fnTuple [.list ds] = some (.tuple ds) := rfl
theorem tadd1 (a b c : D) : dAdd (.tuple [a]) (.tuple [b, c]) = some (.tuple [a, b, c]) := rfl
theorem tadd2 (a b c d e : D) : dAdd (.tuple [a, b, c]) (.tuple [d, e]) = some (.tuple [a, b, c, d, e]) := rfl
theorem tadd3 (a b c d e f : D) : dAdd (.tuple [a, b, c, d, e]) (.tuple [f]) = some (.tuple [a, b, c, d, e, f]) := rfl
theorem sm1 : small 1 = true := rfl
theorem sm2 : small 2 = true := rfl
theorem le_ii (i j : Int) : dLe (.int i) (.int j) = some (.bool (decide (i ≤ j))) := rfl
theorem isI_i (i : Int) : isInt (.int i) = true := rfl
theorem isB_i (i : Int) : isBool (.int i) = false := rfl
theorem isS_s (x : Str) : isStr (.str x) = true := rfl
theorem isT_r (r : Ru) : isTuple r.e = true := rfl
theorem len_l (l : List D) : fnLen [.list l] = some (.int (l.length : Nat)) := rfl
theorem len_r (r : Ru) : fnLen [r.e] = some (.int 5) := rfl
theorem ld_in (l : Ld) : dIn (.str l.s) (.tuple [.str "one", .str "two", .str "cap"]) = some (.bool true) := by cases l <;> rfl
theorem dc_in (l : Dc) : dIn (.str l.s) (.tuple [.str "same", .str "longer"]) = some (.bool true) := by cases l <;> rfl
theorem sv_inA (l : Sv) : dIn (.str l.s) (.tuple [.str "games", .str "twos", .str "winner", .str "only"]) = some (.bool true) := by cases l <;> rfl
def Ru.ok (r : Ru) : Prop := 2 ≤ r.p ∧ r.p ≤ 4 ∧ 1 ≤ r.g ∧ r.g ≤ 3
def Ro (bs : List Bool) : D := .list (bs.map fun b => .int (rb b))
def Sta.start : Sta := ⟨0, 0, 0, 0, 0, 0⟩
def runM (r : Ru) : Sta → List Bool → List Sta
  | _, [] => []
  | s, b :: bs => stepM r s b :: runM r (stepM r s b) bs
def stsM (r : Ru) (bs : List Bool) : List Sta := Sta.start :: runM r .start bs
def afterM (r : Ru) (s : Sta) (bs : List Bool) : Sta := bs.foldl (stepM r) s
theorem runM_length (r : Ru) : ∀ (bs : List Bool) (s : Sta), (runM r s bs).length = bs.length
  | [], _ => rfl
  | b :: bs, s => by simp [runM, runM_length r bs]
theorem runM_last (r : Ru) : ∀ (bs : List Bool) (s : Sta), (s :: runM r s bs).getLast (List.cons_ne_nil _ _) = afterM r s bs
  | [], _ => rfl
  | b :: bs, s => by
    have := runM_last r bs (stepM r s b)
    simp only [runM, afterM, List.foldl_cons] at this ⊢
    rw [List.getLast_cons (List.cons_ne_nil _ _)]
    exact this
theorem stsM_get (r : Ru) : ∀ (bs : List Bool) (s : Sta) (k : Nat), k ≤ bs.length → (s :: runM r s bs)[k]? = some (afterM r s (bs.take k))
  | _, s, 0, _ => rfl
  | [], _, k + 1, h => absurd h (by simp)
  | b :: bs, s, k + 1, h => by
    have := stsM_get r bs (stepM r s b) k (by simpa using h)
    simpa [runM, afterM] using this
def Rs (r : Ru) (bs : List Bool) : D := .list ((stsM r bs).map Sta.e)
/-- .. of encoded things -/
theorem lc_enc {α : Type} {i : Nat} {f : Envt → Tr D} {env : Envt} (en : α → D) (g : α → D) {xs : List α} (h : ∀ x ∈ xs, f (env.set i (.fz (en x))) = .ret (g x)) : lcRun (tgName i) bYes f env (xs.map en) = .ret (xs.map g) := by
  induction xs with
  | nil => rfl
  | cons x xs ih =>
    have h1 := h x List.mem_cons_self
    have h2 := ih fun y hy => h y (List.mem_cons_of_mem _ hy)
    show (f (env.set i (.fz (en x)))).bind (fun y => (lcRun (tgName i) bYes f env (xs.map en)).bind fun ys => .ret (y :: ys)) = _
    rw [h1, h2]; rfl
theorem asBools_map {α : Type} (p : α → Bool) : ∀ xs : List α, asBools (xs.map fun x => .bool (p x)) = some (xs.map p)
  | [] => rfl
  | x :: xs => by
    show (asBools (xs.map fun x => .bool (p x))).map (p x :: ·) = _
    rw [asBools_map p xs]; rfl
theorem small_big {n : Nat} (h : n ≤ 16000000) : small n = true := decide_eq_true h
theorem small_of {n : Nat} (h : n ≤ 100000) : small n = true := small_big (Nat.le_trans h (by decide))
theorem atI_lastD (xs : List D) (d : D) : dIx (.list (xs ++ [d])) (.int (-1)) = some d := atI_last xs d
theorem dIx_nat {xs : List D} {k : Nat} {d : D} (h : xs[k]? = some d) : dIx (.list xs) (.int (k : Int)) = some d := atI_nat h
theorem okAt_st (n : Nat) (s : Sta) : okAt (n + 1) s.e = true := by
  unfold Sta.e
  rw [okAt]
  simp [okAt]
theorem cut_from {α : Type} (xs : List α) (m : Nat) : cutD xs (some (m : Int)) none = xs.drop m := by
  unfold cutD
  rw [HT.sIx_none, HT.sIx_nat]
  by_cases h : m ≤ xs.length
  · rw [Nat.min_eq_left h, List.take_of_length_le (by rw [List.length_drop]; omega)]
  · rw [Nat.min_eq_right (by omega), List.drop_length, List.drop_of_length_le (by omega), List.take_nil]
theorem Ro_add (xs ys : List Bool) (h : xs.length + ys.length ≤ 1000) : dAdd (Ro xs) (Ro ys) = some (Ro (xs ++ ys)) := by
  show (if small ((xs.map _).length + (ys.map _).length) then some (PyData.list _) else none) = _
  rw [List.length_map, List.length_map, small_of (by omega)]
  unfold Ro
  rw [List.map_append]
  rfl
theorem Ro_len (bs : List Bool) : fnLen [Ro bs] = some (.int (bs.length : Nat)) := by show some (PyData.int _) = _; rw [List.length_map]
theorem bit_of {k : Int} (h0 : 0 ≤ k) (h1 : k < 2) : ∃ b : Bool, PyData.int k = .int (rb b) := by
  have : k = 0 ∨ k = 1 := by omega
  rcases this with rfl | rfl
  · exact ⟨false, rfl⟩
  · exact ⟨true, rfl⟩
end Mb
set_option maxHeartbeats 4000000
namespace Mb
open PySem L2
structure Iv (r : Ru) (s : Sta) : Prop where
  p0 : 0 ≤ s.p0
  p1 : 0 ≤ s.p1
  g0 : 0 ≤ s.g0
  g1 : 0 ≤ s.g1
  a : s.g0 ≤ r.g
  b : s.g1 ≤ r.g
  c : s.g0 + s.g1 ≤ 2 * r.g - 1
end Mb
set_option maxHeartbeats 4000000
namespace Mb
open PySem L2
def mkD (r : Ru) (s : Sta) (b : Bool) : D := if makerM r s (rb b) then .int (rb b) else .none
def mksM (r : Ru) : Sta → List Bool → List D
  | _, [] => []
  | s, b :: bs => mkD r s b :: mksM r (stepM r s b) bs
def cK (r : Ru) (s : Sta) (bs : List Bool) (k : Int) : Int := (((mksM r s bs).countP fun z => PyData.eqv z (.int k) : Nat) : Int)
theorem cK_nil (r : Ru) (s : Sta) (k : Int) : cK r s [] k = 0 := rfl
theorem eqv_ii (i j : Int) : PyData.eqv (.int i) (.int j) = (i == j) := by simp only [PyData.eqv]
theorem eqv_ni (j : Int) : PyData.eqv .none (.int j) = false := by simp only [PyData.eqv]
theorem cK_cons (r : Ru) (s : Sta) (b : Bool) (bs : List Bool) (k : Int) : cK r s (b :: bs) k = cK r (stepM r s b) bs k + (if makerM r s (rb b) && (rb b == k) then 1 else 0) := by
  show (((mkD r s b :: mksM r (stepM r s b) bs).countP fun z => PyData.eqv z (.int k) : Nat) : Int) = (((mksM r (stepM r s b) bs).countP fun z => PyData.eqv z (.int k) : Nat) : Int) + _
  rw [List.countP_cons]
  unfold mkD
  cases makerM r s (rb b) with
  | false => simp [eqv_ni]
  | true =>
    simp only [if_true, eqv_ii, Bool.true_and]
    split <;> simp
theorem after_snoc (r : Ru) (s : Sta) (bs : List Bool) (b : Bool) : afterM r s (bs ++ [b]) = stepM r (afterM r s bs) b := by
  unfold afterM
  rw [List.foldl_append]
  rfl
theorem after_take (r : Ru) (s : Sta) (bs : List Bool) (k : Nat) (h : k < bs.length) : afterM r s (bs.take (k + 1)) = stepM r (afterM r s (bs.take k)) bs[k] := by
  rw [List.take_succ_eq_append_getElem h, after_snoc]
def gE (s : Sta) : D := .tuple [.int s.g0, .int s.g1]
theorem gx0 (s : Sta) : dIx (gE s) (.int 0) = some (.int s.g0) := rfl
theorem gx1 (s : Sta) : dIx (gE s) (.int 1) = some (.int s.g1) := rfl
theorem sts_length (r : Ru) (bs : List Bool) : (stsM r bs).length = bs.length + 1 := by simp [stsM, runM_length]
end Mb
set_option maxHeartbeats 4000000
namespace Mb
open PySem L2
def wonL (l : Ld) (many own other : Int) : Bool := match l with
  | .one => own == many
  | .two => decide (many ≤ own) && decide (other + 2 ≤ own)
  | .cap => decide (many ≤ own) && decide (other + 2 ≤ own) || own == many + 1
def foldL (l : Ld) (many a b : Int) : Int × Int := if !(decide (l = .two)) || decide (min a b < many - 1) then (a, b) else (many - 1 + (if 0 < a - b then 1 else 0), many - 1 + (if a - b < 0 then 1 else 0))
structure Al where
  a : Int
  b : Int
  g0 : Int
  g1 : Int
  sv : Int
  tn : Int
  m0 : Int
  m1 : Int
  en : Option Int
def wantG (r : Ru) (g0 g1 : Int) : Int := r.p + (if (r.d = .longer) && (g0 == r.g - 1 || g1 == r.g - 1) then 1 else 0)
def Al.mk? (r : Ru) (x : Al) (b : Bool) : Bool := !(decide (r.s = .only)) || rb b == x.sv
def i0 (b : Bool) : Int := if b then 0 else 1
def i1 (b : Bool) : Int := if b then 1 else 0
/-- a rally's point -/
def Al.pt (r : Ru) (x : Al) (b : Bool) : Al := if x.mk? r b then { x with a := x.a + i0 b, b := x.b + i1 b, m0 := x.m0 + i0 b, m1 := x.m1 + i1 b } else x
def Al.over (r : Ru) (x : Al) (b : Bool) : Bool := x.mk? r b && (if b then wonL r.l (wantG r x.g0 x.g1) (x.b + 1) x.a else wonL r.l (wantG r x.g0 x.g1) (x.a + 1) x.b)
/-- a game's end -/
def Al.gm (r : Ru) (x : Al) (b : Bool) (ov : Bool) (k : Int) : Al := if ov then { x with a := 0, b := 0, g0 := x.g0 + i0 b, g1 := x.g1 + i1 b, en := if x.g0 + i0 b == r.g || x.g1 + i1 b == r.g then some (k + 1) else none } else x
def Al.srv (r : Ru) (x : Al) (b : Bool) (ov : Bool) : Al := if (r.s = .winner || r.s = .only) then { x with sv := rb b } else if (r.s = .games || ov) then { x with sv := (x.g0 + x.g1) % 2, tn := 0 } else { x with sv := if x.tn == 0 then x.sv else 1 - x.sv, tn := 1 - x.tn }
def Al.go (r : Ru) (x : Al) (b : Bool) (k : Int) : Al := (((x.pt r b).gm r b (x.over r b) k).srv r b (x.over r b))
def Al.st (r : Ru) (x : Al) (many : Int) : Sta := ⟨x.sv, (foldL r.l many x.a x.b).1, (foldL r.l many x.a x.b).2, x.g0, x.g1, x.tn⟩
def Al.start : Al := ⟨0, 0, 0, 0, 0, 0, 0, 0, none⟩
/-- what holds between the rallies -/
structure AlI (r : Ru) (x : Al) : Prop where
  a0 : 0 ≤ x.a
  b0 : 0 ≤ x.b
  one : r.l = .one → x.a < wantG r x.g0 x.g1 ∧ x.b < wantG r x.g0 x.g1
  cap : r.l = .cap → x.a ≤ wantG r x.g0 x.g1 ∧ x.b ≤ wantG r x.g0 x.g1
  two : r.l = .two → ¬ (wantG r x.g0 x.g1 ≤ x.a ∧ x.b + 2 ≤ x.a) ∧ ¬ (wantG r x.g0 x.g1 ≤ x.b ∧ x.a + 2 ≤ x.b)
  tn : x.tn = 0 ∨ x.tn = 1
  wo : (r.s = .winner ∨ r.s = .only ∨ r.s = .games) → x.tn = 0
theorem want_ge {r : Ru} (hr : r.ok) (g0 g1 : Int) : 2 ≤ wantG r g0 g1 ∧ wantG r g0 g1 ≤ 5 := by
  have := hr.1; have := hr.2.1
  unfold wantG; split <;> omega
theorem want_st (r : Ru) (x : Al) (m : Int) : wantedM r (x.st r m) = wantG r x.g0 x.g1 := rfl
theorem al_start {r : Ru} (hr : r.ok) : AlI r .start := by
  have h := (want_ge hr 0 0).1
  refine ⟨Int.le_refl _, Int.le_refl _, fun _ => ?_, fun _ => ?_, fun _ => ?_, .inl rfl, fun _ => rfl⟩ <;> (show _; simp only [Al.start]; omega)
theorem won_eq {r : Ru} (hr : r.ok) {x : Al} (i : AlI r x) (b : Bool) :
    (if b then wonL r.l (wantG r x.g0 x.g1) (x.b + 1) x.a else wonL r.l (wantG r x.g0 x.g1) (x.a + 1) x.b) =
    winsM r.l (wantG r x.g0 x.g1) (if b then (foldL r.l (wantG r x.g0 x.g1) x.a x.b).2 + 1 else (foldL r.l (wantG r x.g0 x.g1) x.a x.b).1 + 1) (if b then (foldL r.l (wantG r x.g0 x.g1) x.a x.b).1 else (foldL r.l (wantG r x.g0 x.g1) x.a x.b).2) := by
  have hw := (want_ge hr x.g0 x.g1).1
  have h1 := i.one; have h2 := i.cap; have h3 := i.two
  have a0 := i.a0; have b0 := i.b0
  generalize wantG r x.g0 x.g1 = m at *
  cases hl : r.l with
  | one =>
    have h := h1 hl
    cases b <;> simp [wonL, winsM, foldL, -decide_eq_decide] <;> (rw [Bool.eq_iff_iff]; simp; omega)
  | cap =>
    have h := h2 hl
    cases b <;> simp [wonL, winsM, foldL, -decide_eq_decide] <;> (rw [Bool.eq_iff_iff]; simp; omega)
  | two =>
    have h := h3 hl
    cases b <;> simp [wonL, winsM, foldL, -decide_eq_decide] <;> (rw [Bool.eq_iff_iff]; split <;> (try split) <;> (try split) <;> simp <;> omega)
theorem fold_next {r : Ru} (hr : r.ok) {x : Al} (i : AlI r x) (hl : r.l = .two) (b : Bool) (hn : winsM .two (wantG r x.g0 x.g1) (if b then (foldL .two (wantG r x.g0 x.g1) x.a x.b).2 + 1 else (foldL .two (wantG r x.g0 x.g1) x.a x.b).1 + 1) (if b then (foldL .two (wantG r x.g0 x.g1) x.a x.b).1 else (foldL .two (wantG r x.g0 x.g1) x.a x.b).2) = false) :
    foldL .two (wantG r x.g0 x.g1) (x.a + i0 b) (x.b + i1 b) = foldM (wantG r x.g0 x.g1) ((foldL .two (wantG r x.g0 x.g1) x.a x.b).1 + i0 b) ((foldL .two (wantG r x.g0 x.g1) x.a x.b).2 + i1 b) := by
  have hw := (want_ge hr x.g0 x.g1).1
  have h := i.two hl
  have a0 := i.a0; have b0 := i.b0
  generalize wantG r x.g0 x.g1 = m at *
  have emin : ∀ a b : Int, min a b = if a ≤ b then a else b := fun a b => Int.min_def a b
  cases b <;> simp only [i0, i1, if_true, if_false, Bool.false_eq_true, foldL, foldM, emin, decide_true, Bool.not_true, Bool.false_or, decide_eq_true_eq] <;> (repeat' split) <;> (try simp only [Prod.mk.injEq]) <;> (try omega) <;> (simp_all <;> omega)
end Mb
set_option maxHeartbeats 4000000
namespace Mb
open PySem L2
theorem fold00 (l : Ld) {m : Int} (h : 2 ≤ m) : foldL l m 0 0 = (0, 0) := by
  have : decide (min (0 : Int) 0 < m - 1) = true := decide_eq_true (by rw [Int.min_def]; split <;> omega)
  unfold foldL
  rw [this, Bool.or_true, if_pos rfl]
theorem maker_al {r : Ru} {x : Al} {m : Int} (he : endedM r (x.st r m) = false) (b : Bool) : makerM r (x.st r m) (rb b) = x.mk? r b := by
  unfold makerM Al.mk?
  rw [he]
  show (!false && !(decide (r.s = .only) && !(rb b == x.sv))) = _
  cases decide (r.s = .only) <;> cases (rb b == x.sv) <;> rfl
theorem fold_id {l : Ld} (h : l ≠ .two) (m a b : Int) : foldL l m a b = (a, b) := by
  unfold foldL
  rw [decide_eq_false h]; rfl
theorem srv_eq (r : Ru) (x y : Al) (b ov : Bool) (s : Sta) (i : AlI r x) (h1 : s.sv = x.sv) (h2 : s.tn = x.tn) (h3 : y.sv = x.sv) (h4 : y.tn = x.tn) :
    (y.srv r b ov).sv = (servM r s (rb b) y.g0 y.g1 ov).1 ∧ (y.srv r b ov).tn = (servM r s (rb b) y.g0 y.g1 ov).2 ∧ ((y.srv r b ov).tn = 0 ∨ (y.srv r b ov).tn = 1) ∧ ((r.s = .winner ∨ r.s = .only ∨ r.s = .games) → (y.srv r b ov).tn = 0) := by
  have t := i.tn
  have w := i.wo
  unfold Al.srv servM
  rw [h1, h2, ← h3, ← h4]
  rw [← h4] at t w
  by_cases c1 : (decide (r.s = .winner) || decide (r.s = .only)) = true
  · have c1' : r.s = .winner ∨ r.s = .only := by simpa using c1
    rw [if_pos c1, if_pos c1]
    have z := w (c1'.elim .inl (fun e => .inr (.inl e)))
    exact ⟨rfl, z, .inl z, fun _ => z⟩
  · rw [if_neg c1, if_neg c1]
    by_cases c2 : (decide (r.s = .games) || ov) = true
    · rw [if_pos c2, if_pos c2]
      exact ⟨rfl, rfl, .inl rfl, fun _ => rfl⟩
    · rw [if_neg c2, if_neg c2]
      have n : ¬ (r.s = .winner ∨ r.s = .only ∨ r.s = .games) := by
        simp at c1 c2
        simp [c1, c2]
      rcases t with t | t
      · have : (y.tn == 0) = true := by rw [t]; rfl
        rw [if_pos this, if_pos this]
        exact ⟨rfl, by show 1 - y.tn = 1; omega, .inr (by show 1 - y.tn = 1; omega), fun q => (n q).elim⟩
      · have : ¬ (y.tn == 0) = true := by rw [t]; decide
        rw [if_neg this, if_neg this]
        exact ⟨rfl, by show 1 - y.tn = 0; omega, .inl (by show 1 - y.tn = 0; omega), fun q => (n q).elim⟩
theorem srv_keeps (r : Ru) (y : Al) (b ov : Bool) : (y.srv r b ov).a = y.a ∧ (y.srv r b ov).b = y.b ∧ (y.srv r b ov).g0 = y.g0 ∧ (y.srv r b ov).g1 = y.g1 ∧ (y.srv r b ov).m0 = y.m0 ∧ (y.srv r b ov).m1 = y.m1 ∧ (y.srv r b ov).en = y.en := by
  unfold Al.srv
  (repeat' split) <;> exact ⟨rfl, rfl, rfl, rfl, rfl, rfl, rfl⟩
/-- the state that a rally appends -/
def Al.app (r : Ru) (x : Al) (b : Bool) (k : Int) : Sta := (x.go r b k).st r (if x.over r b then 9 else wantG r x.g0 x.g1)
theorem al_go {r : Ru} (hr : r.ok) {x : Al} (i : AlI r x) (he : endedM r (x.st r (wantG r x.g0 x.g1)) = false) (b : Bool) (k : Int) :
    AlI r (x.go r b k) ∧ x.app r b k = stepM r (x.st r (wantG r x.g0 x.g1)) b ∧ (x.go r b k).st r (wantG r (x.go r b k).g0 (x.go r b k).g1) = stepM r (x.st r (wantG r x.g0 x.g1)) b ∧
    (x.go r b k).m0 = x.m0 + (if x.mk? r b then i0 b else 0) ∧ (x.go r b k).m1 = x.m1 + (if x.mk? r b then i1 b else 0) := by
  have hmk := maker_al he b
  have hw := want_ge hr x.g0 x.g1
  have won := won_eq hr i b
  have sv := fun (y : Al) (ov : Bool) h3 h4 => srv_eq r x y b ov (x.st r (wantG r x.g0 x.g1)) i rfl rfl h3 h4
  cases hm : x.mk? r b with
  | false =>
    have ov : x.over r b = false := by unfold Al.over; rw [hm]; rfl
    have pt : x.pt r b = x := by unfold Al.pt; rw [hm]; rfl
    have go : x.go r b k = x.srv r b false := by unfold Al.go; rw [ov, pt]; rfl
    obtain ⟨s1, s2, s3, s4⟩ := sv x false rfl rfl
    obtain ⟨q1, q2, q3, q4, q5, q6, q7⟩ := srv_keeps r x b false
    have stp : stepM r (x.st r (wantG r x.g0 x.g1)) b = ⟨(servM r (x.st r (wantG r x.g0 x.g1)) (rb b) x.g0 x.g1 false).1, (foldL r.l (wantG r x.g0 x.g1) x.a x.b).1, (foldL r.l (wantG r x.g0 x.g1) x.a x.b).2, x.g0, x.g1, (servM r (x.st r (wantG r x.g0 x.g1)) (rb b) x.g0 x.g1 false).2⟩ := by
      unfold stepM
      rw [he, hmk, hm]; rfl
    unfold Al.app
    rw [go, ov, stp]
    refine ⟨⟨by rw [q1]; exact i.a0, by rw [q2]; exact i.b0, ?_, ?_, ?_, s3, s4⟩, ?_, ?_, ?_, ?_⟩
    · rw [q1, q2, q3, q4]; exact i.one
    · rw [q1, q2, q3, q4]; exact i.cap
    · rw [q1, q2, q3, q4]; exact i.two
    · unfold Al.st; rw [q1, q2, q3, q4, s1, s2]; rfl
    · unfold Al.st; rw [q1, q2, q3, q4, s1, s2]; rfl
    · rw [q5]; simp
    · rw [q6]; simp
  | true =>
    have pt : x.pt r b = { x with a := x.a + i0 b, b := x.b + i1 b, m0 := x.m0 + i0 b, m1 := x.m1 + i1 b } := by unfold Al.pt; rw [hm]; rfl
    have ove : x.over r b = winsM r.l (wantG r x.g0 x.g1) (if b then (foldL r.l (wantG r x.g0 x.g1) x.a x.b).2 + 1 else (foldL r.l (wantG r x.g0 x.g1) x.a x.b).1 + 1) (if b then (foldL r.l (wantG r x.g0 x.g1) x.a x.b).1 else (foldL r.l (wantG r x.g0 x.g1) x.a x.b).2) := by
      unfold Al.over; rw [hm, Bool.true_and, won]
    have stp : ∀ ov, x.over r b = ov → stepM r (x.st r (wantG r x.g0 x.g1)) b = if ov then ⟨(servM r (x.st r (wantG r x.g0 x.g1)) (rb b) (x.g0 + i0 b) (x.g1 + i1 b) true).1, 0, 0, x.g0 + i0 b, x.g1 + i1 b, (servM r (x.st r (wantG r x.g0 x.g1)) (rb b) (x.g0 + i0 b) (x.g1 + i1 b) true).2⟩
        else if decide (r.l = .two) then ⟨(servM r (x.st r (wantG r x.g0 x.g1)) (rb b) x.g0 x.g1 false).1, (foldM (wantG r x.g0 x.g1) ((foldL r.l (wantG r x.g0 x.g1) x.a x.b).1 + i0 b) ((foldL r.l (wantG r x.g0 x.g1) x.a x.b).2 + i1 b)).1, (foldM (wantG r x.g0 x.g1) ((foldL r.l (wantG r x.g0 x.g1) x.a x.b).1 + i0 b) ((foldL r.l (wantG r x.g0 x.g1) x.a x.b).2 + i1 b)).2, x.g0, x.g1, (servM r (x.st r (wantG r x.g0 x.g1)) (rb b) x.g0 x.g1 false).2⟩
        else ⟨(servM r (x.st r (wantG r x.g0 x.g1)) (rb b) x.g0 x.g1 false).1, (foldL r.l (wantG r x.g0 x.g1) x.a x.b).1 + i0 b, (foldL r.l (wantG r x.g0 x.g1) x.a x.b).2 + i1 b, x.g0, x.g1, (servM r (x.st r (wantG r x.g0 x.g1)) (rb b) x.g0 x.g1 false).2⟩ := by
      intro ov e
      rw [ove] at e
      unfold stepM
      rw [he, hmk, hm, want_st]
      cases b <;> simp only [if_true, if_false, Bool.false_eq_true, i0, i1, Int.add_zero] at e ⊢
      · show (if winsM r.l (wantG r x.g0 x.g1) ((foldL r.l (wantG r x.g0 x.g1) x.a x.b).1 + 1) (foldL r.l (wantG r x.g0 x.g1) x.a x.b).2 then _ else _) = _
        rw [e]; rfl
      · show (if winsM r.l (wantG r x.g0 x.g1) ((foldL r.l (wantG r x.g0 x.g1) x.a x.b).2 + 1) (foldL r.l (wantG r x.g0 x.g1) x.a x.b).1 then _ else _) = _
        rw [e]; rfl
    cases ho : x.over r b with
    | true =>
      have stp := stp true ho
      rw [if_pos rfl] at stp
      have go : x.go r b k = ({ x with a := 0, b := 0, m0 := x.m0 + i0 b, m1 := x.m1 + i1 b, g0 := x.g0 + i0 b, g1 := x.g1 + i1 b, en := if x.g0 + i0 b == r.g || x.g1 + i1 b == r.g then some (k + 1) else none } : Al).srv r b true := by
        unfold Al.go; rw [ho, pt]; rfl
      obtain ⟨s1, s2, s3, s4⟩ := sv { x with a := 0, b := 0, m0 := x.m0 + i0 b, m1 := x.m1 + i1 b, g0 := x.g0 + i0 b, g1 := x.g1 + i1 b, en := if x.g0 + i0 b == r.g || x.g1 + i1 b == r.g then some (k + 1) else none } true rfl rfl
      obtain ⟨q1, q2, q3, q4, q5, q6, q7⟩ := srv_keeps r { x with a := 0, b := 0, m0 := x.m0 + i0 b, m1 := x.m1 + i1 b, g0 := x.g0 + i0 b, g1 := x.g1 + i1 b, en := if x.g0 + i0 b == r.g || x.g1 + i1 b == r.g then some (k + 1) else none } b true
      rw [← go] at s1 s2 s3 s4 q1 q2 q3 q4 q5 q6 q7
      have hw2 := (want_ge hr (x.g0 + i0 b) (x.g1 + i1 b)).1
      unfold Al.app
      rw [ho, stp]
      dsimp only at q1 q2 q3 q4 q5 q6 s1 s2
      refine ⟨⟨by rw [q1]; exact Int.le_refl _, by rw [q2]; exact Int.le_refl _, fun _ => ?_, fun _ => ?_, fun _ => ?_, s3, s4⟩, ?_, ?_, ?_, ?_⟩
      · rw [q1, q2, q3, q4]; omega
      · rw [q1, q2, q3, q4]; omega
      · rw [q1, q2, q3, q4]; omega
      · unfold Al.st; rw [q1, q2, q3, q4, s1, s2, if_pos rfl, fold00 _ (by decide)]; rfl
      · unfold Al.st; rw [q1, q2, q3, q4, s1, s2, fold00 _ hw2]; rfl
      · rw [q5]; simp
      · rw [q6]; simp
    | false =>
      have stp := stp false ho
      rw [if_neg (by decide)] at stp
      have go : x.go r b k = ({ x with a := x.a + i0 b, b := x.b + i1 b, m0 := x.m0 + i0 b, m1 := x.m1 + i1 b } : Al).srv r b false := by
        unfold Al.go; rw [ho, pt]; rfl
      obtain ⟨s1, s2, s3, s4⟩ := sv { x with a := x.a + i0 b, b := x.b + i1 b, m0 := x.m0 + i0 b, m1 := x.m1 + i1 b } false rfl rfl
      obtain ⟨q1, q2, q3, q4, q5, q6, q7⟩ := srv_keeps r { x with a := x.a + i0 b, b := x.b + i1 b, m0 := x.m0 + i0 b, m1 := x.m1 + i1 b } b false
      rw [← go] at s1 s2 s3 s4 q1 q2 q3 q4 q5 q6 q7
      dsimp only at q1 q2 q3 q4 q5 q6 s1 s2
      have hov : (if b then wonL r.l (wantG r x.g0 x.g1) (x.b + 1) x.a else wonL r.l (wantG r x.g0 x.g1) (x.a + 1) x.b) = false := by
        have := ho
        unfold Al.over at this
        rw [hm, Bool.true_and] at this
        exact this
      have a0 := i.a0
      have b0 := i.b0
      have key : (x.go r b k).st r (wantG r x.g0 x.g1) = stepM r (x.st r (wantG r x.g0 x.g1)) b := by
        rw [stp]
        unfold Al.st
        rw [q1, q2, q3, q4, s1, s2]
        by_cases h2 : r.l = .two
        · rw [if_pos (decide_eq_true h2)]
          have hn := ove.symm.trans ho
          rw [h2] at hn
          have := fold_next hr i h2 b hn
          rw [h2, this]; rfl
        · rw [if_neg (by simpa using h2), fold_id h2, fold_id h2]; rfl
      unfold Al.app
      rw [ho, if_neg (by decide), q3, q4]
      refine ⟨⟨by rw [q1]; cases b <;> simp [i0] <;> omega, by rw [q2]; cases b <;> simp [i1] <;> omega, fun h => ?_, fun h => ?_, fun h => ?_, s3, s4⟩, key, key, ?_, ?_⟩
      · have o := i.one h
        rw [q1, q2, q3, q4]
        rw [h] at hov
        cases b <;> simp [wonL, i0, i1] at hov ⊢ <;> omega
      · have o := i.cap h
        rw [q1, q2, q3, q4]
        rw [h] at hov
        cases b <;> simp [wonL, i0, i1] at hov ⊢ <;> omega
      · have o := i.two h
        rw [q1, q2, q3, q4]
        rw [h] at hov
        cases b <;> simp [wonL, i0, i1] at hov ⊢ <;> omega
      · rw [q5]; simp
      · rw [q6]; simp
end Mb
set_option maxHeartbeats 4000000
namespace Mb
open PySem L2
def alOf (s : Sta) : Al := ⟨s.p0, s.p1, s.g0, s.g1, s.sv, s.tn, 0, 0, none⟩
structure StI (r : Ru) (s : Sta) : Prop where
  i : AlI r (alOf s)
  s : (alOf s).st r (wantG r s.g0 s.g1) = s
theorem ended_step {r : Ru} {s : Sta} (h : endedM r s = true) (b : Bool) : stepM r s b = s := by
  unfold stepM; rw [h]; rfl
theorem fold_two {m a b : Int} (hm : 2 ≤ m) (a0 : 0 ≤ a) (b0 : 0 ≤ b) (h : ¬ (m ≤ a ∧ b + 2 ≤ a) ∧ ¬ (m ≤ b ∧ a + 2 ≤ b)) :
    0 ≤ (foldL .two m a b).1 ∧ 0 ≤ (foldL .two m a b).2 ∧ (¬ (m ≤ (foldL .two m a b).1 ∧ (foldL .two m a b).2 + 2 ≤ (foldL .two m a b).1) ∧ ¬ (m ≤ (foldL .two m a b).2 ∧ (foldL .two m a b).1 + 2 ≤ (foldL .two m a b).2)) ∧ foldL .two m (foldL .two m a b).1 (foldL .two m a b).2 = foldL .two m a b := by
  have emin : ∀ a b : Int, min a b = if a ≤ b then a else b := fun a b => Int.min_def a b
  simp only [foldL, emin, decide_true, Bool.not_true, Bool.false_or, decide_eq_true_eq]
  (repeat' split) <;> (try simp only [Prod.mk.injEq]) <;> (try omega) <;> (simp_all <;> omega)
theorem sti_of {r : Ru} (hr : r.ok) {x : Al} (i : AlI r x) : StI r (x.st r (wantG r x.g0 x.g1)) := by
  have hw := (want_ge hr x.g0 x.g1).1
  by_cases hl : r.l = .two
  · obtain ⟨h1, h2, h3, h4⟩ := fold_two hw i.a0 i.b0 (i.two hl)
    refine ⟨⟨?_, ?_, fun h => ?_, fun h => ?_, fun h => ?_, i.tn, i.wo⟩, ?_⟩
    · show 0 ≤ (foldL r.l _ _ _).1; rw [hl]; exact h1
    · show 0 ≤ (foldL r.l _ _ _).2; rw [hl]; exact h2
    · rw [hl] at h; cases h
    · rw [hl] at h; cases h
    · show ¬ (wantG r x.g0 x.g1 ≤ (foldL r.l _ _ _).1 ∧ (foldL r.l _ _ _).2 + 2 ≤ (foldL r.l _ _ _).1) ∧ ¬ (wantG r x.g0 x.g1 ≤ (foldL r.l _ _ _).2 ∧ (foldL r.l _ _ _).1 + 2 ≤ (foldL r.l _ _ _).2)
      rw [hl]; exact h3
    · show Sta.mk _ (foldL r.l (wantG r x.g0 x.g1) (foldL r.l (wantG r x.g0 x.g1) x.a x.b).1 (foldL r.l (wantG r x.g0 x.g1) x.a x.b).2).1 (foldL r.l (wantG r x.g0 x.g1) (foldL r.l (wantG r x.g0 x.g1) x.a x.b).1 (foldL r.l (wantG r x.g0 x.g1) x.a x.b).2).2 _ _ _ = _
      rw [hl, h4, ← hl]; rfl
  · have e := fold_id hl (wantG r x.g0 x.g1) x.a x.b
    refine ⟨⟨?_, ?_, fun h => ?_, fun h => ?_, fun h => absurd h hl, i.tn, i.wo⟩, ?_⟩
    · show 0 ≤ (foldL r.l _ _ _).1; rw [e]; exact i.a0
    · show 0 ≤ (foldL r.l _ _ _).2; rw [e]; exact i.b0
    · show (foldL r.l _ _ _).1 < wantG r x.g0 x.g1 ∧ (foldL r.l _ _ _).2 < wantG r x.g0 x.g1
      rw [e]; exact i.one h
    · show (foldL r.l _ _ _).1 ≤ wantG r x.g0 x.g1 ∧ (foldL r.l _ _ _).2 ≤ wantG r x.g0 x.g1
      rw [e]; exact i.cap h
    · show Sta.mk _ (foldL r.l (wantG r x.g0 x.g1) (foldL r.l (wantG r x.g0 x.g1) x.a x.b).1 (foldL r.l (wantG r x.g0 x.g1) x.a x.b).2).1 (foldL r.l (wantG r x.g0 x.g1) (foldL r.l (wantG r x.g0 x.g1) x.a x.b).1 (foldL r.l (wantG r x.g0 x.g1) x.a x.b).2).2 _ _ _ = _
      rw [fold_id hl, ]; rfl
theorem sti_start {r : Ru} (hr : r.ok) : StI r .start := by
  have := sti_of hr (al_start hr)
  have e : Al.st r .start (wantG r Al.start.g0 Al.start.g1) = Sta.start := by
    unfold Al.st Al.start
    rw [fold00 _ (want_ge hr _ _).1]; rfl
  rw [e] at this
  exact this
theorem sti_step {r : Ru} (hr : r.ok) {s : Sta} (h : StI r s) (b : Bool) : StI r (stepM r s b) := by
  cases he : endedM r s with
  | true => rw [ended_step he]; exact h
  | false =>
    have q := al_go hr h.i (by show endedM r ((alOf s).st r (wantG r s.g0 s.g1)) = false; rw [h.s]; exact he) b 0
    have e := q.2.2.1
    have e2 : (alOf s).st r (wantG r (alOf s).g0 (alOf s).g1) = s := h.s
    rw [e2] at e
    rw [← e]
    exact sti_of hr q.1
theorem sti_run {r : Ru} (hr : r.ok) : ∀ (bs : List Bool) {s : Sta}, StI r s → StI r (afterM r s bs)
  | [], _, h => h
  | b :: bs, s, h => by
    show StI r (afterM r (stepM r s b) bs)
    exact sti_run hr bs (sti_step hr h b)
theorem app_step {r : Ru} (hr : r.ok) {s : Sta} (h : StI r s) (he : endedM r s = false) (b : Bool) : (alOf s).app r b 0 = stepM r s b := by
  have q := al_go hr h.i (by show endedM r ((alOf s).st r (wantG r s.g0 s.g1)) = false; rw [h.s]; exact he) b 0
  have e2 : (alOf s).st r (wantG r (alOf s).g0 (alOf s).g1) = s := h.s
  have e := q.2.1
  rw [e2] at e
  exact e
def brdM (k : Int) (s : Sta) : D := if k == 2 then .tuple [.int s.g0, .int s.g1] else if k == 0 then .tuple [.int s.sv, .int s.p0, .int s.p1, .int s.g0, .int s.g1] else .int s.sv
theorem s05 (s : Sta) : dSl s.e none (some 5) = some (.tuple [.int s.sv, .int s.p0, .int s.p1, .int s.g0, .int s.g1]) := rfl
theorem okAt_brd (n : Nat) (k : Int) (s : Sta) : okAt (n + 1) (brdM k s) = true := by
  unfold brdM
  split
  · rw [okAt]; simp [okAt]
  · split
    · rw [okAt]; simp [okAt]
    · simp [okAt]
def Bds (r : Ru) (bs : List Bool) (k : Int) : D := .list ((runM r .start bs).map (brdM k))
theorem Rs_tail (r : Ru) (bs : List Bool) : dSl (Rs r bs) (some 1) none = some (.list ((runM r .start bs).map Sta.e)) := by
  show some (PyData.list (cutD _ (some ((1 : Nat) : Int)) none)) = _
  rw [cut_from]; rfl
theorem shp_list {ds : List D} (h : ∀ d ∈ ds, okAt 39 d = true) : shp (.list ds) = true := by
  unfold shp
  rw [okAt, List.all_eq_true]
  exact h
theorem shp_tup {ds : List D} (h : ∀ d ∈ ds, okAt 39 d = true) : shp (.tuple ds) = true := by
  unfold shp
  rw [okAt, List.all_eq_true]
  exact h
theorem shp_Bds (r : Ru) (bs : List Bool) (k : Int) : shp (Bds r bs k) = true := shp_list fun d h => by
  obtain ⟨s, _, rfl⟩ := List.mem_map.mp h
  exact okAt_brd 38 k s
theorem shp_Ro (bs : List Bool) : shp (Ro bs) = true := shp_list fun d h => by
  obtain ⟨s, _, rfl⟩ := List.mem_map.mp h
  rfl
theorem shp_st (s : Sta) : shp s.e = true := okAt_st 39 s
theorem ne_self {d : D} (h : shp d = true) : dNe d d = some (.bool false) := by
  unfold dNe
  rw [h, SeqAt.eqv_refl _ (shp_lay h)]; rfl
theorem eq_self {d : D} (h : shp d = true) : dEq d d = some (.bool true) := by
  unfold dEq
  rw [h, SeqAt.eqv_refl _ (shp_lay h)]; rfl
section
variable {P : Out → Prop} {Q : D → Prop} {R : List Ent → Prop} {E : Nat → Prop} {env : Envt} {f g : Envt → Tr D} {ga : Envt → Tr (List Ent)} {u v : Stm} {i n : Nat} {m : List Ent → Tr D}
theorem all_ret {α : Type} {t : Tr α} {a : α} {S : α → Prop} (h : t = .ret a) (k : S a) : t.all S E := by rw [h]; exact k
theorem all_sSeq (h : (u env).all (fun o => match o with | .nx e => (v e).all P E | .rt d => P (.rt d) | .bk e => P (.bk e) | .ct e => P (.ct e)) E) : (sSeq u v env).all P E := by
  rw [ap_sSeq]
  exact Tr.bind_all (Tr.all_mono (fun o z => by cases o <;> exact z) (fun _ z => z) h)
theorem all_sPar {is : List Nat} (h : (ga env).all (fun es => es.length = is.length ∧ P (.nx (setAll env is es))) E) : (sPar is ga env).all P E := by
  rw [ap_sPar]
  exact Tr.bind_all (Tr.all_mono (fun es z => by rw [z.1, beq_self_eq_true, if_pos rfl]; exact z.2) (fun _ z => z) h)
theorem all_sSet (h : (f env).all (fun d => P (.nx (env.set i (.fz d)))) E) : (sSet i f env).all P E := by
  rw [ap_sSet]
  exact Tr.bind_all h
theorem all_sIf {c : Envt → Tr Bool} (h : (c env).all (fun b => if b then (u env).all P E else (v env).all P E) E) : (sIf c u v env).all P E := by
  rw [ap_sIf]
  exact Tr.bind_all (Tr.all_mono (fun b z => by cases b <;> exact z) (fun _ z => z) h)
theorem all_aCons (h : (f env).all (fun d => (ga env).all (fun es => R (.fz d :: es)) E) E) : (aCons f ga env).all R E := by
  rw [ap_aCons]
  exact Tr.bind_all (Tr.all_mono (fun d z => Tr.bind_all z) (fun _ z => z) h)
theorem all_aNil (h : R []) : (aNil env).all R E := h
theorem all_aDr (hd : env[i]? = some .dr) (h : (ga env).all (fun es => R (.dr :: es)) E) : (aDr i ga env).all R E := by
  rw [ap_aDr, hd]
  exact Tr.bind_all h
theorem all_vCall (h : (ga env).all (fun es => es.length = n ∧ (m es).all Q E) E) : (vCall n m ga env).all Q E := by
  rw [ap_vCall]
  exact Tr.bind_all (Tr.all_mono (fun es z => by rw [z.1, beq_self_eq_true, if_pos rfl]; exact z.2) (fun _ z => z) h)
theorem all_v2 {op : D → D → Option D} (h : (f env).all (fun d => (g env).all (fun e => ∃ z, op d e = some z ∧ Q z) E) E) : (v2 op f g env).all Q E := by
  rw [ap_v2]
  exact Tr.bind_all (Tr.all_mono (fun d z => Tr.bind_all (Tr.all_mono (fun e ⟨w, h1, h2⟩ => by rw [h1]; exact h2) (fun _ z => z) z)) (fun _ z => z) h)
theorem all_vT {S : Bool → Prop} (h : (f env).all (fun d => ∃ b, d = .bool b ∧ S b) E) : (vT f env).all S E := by
  rw [ap_vT]
  exact Tr.bind_all (Tr.all_mono (fun d ⟨b, h1, h2⟩ => by rw [h1]; exact h2) (fun _ z => z) h)
/-- f(draws), f(draws, x) -/
theorem all_dr1 (hd : env[i]? = some .dr) (h : (m [.dr]).all Q E) : (vCall 1 m (aDr i aNil) env).all Q E := all_vCall (all_aDr hd (all_aNil ⟨rfl, h⟩))
theorem all_dr2 (hd : env[i]? = some .dr) (h : (f env).all (fun d => (m [.dr, .fz d]).all Q E) E) : (vCall 2 m (aDr i (aCons f aNil)) env).all Q E :=
  all_vCall (all_aDr hd (all_aCons (Tr.all_mono (fun _ z => all_aNil ⟨rfl, z⟩) (fun _ z => z) h)))
end
end Mb
set_option maxHeartbeats 4000000
namespace L2
open PySem PySem.Spec PyProof.Rows Mb
theorem exT_ok {P : Program} {w : World} {H : Hp} {h : Heap} {a C : Addr} {oe : Obj} {vs : Array Value} (e : h.get? a = some oe) (z : Zc (.ref C) none oe) (d : oe.data = .fields vs) : ObjOk P w H h a (ExT C a) :=
  ⟨⟨oe, vs, e, z, d⟩, ⟨oe, e⟩, fun _ _ ⟨o, v, q, r⟩ k => ⟨o, v, k o q, r⟩⟩
section
variable {X : Cx} {pins : List (Addr × Obj)} {σ : St} {H : Hp} {s : Shared}
/-- a pinned exception that is new to the call is told instead -/
theorem Inv.tell {a C : Addr} {oe : Obj} {vs : Array Value} (I : Inv X ((a, oe) :: pins) σ H s) (z : Zc (.ref C) none oe) (d : oe.data = .fields vs) (h0 : X.s_0.heap.get? a = none) (hp : ∀ p ∈ X.pn ++ pins, p.1 ≠ a) :
    Inv X pins σ (upd H a (ExT C a)) s := by
  obtain ⟨ha, na, nL, nF, _⟩ := I.pin (a, oe) (List.mem_append.mpr (.inr List.mem_cons_self))
  have neS : ∀ {b : Addr} {o : HO}, H b = some o → b ≠ a := fun {b o} q e => by rw [e, na] at q; cases q
  have ne0 : ∀ {b : Addr} {o : Obj}, X.s_0.heap.get? b = some o → b ≠ a := fun {b o} q e => by rw [e, h0] at q; cases q
  refine ⟨I.ok, I.os, I.bare, ⟨I.base.keep, I.base.slot, fun b o e n x => ?_, I.base.there, fun b xs q => ?_, fun b o u q => ?_, fun b ps q => ?_⟩, I.loc, I.cell, ?_, fun x c e => ?_, fun p m => ?_, fun b o e => ?_, I.len⟩
  · rw [upd_ne (ne0 e)]; exact I.base.free b o e n x
  · have q' := I.base.tups b xs q
    rw [upd_ne (neS q')]; exact q'
  · have q' := I.base.frzs b o u q
    rw [upd_ne (neS q')]; exact q'
  · obtain ⟨more, q'⟩ := I.base.tbls b ps q
    exact ⟨more, by rw [upd_ne (neS q')]; exact q'⟩
  · rw [upd_ne (fun e => nL e.symm)]; exact I.free
  · have n : c ≠ a := fun q => by
      subst q
      obtain ⟨v, oc, q1, q2⟩ := I.cell x c e
      have := ha.symm.trans q1
      cases this
      rw [d] at q2; cases q2
    rw [upd_ne n]; exact I.freeC x c e
  · obtain ⟨q1, q2, q3⟩ := I.pin p (by
      rcases List.mem_append.mp m with m | m
      · exact List.mem_append.mpr (.inl m)
      · exact List.mem_append.mpr (.inr (List.mem_cons_of_mem _ m)))
    exact ⟨q1, by rw [upd_ne (hp p m)]; exact q2, q3⟩
  · by_cases hb : b = a
    · subst hb
      rw [upd_same] at e; cases e
      exact exT_ok ha z d
    · rw [upd_ne hb] at e
      exact (I.hok b o e).stay (fun _ _ _ q => q) (fun c q => by rw [upd_ne (neS q)]; exact q) fun c xs q => by rw [upd_ne (neS q)]; exact q
/-- behind the suite: the exception stays pinned -/
theorem Inv.outOf {a : Addr} {oe : Obj} (I : Inv (X.suite a ((a, oe) :: (X.pn ++ pins))) [] σ H s) (ok : X.Ok) : Inv X ((a, oe) :: pins) σ H s :=
  ⟨ok, I.os, I.bare, I.base, I.loc, I.cell, I.free, I.freeC, fun p hp => I.pin p (List.mem_append_left _ (by
    rcases List.mem_append.mp hp with m | m
    · exact List.mem_cons_of_mem _ (List.mem_append.mpr (.inl m))
    · rcases List.mem_cons.mp m with e | m
      · rw [e]; exact List.mem_cons_self
      · exact List.mem_cons_of_mem _ (List.mem_append.mpr (.inr m)))), I.hok, I.len⟩
end
/-- what the clause 'except x as n: y = n' wishes; slots i (n) and j (y) -/
def wKeep (K : PySem.W.Frag) (c : Value) (i j : Nat) (D : Ends) : WX := fun cls d σ H =>
  ∃ C, cls = .ref C ∧ d = none ∧ PySem.W.exmOne K cls c = some true ∧ ∀ a, H a = none → D.nx (((σ.set i (some (.ref a))).set j (some (.ref a))).set i none) (upd H a (ExT C a))
section
variable {X : Cx} {x n y : Str} {c : Value} {i j : Nat} {body : List Stmt} {np yp ep ap pos pos' : Pos} {tb : WX → TS}
theorem ps_try_keep (hs : X.stack = X.env :: X.outer) (hf : X.env.frame = some X.env.locals) (hN : X.N.Nodup) (hi : X.N[i]? = some n) (hj : X.N[j]? = some y) (hln : X.env.kindOf n = some .local) (hly : X.env.kindOf y = some .local) (hg : Gl X x) (hdb : (x == ("__debug__" : Str)) = false) (hm : X.mg x = some c)
    (hex : X.ex = []) (nd1 : (n == ("__debug__" : Str)) = false) (nd2 : (n == ("__classdict__" : Str)) = false) (hsw : swapsWith (.Name n ep) (some (.Name y yp)) ap.line X.env = pure false)
    (hb : ∀ (W : WX) (pn : List (Addr × Obj)) (xe : Value → Shared → Prop), Takes (X.tr pn xe) W → PassesOwn (model X.prog X.w) X.A X.env xe → PSs (X.tr pn xe) body (tb W)) :
    PS X (.Try body [.ExceptHandler (some (.Name x np)) (some n) [.Assign [.Name y yp] (.Name n ep) ap] pos'] [] [] pos) (fun D σ H => tb (wKeep X.K c i j D) D σ H) := by
  refine ⟨fun pins s σ H D I h => ?_⟩
  have ok := I.ok
  have hfr : X.A.frames = some (X.env :: X.outer) := ok.frames.trans (by rw [hs])
  refine wpAny_Try_except (wpAny_mono ((hb (wKeep X.K c i j D) (X.pn ++ pins) (fun e s₁ => wpAny (model X.prog X.w) X.A (noteFrame e X.env)
    (fun _ s₂ => wpAny (model X.prog X.w) X.A (setFlight e none) (fun _ s₃ => wpAny (model X.prog X.w) X.A (handleBy e X.env [.ExceptHandler (some (.Name x np)) (some n) [.Assign [.Name y yp] (.Name n ep) ap] pos']) (SP X pins D) X.xe s₃) X.xe s₂) X.xe s₁)
    (fun u s' xx => ?_) PassesOwn.looking).run [] s σ H D (I.toTry _) h) (fun f s1 hsp => ?_) (fun e s1 he => he))
  · obtain ⟨a, B, sI, pins', σ', H', cls, d, rfl, J', nb, up, sky, na, os, ag, C, rfl, rfl, hm1, q⟩ := xx
    have J : Inv X pins σ' H' sI := J'.ofTry ok
    have sk : Sky B (X.env :: X.outer) a (Zc (.ref C) none) X.env.locals s'.heap := by rw [← hs]; exact sky
    show wpAny (model X.prog X.w) X.A (noteFrame (.ref a) X.env) _ _ _
    refine Sky.land Zc.steady hfr hf sk fun h3 fl3 up3 => ?_
    have J3 : Inv X pins σ' H' { s' with heap := h3 } := J.landed nb fl3.1 (up.trans up3) os ag
    obtain ⟨oe3, vs3, he3, hz3, hd3⟩ := fl3.there
    have nfr : a ∉ frs (X.env :: X.outer) := fun m => by
      obtain ⟨_, o', e', hnf⟩ := fl3.2.2.1.mem m
      have := he3.symm.trans e'
      cases this
      exact hnf _ hd3
    have nL : a ≠ X.env.locals := fun z => nfr (List.mem_filterMap.mpr ⟨X.env, List.mem_cons_self, hf.trans (by rw [z])⟩)
    have nF : a ∉ X.fs := fun m => by
      obtain ⟨e, he, z⟩ := List.mem_filterMap.mp m
      exact nfr (List.mem_filterMap.mpr ⟨e, List.mem_cons_of_mem _ he, z⟩)
    have aI : sI.heap.get? a = none := by
      cases e : sI.heap.get? a with
      | none => rfl
      | some o =>
        have z := nb a o e (by rw [hs]; exact nfr)
        rw [fl3.2.1] at z; cases z
    have a0 : X.s_0.heap.get? a = none := by
      cases e : X.s_0.heap.get? a with
      | none => rfl
      | some o =>
        obtain ⟨o', z⟩ := J.base.there a o e (by rw [hex]; exact fun m => nomatch m)
        rw [aI] at z; cases z
    have np' : ∀ p ∈ X.pn ++ pins, p.1 ≠ a := fun p m z => by
      have := (J.pin p m).1
      rw [z, aI] at this; cases this
    have S3 := J3.suite he3 hd3 na nL nF
    refine wpAny_handleBy_cons (codeAny_handlers_test ?_) (by intro z; cases z)
    have LT : PySem.W.Looks (model X.prog X.w) h3 (typeOf (.ref a)) (.ref C) := fun A Q E s k q => wpAny_typeOf_ref (k _ _ he3) (by rw [hz3.1]; exact q)
    have LM := PySem.W.exm_one (M := model X.prog X.w) (J3.kIn) LT hm1
    refine ld_glob (X := X.suite a ((a, oe3) :: (X.pn ++ pins))) S3 hg hm (LM.here ?_) hdb
    refine codeAny_handlers_suite_as (HandSPX.lands_againZ fl3 fun h4 fl4 up4 => ?_)
    have J4 : Inv X pins σ' H' { s' with heap := h4 } := J.landed nb fl4.1 ((up.trans up3).trans up4) os ag
    obtain ⟨oe4, vs4, he4, hz4, hd4⟩ := fl4.there
    have S4 := J4.suite he4 hd4 na nL nF
    refine store_ok (X := X.suite a ((a, oe4) :: (X.pn ++ pins))) (v := .ref a) S4 hN hi (.inl hln) rfl (fun s5 S5 => ?_) (.inr hln)
    have li : i < σ'.length := by rw [J4.len]; exact (List.getElem?_eq_some_iff.mp hi).1
    have hsu : PSs (X.suite a ((a, oe4) :: (X.pn ++ pins))) [.Assign [.Name y yp] (.Name n ep) ap] _ := pss_one (ps_set (i := j) hN hj (.inl hly) (pv i hi (.inl hln) nd1 nd2) hsw (.inr hly))
    refine wpAny_mono (hsu.run [] s5 _ H' { nx := fun σ6 H6 => D.nx (σ6.set i none) (upd H6 a (ExT C a)), rt := fun _ _ => False, bk := fun _ _ => False, ct := fun _ _ => False } S5 ⟨_, List.getElem?_set_self li, q a na⟩) (fun f s6 hsp => ?_) (fun _ _ z => False.elim z)
    cases f with
    | next =>
      obtain ⟨σ6, H6, S6, q6⟩ := hsp
      exact gone_ok (S6.outOf ok) hN hi hln fun s7 J7 => ⟨_, _, J7.tell hz4 hd4 a0 np', q6⟩
    | brk => obtain ⟨_, _, _, z⟩ := hsp; exact z.elim
    | cont => obtain ⟨_, _, _, z⟩ := hsp; exact z.elim
    | ret u => obtain ⟨_, _, _, _, _, z⟩ := hsp; exact z.elim
  · cases f with
    | next => obtain ⟨σ', H', J', q⟩ := hsp; exact wpAny_execs_nil ⟨σ', H', J'.ofTry ok, q⟩
    | brk => obtain ⟨σ', H', J', q⟩ := hsp; exact ⟨σ', H', J'.ofTry ok, q⟩
    | cont => obtain ⟨σ', H', J', q⟩ := hsp; exact ⟨σ', H', J'.ofTry ok, q⟩
    | ret u => obtain ⟨v, σ', H', J', r, q⟩ := hsp; exact ⟨v, σ', H', J'.ofTry ok, r, q⟩
end
end L2
namespace Mb
open PySem L2
def rIsX (K : PySem.W.Frag) : List V → Hp → VK → Prop := fun xs H Q => ∃ (a C : Addr) (c : V) (u : Value) (b : Bool), xs = [.ref a, c] ∧ H a = some (ExT C a) ∧ ExcC K C ∧ ClsV c u ∧ PySem.W.kitOne K (.ref C) u = some b ∧ Q (.bl b) H
theorem call_isX {X : Cx} : CallR X (.builtin "isinstance") (rIsX X.K) := by
  intro pins s σ H xs us Q I r h
  obtain ⟨a, C, c, u, b, rfl, ha, ex, k, e, q⟩ := h
  obtain ⟨u1, u2, rfl, r1, r2⟩ := vals2 r
  cases r1
  have e2 := k.eq r2
  subst e2
  obtain ⟨⟨oe, vs, hget, ⟨z1, z2⟩, hv⟩, _⟩ := (show ObjOk X.prog X.w H s.heap a (ExT C a) from I.hok a _ ha)
  have J : PySem.W.InstAt s.heap a oe C none := by
    obtain ⟨oc, od, oda, osl⟩ := oe
    dsimp only at z1 z2 hv
    subst z1 z2 hv
    exact ⟨hget, rfl, rfl, trivial⟩
  exact PySem.W.kia_one (PySem.W.handS_kitx_exc ex.hg ex.hk ex.hs ex.hd ex.ha ex.hn ex.ht ex.hm) I.kIn J e (fun z => nomatch z) fun tk => ⟨.bl b, H, I.tok tk, rfl, q⟩
/-- isinstance(x, T), x an exception kept in slot i -/
def vIsE (i : Nat) (fn : Nat → Bool) : Envt → Tr D := fun env => match env[i]? with
  | some (.ex c) => if c < 6 then .ret (.bool (fn c)) else .bad
  | _ => .bad
section
variable {cl : CL} {X : Cx} {E : XK} {e a b c : Expr} {f g h : Envt → Tr D} {pos : Pos}
theorem de_isE_core (i : Nat) {x y : Str} {p p1 p2 : Pos} {fn : Nat → Bool} {cv : V} {u : Value} {tt : TE} (hm : X.mg "isinstance" = none) (pT : PE X (.Name y p2) (tC cv)) (hcv : ClsV cv u) (hE : ∀ c, c < 6 → ExcC X.K (cl c) ∧ PySem.W.kitOne X.K (.ref (cl c)) u = some (fn c))
    (hg : Gl X "isinstance" := by rfl) (hN : X.N[i]? = some x := by rfl) (hv : Vis X.env.scope x := by first | exact Or.inl rfl | exact Or.inr (Or.inl rfl) | exact Or.inr (Or.inr rfl)) (hd : (x == ("__debug__" : Str)) = false := by decide) (hcd : (x == ("__classdict__" : Str)) = false := by decide)
    (he : starEach [.Name x p1, .Name y p2] X.env = (false, eval (.Name x p1) X.env) :: starEach [.Name y p2] X.env := by rfl) (he2 : starEach [.Name y p2] X.env = (false, eval (.Name y p2) X.env) :: starEach [] X.env := by rfl)
    (hpl : (backTo pos (starEach [.Name y p2] X.env)).any (·.1) = false := by rfl) : DE cl X E (.Call (.Name "isinstance" p) [.Name x p1, .Name y p2] [] pos) (vIsE i fn) := by
  refine ⟨_, pe_callB call_isX hg hm (by decide +kernel) (pa_cons (pe_var (i := i) hN hv hd hcd) (pa_cons pT pa_nil he2) he) (by decide) (by decide) he hpl, fun F B ad σ H env Q hk' hc o k => ?_⟩
  unfold vIsE at k
  split at k
  · rename_i c he
    obtain ⟨oa, sv, e1, e2, q1, a, q2, q3⟩ := o.at_ he
    subst q2
    split at k
    · rename_i hlt
      obtain ⟨h1, h2⟩ := hE c hlt
      refine ⟨_, e2, a, F.cl c, cv, u, fn c, rfl, mask_le _ _ _ _ q3, by rw [hc]; exact h1, hcv, by rw [hc]; exact h2, ?_⟩
      exact k _ _ (Kx.refl o.k0.dr) (.bl _)
    · exact k.elim
  · exact k.elim
/-- an exception of its slot as an argument -/
def aEx (i : Nat) (g : Envt → Tr (List Ent)) : Envt → Tr (List Ent) := fun env => match env[i]? with
  | some (.ex c) => (g env).bind fun es => .ret (.ex c :: es)
  | _ => .bad
theorem da_ex (i : Nat) {x : Str} {es : List Expr} {g : Envt → Tr (List Ent)} (hr : DA cl X E es g) (hN : X.N[i]? = some x := by rfl) (hv : Vis X.env.scope x := by first | exact Or.inl rfl | exact Or.inr (Or.inl rfl) | exact Or.inr (Or.inr rfl))
    (hd : (x == ("__debug__" : Str)) = false := by decide) (hcd : (x == ("__classdict__" : Str)) = false := by decide) (hs : starEach (.Name x pos :: es) X.env = (false, eval (.Name x pos) X.env) :: starEach es X.env := by rfl) : DA cl X E (.Name x pos :: es) (aEx i g) := by
  obtain ⟨u, q, s⟩ := hr
  refine ⟨_, pa_cons (pe_var (i := i) hN hv hd hcd) q hs, fun F B ad σ H env Q hk hc o k => ?_⟩
  unfold aEx at k
  split at k
  · rename_i c he
    obtain ⟨oa, sv, e1, e2, q1, a, q2, q3⟩ := o.at_ he
    subst q2
    refine ⟨_, e2, s F B ad σ H env _ hk hc o (Tr.all_mono (fun es z xs H2 k2 rs => ?_) (fun _ z => z) (Tr.all_bind k))⟩
    exact z _ H2 k2 (.cons ⟨a, rfl, k2.msame _ _ q3⟩ rs)
  · exact k.elim
/-- x is None, x perhaps an exception -/
def bNoE (i : Nat) : Envt → Tr Bool := fun env => match env[i]? with
  | some (.fz .none) => .ret true
  | some (.ex _) => .ret false
  | _ => .bad
theorem dt_noE (i : Nat) {x : Str} {j : Nat} {p1 p2 : Pos} (hN : X.N[i]? = some x := by rfl) (hv : Vis X.env.scope x := by first | exact Or.inl rfl | exact Or.inr (Or.inl rfl) | exact Or.inr (Or.inr rfl))
    (hd : (x == ("__debug__" : Str)) = false := by decide) (hcd : (x == ("__classdict__" : Str)) = false := by decide) : DT cl X E (.Compare (.Name x p1) [.Is] [.Constant .none j p2] pos) (bNoE i) := by
  refine ⟨_, pt_cmpR op_isD (pe_var (i := i) hN hv hd hcd) pe_non (nomark _), fun F B ad σ H env Q hk hc o k => ?_⟩
  unfold bNoE at k
  split at k
  · rename_i he
    obtain ⟨oa, sv, e1, e2, q1, v, q2, q3⟩ := o.at_ he
    subst q2
    cases q3
    exact ⟨_, e2, .inl ⟨rfl, _, rfl, k _ (Kx.refl o.k0.dr)⟩⟩
  · rename_i c he
    obtain ⟨oa, sv, e1, e2, q1, a, q2, q3⟩ := o.at_ he
    subst q2
    exact ⟨_, e2, .inl ⟨rfl, _, rfl, k _ (Kx.refl o.k0.dr)⟩⟩
  · exact k.elim
/-- the body's own ground: the heap as it is -/
def Fx.here (F : Fx) (H : Hp) (h1 : ∀ a, F.O a → ∃ o, H a = some o) (h2 : DrOk F.dt F.O H) : Fx := { F with H0 := H, oin := h1, d0 := h2 }
end
/-- the six errors and their base (place 6) -/
structure ErrAt (K : PySem.W.Frag) (mg : Str → Option Value) (cl : CL) : Prop where
  m : ∀ c, c < 6 → PySem.W.exmOne K (.ref (cl c)) (.ref (cl 6)) = some true
  x : ∀ c, c < 6 → ExcC K (cl c)
  k : ∀ d, d < 6 → ∀ c, c < 6 → PySem.W.kitOne K (.ref (cl c)) (.ref (cl d)) = some (c == d)
  b : ∀ c, c < 6 → PySem.W.kitOne K (.ref (cl c)) (.ref (cl 6)) = some true
  v : ∀ c, c < 6 → PySem.W.kitOne K (.ref (cl c)) (.type "ValueError") = some true
  n0 : mg "BadRule" = some (.ref (cl 0))
  n1 : mg "BadRally" = some (.ref (cl 1))
  n2 : mg "BadBoards" = some (.ref (cl 2))
  n3 : mg "BadNumber" = some (.ref (cl 3))
  n4 : mg "BadText" = some (.ref (cl 4))
  n5 : mg "NotFound" = some (.ref (cl 5))
  n6 : mg "MatchError" = some (.ref (cl 6))
theorem all6 {P : Nat → Prop} (h0 : P 0) (h1 : P 1) (h2 : P 2) (h3 : P 3) (h4 : P 4) (h5 : P 5) : ∀ c, c < 6 → P c
  | 0, _ => h0
  | 1, _ => h1
  | 2, _ => h2
  | 3, _ => h3
  | 4, _ => h4
  | 5, _ => h5
  | n + 6, h => absurd h (by omega)
section
variable {cl : CL} {X : Cx} {E : XK} {pos : Pos}
theorem de_isE (i d : Nat) {x y : Str} {p p1 p2 : Pos} (A : ErrAt X.K X.mg cl) (hm : X.mg "isinstance" = none) (hy : X.mg y = some (.ref (cl d))) (hd6 : d < 6 := by decide) (hgT : Gl X y := by rfl) (hdb : (y == ("__debug__" : Str)) = false := by decide)
    (hg : Gl X "isinstance" := by rfl) (hN : X.N[i]? = some x := by rfl) (hv : Vis X.env.scope x := by first | exact Or.inl rfl | exact Or.inr (Or.inl rfl) | exact Or.inr (Or.inr rfl)) (hd : (x == ("__debug__" : Str)) = false := by decide) (hcd : (x == ("__classdict__" : Str)) = false := by decide)
    (he : starEach [.Name x p1, .Name y p2] X.env = (false, eval (.Name x p1) X.env) :: starEach [.Name y p2] X.env := by rfl) (he2 : starEach [.Name y p2] X.env = (false, eval (.Name y p2) X.env) :: starEach [] X.env := by rfl)
    (hpl : (backTo pos (starEach [.Name y p2] X.env)).any (·.1) = false := by rfl) : DE cl X E (.Call (.Name "isinstance" p) [.Name x p1, .Name y p2] [] pos) (vIsE i (fun c => c == d)) :=
  de_isE_core i (tt := tC .non) hm (pe_glob (v := .ref (cl d)) hgT hy rfl hdb) (.own _) (fun c h => ⟨A.x c h, A.k d hd6 c h⟩) hg hN hv hd hcd he he2 hpl
theorem de_isEm (i : Nat) {x y : Str} {p p1 p2 : Pos} (A : ErrAt X.K X.mg cl) (hm : X.mg "isinstance" = none) (hy : X.mg y = some (.ref (cl 6))) (hgT : Gl X y := by rfl) (hdb : (y == ("__debug__" : Str)) = false := by decide)
    (hg : Gl X "isinstance" := by rfl) (hN : X.N[i]? = some x := by rfl) (hv : Vis X.env.scope x := by first | exact Or.inl rfl | exact Or.inr (Or.inl rfl) | exact Or.inr (Or.inr rfl)) (hd : (x == ("__debug__" : Str)) = false := by decide) (hcd : (x == ("__classdict__" : Str)) = false := by decide)
    (he : starEach [.Name x p1, .Name y p2] X.env = (false, eval (.Name x p1) X.env) :: starEach [.Name y p2] X.env := by rfl) (he2 : starEach [.Name y p2] X.env = (false, eval (.Name y p2) X.env) :: starEach [] X.env := by rfl)
    (hpl : (backTo pos (starEach [.Name y p2] X.env)).any (·.1) = false := by rfl) : DE cl X E (.Call (.Name "isinstance" p) [.Name x p1, .Name y p2] [] pos) (vIsE i (fun _ => true)) :=
  de_isE_core i (tt := tC .non) hm (pe_glob (v := .ref (cl 6)) hgT hy rfl hdb) (.own _) (fun c h => ⟨A.x c h, A.b c h⟩) hg hN hv hd hcd he he2 hpl
theorem de_isEv (i : Nat) {x : Str} {p p1 p2 : Pos} (A : ErrAt X.K X.mg cl) (hm : X.mg "isinstance" = none) (hy : X.mg "ValueError" = none) (hgT : Gl X "ValueError" := by rfl)
    (hg : Gl X "isinstance" := by rfl) (hN : X.N[i]? = some x := by rfl) (hv : Vis X.env.scope x := by first | exact Or.inl rfl | exact Or.inr (Or.inl rfl) | exact Or.inr (Or.inr rfl)) (hd : (x == ("__debug__" : Str)) = false := by decide) (hcd : (x == ("__classdict__" : Str)) = false := by decide)
    (he : starEach [.Name x p1, .Name "ValueError" p2] X.env = (false, eval (.Name x p1) X.env) :: starEach [.Name "ValueError" p2] X.env := by rfl) (he2 : starEach [.Name "ValueError" p2] X.env = (false, eval (.Name "ValueError" p2) X.env) :: starEach [] X.env := by rfl)
    (hpl : (backTo pos (starEach [.Name "ValueError" p2] X.env)).any (·.1) = false := by rfl) : DE cl X E (.Call (.Name "isinstance" p) [.Name x p1, .Name "ValueError" p2] [] pos) (vIsE i (fun _ => true)) :=
  de_isE_core i (tt := tC .non) hm (pe_bltn (v := .ty "ValueError") hgT hy (by decide +kernel) rfl (by decide) (by decide)) (.ty _) (fun c h => ⟨A.x c h, A.v c h⟩) hg hN hv hd hcd he he2 hpl
end
end Mb
set_option maxHeartbeats 4000000
namespace Mb
open PySem PySem.W PyProof.Rows
open AutoSeq1 (wpAny_loadPart')
end Mb
set_option maxHeartbeats 4000000
namespace Mb
open PySem L2
section
variable {cl : CL} {X : Cx} {E : XK} {e a b c : Expr} {f g h : Envt → Tr D} {pos : Pos}
def nCall (n : Nat) (m : List Ent → Tr (List D)) (g : Envt → Tr (List Ent)) : Envt → Tr (List D) := fun env => (g env).bind fun es => if es.length == n then m es else .bad
mutual
/-- no list, no dict within -/
def lf : D → Bool
  | .list _ => false
  | .dict _ => false
  | .tuple xs => lfs xs
  | _ => true
def lfs : List D → Bool
  | [] => true
  | d :: ds => lf d && lfs ds
end
/-- an own list as an argument -/
def aBor (i : Nat) (g : Envt → Tr (List Ent)) : Envt → Tr (List Ent) := fun env => (vBor i env).bind fun d => (g env).bind fun es => .ret (.fz d :: es)
/-- no object with hidden stores among them -/
def noVs : List Ent → Bool
  | [] => true
  | .vo _ _ _ :: _ => false
  | _ :: es => noVs es
/-- its value must hold no list -/
def vCallB (n : Nat) (m : List Ent → Tr D) (g : Envt → Tr (List Ent)) : Envt → Tr D := fun env => (g env).bind fun es => if es.length == n && noVs es then (m es).bind fun d => if lf d then .ret d else .bad else .bad
end
section
variable (env : Envt) (ga : Envt → Tr (List Ent)) (i : Nat)
theorem ap_nCall (n : Nat) (m : List Ent → Tr (List D)) : nCall n m ga env = (ga env).bind fun es => if es.length == n then m es else .bad := rfl
theorem ap_vCallB (n : Nat) (m : List Ent → Tr D) : vCallB n m ga env = (ga env).bind fun es => if es.length == n && noVs es then (m es).bind fun d => if lf d then .ret d else .bad else .bad := rfl
theorem ap_aBor : aBor i ga env = (vBor i env).bind fun d => (ga env).bind fun es => .ret (.fz d :: es) := rfl
end
/-- the law answers True at all draws -/
structure LawOk (u : Stm) (n : Nat) : Prop where
  h : (u (env0 n)).all (fun o => o = .rt (.bool true)) (fun _ => False)
end Mb
set_option maxHeartbeats 4000000
namespace Mb
open PySem L2
structure Bi (s : Sta) : Prop where
  sv : s.sv = 0 ∨ s.sv = 1
  p0 : 0 ≤ s.p0 ∧ s.p0 ≤ 5
  p1 : 0 ≤ s.p1 ∧ s.p1 ≤ 5
  g0 : 0 ≤ s.g0 ∧ s.g0 ≤ 3
  g1 : 0 ≤ s.g1 ∧ s.g1 ≤ 3
  tn : s.tn = 0 ∨ s.tn = 1
inductive Brd : Int → D → Prop
  | two {a b : Int} : 0 ≤ a → a ≤ 3 → 0 ≤ b → b ≤ 3 → Brd 2 (.tuple [.int a, .int b])
  | one {a : Int} : 0 ≤ a → a ≤ 1 → Brd 1 (.int a)
  | all {a b c d e : Int} : 0 ≤ a → a ≤ 1 → 0 ≤ b → b ≤ 5 → 0 ≤ c → c ≤ 5 → 0 ≤ d → d ≤ 3 → 0 ≤ e → e ≤ 3 → Brd 0 (.tuple [.int a, .int b, .int c, .int d, .int e])
theorem Brd.ok {k : Int} {d : D} (h : Brd k d) (n : Nat) : okAt (n + 1) d = true := by cases h <;> simp [okAt]
theorem Brd.k {k : Int} {d : D} (h : Brd k d) : 0 ≤ k ∧ k ≤ 2 := by cases h <;> decide
/-- a state that comes -/
structure Com (r : Ru) (s : Sta) : Prop where
  i : StI r s
  v : Iv r s
  sv : s.sv = 0 ∨ s.sv = 1
theorem fold_le_m {m a b : Int} (h : ¬ (m ≤ a ∧ b + 2 ≤ a) ∧ ¬ (m ≤ b ∧ a + 2 ≤ b)) : (foldL .two m a b).1 ≤ m ∧ (foldL .two m a b).2 ≤ m := by
  have emin : ∀ a b : Int, min a b = if a ≤ b then a else b := fun a b => Int.min_def a b
  simp only [foldL, emin, decide_true, Bool.not_true, Bool.false_or, decide_eq_true_eq]
  (repeat' split) <;> (try dsimp only) <;> (try omega) <;> (constructor <;> (repeat' split) <;> omega)
theorem Com.bi {r : Ru} (hr : r.ok) {s : Sta} (h : Com r s) : Bi s := by
  have hw := want_ge hr s.g0 s.g1
  have hg := hr.2.2.2
  have i := h.i.i
  have pm : s.p0 ≤ wantG r s.g0 s.g1 ∧ s.p1 ≤ wantG r s.g0 s.g1 := by
    cases hl : r.l with
    | one => have := i.one hl; exact ⟨Int.le_of_lt this.1, Int.le_of_lt this.2⟩
    | cap => exact i.cap hl
    | two =>
      have q := fold_le_m (i.two hl)
      have e := h.i.s
      have e0 : (foldL r.l (wantG r s.g0 s.g1) s.p0 s.p1).1 = s.p0 := congrArg Sta.p0 e
      have e1 : (foldL r.l (wantG r s.g0 s.g1) s.p0 s.p1).2 = s.p1 := congrArg Sta.p1 e
      rw [hl] at e0 e1
      have q : (foldL .two (wantG r s.g0 s.g1) s.p0 s.p1).1 ≤ wantG r s.g0 s.g1 ∧ (foldL .two (wantG r s.g0 s.g1) s.p0 s.p1).2 ≤ wantG r s.g0 s.g1 := q
      rw [e0, e1] at q
      exact q
  exact ⟨h.sv, ⟨h.v.p0, by omega⟩, ⟨h.v.p1, by omega⟩, ⟨h.v.g0, by have := h.v.a; omega⟩, ⟨h.v.g1, by have := h.v.b; omega⟩, i.tn⟩
/-- the draws below a number -/
theorem all_draw {i : Nat} {f : Envt → Tr D} {env : Envt} {Q : D → Prop} {E : Nat → Prop} {n : Nat} (hd : env[i]? = some .dr) (hf : f env = .ret (.int (n : Nat))) (h0 : 0 < n) (h1 : n < 1000000) (h : ∀ k : Nat, k < n → Q (.int (k : Nat))) : (vCall 2 mDraw (aDr i (aCons f aNil)) env).all Q E := by
  refine all_dr2 hd (all_ret hf ?_)
  have e : mDraw [.dr, .fz (.int (n : Nat))] = .draw n fun r => .ret (.int (r : Nat)) := by
    show (if decide (0 < (n : Int)) && decide ((n : Int) < 1073741824) then Tr.draw (n : Int).toNat (fun r => Tr.ret (PyData.int (r : Nat))) else Tr.bad) = _
    rw [decide_eq_true (by omega), decide_eq_true (by omega)]; simp
  rw [e]
  exact fun r hr => h r hr
theorem eq_shp {a b : D} (ha : shp a = true) (hb : shp b = true) : dEq a b = some (.bool (PyData.eqv a b)) := by
  unfold dEq
  rw [ha, hb]; rfl
theorem ne_shp {a b : D} (ha : shp a = true) (hb : shp b = true) : dNe a b = some (.bool (!PyData.eqv a b)) := by
  unfold dNe
  rw [ha, hb]; rfl
end Mb
set_option maxHeartbeats 4000000
namespace Mb
open PySem L2
structure Tr.ok {α : Type} (t : Tr α) (P : α → Prop) (E : Nat → Prop) : Prop where
  h : t.all P E
theorem Tr.ok_bind {α β : Type} {P : β → Prop} {E : Nat → Prop} {f : α → Tr β} {t : Tr α} (h : t.ok (fun a => (f a).ok P E) E) : (t.bind f).ok P E := ⟨Tr.bind_all (Tr.all_mono (fun _ z => z.h) (fun _ z => z) h.h)⟩
section
variable {P : Out → Prop} {Q : D → Prop} {R : List Ent → Prop} {S : Bool → Prop} {E : Nat → Prop} {env : Envt} {f g : Envt → Tr D} {ga : Envt → Tr (List Ent)} {u v : Stm} {i n : Nat} {m : List Ent → Tr D} {c k : Envt → Tr Bool}
theorem ok_ret {α : Type} {t : Tr α} {a : α} {S : α → Prop} (h : t = .ret a) (k : S a) : t.ok S E := ⟨all_ret h k⟩
theorem ok_sSeq (h : (u env).ok (fun o => match o with | .nx e => (v e).ok P E | .rt d => P (.rt d) | .bk e => P (.bk e) | .ct e => P (.ct e)) E) : (sSeq u v env).ok P E :=
  ⟨all_sSeq (Tr.all_mono (fun o z => by cases o <;> first | exact Tr.ok.h z | exact z) (fun _ z => z) h.h)⟩
theorem ok_seq (env' : Envt) (h1 : u env = .ret (.nx env')) (h2 : (v env').ok P E) : (sSeq u v env).ok P E := ⟨all_seq env' h1 h2.h⟩
theorem ok_sPar {is : List Nat} (h : (ga env).ok (fun es => es.length = is.length ∧ P (.nx (setAll env is es))) E) : (sPar is ga env).ok P E := ⟨all_sPar h.h⟩
theorem ok_sSet (h : (f env).ok (fun d => P (.nx (env.set i (.fz d)))) E) : (sSet i f env).ok P E := ⟨all_sSet h.h⟩
theorem ok_sIf (h : (c env).ok (fun b => if b then (u env).ok P E else (v env).ok P E) E) : (sIf c u v env).ok P E := ⟨all_sIf (Tr.all_mono (fun b z => by cases b <;> exact Tr.ok.h z) (fun _ z => z) h.h)⟩
theorem ok_aCons (h : (f env).ok (fun d => (ga env).ok (fun es => R (.fz d :: es)) E) E) : (aCons f ga env).ok R E := ⟨all_aCons (Tr.all_mono (fun _ z => z.h) (fun _ z => z) h.h)⟩
theorem ok_aNil (h : R []) : (aNil env).ok R E := ⟨h⟩
theorem ok_v2 {op : D → D → Option D} (h : (f env).ok (fun d => (g env).ok (fun e => ∃ z, op d e = some z ∧ Q z) E) E) : (v2 op f g env).ok Q E := ⟨all_v2 (Tr.all_mono (fun _ z => z.h) (fun _ z => z) h.h)⟩
theorem ok_vT (h : (f env).ok (fun d => ∃ b, d = .bool b ∧ S b) E) : (vT f env).ok S E := ⟨all_vT h.h⟩
theorem ok_dr1 (hd : env[i]? = some .dr) (h : (m [.dr]).ok Q E) : (vCall 1 m (aDr i aNil) env).ok Q E := ⟨all_dr1 hd h.h⟩
theorem ok_dr2 (hd : env[i]? = some .dr) (h : (f env).ok (fun d => (m [.dr, .fz d]).ok Q E) E) : (vCall 2 m (aDr i (aCons f aNil)) env).ok Q E := ⟨all_dr2 hd (Tr.all_mono (fun _ z => z.h) (fun _ z => z) h.h)⟩
theorem ok_draw (hd : env[i]? = some .dr) (hf : f env = .ret (.int (n : Nat))) (h0 : 0 < n) (h1 : n < 1000000) (h : ∀ k : Nat, k < n → Q (.int (k : Nat))) : (vCall 2 mDraw (aDr i (aCons f aNil)) env).ok Q E := ⟨all_draw hd hf h0 h1 h⟩
theorem law_ok_of {u : Stm} {n : Nat} (h : (u (env0 n)).ok (fun o => o = .rt (.bool true)) (fun _ => False)) : LawOk u n := ⟨h.h⟩
end
end Mb
set_option maxHeartbeats 4000000
namespace Mb
open PySem L2
end Mb
set_option maxHeartbeats 4000000
namespace Mb
open PySem L2
end Mb
set_option maxHeartbeats 4000000
namespace Mb
open PySem L2
end Mb
set_option maxHeartbeats 4000000
namespace Mb
open PySem L2
def kVar (i : Nat) : Envt → Tr (List (D × D)) := fun env => match env[i]? with
  | some (.fz (.dict kvs)) => .ret kvs
  | some (.od kvs) => .ret kvs
  | _ => .bad
def kOf (f : Envt → Tr D) : Envt → Tr (List (D × D)) := fun env => (f env).bind fun d => match d with
  | .dict kvs => .ret kvs
  | _ => .bad
section
variable {cl : CL} {X : Cx} {E : XK} {e a b c : Expr} {f g h : Envt → Tr D} {pos : Pos}
def vInK (f : Envt → Tr D) (g : Envt → Tr (List (D × D))) : Envt → Tr D := fun env => (f env).bind fun d => (g env).bind fun kvs => if kindK (kvs.map (·.1)) d then .ret (.bool (lkD kvs d).isSome) else .bad
def vNiK (f : Envt → Tr D) (g : Envt → Tr (List (D × D))) : Envt → Tr D := fun env => (f env).bind fun d => (g env).bind fun kvs => if kindK (kvs.map (·.1)) d then .ret (.bool (!(lkD kvs d).isSome)) else .bad
def vIxK (g : Envt → Tr (List (D × D))) (f : Envt → Tr D) : Envt → Tr D := fun env => (g env).bind fun kvs => (f env).bind fun d => if kindK (kvs.map (·.1)) d then ofO (lkD kvs d) else .bad
def sPutK (i : Nat) (gi f : Envt → Tr D) : Stm := fun env => (f env).bind fun d => match env[i]? with
  | some (.od kvs) => (gi env).bind fun k => if kindK (kvs.map (·.1)) k && decide (kvs.length < lim) then .ret (.nx (env.set i (.od (putD kvs k d)))) else .bad
  | _ => .bad
end
end Mb
set_option maxHeartbeats 4000000
namespace Mb
open PySem L2
section
variable {cl : CL} {X : Cx} {E : XK} {e a b c : Expr} {f g h : Envt → Tr D} {pos : Pos}
/-- d.get(k, x) -/
def vGetK (g : Envt → Tr (List (D × D))) (f h : Envt → Tr D) : Envt → Tr D := fun env => (g env).bind fun kvs => (f env).bind fun k => (h env).bind fun d => if kindK (kvs.map (·.1)) k then .ret ((lkD kvs k).getD d) else .bad
def vGet1 (g : Envt → Tr (List (D × D))) (f : Envt → Tr D) : Envt → Tr D := fun env => (g env).bind fun kvs => (f env).bind fun k => if kindK (kvs.map (·.1)) k then .ret ((lkD kvs k).getD .none) else .bad
def vLenK (g : Envt → Tr (List (D × D))) : Envt → Tr D := fun env => (g env).bind fun kvs => .ret (.int (kvs.length : Nat))
end
/-- the keys of a dict that is not changed -/
def wKeys (f : Envt → Tr D) : Envt → Tr (List D) := fun env => (f env).bind fun d => match d with
  | .dict kvs => .ret (kvs.map (·.1))
  | _ => .bad
end Mb
set_option maxHeartbeats 4000000
namespace Mb
open PySem L2
def PostK (F : Fx) (ad : Ads) (H : Hp) (Q : VK) (kvs : List (D × D)) : Prop := ∀ p ob H', Kx F.dt (fun a => Mm F ad a ∨ a = p) H H' → H p = none → H' p = some (DicO p ob) → RDk F.K (mask H' fun a => Mm F ad a ∨ a = p) ob kvs → Q (.ref p) H'
/-- an expression: a new dict -/
def DK (cl : CL) (X : Cx) (E : XK) (e : Expr) (f : Envt → Tr (List (D × D))) : Prop := ∃ t, PE X e t ∧ ∀ (F : Fx) (B : Hp) (ad : Ads) (σ : St) (H : Hp) (env : Envt) (Q : VK), F.K = X.K → F.cl = cl → Ok F B ad σ H env →
  (f env).all (PostK F ad H Q) (EOk F E) → t σ H Q
section
variable {cl : CL} {X : Cx} {E : XK} {e a b c : Expr} {f g h : Envt → Tr D} {pos : Pos}
def kNil : Envt → Tr (List (D × D)) := fun _ => .ret []
/-- {k: v} -/
def kOne (f g : Envt → Tr D) : Envt → Tr (List (D × D)) := fun env => (f env).bind fun k => (g env).bind fun d => if kindK [] k then .ret [(k, d)] else .bad
theorem DK.de {f : Envt → Tr (List (D × D))} (q : DK cl X E e f) : DE cl X E e (fun env => (f env).bind fun kvs => .ret (.dict kvs)) := by
  obtain ⟨t, p, r⟩ := q
  refine ⟨t, p, fun F B ad σ H env Q hk hc o k => r F B ad σ H env Q hk hc o (Tr.all_mono (fun kvs z p ob H' kx hn hp rp => z _ H' (kx.weak fun a q => .inl q) ?_) (fun _ z => z) (Tr.all_bind k))⟩
  exact (rp.mono (mask_same fun a x n e => ⟨fun m => n (.inl m), e⟩)).rep (by rw [mask_out (o.notM hn)]; exact hp)
def vD (f : Envt → Tr (List (D × D))) : Envt → Tr D := fun env => (f env).bind fun kvs => .ret (.dict kvs)
def sOwnK (i : Nat) (f : Envt → Tr (List (D × D))) : Stm := fun env => (f env).bind fun kvs => .ret (.nx (env.set i (.od kvs)))
def aOwnK (f : Envt → Tr (List (D × D))) (g : Envt → Tr (List Ent)) : Envt → Tr (List Ent) := fun env => (f env).bind fun kvs => (g env).bind fun es => .ret (.od kvs :: es)
end
end Mb
set_option maxHeartbeats 4000000
namespace Mb
open PySem L2
theorem nd_int (i : Int) : notD (.int i) = true := rfl
theorem nd_bool (i : Bool) : notD (.bool i) = true := rfl
theorem nd_str (i : Str) : notD (.str i) = true := rfl
theorem nd_list (i : List D) : notD (.list i) = true := rfl
theorem nd_tup (i : List D) : notD (.tuple i) = true := rfl
theorem nd_none : notD .none = true := rfl
theorem nd_r (r : Ru) : notD r.e = true := rfl
theorem nd_s (s : Sta) : notD s.e = true := rfl
theorem nd_Ro (s : List Bool) : notD (Ro s) = true := rfl
section
variable {i : Nat} {f g h : Envt → Tr D} {gk fk : Envt → Tr (List (D × D))} {env : Envt} {ga : Envt → Tr (List Ent)}
theorem ap_kVar : kVar i env = match env[i]? with | some (.fz (.dict kvs)) => .ret kvs | some (.od kvs) => .ret kvs | _ => .bad := rfl
theorem ap_kOf : kOf f env = (f env).bind fun d => match d with | .dict kvs => .ret kvs | _ => .bad := rfl
theorem ap_vInK : vInK f gk env = (f env).bind fun d => (gk env).bind fun kvs => if kindK (kvs.map (·.1)) d then .ret (.bool (lkD kvs d).isSome) else .bad := rfl
theorem ap_vNiK : vNiK f gk env = (f env).bind fun d => (gk env).bind fun kvs => if kindK (kvs.map (·.1)) d then .ret (.bool (!(lkD kvs d).isSome)) else .bad := rfl
theorem ap_vIxK : vIxK gk f env = (gk env).bind fun kvs => (f env).bind fun d => if kindK (kvs.map (·.1)) d then ofO (lkD kvs d) else .bad := rfl
theorem ap_sPutK : sPutK i g f env = (f env).bind fun d => match env[i]? with | some (.od kvs) => (g env).bind fun k => if kindK (kvs.map (·.1)) k && decide (kvs.length < lim) then .ret (.nx (env.set i (.od (putD kvs k d)))) else .bad | _ => .bad := rfl
theorem ap_vGetK : vGetK gk f h env = (gk env).bind fun kvs => (f env).bind fun k => (h env).bind fun d => if kindK (kvs.map (·.1)) k then .ret ((lkD kvs k).getD d) else .bad := rfl
theorem ap_vGet1 : vGet1 gk f env = (gk env).bind fun kvs => (f env).bind fun k => if kindK (kvs.map (·.1)) k then .ret ((lkD kvs k).getD .none) else .bad := rfl
theorem ap_vLenK : vLenK gk env = (gk env).bind fun kvs => .ret (.int (kvs.length : Nat)) := rfl
theorem ap_wKeys : wKeys f env = (f env).bind fun d => match d with | .dict kvs => .ret (kvs.map (·.1)) | _ => .bad := rfl
theorem ap_kNil : kNil env = .ret [] := rfl
theorem ap_kOne : kOne f g env = (f env).bind fun k => (g env).bind fun d => if kindK [] k then .ret [(k, d)] else .bad := rfl
theorem ap_vD : vD fk env = (fk env).bind fun kvs => .ret (.dict kvs) := rfl
theorem ap_sOwnK : sOwnK i fk env = (fk env).bind fun kvs => .ret (.nx (env.set i (.od kvs))) := rfl
theorem ap_aOwnK : aOwnK fk ga env = (fk env).bind fun kvs => (ga env).bind fun es => .ret (.od kvs :: es) := rfl
end
end Mb
set_option maxHeartbeats 4000000
namespace Mb
open PySem L2
end Mb
set_option maxHeartbeats 4000000
namespace Mb
open PySem L2
theorem eqv_st (s t : Sta) : PyData.eqv s.e t.e = decide (s = t) := by
  obtain ⟨a1, a2, a3, a4, a5, a6⟩ := s
  obtain ⟨b1, b2, b3, b4, b5, b6⟩ := t
  rw [Bool.eq_iff_iff]
  simp [Sta.e, PyData.eqv, PyData.eqvAll, Sta.mk.injEq]
theorem tk_st (s : Sta) : tkey s.e = true := rfl
theorem nodup_lt : ∀ (n : Nat) (l : List Nat), l.Nodup → (∀ x ∈ l, x < n) → l.length ≤ n
  | 0, l, _, h => by
    cases l with
    | nil => exact Nat.le_refl _
    | cons a l => exact absurd (h a List.mem_cons_self) (by omega)
  | n + 1, l, hn, h => by
    by_cases q : n ∈ l
    · have h1 := nodup_lt n (l.erase n) (hn.erase n) fun x hx => by
        have h2 := h x (List.mem_of_mem_erase hx)
        have h3 : x ≠ n := fun z => by subst z; exact hn.not_mem_erase hx
        omega
      rw [List.length_erase_of_mem q] at h1
      omega
    · have h1 := nodup_lt n l hn fun x hx => by
        have h2 := h x hx
        have h3 : x ≠ n := fun z => q (z ▸ hx)
        omega
      omega
theorem pair_inj {n a b t u : Nat} (h : a * n + t = b * n + u) (ht : t < n) (hu : u < n) : a = b ∧ t = u := by
  have h1 : (a * n + t) / n = a := by rw [Nat.mul_comm, Nat.mul_add_div (by omega), Nat.div_eq_of_lt ht]; rfl
  have h2 : (b * n + u) / n = b := by rw [Nat.mul_comm, Nat.mul_add_div (by omega), Nat.div_eq_of_lt hu]; rfl
  have e : a = b := by rw [← h1, ← h2, h]
  subst e
  exact ⟨rfl, by omega⟩
theorem toN {x y : Int} (hx : 0 ≤ x) (hy : 0 ≤ y) (h : x.toNat = y.toNat) : x = y := by omega
theorem ltN {x : Int} {n : Nat} (h : 0 ≤ x ∧ x ≤ (n : Int)) : x.toNat < n + 1 := by omega
theorem or01 {x : Int} (h : x = 0 ∨ x = 1) : 0 ≤ x ∧ x ≤ ((1 : Nat) : Int) := by omega
def codeS (s : Sta) : Nat := ((((s.sv.toNat * 6 + s.p0.toNat) * 6 + s.p1.toNat) * 4 + s.g0.toNat) * 4 + s.g1.toNat) * 2 + s.tn.toNat
theorem few_st (l : List Sta) (hn : l.Nodup) (h : ∀ s ∈ l, Bi s) : l.length ≤ 2304 := by
  have h1 : (l.map codeS).Nodup := by
    refine List.Pairwise.map codeS (R := fun a b => a ≠ b ∧ Bi a ∧ Bi b) (fun a b q z => ?_) ?_
    · obtain ⟨q1, q2, q3⟩ := q
      apply q1
      have z : codeS a = codeS b := z
      unfold codeS at z
      obtain ⟨z, t6⟩ := pair_inj z (ltN (or01 q2.tn)) (ltN (or01 q3.tn))
      obtain ⟨z, t5⟩ := pair_inj z (ltN (n := 3) q2.g1) (ltN (n := 3) q3.g1)
      obtain ⟨z, t4⟩ := pair_inj z (ltN (n := 3) q2.g0) (ltN (n := 3) q3.g0)
      obtain ⟨z, t3⟩ := pair_inj z (ltN (n := 5) q2.p1) (ltN (n := 5) q3.p1)
      obtain ⟨t1, t2⟩ := pair_inj z (ltN (n := 5) q2.p0) (ltN (n := 5) q3.p0)
      have u1 := toN (or01 q2.sv).1 (or01 q3.sv).1 t1
      have u2 := toN q2.p0.1 q3.p0.1 t2
      have u3 := toN q2.p1.1 q3.p1.1 t3
      have u4 := toN q2.g0.1 q3.g0.1 t4
      have u5 := toN q2.g1.1 q3.g1.1 t5
      have u6 := toN (or01 q2.tn).1 (or01 q3.tn).1 t6
      obtain ⟨x1, x2, x3, x4, x5, x6⟩ := a
      obtain ⟨y1, y2, y3, y4, y5, y6⟩ := b
      simp only at u1 u2 u3 u4 u5 u6
      subst u1 u2 u3 u4 u5 u6
      rfl
    · exact List.Pairwise.imp_of_mem (fun ha hb q => ⟨q, h _ ha, h _ hb⟩) hn
  have h2 := nodup_lt 2304 (l.map codeS) h1 fun x hx => by
    obtain ⟨s, hs, rfl⟩ := List.mem_map.mp hx
    have q := h s hs
    have t1 := ltN (or01 q.sv)
    have t2 := ltN (n := 5) q.p0
    have t3 := ltN (n := 5) q.p1
    have t4 := ltN (n := 3) q.g0
    have t5 := ltN (n := 3) q.g1
    have t6 := ltN (or01 q.tn)
    unfold codeS
    generalize s.sv.toNat = a at *
    generalize s.p0.toNat = b at *
    generalize s.p1.toNat = c at *
    generalize s.g0.toNat = d at *
    generalize s.g1.toNat = e at *
    generalize s.tn.toNat = f at *
    omega
  simpa using h2
end Mb
set_option maxHeartbeats 4000000
namespace Mb
open PySem L2
/-- points that win the game from a : o, all made by the one side -/
def nd (l : Ld) (w a o : Int) : Int := match l with
  | .one => w - a
  | .two => max (w - a) (o + 2 - a)
  | .cap => min (max (max 1 (w - a)) (o + 2 - a)) (w + 1 - a)
end Mb
set_option maxHeartbeats 4000000
namespace Mb
open PySem L2
def Sta.ow (s : Sta) (b : Bool) : Int := if b then s.p1 else s.p0
def Sta.gm (s : Sta) (b : Bool) : Int := if b then s.g1 else s.g0
end Mb
set_option maxHeartbeats 4000000
namespace Mb
open PySem L2
end Mb
set_option maxHeartbeats 4000000
namespace Mb
open PySem L2
end Mb
set_option maxHeartbeats 4000000
namespace Mb
open PySem L2
def code (w : List Bool) : Nat := w.foldl (fun n b => 2 * n + (if b then 1 else 0)) 1
end Mb
set_option maxHeartbeats 4000000
namespace Mb
open PySem L2
end Mb
set_option maxHeartbeats 4000000
namespace Mb
open PySem L2
class KEnc (α : Type) [DecidableEq α] where
  e : α → D
  eqv : ∀ x y, PyData.eqv (e x) (e y) = decide (x = y)
  tk : ∀ x, tkey (e x) = true
instance : KEnc Sta := ⟨Sta.e, eqv_st, tk_st⟩
end Mb
set_option maxHeartbeats 4000000
namespace Mb
open PySem L2
end Mb
set_option maxHeartbeats 4000000
namespace Mb
open PySem L2
instance : KEnc (Sta × Sta) where
  e := fun p => .tuple [p.1.e, p.2.e]
  eqv := fun x y => by
    show PyData.eqvAll [x.1.e, x.2.e] [y.1.e, y.2.e] = _
    have : PyData.eqvAll [x.1.e, x.2.e] [y.1.e, y.2.e] = (PyData.eqv x.1.e y.1.e && (PyData.eqv x.2.e y.2.e && true)) := by simp [PyData.eqvAll]
    rw [this, eqv_st, eqv_st, Bool.and_true, Bool.eq_iff_iff]
    simp [Prod.ext_iff]
  tk := fun x => rfl
end Mb
set_option maxHeartbeats 4000000
namespace Mb
open PySem L2
end Mb
set_option maxHeartbeats 1000000
namespace Mb
open PySem L2
section
variable {α β : Type} [DecidableEq α] [DecidableEq β]
abbrev Shp (β : Type) := Nat × β × Nat × β × Nat
variable {succ : α → Bool → α} {bd : α → β} {spots : List α} {σ : α → Nat} {many : Nat}
end
end Mb
set_option maxHeartbeats 4000000
namespace Mb
open PySem L2
end Mb
set_option maxHeartbeats 4000000
namespace Mb
open PySem L2
end Mb
set_option maxHeartbeats 4000000
namespace Mb
open PySem L2
end Mb
set_option maxHeartbeats 1000000
namespace Mb
open PySem L2
theorem few_com {r : Ru} (hr : r.ok) {l : List Sta} (hn : l.Nodup) (h : ∀ x ∈ l, Com r x) : l.length ≤ 2304 := few_st l hn fun s hs => (h s hs).bi hr
class BEnc (β : Type) [DecidableEq β] where
  e : β → D
  eqv : ∀ x y, PyData.eqv (e x) (e y) = decide (x = y)
  kin : ∀ x, Mb.kin (e x) = true
  dep : ∀ x, kdep (e x) ≤ 6
instance : BEnc Int where
  e := .int
  eqv := fun x y => by
    show (x == y) = _
    rw [Bool.eq_iff_iff]; simp
  kin := fun _ => rfl
  dep := fun _ => Nat.zero_le _
instance : BEnc (Int × Int) where
  e := fun x => .tuple [.int x.1, .int x.2]
  eqv := fun x y => by
    show ((x.1 == y.1) && ((x.2 == y.2) && true)) = _
    rw [Bool.eq_iff_iff]; simp [Prod.ext_iff]
  kin := fun _ => rfl
  dep := fun _ => by show 1 ≤ 6; decide
instance : BEnc (Int × Int × Int × Int × Int) where
  e := fun x => .tuple [.int x.1, .int x.2.1, .int x.2.2.1, .int x.2.2.2.1, .int x.2.2.2.2]
  eqv := fun x y => by
    show ((x.1 == y.1) && ((x.2.1 == y.2.1) && ((x.2.2.1 == y.2.2.1) && ((x.2.2.2.1 == y.2.2.2.1) && ((x.2.2.2.2 == y.2.2.2.2) && true))))) = _
    rw [Bool.eq_iff_iff]; simp [Prod.ext_iff]
  kin := fun _ => rfl
  dep := fun _ => by show 1 ≤ 6; decide
def encShp {β : Type} [DecidableEq β] [BEnc β] (x : Shp β) : D := .tuple [.int (x.1 : Nat), BEnc.e x.2.1, .int (x.2.2.1 : Nat), BEnc.e x.2.2.2.1, .int (x.2.2.2.2 : Nat)]
theorem nat_beq (a b : Nat) : (((a : Nat) : Int) == ((b : Nat) : Int)) = decide (a = b) := by
  rw [Bool.eq_iff_iff, beq_iff_eq, decide_eq_true_eq]
  constructor <;> intro h <;> omega
instance {β : Type} [DecidableEq β] [BEnc β] : KEnc (Shp β) where
  e := encShp
  eqv := fun x y => by
    show ((((x.1 : Nat) : Int) == ((y.1 : Nat) : Int)) && (PyData.eqv (BEnc.e x.2.1) (BEnc.e y.2.1) && ((((x.2.2.1 : Nat) : Int) == ((y.2.2.1 : Nat) : Int)) && (PyData.eqv (BEnc.e x.2.2.2.1) (BEnc.e y.2.2.2.1) && ((((x.2.2.2.2 : Nat) : Int) == ((y.2.2.2.2 : Nat) : Int)) && true))))) = _
    rw [nat_beq, nat_beq, nat_beq, BEnc.eqv, BEnc.eqv, Bool.eq_iff_iff]
    simp [Prod.ext_iff]
  tk := fun x => by
    have h1 := BEnc.kin x.2.1
    have h2 := BEnc.kin x.2.2.2.1
    have d1 := BEnc.dep x.2.1
    have d2 := BEnc.dep x.2.2.2.1
    show (kins [.int (x.1 : Nat), BEnc.e x.2.1, .int (x.2.2.1 : Nat), BEnc.e x.2.2.2.1, .int (x.2.2.2.2 : Nat)] && decide (kdeps [.int (x.1 : Nat), BEnc.e x.2.1, .int (x.2.2.1 : Nat), BEnc.e x.2.2.2.1, .int (x.2.2.2.2 : Nat)] ≤ 7)) = true
    rw [Bool.and_eq_true]
    constructor
    · simp only [kins, kin, h1, h2, Bool.and_self, Bool.and_true]
    · apply decide_eq_true
      simp only [kdeps, kdep]
      omega
abbrev Spot := Nat × Sta
def encSp (x : Spot) : D := .tuple [.int (x.1 : Nat), x.2.e]
instance : KEnc Spot where
  e := encSp
  eqv := fun x y => by
    show ((((x.1 : Nat) : Int) == ((y.1 : Nat) : Int)) && (PyData.eqv x.2.e y.2.e && true)) = _
    rw [nat_beq, eqv_st, Bool.and_true, Bool.eq_iff_iff]
    simp [Prod.ext_iff]
  tk := fun x => rfl
end Mb
set_option maxHeartbeats 1000000
namespace Mb
open PySem L2
end Mb
set_option maxHeartbeats 4000000
namespace Mb
open PySem L2
def ek : Nat → Nat
  | 0 => 0
  | k + 1 => 5 * ek k + 1
theorem lcg_ek (m : Nat) : ∀ k, lcgN m k = ek k % (m + 1)
  | 0 => by simp [lcgN, ek]
  | k + 1 => by
    show (lcgN m k * 5 + 1) % (m + 1) = (5 * ek k + 1) % (m + 1)
    rw [lcg_ek m k, Nat.add_mod, Nat.mul_mod, Nat.mod_mod, ← Nat.mul_mod, ← Nat.add_mod, Nat.mul_comm]
theorem ek_pow : ∀ k, 5 ^ k = 4 * ek k + 1
  | 0 => rfl
  | k + 1 => by
    rw [Nat.pow_succ, ek_pow k]
    show _ = 4 * (5 * ek k + 1) + 1
    omega
theorem ek_add (a : Nat) : ∀ b, ek (b + a) = 5 ^ b * ek a + ek b
  | 0 => by simp [ek]
  | b + 1 => by
    have e : b + 1 + a = (b + a) + 1 := by omega
    rw [e]
    show 5 * ek (b + a) + 1 = 5 ^ (b + 1) * ek a + (5 * ek b + 1)
    rw [ek_add a b, Nat.pow_succ, Nat.mul_add, Nat.mul_comm (5 ^ b) 5, Nat.mul_assoc]
    omega
theorem ek_two : ∀ n, ∃ u, ek (2 ^ n) = 2 ^ n * (2 * u + 1)
  | 0 => ⟨0, rfl⟩
  | n + 1 => by
    obtain ⟨u, e⟩ := ek_two n
    have h1 : ek (2 ^ (n + 1)) = 2 * (ek (2 ^ n) * (2 * ek (2 ^ n) + 1)) := by
      have e2 : 2 ^ (n + 1) = 2 ^ n + 2 ^ n := by rw [Nat.pow_succ]; omega
      rw [e2, ek_add, ek_pow]
      generalize ek (2 ^ n) = z
      rw [Nat.add_mul, Nat.mul_add, Nat.mul_assoc, Nat.mul_one, Nat.one_mul, ← Nat.mul_assoc z 2 z, Nat.mul_comm z 2, Nat.mul_assoc 2 z z]
      omega
    refine ⟨2 * (u * ek (2 ^ n)) + u + ek (2 ^ n), ?_⟩
    rw [h1]
    conv => lhs; arg 2; arg 1; rw [e]
    generalize ek (2 ^ n) = z
    have h2 : (2 * u + 1) * (2 * z + 1) = 2 * (2 * (u * z) + u + z) + 1 := by
      rw [Nat.add_mul, Nat.one_mul, Nat.mul_add, Nat.mul_one]
      have : 2 * u * (2 * z) = 4 * (u * z) := by
        rw [Nat.mul_assoc, ← Nat.mul_assoc u 2 z, Nat.mul_comm u 2, Nat.mul_assoc 2 u z]; omega
      omega
    rw [Nat.pow_succ, Nat.mul_assoc (2 ^ n) (2 * u + 1), h2, Nat.mul_comm (2 ^ n) 2, Nat.mul_assoc]
theorem ek_shift (n k : Nat) : ∃ q, ek (2 ^ n + k) = ek k + 2 ^ n + 2 ^ (n + 1) * q := by
  obtain ⟨u, e⟩ := ek_two n
  refine ⟨2 * ((2 * u + 1) * ek k) + u, ?_⟩
  rw [ek_add, ek_pow, e]
  generalize ek k = x
  have h2 : 2 ^ n * (2 * u + 1) = 2 ^ n + 2 * (2 ^ n * u) := by
    rw [Nat.mul_add, Nat.mul_one, Nat.mul_left_comm]; omega
  have h3 : 2 ^ (n + 1) * (2 * ((2 * u + 1) * x) + u) = 4 * (2 ^ n * (2 * u + 1) * x) + 2 * (2 ^ n * u) := by
    rw [Nat.pow_succ, Nat.mul_add, Nat.mul_assoc (2 ^ n) 2, Nat.mul_assoc (2 ^ n) 2 u, Nat.mul_left_comm (2 ^ n) 2, Nat.mul_left_comm (2 ^ n) 2 u, Nat.mul_left_comm (2 ^ n) 2, Nat.mul_assoc (2 ^ n)]
    omega
  rw [h3, Nat.add_mul, Nat.one_mul, Nat.mul_assoc 4, h2]
  omega
theorem ek_all : ∀ n j, j < 2 ^ n → ∃ k, k < 2 ^ n ∧ ek k % 2 ^ n = j
  | 0, j, h => ⟨0, Nat.one_pos, by simp [ek]; simp at h; omega⟩
  | n + 1, j, h => by
    have hp : 0 < 2 ^ n := Nat.two_pow_pos n
    have e2 : 2 ^ (n + 1) = 2 ^ n * 2 := Nat.pow_succ ..
    obtain ⟨k, hk, e⟩ := ek_all n (j % 2 ^ n) (Nat.mod_lt _ hp)
    have hj := Nat.mod_add_div j (2 ^ n)
    have hy := Nat.mod_add_div (ek k % 2 ^ (n + 1)) (2 ^ n)
    have hm : ek k % 2 ^ (n + 1) % 2 ^ n = ek k % 2 ^ n := Nat.mod_mod_of_dvd _ ⟨2, e2⟩
    have hl : ek k % 2 ^ (n + 1) < 2 ^ (n + 1) := Nat.mod_lt _ (Nat.two_pow_pos _)
    have d1 : j / 2 ^ n < 2 := Nat.div_lt_of_lt_mul (by omega)
    have d2 : ek k % 2 ^ (n + 1) / 2 ^ n < 2 := Nat.div_lt_of_lt_mul (by omega)
    rw [hm, e] at hy
    by_cases c : ek k % 2 ^ (n + 1) = j
    · exact ⟨k, by omega, c⟩
    · refine ⟨2 ^ n + k, by omega, ?_⟩
      obtain ⟨q, eq⟩ := ek_shift n k
      rw [eq, Nat.add_mul_mod_self_left, Nat.add_mod, Nat.mod_eq_of_lt (show 2 ^ n < 2 ^ (n + 1) by omega)]
      generalize ek k % 2 ^ (n + 1) = y at *
      generalize hq1 : j / 2 ^ n = a at *
      generalize hq2 : y / 2 ^ n = b at *
      have ha : a = 0 ∨ a = 1 := by omega
      have hb : b = 0 ∨ b = 1 := by omega
      rcases ha with rfl | rfl <;> rcases hb with rfl | rfl
      · omega
      · have : y + 2 ^ n = 2 ^ (n + 1) + j := by omega
        rw [this, Nat.add_mod_left, Nat.mod_eq_of_lt h]
      · have : y + 2 ^ n = j := by omega
        rw [this, Nat.mod_eq_of_lt h]
      · omega
/-- a mask: one less than a power of two -/
def MB (m : Nat) : Prop := ∃ n, m + 1 = 2 ^ n
theorem lcg_any {m : Nat} (hm : MB m) {j : Nat} (hj : j ≤ m) : ∃ b, b ≤ m ∧ lcgN m b = j := by
  obtain ⟨n, e⟩ := hm
  obtain ⟨k, h1, h2⟩ := ek_all n j (by omega)
  exact ⟨k, by omega, by rw [lcg_ek, e, h2]⟩
theorem lcg_again {m : Nat} (hm : MB m) (k : Nat) : lcgN m (m + 1 + k) = lcgN m k := by
  obtain ⟨n, e⟩ := hm
  obtain ⟨q, h⟩ := ek_shift n k
  rw [lcg_ek, lcg_ek, e, h, Nat.pow_succ, Nat.mul_assoc, Nat.add_mul_mod_self_left, Nat.add_mod_right]
theorem lcg_from {m : Nat} (hm : MB m) {i j : Nat} (hi : i ≤ m) (hj : j ≤ m) : ∃ k, k ≤ m ∧ lcgI m i k = j := by
  obtain ⟨a, ha, ea⟩ := lcg_any hm hi
  obtain ⟨b, hb, eb⟩ := lcg_any hm hj
  subst ea eb
  by_cases c : a ≤ b
  · exact ⟨b - a, by omega, by rw [lcgN_add]; congr 1; omega⟩
  · refine ⟨m + 1 + b - a, by omega, ?_⟩
    rw [lcgN_add, ← lcg_again hm b]; congr 1; omega
/-- each slot begins a run -/
theorem run_hits {m : Nat} (hm : MB m) (h : Int) {j : Nat} (hj : j ≤ m) : ∃ n, n ≤ m + 12 ∧ runI m (SetTable.bits h) n = j := by
  obtain ⟨k, hk, e⟩ := lcg_from hm (runI_le m (SetTable.bits h) 12) hj
  refine ⟨12 + k, by omega, (runI_tail (bits_lt h) k).trans e⟩
theorem way_hits {m : Nat} (hm : MB m) (h : Int) {j : Nat} (hj : j ≤ m) : ∃ k, k < 10 * SetTable.turns m ∧ way m h k = j := by
  obtain ⟨n, hn, e⟩ := run_hits hm h hj
  obtain ⟨k, hk, e2⟩ := run_nth m (SetTable.bits h) n
  refine ⟨k, by unfold SetTable.turns; omega, ?_⟩
  unfold way
  rw [e2]; exact e
theorem way_in (m : Nat) (h : Int) (k : Nat) : way m h k ≤ m := by
  have h1 : SetTable.bits h % (m + 1) ≤ m := Nat.le_of_lt_succ (Nat.mod_lt _ (Nat.succ_pos _))
  have h2 := runEnd_bd h1
  have h3 := nth_in (m := m) k (runAt m (SetTable.bits h % (m + 1)) (SetTable.bits h)) (by unfold runAt; dsimp only; omega)
  unfold way; omega
/-- put in at a place -/
def insL {α : Type} (l : List α) (p : Nat) (x : α) : List α := l.take p ++ x :: l.drop p
theorem insL_mem {α : Type} {l : List α} {p : Nat} {x y : α} : y ∈ insL l p x ↔ y = x ∨ y ∈ l := by
  unfold insL
  have := (put_perm l p x).mem_iff (a := y)
  rw [this, List.mem_cons]
theorem insL_len {α : Type} (l : List α) (p : Nat) (x : α) : (insL l p x).length = l.length + 1 := (put_perm l p x).length_eq
theorem insL_zip {α β : Type} {l : List α} {k : List β} (e : l.length = k.length) (p : Nat) (x : α) (y : β) : (insL l p x).zip (insL k p y) = insL (l.zip k) p (x, y) := by
  unfold insL
  rw [List.zip_append (by rw [List.length_take, List.length_take, e]), List.zip_cons_cons]
  simp only [List.zip, List.take_zipWith, List.drop_zipWith]
/-- the table t with the hashes hs: each stands where its way first came to a free slot -/
structure TabB (t : SetTable) (hs : List Int) : Prop where
  ris : Ris t.place.toList
  dm : t.dummies = #[]
  sz : t.place.toList.length = hs.length
  pw : MB t.mask
  bd : ∀ x ∈ t.place.toList, x ≤ t.mask
  rc : ∀ q ∈ hs.zip t.place.toList, ∃ k, way t.mask q.1 k = q.2 ∧ ∀ c, c < k → way t.mask q.1 c ∈ t.place.toList
variable {t : SetTable} {hs : List Int}
theorem TabB.free (T : TabB t hs) (hl : hs.length ≤ t.mask) (h : Int) : ∃ k, k < 10 * SetTable.turns t.mask ∧ way t.mask h k ∉ t.place.toList ∧ ∀ c, c < k → way t.mask h c ∈ t.place.toList := by
  obtain ⟨j, h1, h2⟩ := st_missing t.place.toList (t.mask + 1) (by rw [T.sz]; omega)
  obtain ⟨k, h3, h4⟩ := way_hits T.pw h (Nat.le_of_lt_succ h1)
  obtain ⟨k', h5, h6, h7⟩ := st_least (p := fun k => way t.mask h k ∉ t.place.toList) k (by rw [h4]; exact h2)
  exact ⟨k', by omega, h6, fun c hc => Classical.not_not.mp (h7 c hc)⟩
theorem TabB.at_ (T : TabB t hs) {h : Int} {K i j : Nat} (hK : way t.mask h K ∉ t.place.toList) (h1 : hs[i]? = some h) (h2 : t.place.toList[i]? = some j) : ∃ k, k < K ∧ way t.mask h k = j := by
  have hm : (h, j) ∈ hs.zip t.place.toList := List.mem_of_getElem? (i := i) (List.getElem?_zip_eq_some.mpr ⟨h1, h2⟩)
  obtain ⟨k, e, hb⟩ := T.rc (h, j) hm
  have e : way t.mask h k = j := e
  have hb : ∀ c, c < k → way t.mask h c ∈ t.place.toList := hb
  refine ⟨k, ?_, e⟩
  by_cases c : K < k
  · exact absurd (hb K c) hK
  · by_cases d : k = K
    · subst d
      exact absurd (List.mem_of_getElem? h2) (by rw [← e]; exact hK)
    · omega
theorem TabB.put (T : TabB t hs) {h : Int} {K : Nat} (hK : way t.mask h K ∉ t.place.toList) (hb : ∀ c, c < K → way t.mask h c ∈ t.place.toList) :
    TabB (t.put (way t.mask h K)).1 (insL hs (SetTable.below t.place (way t.mask h K)) h) ∧ (t.put (way t.mask h K)).1.fill = hs.length + 1 := by
  have hj := way_in t.mask h K
  generalize hw : way t.mask h K = j at *
  have hpl : (t.put j).1.place.toList = insL t.place.toList (SetTable.below t.place j) j := put_place t j
  have hd : (t.put j).1.dummies = #[] := put_dm T.dm j
  have hne : t.place[SetTable.below t.place j]? ≠ some j := fun e => hK (List.mem_of_getElem? (by rw [Array.getElem?_toList]; exact e))
  have up : ∀ {x : Nat}, x ∈ t.place.toList → x ∈ (t.put j).1.place.toList := fun hx => by rw [hpl]; exact insL_mem.mpr (.inr hx)
  refine ⟨⟨ris_insert T.ris hne, hd, ?_, T.pw, fun x hx => ?_, fun q hq => ?_⟩, ?_⟩
  · rw [hpl, insL_len, insL_len, T.sz]
  · rw [hpl] at hx
    rcases insL_mem.mp hx with e | e
    · rw [e]; exact hj
    · exact T.bd x e
  · rw [hpl, insL_zip T.sz.symm] at hq
    show ∃ k, way t.mask q.1 k = q.2 ∧ ∀ c, c < k → way t.mask q.1 c ∈ (t.put j).1.place.toList
    rcases insL_mem.mp hq with e | e
    · subst e
      exact ⟨K, hw, fun c hc => up (hb c hc)⟩
    · obtain ⟨k, h1, h2⟩ := T.rc q e
      exact ⟨k, h1, fun c hc => up (h2 c hc)⟩
  · unfold SetTable.fill
    rw [hd, ← Array.length_toList, hpl, insL_len, T.sz]; rfl
end Mb
set_option maxHeartbeats 4000000
namespace Mb
open PySem L2
section
variable {P : Program} {w : World} {A : Around} {E : Value → Shared → Prop} {s : Shared}
/-- the set at a; its tuples L, in the order of the table -/
structure SetB (P : Program) (w : World) (h : Heap) (a : Addr) (L : List (Addr × List Int)) (es : Array (Int × Value)) (ep : Nat) (t : SetTable) : Prop where
  ob : ∃ o, h.get? a = some o ∧ o.ExactSet ∧ o.data = .set es ep t
  rw_ : es.toList = rowsOf P w L
  tb : TabB t (L.map fun p => thash P w p.2)
  nd : (L.map (·.2)).Nodup
  tu : ∀ p ∈ L, IsT P w h p.2 p.1
  pl : t.plain = true
  ld : w.params.followText "set-order" = true ∨ t.led = true
  rm : L.length * 5 < t.mask * 3
  ch : t.mask ∈ [7, 31, 127, 511, 2047, 8191]
variable {a : Addr} {L : List (Addr × List Int)} {es : Array (Int × Value)} {ep : Nat} {t : SetTable}
theorem SetB.len (R : SetB P w s.heap a L es ep t) : t.place.toList.length = L.length := by rw [R.tb.sz, List.length_map]
end
end Mb
set_option maxHeartbeats 4000000
namespace Mb
open PySem L2
/-- how large a table may be -/
def setMax : Nat := 2400
end Mb
set_option maxHeartbeats 4000000
namespace Mb
open PySem L2 PySem.Spec PyProof.Rows
section
variable {P : Program} {w : World} {A : Around} {E : Value → Shared → Prop} {s : Shared}
/-- of the first i of ks -/
structure Gt (ks : List (Addr × List Int)) (i : Nat) (L : List (Addr × List Int)) : Prop where
  sub : ∀ p ∈ L, p ∈ ks
  all : ∀ p ∈ ks.take i, p.2 ∈ L.map (·.2)
theorem Gt.next {ks L L' : List (Addr × List Int)} {i : Nat} {x : Addr × List Int} (g : Gt ks i L) (h : ks[i]? = some x) (c1 : x.2 ∈ L.map (·.2) → L' = L) (c2 : x.2 ∉ L.map (·.2) → L'.Perm (x :: L)) : Gt ks (i + 1) L' := by
  have tk : ks.take (i + 1) = ks.take i ++ [x] := by rw [List.take_succ, h]; rfl
  by_cases c : x.2 ∈ L.map (·.2)
  · rw [c1 c]
    refine ⟨g.sub, fun p hp => ?_⟩
    rw [tk, List.mem_append, List.mem_singleton] at hp
    rcases hp with hp | rfl
    · exact g.all p hp
    · exact c
  · have pm := c2 c
    refine ⟨fun p hp => ?_, fun p hp => ?_⟩
    · rcases List.mem_cons.mp (pm.mem_iff.mp hp) with rfl | hp
      · exact List.mem_of_getElem? h
      · exact g.sub p hp
    · rw [(pm.map (·.2)).mem_iff, List.map_cons]
      rw [tk, List.mem_append, List.mem_singleton] at hp
      rcases hp with hp | rfl
      · exact List.mem_cons_of_mem _ (g.all p hp)
      · exact List.mem_cons_self
theorem SetB.keep {h h' : Heap} {a : Addr} {L : List (Addr × List Int)} {es : Array (Int × Value)} {ep : Nat} {t : SetTable} (R : SetB P w h a L es ep t) (ha : ∀ o, h.get? a = some o → h'.get? a = some o) (ht : ∀ p ∈ L, IsT P w h' p.2 p.1) : SetB P w h' a L es ep t := by
  obtain ⟨o, ho, r⟩ := R.ob
  exact ⟨⟨o, ha o ho, r⟩, R.rw_, R.tb, R.nd, ht, R.pl, R.ld, R.rm, R.ch⟩
end
end Mb
set_option maxHeartbeats 4000000
namespace Mb
open PySem L2 PySem.Spec PyProof.Rows PySem.W
/-- the order of data -/
def leD (x y : PyData) : Bool := dataLe false id x y
def sortD (ds : List PyData) : List PyData := ds.mergeSort leD
end Mb
set_option maxHeartbeats 4000000
namespace Mb
open PySem L2 PySem.Spec PyProof.Rows PySem.W
def tup1 : D → Bool
  | .tuple (_ :: _) => true
  | _ => false
def notT : D → Bool
  | .none => false
  | .tuple _ => false
  | _ => true
def sortable (ds : List D) : Bool := (ds.all fun d => ds.all fun e => alike d e) && (ds.all tup1 || ds.all notT) && PyData.canLayAll0 ds && (ds.all fun d => decide (d.depth ≤ 20)) && small ds.length
end Mb
set_option maxHeartbeats 4000000
namespace Mb
open PySem L2 PySem.Spec PyProof.Rows PySem.W
section
variable {κ : Type} [DecidableEq κ]
def uniq : List κ → List κ
  | [] => []
  | a :: l => if a ∈ l then uniq l else a :: uniq l
end
def encI (i : Int) : D := .int i
def encT (k : List Int) : D := .tuple (k.map .int)
def sortI (l : List Int) : List Int := l.mergeSort fun a b => decide (a ≤ b)
def sortT (l : List (List Int)) : List (List Int) := l.mergeSort fun a b => decide (a ≤ b)
def asTups : List D → Option (List (List Int))
  | [] => some []
  | .tuple ds :: r => match asInts ds, asTups r with
    | some k, some ks => some (k :: ks)
    | _, _ => none
  | _ :: _ => none
def setSort (ds : List D) : Option (List D) := match asInts ds with
  | some ns => if ns.length < 4000 then some ((sortI (uniq ns)).map encI) else none
  | none => match asTups ds with
    | some ks => if decide ((uniq ks).length ≤ setMax) && ks.all (fun k => !k.isEmpty) && small ks.length then some ((sortT (uniq ks)).map encT) else none
    | none => none
end Mb
set_option maxHeartbeats 4000000
namespace Mb
open PySem L2
section
variable {cl : CL} {X : Cx} {E : XK} {e a b c : Expr} {f g h : Envt → Tr D} {pos : Pos}
/-- sorted(xs) -/
def nSort (f : Envt → Tr D) : Envt → Tr (List D) := fun env => (f env).bind fun d => match d with
  | .list ds => if sortable ds then .ret (sortD ds) else .bad
  | _ => .bad
/-- sorted(d) -/
def nSortK (g : Envt → Tr (List (D × D))) : Envt → Tr (List D) := fun env => (g env).bind fun kvs => if sortable (kvs.map (·.1)) then .ret (sortD (kvs.map (·.1))) else .bad
/-- sorted(set(xs)) -/
def nSortS (f : Envt → Tr D) : Envt → Tr (List D) := fun env => (f env).bind fun d => match d with
  | .list ds => ofO (setSort ds)
  | _ => .bad
end
theorem ap_nSort (f : Envt → Tr D) (env : Envt) : nSort f env = (f env).bind fun d => match d with
  | .list ds => if sortable ds then .ret (sortD ds) else .bad
  | _ => .bad := rfl
theorem ap_nSortK (g : Envt → Tr (List (D × D))) (env : Envt) : nSortK g env = (g env).bind fun kvs => if sortable (kvs.map (·.1)) then .ret (sortD (kvs.map (·.1))) else .bad := rfl
theorem ap_nSortS (f : Envt → Tr D) (env : Envt) : nSortS f env = (f env).bind fun d => match d with
  | .list ds => ofO (setSort ds)
  | _ => .bad := rfl
end Mb
set_option maxHeartbeats 4000000
namespace Mb
open PySem L2
section
variable {cl : CL} {X : Cx} {E : XK} {e a b c : Expr} {f g h : Envt → Tr D} {pos : Pos}
def nSortV (g : Envt → Tr (List (D × D))) : Envt → Tr (List D) := fun env => (g env).bind fun kvs => if sortable (kvs.map (·.2)) then .ret (sortD (kvs.map (·.2))) else .bad
theorem ap_nSortV (g : Envt → Tr (List (D × D))) (env : Envt) : nSortV g env = (g env).bind fun kvs => if sortable (kvs.map (·.2)) then .ret (sortD (kvs.map (·.2))) else .bad := rfl
def asPairs : List D → Option (List (D × D))
  | [] => some []
  | .tuple [k, v] :: r => (asPairs r).map ((k, v) :: ·)
  | _ :: _ => none
def ofPairs (kvs : List (D × D)) : List (D × D) := kvs.foldl (fun acc p => putD acc p.1 p.2) []
def pairsT (ds : List D) : Tr (List (D × D)) := match asPairs ds with
  | some kvs => if kindA (kvs.map (·.1)) && small kvs.length then .ret (ofPairs kvs) else .bad
  | none => .bad
def kPairs (f : Envt → Tr D) : Envt → Tr (List (D × D)) := fun env => (f env).bind fun d => match d with
  | .list ds => pairsT ds
  | _ => .bad
theorem ap_kPairs (f : Envt → Tr D) (env : Envt) : kPairs f env = (f env).bind fun d => match d with
  | .list ds => pairsT ds
  | _ => .bad := rfl
end
end Mb
set_option maxHeartbeats 1000000
namespace Mb
open PySem L2 PySem.Spec PyProof.Rows PySem.W
theorem okAt_sta (n : Nat) (s : Sta) : okAt (n + 1) s.e = true := by
  cases n <;> rfl
end Mb
set_option maxHeartbeats 1000000
namespace Mb
open PySem L2
def bk (k : Int) (d : D) : Bool := if k == 1 then ikey d else tkey d
theorem Brd.bk {k : Int} {d : D} (h : Brd k d) : Mb.bk k d = true := by cases h <;> rfl
structure SsI (r : Ru) (ss : List Sta) : Prop where
  com : ∀ s ∈ ss, Com r s
  nd : ss.Nodup
theorem SsI.len {r : Ru} (hr : r.ok) {ss : List Sta} (h : SsI r ss) : ss.length ≤ 2304 := few_com hr h.nd h.com
def stsD (ss : List Sta) : D := .tuple (ss.map Sta.e)
end Mb
set_option maxHeartbeats 4000000
namespace Mb
open PySem L2
section
variable {F : Fx} {B : Hp} {ad : Ads} {σ : St} {H H' : Hp} {env : Envt}
/-- a new object -/
structure NewV (F : Fx) (ad : Ads) (H H' : Hp) (r k : D) (x dx p q : Addr) : Prop where
  nn : ∀ b ∈ [x, dx, p, q], H b = none
  nd : [x, dx, p, q].Nodup
  kx : Kx F.dt (fun a => Mm F ad a ∨ a ∈ [x, dx, p, q]) H H'
  vo : ∀ I1 I2, VolOk (fun a => Mm F ad a ∨ a ∈ [x, dx, p, q]) H' ⟨x, dx, p, q, F.cl 60, F.K, r, k, I1, I2⟩
/-- what slots own -/
def owned (ad : Ads) (a : Addr) : Prop := ∃ w, some w ∈ ad ∧ inW w a
abbrev PP := (D → D → Prop) × (D → D → Prop)
def mkV (F : Fx) (r k : D) (L : PP) (x dx p q : Addr) : Vol := ⟨x, dx, p, q, F.cl 60, F.K, r, k, L.1, L.2⟩
def dlV (F : Fx) (r k : D) (L : PP) (x dx p q : Addr) : Dl := ⟨F.dt.dr, mkV F r k L x dx p q :: F.dt.vs⟩
theorem dl_dlV {r k : D} {L : PP} {x dx p q b : Addr} : dl (dlV F r k L x dx p q) b ↔ dl F.dt b ∨ b ∈ [x, dx, p, q] := by
  unfold dl dlAll dlV mkV
  simp only [List.flatMap_cons, List.mem_append]
  constructor
  · rintro (h | h | h)
    · exact .inl (.inl h)
    · exact .inr h
    · exact .inl (.inr h)
  · rintro ((h | h) | h)
    · exact .inl h
    · exact .inr (.inr h)
    · exact .inr (.inl h)
theorem NewV.dr {r k : D} {x dx p q : Addr} (n : NewV F ad H H' r k x dx p q) (d : DrOk F.dt (Mm F ad) H) (L : PP) : DrOk (dlV F r k L x dx p q) (fun a => Mm F ad a ∨ a ∈ [x, dx, p, q]) H' where
  nd := by
    have a1 := n.kx.dr.nd
    unfold dlAll at a1 ⊢
    unfold dlV mkV
    simp only [List.flatMap_cons]
    obtain ⟨h1, h2, h3⟩ := List.nodup_append.mp a1
    have nx : ∀ b, b ∈ [x, dx, p, q] → ¬ dl F.dt b := fun b hb hd => by
      obtain ⟨o, e⟩ := d.some hd
      rw [n.nn b hb] at e; cases e
    refine List.nodup_append.mpr ⟨h1, List.nodup_append.mpr ⟨n.nd, h2, fun a ha b hb e => ?_⟩, fun a ha b hb e => ?_⟩
    · subst e
      exact nx a ha (List.mem_append_right _ hb)
    · subst e
      rcases List.mem_append.mp hb with z | z
      · exact nx a z (List.mem_append_left _ ha)
      · exact h3 a ha a z rfl
  dr := n.kx.dr.dr
  vs := fun v hv => by
    rcases List.mem_cons.mp hv with rfl | hv
    · exact n.vo _ _
    · exact n.kx.dr.vs v hv
theorem Ok.notOwn (o : Ok F B ad σ H env) {b : Addr} (h : H b = none) : ¬ owned ad b := fun ⟨w, h1, h2⟩ => o.notM h (.inr ⟨w, h1, h2⟩)
theorem Ok.ownO (o : Ok F B ad σ H env) {b : Addr} (h : owned ad b) : F.H0 b = none ∧ ¬ F.O b := by
  obtain ⟨w, h1, h2⟩ := h
  obtain ⟨i, hi, e⟩ := List.getElem_of_mem h1
  have he : ad[i]? = some (some w) := by rw [List.getElem?_eq_getElem hi, e]
  exact ⟨o.new i w b he h2, o.notOW he h2⟩
theorem NewV.ex {r k : D} {x dx p q : Addr} (n : NewV F ad H H' r k x dx p q) {b : Addr} (hb : b ∈ [x, dx, p, q]) : ∃ o, H' b = some o := by
  obtain ⟨vr, vk, o1, o2, kvs1, kvs2, h1, h2, h3, h4, h5, h6, h7, h8, h9, h10⟩ := n.vo (fun _ _ => True) (fun _ _ => True)
  simp only [List.mem_cons, List.not_mem_nil, or_false] at hb
  rcases hb with rfl | rfl | rfl | rfl
  · exact ⟨_, h1⟩
  · exact ⟨_, h2⟩
  · exact ⟨_, h5⟩
  · exact ⟨_, h8⟩
/-- the state with the object -/
noncomputable def Fx.ext (o : Ok F B ad σ H env) {r k : D} {x dx p q : Addr} (n : NewV F ad H H' r k x dx p q) (L : PP) : Fx where
  K := F.K
  cl := F.cl
  H0 := mask H' (owned ad)
  O := fun a => F.O a ∨ a ∈ [x, dx, p, q]
  dt := dlV F r k L x dx p q
  tk := F.tk
  oin := fun a h => by
    rcases h with h | h
    · have nw : ¬ owned ad a := fun z => (o.ownO z).2 h
      rw [mask_out nw]
      by_cases z : dl F.dt a
      · exact n.kx.dr.some z
      · obtain ⟨y, e⟩ := o.Msome (.inl h)
        exact ⟨y, n.kx.keep _ _ e z⟩
    · rw [mask_out (o.notOwn (n.nn a h))]
      exact n.ex h
  odl := fun a h => (dl_dlV.mp h).elim (fun z => .inl (F.odl a z)) .inr
  d0 := (n.dr o.k0.dr L).move (mask_same fun a y nm e => ⟨fun z => nm (z.elim (fun t => .inl (.inl t)) .inr), by rw [mask_out (fun z => nm (.inl (.inr z)))]; exact e⟩) fun b y hb e => by
    rw [mask_out (fun z => ?_)]
    · exact e
    · rcases dl_dlV.mp hb with t | t
      · exact (o.ownO z).2 (F.odl b t)
      · exact o.notOwn (n.nn b t) z
end
end Mb
set_option maxHeartbeats 4000000
namespace Mb
open PySem L2
def vFr (i : Nat) : Envt → Tr D := fun env => match env[i]? with
  | some (.vo r _ _) => .ret r
  | _ => .bad
def vFk (i : Nat) : Envt → Tr D := fun env => match env[i]? with
  | some (.vo _ k _) => .ret k
  | _ => .bad
structure MethAt (K : PySem.W.Frag) (C : Addr) (x qual : Str) (st : Stmt) (ps : List Str) : Prop where
  ex : ∃ f fd, Fun K x qual st f fd ∧ Meth K C x f ∧ Binds K fd ps []
def vAsk (n : Nat) (m : List Ent → Tr D) (i : Nat) (g : Envt → Tr (List Ent)) : Envt → Tr D := fun env => match env[i]? with
  | some (.vo r k L) => (g env).bind fun es => if es.length + 1 == n then m (.vo r k L :: es) else .bad
  | _ => .bad
/-- a new object is asked -/
def vMkM (n : Nat) (m : List Ent → Tr D) (Lf : D → D → List Ent → List D) (gv : Envt → Tr (D × D)) (g : Envt → Tr (List Ent)) : Envt → Tr D := fun env => (gv env).bind fun rk => (g env).bind fun es => if es.length + 1 == n && noVs es then m (.vo rk.1 rk.2 (Lf rk.1 rk.2 es) :: es) else .bad
end Mb
set_option maxHeartbeats 4000000
namespace Mb
open PySem L2
/-- an object handed on -/
def aVo (i : Nat) (g : Envt → Tr (List Ent)) : Envt → Tr (List Ent) := fun env => match env[i]? with
  | some (.vo r k L) => (g env).bind fun es => .ret (.vo r k L :: es)
  | _ => .bad
/-- a def is called with a new object ahead -/
def vMkF (n : Nat) (m : List Ent → Tr D) (Lf : D → D → List Ent → List D) (gv : Envt → Tr (D × D)) (g : Envt → Tr (List Ent)) : Envt → Tr D := vMkM n m Lf gv g
end Mb
set_option maxHeartbeats 4000000
namespace Mb
open PySem L2
/-- a class of the text with an __init__ of its own -/
structure MkAt (K : PySem.W.Frag) (mg : Str → Option Value) (x qual : Str) (C : Addr) (st : Stmt) (ps fs : List Str) : Prop where
  ex : ∃ f fd, Fun K "__init__" qual st f fd ∧ Binds K fd ps [] ∧ Mk K C f
  g : mg x = some (.ref C)
  c : Cls K C
  na : ∀ s ∈ fs, NoAttr K C s
section
variable {cl : CL} {X : Cx} {E : XK} {a b : Expr} {f g : Envt → Tr D}
def two : List Ent → Option (D × D)
  | [.fz r, .fz k] => some (r, k)
  | _ => none
/-- Eye(r, k) -/
def gVo (g : Envt → Tr (List Ent)) : Envt → Tr (D × D) := fun env => (g env).bind fun es => ofO (two es)
end
end Mb
set_option maxHeartbeats 4000000
namespace Mb
open PySem L2
def stF : Bool → Str
  | true => "steps"
  | false => "sets"
def stA : Bool → Vol → Addr
  | true, v => v.p
  | false, v => v.q
def stI : Bool → Vol → D → D → Prop
  | true, v => v.I1
  | false, v => v.I2
theorem VolOk.st {M : Addr → Prop} {H : Hp} {v : Vol} (b : Bool) (h : VolOk M H v) : ∃ fs o kvs, H v.a = some (.ins v.C v.dx fs) ∧ fs.lookup (stF b) = some (.ref (stA b v)) ∧ H (stA b v) = some (DicO (stA b v) o) ∧ RDk v.K (mask H M) o kvs ∧ ∀ e ∈ kvs, stI b v e.1 e.2 := by
  obtain ⟨vr, vk, o1, o2, kvs1, kvs2, h1, h2, h3, h4, h5, h6, h7, h8, h9, h10⟩ := h
  cases b with
  | true => exact ⟨_, o1, kvs1, h1, rfl, h5, h6, h7⟩
  | false => exact ⟨_, o2, kvs2, h1, rfl, h8, h9, h10⟩
theorem VolOk.put {M : Addr → Prop} {H : Hp} {v : Vol} (b : Bool) (h : VolOk M H v) (nd : [v.a, v.dx, v.p, v.q].Nodup) {o : Obj} {kvs : List (D × D)} (r : RDk v.K (mask H M) o kvs) (hi : ∀ e ∈ kvs, stI b v e.1 e.2) (hm : M (stA b v)) : VolOk M (upd H (stA b v) (DicO (stA b v) o)) v := by
  have ms : Same (mask H M) (mask (upd H (stA b v) (DicO (stA b v) o)) M) := mask_same fun a x n e => ⟨n, by rw [upd_ne (fun z => n (by rw [z]; exact hm))]; exact e⟩
  obtain ⟨vr, vk, o1, o2, kvs1, kvs2, h1, h2, h3, h4, h5, h6, h7, h8, h9, h10⟩ := h
  simp only [List.nodup_cons, List.mem_cons, List.not_mem_nil, or_false, not_or, not_false_iff, List.nodup_nil, and_true] at nd
  obtain ⟨⟨n1, n2, n3⟩, ⟨n4, n5⟩, n6⟩ := nd
  cases b with
  | true => exact ⟨vr, vk, o, o2, kvs, kvs2, (by show upd H v.p _ v.a = _; rw [upd_ne n2]; exact h1), (by show upd H v.p _ v.dx = _; rw [upd_ne n4]; exact h2), h3.mono ms, h4.mono ms, upd_same, r.mono ms, hi, (by show upd H v.p _ v.q = _; rw [upd_ne (Ne.symm n6)]; exact h8), h9.mono ms, h10⟩
  | false => exact ⟨vr, vk, o1, o, kvs1, kvs, (by show upd H v.q _ v.a = _; rw [upd_ne n3]; exact h1), (by show upd H v.q _ v.dx = _; rw [upd_ne n5]; exact h2), h3.mono ms, h4.mono ms, (by show upd H v.q _ v.p = _; rw [upd_ne n6]; exact h5), h6.mono ms, h7, upd_same, r.mono ms, hi⟩
end Mb
set_option maxHeartbeats 4000000
namespace Mb
open PySem L2
section
variable {cl : CL} {X : Cx} {E : XK} {e a b c : Expr} {f g h : Envt → Tr D} {pos : Pos}
def vEmp (g : Envt → Tr (List (D × D))) : Envt → Tr D := fun env => (g env).bind fun kvs => .ret (.bool kvs.isEmpty)
theorem kx_draw {δ : Dl} {O : Addr → Prop} {H H2 : Hp} {a n : Addr} {c : Int} {ns : List Int} (d : DrOk δ O H) (hO : ∀ a, dl δ a → O a) (hdr : δ.dr = some (a, n)) (q1 : H2 a = some (.lst [.ref n, .int c])) (hc : 0 ≤ c) (q2 : H2 n = some (.lst (ns.map V.int))) (q3 : ∀ b, b ≠ a → b ≠ n → H2 b = H b) (q5 : 0 < ns.length) (q6 : ns.length ≤ 63) : Kx δ O H H2 := by
  have da := dl_dr hdr
  refine ⟨fun b o e nb => ?_, d.nd, fun a' n' e => ?_, fun v hv => ?_⟩
  · rw [q3 b (fun z => nb (z ▸ da.1)) (fun z => nb (z ▸ da.2))]; exact e
  · rw [hdr] at e; cases e
    exact ⟨c, ns, q1, hc, q2, q5, q6⟩
  · refine (d.vs v hv).move (mask_same fun b o nb e => ⟨nb, ?_⟩) fun b hb x e => ?_
    · rw [q3 b (fun z => nb (hO b (z ▸ da.1))) (fun z => nb (hO b (z ▸ da.2)))]; exact e
    · have nd := (List.nodup_append.mp d.nd).2.2
      rw [hdr] at nd
      have ne : ∀ c ∈ [a, n], b ≠ c := fun c hc z => nd c hc b (List.mem_flatMap.mpr ⟨v, hv, hb⟩) z.symm
      rw [q3 b (ne a (by simp)) (ne n (by simp))]; exact e
theorem dr_start {p n : Addr} {H : Hp} {ns : List Int} {M : Addr → Prop} (h : p ≠ n) (h1 : H p = some (.lst [.ref n, .int 0])) (h2 : H n = some (.lst (ns.map V.int))) (h3 : 0 < ns.length) (h4 : ns.length ≤ 63) : DrOk ⟨some (p, n), []⟩ M H where
  nd := by
    unfold dlAll
    simpa using h
  dr := fun a' n' e => by
    cases e
    exact ⟨0, ns, h1, by decide, h2, h3, h4⟩
  vs := fun v hv => by cases hv
end
end Mb
set_option maxHeartbeats 4000000
namespace Mb
open PySem L2
end Mb
set_option maxHeartbeats 4000000
namespace Mb
open PySem L2
end Mb
set_option maxHeartbeats 4000000
namespace Mb
open PySem L2
/-- a list comprehension whose element may raise -/
def nLcX (vs : List Nat) (src : Envt → Tr (List D)) (gd : Tgt) (t : Envt → Tr Bool) (f : Envt → Tr D) : Envt → Tr (List D) := fun env => (src env).bind fun ds => if small ds.length && noOw env vs then lcRun gd t f (wipeE env vs) ds else .bad
end Mb
set_option maxHeartbeats 4000000
namespace Mb
open PySem L2
section
variable {X : Cx} {pos : Pos}
/-- a, b, .. = a list of that length -/
def tgUnl (n : Nat) (gs : List D → Envt → Option Envt) : Tgt
  | .list ds, env => if ds.length == n then gs ds env else none
  | _, _ => none
theorem ap_nLcX {f : Envt → Tr D} {env : Envt} (vs : List Nat) (src : Envt → Tr (List D)) (gd : Tgt) (t : Envt → Tr Bool) : nLcX vs src gd t f env = (src env).bind fun ds => if small ds.length && noOw env vs then lcRun gd t f (wipeE env vs) ds else .bad := rfl
theorem tgUnl_ap {n : Nat} {gs : List D → Envt → Option Envt} {ds : List D} {env : Envt} : tgUnl n gs (.list ds) env = if ds.length == n then gs ds env else none := rfl
end
end Mb
set_option maxHeartbeats 1000000
namespace Mb
open PySem L2
section
variable {i n : Nat} {f g h : Envt → Tr D} {gk fk : Envt → Tr (List (D × D))} {env : Envt} {ga : Envt → Tr (List Ent)} {gv : Envt → Tr (D × D)} {m : List Ent → Tr D} {Lf : D → D → List Ent → List D} {L : List D} {u : Stm}
theorem ap_vFr : vFr i env = match env[i]? with | some (.vo r _ _) => .ret r | _ => .bad := rfl
theorem ap_vFk : vFk i env = match env[i]? with | some (.vo _ k _) => .ret k | _ => .bad := rfl
theorem ap_vAsk : vAsk n m i ga env = match env[i]? with | some (.vo r k L) => (ga env).bind fun es => if es.length + 1 == n then m (.vo r k L :: es) else .bad | _ => .bad := rfl
theorem ap_vMkM : vMkM n m Lf gv ga env = (gv env).bind fun rk => (ga env).bind fun es => if es.length + 1 == n && noVs es then m (.vo rk.1 rk.2 (Lf rk.1 rk.2 es) :: es) else .bad := rfl
theorem ap_vMkF : vMkF n m Lf gv ga env = (gv env).bind fun rk => (ga env).bind fun es => if es.length + 1 == n && noVs es then m (.vo rk.1 rk.2 (Lf rk.1 rk.2 es) :: es) else .bad := rfl
theorem ap_gVo : gVo ga env = (ga env).bind fun es => ofO (two es) := rfl
theorem ap_aVo : aVo i ga env = match env[i]? with | some (.vo r k L) => (ga env).bind fun es => .ret (.vo r k L :: es) | _ => .bad := rfl
theorem ap_vEmp : vEmp gk env = (gk env).bind fun kvs => .ret (.bool kvs.isEmpty) := rfl
theorem two_fz (a b : D) : two [.fz a, .fz b] = some (a, b) := rfl
theorem noVs_1 (a : D) : noVs [.fz a] = true := rfl
end
end Mb
set_option maxHeartbeats 4000000
namespace Mb
open PySem L2
def vAskP (n : Nat) (m : List Ent → Tr D) (i : Nat) (b : Bool) (g : Envt → Tr (List Ent)) : Envt → Tr D := fun env => match env[i]? with
  | some (.vp r1 k1 L1 r2 k2 L2) => (g env).bind fun es => if es.length + 1 == n then m ((if b then .vo r2 k2 L2 else .vo r1 k1 L1) :: es) else .bad
  | _ => .bad
theorem ap_vAskP {n i : Nat} {m : List Ent → Tr D} {b : Bool} {g : Envt → Tr (List Ent)} (env : Envt) : vAskP n m i b g env = match env[i]? with | some (.vp r1 k1 L1 r2 k2 L2) => (g env).bind fun es => if es.length + 1 == n then m ((if b then .vo r2 k2 L2 else .vo r1 k1 L1) :: es) else .bad | _ => .bad := rfl
end Mb
set_option maxHeartbeats 4000000
namespace Mb
open PySem L2
section
variable {F : Fx} {B : Hp} {ad : Ads} {σ : St} {H H' : Hp} {env : Envt}
theorem LolOk.length {K : PySem.W.Frag} {M H : Hp} {ps : List Addr} {dss : List (List D)} (h : LolOk K M H ps dss) : ps.length = dss.length := by
  induction h with
  | nil => rfl
  | cons _ _ _ ih => simp [ih]
theorem LolOk.rep {K : PySem.W.Frag} {M H MM : Hp} {ps : List Addr} {dss : List (List D)} (h : LolOk K M H ps dss) (s : Same M MM) : (∀ p ∈ ps, ∀ x, H p = some x → MM p = some x) → RepAll K MM (ps.map V.ref) (dss.map PyData.list) := by
  induction h with
  | nil => intro _; exact .nil
  | cons q r _ ih => intro k; exact .cons (.lst (k _ List.mem_cons_self _ q) (r.mono s)) (ih fun p hp => k p (List.mem_cons_of_mem _ hp))
theorem LolOk.get {K : PySem.W.Frag} {M H : Hp} {ps : List Addr} {dss : List (List D)} (h : LolOk K M H ps dss) : ∀ {k : Nat}, k < dss.length → ∃ xs, H (ps.getD k 0) = some (.lst xs) ∧ RepAll K M xs (dss.getD k []) := by
  induction h with
  | nil => intro k hk; simp at hk
  | cons q r _ ih =>
    intro k hk
    cases k with
    | zero => exact ⟨_, by simpa using q, by simpa using r⟩
    | succ k => simpa using ih (k := k) (by simpa using hk)
theorem LolOk.put {K : PySem.W.Frag} {M M' H H' : Hp} {xs' : List V} {ds' : List D} {ps : List Addr} {dss : List (List D)} (h : LolOk K M H ps dss) (s : Same M M') (r' : RepAll K M' xs' ds') : ∀ {k : Nat}, k < dss.length → ps.Nodup → (∀ p ∈ ps, p ≠ ps.getD k 0 → ∀ x, H p = some x → H' p = some x) → H' (ps.getD k 0) = some (.lst xs') → LolOk K M' H' ps (dss.set k ds') := by
  induction h with
  | nil => intro k hk; simp at hk
  | @cons p xs ds ps dss q r t ih =>
    intro k hk nd kp hp
    rw [List.nodup_cons] at nd
    cases k with
    | zero =>
      refine .cons (by simpa using hp) r' (t.move s fun b hb x => kp b (List.mem_cons_of_mem _ hb) (fun z => nd.1 ?_) x)
      have z : b = p := by simpa using z
      exact z ▸ hb
    | succ k =>
      have hk : k < dss.length := by simpa using hk
      have hl := t.length
      refine .cons (kp p List.mem_cons_self (fun z => nd.1 ?_) _ q) (r.mono s) (ih hk nd.2 (fun b hb n x => kp b (List.mem_cons_of_mem _ hb) (by simpa using n) x) (by simpa using hp))
      have z : p = ps.getD k 0 := by simpa using z
      rw [z, List.getD_eq_getElem?_getD, List.getElem?_eq_getElem (by omega)]
      exact List.getElem_mem _
theorem LolOk.snoc {K : PySem.W.Frag} {M H : Hp} {q : Addr} {xs : List V} {ds : List D} (hq : H q = some (.lst xs)) (r : RepAll K M xs ds) {ps : List Addr} {dss : List (List D)} (h : LolOk K M H ps dss) : LolOk K M H (ps ++ [q]) (dss ++ [ds]) := by
  induction h with
  | nil => exact .cons hq r .nil
  | cons a b _ ih => exact .cons a b ih
end
end Mb
set_option maxHeartbeats 4000000
namespace Mb
open PySem L2
end Mb
set_option maxHeartbeats 4000000
namespace Mb
open PySem L2
def nListK (g : Envt → Tr (List (D × D))) : Envt → Tr (List D) := fun env => (g env).bind fun kvs => .ret (kvs.map (·.1))
theorem ap_nListK (g : Envt → Tr (List (D × D))) (env : Envt) : nListK g env = (g env).bind fun kvs => .ret (kvs.map (·.1)) := rfl
end Mb
set_option maxHeartbeats 1000000
namespace Mb
open PySem L2
end Mb
set_option maxHeartbeats 1000000
namespace Mb
open PySem L2
end Mb
set_option maxHeartbeats 1000000
namespace Mb
open PySem L2
end Mb
set_option maxHeartbeats 1000000
namespace Mb
open PySem L2
/-- in order, each once -/
structure Srt (l s : List D) : Prop where
  m : ∀ x, x ∈ s ↔ x ∈ l
  nd : s.Nodup
  s : s.Pairwise fun a b => leD a b = true
theorem Srt.same {l l' s : List D} (h : Srt l s) (e : ∀ x, x ∈ l ↔ x ∈ l') : Srt l' s := ⟨fun x => (h.m x).trans (e x), h.nd, h.s⟩
abbrev SP := List Sta × List Sta
theorem sts_inj {a b : List Sta} (h : stsD a = stsD b) : a = b := by
  injection h with h
  revert b
  induction a with
  | nil => intro b h; cases b with
    | nil => rfl
    | cons _ _ => cases h
  | cons x a ih => intro b h; cases b with
    | nil => cases h
    | cons y b =>
      rw [List.map_cons, List.map_cons] at h
      injection h with h1 h2
      have : x = y := by
        have := (eqv_st x y)
        rw [h1] at this
        have e : PyData.eqv y.e y.e = true := SeqAt.eqv_refl _ (shp_lay (okAt_sta 38 y))
        rw [e] at this
        exact of_decide_eq_true this.symm
      rw [this, ih h2]
def sqD (p : SP) : D := .tuple [stsD p.1, stsD p.2]
theorem sqD_inj {p q : SP} (h : sqD p = sqD q) : p = q := by
  injection h with h
  injection h with h1 h2
  injection h2 with h2 _
  exact Prod.ext (sts_inj h1) (sts_inj h2)
theorem tk_sp (p : SP) : tkey (sqD p) = true := by
  have kk : ∀ ss : List Sta, kin (stsD ss) = true ∧ kdep (stsD ss) ≤ 2 := fun ss => by
    have h1 : kins (ss.map Sta.e) = true := by
      induction ss with
      | nil => rfl
      | cons s ss ih => simp only [List.map_cons, kins, Bool.and_eq_true]; exact ⟨rfl, ih⟩
    have h2 : kdeps (ss.map Sta.e) ≤ 1 := by
      induction ss with
      | nil => simp [kdeps]
      | cons s ss ih =>
        have := ih (by simp only [List.map_cons, kins, Bool.and_eq_true] at h1; exact h1.2)
        simp only [List.map_cons, kdeps]
        have : kdep s.e ≤ 1 := by simp [Sta.e, kdep, kdeps]
        omega
    exact ⟨h1, by show kdeps (ss.map Sta.e) + 1 ≤ 2; omega⟩
  obtain ⟨a1, a2⟩ := kk p.1
  obtain ⟨b1, b2⟩ := kk p.2
  show (kins [stsD p.1, stsD p.2] && decide (kdeps [stsD p.1, stsD p.2] ≤ 7)) = true
  have c1 : kins [stsD p.1, stsD p.2] = true := by simp [kins, a1, b1]
  have c2 : kdeps [stsD p.1, stsD p.2] ≤ 7 := by simp [kdeps]; omega
  rw [c1, decide_eq_true c2]; rfl
instance : KEnc SP := ⟨sqD, fun p q => by
  have := eqv_kin (sqD p) (sqD q) (tkey_kin (tk_sp p)) (tkey_kin (tk_sp q))
  rw [Bool.eq_iff_iff, this, decide_eq_true_eq]
  exact ⟨sqD_inj, fun h => by rw [h]⟩, tk_sp⟩
end Mb
set_option maxHeartbeats 1000000
namespace Mb
open PySem L2
end Mb
set_option maxHeartbeats 1000000
namespace Mb
open PySem L2
/-- an object in a slot: own, self, lent -/
def objE : Ent → Option (Nat × List (Str × Fld))
  | .ob c fs => some (c, fs)
  | .om c fs => some (c, fs)
  | .bo c fs => some (c, fs)
  | _ => none
/-- the object as it lies in the heap -/
structure ObjAt (F : Fx) (ad : Ads) (σ : St) (H : Hp) (i c : Nat) (fs : List (Str × Fld)) (a dx : Addr) (ps : List Addr) (vs : List (Str × V)) : Prop where
  s : σ[i]? = some (some (.ref a))
  h : H a = some (.ins (F.cl c) dx vs)
  d : H dx = some (.own a)
  n : (a :: dx :: ps).Nodup
  f : FldsOk F.K (mask H (Mm F ad)) H ps vs fs
  m : ∀ p, inW (a, dx :: ps) p → Mm F ad p ∧ ¬ dl F.dt p
section
variable {F : Fx} {B : Hp} {ad : Ads} {σ : St} {H H' : Hp} {env : List Ent}
theorem Ok.obj (o : Ok F B ad σ H env) {i c : Nat} {fs : List (Str × Fld)} {e : Ent} (he : env[i]? = some e) (h : objE e = some (c, fs)) : ∃ a dx ps vs, ObjAt F ad σ H i c fs a dx ps vs := by
  obtain ⟨oa, sv, e1, e2, q⟩ := o.at_ he
  cases e with
  | ob c' fs' =>
    cases h
    obtain ⟨a, dx, ps, vs, q1, q2, q3, q4, q5, q6⟩ := q
    subst q1 q2
    exact ⟨a, dx, ps, vs, e2, q3, q4, q5, q6, fun p hp => ⟨Mm_at e1 hp, o.notdlW e1 hp⟩⟩
  | om c' fs' =>
    cases h
    obtain ⟨t, ps, vs, q0, q1, q2, q3, q4, q5, q6⟩ := q
    subst q1 q2
    exact ⟨t.a, t.dx, ps, vs, e2, q3, q4, q5, q6, fun p hp => ⟨Mm_at e1 hp, o.notdlW e1 hp⟩⟩
  | bo c' fs' =>
    cases h
    obtain ⟨q1, a, dx, ps, vs, q2, ⟨q0, _⟩, q3, q4, q5, q6⟩ := q
    subst q2
    exact ⟨a, dx, ps, vs, e2, q3, q4, q5, q6, fun p hp => ⟨.inl (q0 p hp).1, (q0 p hp).2⟩⟩
  | _ => cases h
end
/-- an attribute of a list of them -/
def fldAt (nm : Str) : List (Str × Fld) → Option Fld
  | [] => none
  | (n, f) :: fs => if n == nm then some f else fldAt nm fs
theorem lookup_cons' {nm n : Str} {v : V} {vs : List (Str × V)} : ((n, v) :: vs).lookup nm = if n == nm then some v else vs.lookup nm := by
  rw [List.lookup_cons]
  by_cases h : n = nm
  · subst h; simp
  · have h1 : (nm == n) = false := by simpa using fun z => h z.symm
    have h2 : (n == nm) = false := by simpa using h
    rw [h1, h2]; rfl
theorem FldsOk.fz_at {K : PySem.W.Frag} {M H : Hp} {nm : Str} {d : D} {ps : List Addr} {vs : List (Str × V)} {fs : List (Str × Fld)} (h : FldsOk K M H ps vs fs) : fldAt nm fs = some (.fz d) → ∃ v, vs.lookup nm = some v ∧ Rep K M v d := by
  induction h with
  | nil => intro q; cases q
  | @fz n v d' ps vs fs r _ ih =>
    intro q
    unfold fldAt at q
    rw [lookup_cons']
    split at q
    · rename_i hn
      cases q
      exact ⟨v, by rw [if_pos hn], r⟩
    · rename_i hn
      obtain ⟨w, w1, w2⟩ := ih q
      exact ⟨w, by rw [if_neg hn]; exact w1, w2⟩
  | @ow n p xs ds ps vs fs _ _ _ ih =>
    intro q
    unfold fldAt at q
    rw [lookup_cons']
    split at q
    · cases q
    · rename_i hn
      obtain ⟨w, w1, w2⟩ := ih q
      exact ⟨w, by rw [if_neg hn]; exact w1, w2⟩
  | @od n p o kvs ps vs fs _ _ _ ih =>
    intro q
    unfold fldAt at q
    rw [lookup_cons']
    split at q
    · cases q
    · rename_i hn
      obtain ⟨w, w1, w2⟩ := ih q
      exact ⟨w, by rw [if_neg hn]; exact w1, w2⟩
theorem FldsOk.ow_at {K : PySem.W.Frag} {M H : Hp} {nm : Str} {ds : List D} {ps : List Addr} {vs : List (Str × V)} {fs : List (Str × Fld)} (h : FldsOk K M H ps vs fs) : fldAt nm fs = some (.ow ds) → ∃ p xs, vs.lookup nm = some (.ref p) ∧ p ∈ ps ∧ H p = some (.lst xs) ∧ RepAll K M xs ds := by
  induction h with
  | nil => intro q; cases q
  | @fz n v d' ps vs fs r _ ih =>
    intro q
    unfold fldAt at q
    rw [lookup_cons']
    split at q
    · cases q
    · rename_i hn
      obtain ⟨p, o, w1, w2, w3⟩ := ih q
      exact ⟨p, o, by rw [if_neg hn]; exact w1, w2, w3⟩
  | @ow n p' xs ds' ps vs fs hp r _ ih =>
    intro q
    unfold fldAt at q
    rw [lookup_cons']
    split at q
    · rename_i hn
      cases q
      exact ⟨p', xs, by rw [if_pos hn], List.mem_cons_self, hp, r⟩
    · rename_i hn
      obtain ⟨p, o, w1, w2, w3⟩ := ih q
      exact ⟨p, o, by rw [if_neg hn]; exact w1, List.mem_cons_of_mem _ w2, w3⟩
  | @od n p' o' kvs' ps vs fs hp r _ ih =>
    intro q
    unfold fldAt at q
    rw [lookup_cons']
    split at q
    · cases q
    · rename_i hn
      obtain ⟨p, o, w1, w2, w3⟩ := ih q
      exact ⟨p, o, by rw [if_neg hn]; exact w1, List.mem_cons_of_mem _ w2, w3⟩
/-- an attribute of the object of class c in slot i -/
def fldE (i c : Nat) (nm : Str) (env : Envt) : Option Fld := match (env[i]?).bind objE with
  | some (c', fs) => if c' == c then fldAt nm fs else none
  | none => none
theorem fldE_ok {i c : Nat} {nm : Str} {env : Envt} {f : Fld} (h : fldE i c nm env = some f) : ∃ e fs, env[i]? = some e ∧ objE e = some (c, fs) ∧ fldAt nm fs = some f := by
  unfold fldE at h
  cases he : env[i]? with
  | none => rw [he] at h; cases h
  | some e =>
    rw [he] at h
    have h : (match objE e with | some (c', fs) => if c' == c then fldAt nm fs else none | none => none) = some f := h
    cases ho : objE e with
    | none => rw [ho] at h; cases h
    | some p =>
      obtain ⟨c', fs⟩ := p
      rw [ho] at h
      have h : (if c' == c then fldAt nm fs else none) = some f := h
      by_cases hc : c' = c
      · subst hc
        rw [if_pos (by simp)] at h
        exact ⟨e, fs, rfl, ho, h⟩
      · rw [if_neg (by simpa using hc)] at h; cases h
def vFld (i c : Nat) (nm : Str) : Envt → Tr D := fun env => match fldE i c nm env with
  | some (.fz d) => .ret d
  | _ => .bad
section
variable {cl : CL} {X : Cx} {E : XK} {e a b c : Expr} {f g h : Envt → Tr D} {pos : Pos}
theorem de_fld (i n : Nat) {x nm : Str} {p : Pos} (hC : Cls X.K (cl n)) (hn : NoAttr X.K (cl n) nm) (hN : X.N[i]? = some x := by rfl) (hv : Vis X.env.scope x := by first | exact Or.inl rfl | exact Or.inr (Or.inl rfl) | exact Or.inr (Or.inr rfl)) (hd : (x == ("__debug__" : Str)) = false := by decide)
    (hcd : (x == ("__classdict__" : Str)) = false := by decide) (hb : attributeBase (.Name x p) nm X.env (eval (.Name x p) X.env) = eval (.Name x p) X.env := by rfl) : DE cl X E (.Attribute (.Name x p) nm pos) (vFld i n nm) := by
  refine ⟨_, pe_fld (pe_var (i := i) hN hv hd hcd) hb, fun F B ad σ H env Q hk hc o k => ?_⟩
  unfold vFld at k
  split at k
  · rename_i d hf
    obtain ⟨e, fs, h1, h2, h3⟩ := fldE_ok hf
    obtain ⟨a, dx, ps, vs, q⟩ := o.obj h1 h2
    obtain ⟨v, v1, v2⟩ := q.f.fz_at h3
    exact ⟨_, q.s, a, F.cl n, dx, vs, v, rfl, q.h, by rw [hc]; exact hC, by rw [hc]; exact hn, v1, k v H (Kx.refl o.k0.dr) v2⟩
  · exact k.elim
end
end Mb
set_option maxHeartbeats 1000000
namespace Mb
open PySem L2
/-- the object is lent -/
def spR (K : PySem.W.Frag) (cl : CL) (c n : Nat) (m : List Ent → Tr D) : Sp := fun vs H Q E => ∃ (O : Addr → Prop) (dt : Dl) (es : List Ent) (fs : List (Str × Fld)) (a dx : Addr) (ps : List Addr) (vf : List (Str × V)) (ws : List V), vs = .ref a :: ws ∧ es.length + 1 = n ∧ (∀ a, O a → ∃ o, H a = some o) ∧ (∀ a, dl dt a → O a) ∧ DrOk dt O H ∧
  (∀ p, inW (a, dx :: ps) p → O p ∧ ¬ dl dt p) ∧ H a = some (.ins (cl c) dx vf) ∧ H dx = some (.own a) ∧ (a :: dx :: ps).Nodup ∧ FldsOk K (mask H O) H ps vf fs ∧ ArgsOk K cl dt (mask H O) ws es ∧
  (m (.bo c fs :: es)).all (fun d => ∀ v H', Kx dt O H H' → Rep K (mask H' O) v d → Q v H') (fun c => ∀ H', Kx dt O H H' → E (.ref (cl c)) none H')
structure CalR (P : Program) (w : World) (K : PySem.W.Frag) (mg : Str → Option Value) (base : Heap) (cl : CL) (c : Nat) (x : Str) (k n : Nat) (m : List Ent → Tr D) : Prop where
  ex : ∃ f fd ps, FnOk P w K mg base (L2.CX P w) k f fd ps (spR K cl c n m) ∧ Meth K (cl c) x f ∧ Binds K fd ps []
theorem start_cons (N : List Str) (v v' : V) (ws : List V) : (L2.start N (v :: ws)).set 0 (some v') = L2.start N (v' :: ws) := by
  unfold L2.start
  simp
/-- the start, the object lent -/
theorem start_lent {F : Fx} {N : List Str} {c : Nat} {fs : List (Str × Fld)} {a dx : Addr} {ps : List Addr} {vf : List (Str × V)} {ws : List V} {es : List Ent} (ht : ∀ t, F.tk = some t → t = ⟨a, dx, ps⟩) (h1 : ∀ p, inW (a, dx :: ps) p → F.O p ∧ ¬ dl F.dt p) (h2 : F.H0 a = some (.ins (F.cl c) dx vf)) (h3 : F.H0 dx = some (.own a)) (h4 : (a :: dx :: ps).Nodup)
    (h5 : FldsOk F.K (mask F.H0 F.O) F.H0 ps vf fs) (ha : ArgsOk F.K F.cl F.dt (mask F.H0 F.O) ws es) : ∃ B ad, Ok F B ad (L2.start N (.ref a :: ws)) F.H0 (.bo c fs :: (es ++ List.replicate (N.length - (es.length + 1)) .un)) := by
  have o := start_ok (F := F) (N := N) (vs := .non :: ws) (es := .fz .none :: es) (.cons (show ArgOk F.K F.cl F.dt (mask F.H0 F.O) .non (.fz .none) from .non) ha)
  have hl : (L2.start N (V.non :: ws)).length = (L2.start N (V.ref a :: ws)).length := by unfold L2.start; simp
  have q := o.setG (i := 0) (σ' := L2.start N (.ref a :: ws)) (e' := .bo c fs) hl.symm (fun j hj => by
    cases j with
    | zero => exact absurd rfl hj
    | succ j => rw [← start_cons N .non (.ref a) ws, List.getElem?_set_ne (by omega)]) fun hi ms sv e => by
      have e2 : sv = some (.ref a) := by
        have : (L2.start N (V.ref a :: ws))[0]? = some (some (.ref a)) := by unfold L2.start; simp
        rw [this] at e; cases e; rfl
      refine ⟨rfl, a, dx, ps, vf, e2, ⟨h1, ht⟩, h2, h3, h4, h5.move (mask_same fun b x n e => ⟨fun z => ?_, e⟩) fun p hp x e => e⟩
      rcases z with z | ⟨w, z, _⟩
      · exact n z
      · have := List.mem_or_eq_of_mem_set z
        rcases this with y | y
        · cases List.eq_of_mem_replicate y
        · cases y
  exact ⟨_, _, q⟩
section
variable {P : Program} {w : World} {K : PySem.W.Frag} {mg : Str → Option Value} {base : Heap} {cl : CL}
open PySem.Spec PyProof.Rows in
theorem calR_of {c : Nat} {x qual : Str} {st : Stmt} {N ps : List Str} {k n : Nat} {u : Stm} (T : MethAt K (cl c) x qual st ps) (S : FnScope N ps (defScope st)) (hps : ps.length = n)
    (hbody : ∀ (f : Addr) (cdv : Value) (A : Around) (outer : List Env) (s : Shared) (H : Hp) (E : XK), Room k (A.deeper (envOfC qual (defScope st) s.heap.objs.size f cdv)) →
      DSs cl (cxOf (L2.CX P w) P w K mg base N qual (defScope st) f cdv A outer s H E) E (defBody st) u) : CalR P w K mg base cl c x (k + 1) n (runB N.length n u) := by
  obtain ⟨f, fd, F, g, b⟩ := T.ex
  refine ⟨f, fd, ps, F.okX S (fun vs H Q E h => ?_) (fun cdv A outer s H vs Q E hr h => ?_), g, b⟩
  · obtain ⟨O, dt, es, fs, a, dx, pp, vf, ws, rfl, hl, _, _, _, _, _, _, _, _, ha, _⟩ := h
    rw [List.length_cons, ha.length, hl, hps]
  · obtain ⟨O, dt, es, fs, a, dx, pp, vf, ws, rfl, hl, h1, h2, h3, h4, h5, h6, h7, h8, ha, hm⟩ := h
    obtain ⟨t, p, r⟩ := hbody f cdv A outer s H E hr
    refine ⟨t, p, ?_⟩
    obtain ⟨B, ad, o⟩ := start_lent (F := ⟨K, cl, H, O, dt, h1, h2, h3, none⟩) (N := N) (c := c) (fun _ e => nomatch e) h4 h5 h6 h7 h8 ha
    have hm' : (u (.bo c fs :: (es ++ List.replicate (N.length - (es.length + 1)) .un))).all (fun o => match o with
      | .nx _ => ∀ v H', Kx dt O H H' → Rep K (mask H' O) v .none → Q v H'
      | .rt d => ∀ v H', Kx dt O H H' → Rep K (mask H' O) v d → Q v H'
      | _ => False) (fun c => ∀ H', Kx dt O H H' → E (.ref (cl c)) none H') := by
      unfold runB at hm
      rw [← hl] at hm
      refine Tr.all_mono (fun o z => ?_) (fun _ z => z) (Tr.all_bind hm)
      cases o with
      | nx _ => exact z
      | rt _ => exact z
      | bk _ => exact z
      | ct _ => exact z
    refine r ⟨K, cl, H, O, dt, h1, h2, h3, none⟩ _ _ _ H _ _ rfl rfl o (Tr.all_mono (fun ou z => ?_) (fun c z => z) hm')
    cases ou with
    | nx env => exact fun ad σ H' o' => z .non H' o'.kO .non
    | rt d => exact fun v H' k rv => z v H' k rv
    | bk env => exact z.elim
    | ct env => exact z.elim
end
theorem FldsOk.no_at {K : PySem.W.Frag} {M H : Hp} {nm : Str} {ps : List Addr} {vs : List (Str × V)} {fs : List (Str × Fld)} (h : FldsOk K M H ps vs fs) : fldAt nm fs = none → vs.lookup nm = none := by
  induction h with
  | nil => intro _; rfl
  | fz _ _ ih =>
    intro q
    unfold fldAt at q
    rw [lookup_cons']
    split at q
    · cases q
    · rename_i hn; rw [if_neg hn]; exact ih q
  | ow _ _ _ ih =>
    intro q
    unfold fldAt at q
    rw [lookup_cons']
    split at q
    · cases q
    · rename_i hn; rw [if_neg hn]; exact ih q
  | od _ _ _ ih =>
    intro q
    unfold fldAt at q
    rw [lookup_cons']
    split at q
    · cases q
    · rename_i hn; rw [if_neg hn]; exact ih q
/-- a reading method of the object in slot i -/
def vAskR (n c : Nat) (mn : Str) (m : List Ent → Tr D) (i : Nat) (g : Envt → Tr (List Ent)) : Envt → Tr D := fun env => match (env[i]?).bind objE with
  | some (c', fs) => if c' == c && (fldAt mn fs).isNone then (g env).bind fun es => if es.length + 1 == n then m (.bo c fs :: es) else .bad else .bad
  | none => .bad
theorem objE_at {env : Envt} {i c : Nat} {fs : List (Str × Fld)} (h : (env[i]?).bind objE = some (c, fs)) : ∃ e, env[i]? = some e ∧ objE e = some (c, fs) := by
  cases he : env[i]? with
  | none => rw [he] at h; cases h
  | some e => rw [he] at h; exact ⟨e, rfl, h⟩
theorem Ok.obj_a {F : Fx} {B : Hp} {ad : Ads} {σ : St} {H : Hp} {env : List Ent} (o : Ok F B ad σ H env) {i c : Nat} {fs : List (Str × Fld)} {e : Ent} (he : env[i]? = some e) (h : objE e = some (c, fs)) {a : Addr} (hs : σ[i]? = some (some (.ref a))) : ∃ dx ps vs, ObjAt F ad σ H i c fs a dx ps vs := by
  obtain ⟨a', dx, ps, vs, q⟩ := o.obj he h
  have : a' = a := by
    have := q.s
    rw [hs] at this
    cases this; rfl
  subst this
  exact ⟨dx, ps, vs, q⟩
section
variable {cl : CL} {X : Cx} {E : XK} {e a b c : Expr} {f g h : Envt → Tr D} {pos : Pos}
theorem methR_core {F : Fx} {B : Hp} {ad : Ads} {σ : St} {H : Hp} {env : Envt} {Q : VK} {i n c : Nat} {m : List Ent → Tr D} {fs : List (Str × Fld)} {en : Ent} {a : Addr} {vs : List V} {es : List Ent} {H1 : Hp} (hk : F.K = X.K) (hc : F.cl = cl) (o : Ok F B ad σ H env) (he : env[i]? = some en) (ho : objE en = some (c, fs)) (hs : σ[i]? = some (some (.ref a)))
    (k1 : Kx F.dt (Mm F ad) H H1) (rs : ArgsOk F.K F.cl F.dt (mask H1 (Mm F ad)) vs es) (z : (if es.length + 1 == n then m (.bo c fs :: es) else .bad).all (Post F ad H Q) (EOk F E)) : spR X.K cl c n m (.ref a :: vs) H1 Q E := by
  cases hl : es.length + 1 == n with
  | false => rw [hl] at z; exact z.elim
  | true =>
    rw [hl] at z
    have o1 := o.kx k1
    obtain ⟨dx, ps, vf, q⟩ := o1.obj_a he ho hs
    refine ⟨Mm F ad, F.dt, es, fs, a, dx, ps, vf, vs, rfl, by simpa using hl, fun a q => o1.Msome q, fun a q => Mm_dl q, k1.dr, q.m, by rw [← hc]; exact q.h, q.d, q.n, by rw [← hk]; exact q.f, by rw [← hk, ← hc]; exact rs, Tr.all_mono (fun d zd v H' k2 rv => ?_) (fun c zc H' k2 => ?_) z⟩
    · exact zd v H' (k1.trans k2) (by rw [hk]; exact rv)
    · rw [← hc]
      exact zc H' ((o1.k0.trans k2).weak fun a q => .inl q)
theorem de_methR0 (i c : Nat) {k n : Nat} {m : List Ent → Tr D} {x mn : Str} {p apos : Pos} {pl : Sem Bool} (hC : Cls X.K (cl c)) (G : CalR X.prog X.w X.K X.mg X.base cl c mn k n m) (hr : Room k X.A) (hx : Passes (L2.CX X.prog X.w) X E)
    (hN : X.N[i]? = some x := by rfl) (hv : Vis X.env.scope x := by first | exact Or.inl rfl | exact Or.inr (Or.inl rfl) | exact Or.inr (Or.inr rfl)) (hd : (x == ("__debug__" : Str)) = false := by decide)
    (hcd : (x == ("__classdict__" : Str)) = false := by decide)
    (ht : eval (.Call (.Attribute (.Name x p) mn apos) [] [] pos) X.env = (do
      let ov ← eval (.Name x p) X.env
      standAt apos.atName
      let (f, first) ← holding [ov] (getMethod ov mn pl)
      callWith pos f first (backTo pos (starEach [] X.env)) (backToKw pos (keywordEach [] X.env))) := by rfl) : DE cl X E (.Call (.Attribute (.Name x p) mn apos) [] [] pos) (vAskR n c mn m i aNil) := by
  obtain ⟨f, fd, ps, G, M, b⟩ := G.ex
  refine ⟨_, pe_meth0 (pe_var (i := i) hN hv hd hcd) hC M G hr b .nil hx ht, fun F B ad σ H env Q hk hc o k => ?_⟩
  unfold vAskR at k
  split at k
  · rename_i c' fs he
    cases hq : c' == c && (fldAt mn fs).isNone with
    | false => rw [hq] at k; exact k.elim
    | true =>
      rw [hq] at k
      rw [Bool.and_eq_true] at hq
      obtain ⟨hq1, hq2⟩ := hq
      have : c' = c := by simpa using hq1
      subst this
      obtain ⟨en, he, ho⟩ := objE_at he
      obtain ⟨a, dx, pp, vf, q⟩ := o.obj he ho
      refine ⟨_, q.s, a, dx, vf, rfl, by rw [← hc]; exact q.h, q.f.no_at (Option.isNone_iff_eq_none.mp hq2), ?_⟩
      exact methR_core hk hc o he ho q.s (Kx.refl o.k0.dr) .nil (show Tr.all _ _ (if ([] : List Ent).length + 1 == n then m [.bo c' fs] else .bad) from k)
  · exact k.elim
end
end Mb
set_option maxHeartbeats 1000000
namespace Mb
open PySem L2
/-- an object in a slot that owns it -/
def ownE : Ent → Option (Nat × List (Str × Fld))
  | .ob c fs => some (c, fs)
  | .om c fs => some (c, fs)
  | _ => none
def withF : Ent → List (Str × Fld) → Ent
  | .ob c _, fs => .ob c fs
  | .om c _, fs => .om c fs
  | e, _ => e
def setFld (nm : Str) (f : Fld) : List (Str × Fld) → List (Str × Fld)
  | [] => [(nm, f)]
  | (n, g) :: fs => if n == nm then (n, f) :: fs else (n, g) :: setFld nm f fs
structure OwnAt (F : Fx) (ad : Ads) (σ : St) (H : Hp) (i c : Nat) (fs : List (Str × Fld)) (e : Ent) (a dx : Addr) (ps : List Addr) (vs : List (Str × V)) : Prop where
  s : σ[i]? = some (some (.ref a))
  w : ad[i]? = some (some (a, dx :: ps))
  h : H a = some (.ins (F.cl c) dx vs)
  d : H dx = some (.own a)
  n : (a :: dx :: ps).Nodup
  f : FldsOk F.K (mask H (Mm F ad)) H ps vs fs
  back : ∀ {ad' : Ads} {H' : Hp} {fs' : List (Str × Fld)} {ps' : List Addr} {vs' : List (Str × V)}, H' a = some (.ins (F.cl c) dx vs') → H' dx = some (.own a) → (a :: dx :: ps').Nodup → FldsOk F.K (mask H' (Mm F ad')) H' ps' vs' fs' → EntOk F ad' H' (some (a, dx :: ps')) (some (.ref a)) (withF e fs')
section
variable {F : Fx} {B : Hp} {ad : Ads} {σ : St} {H H' : Hp} {env : List Ent}
theorem Ok.own (o : Ok F B ad σ H env) {i c : Nat} {fs : List (Str × Fld)} {e : Ent} (he : env[i]? = some e) (h : ownE e = some (c, fs)) : ∃ a dx ps vs, OwnAt F ad σ H i c fs e a dx ps vs := by
  obtain ⟨oa, sv, e1, e2, q⟩ := o.at_ he
  cases e with
  | ob c' fs' =>
    cases h
    obtain ⟨a, dx, ps, vs, q1, q2, q3, q4, q5, q6⟩ := q
    subst q1 q2
    exact ⟨a, dx, ps, vs, e2, e1, q3, q4, q5, q6, fun h1 h2 h3 h4 => ⟨a, dx, _, _, rfl, rfl, h1, h2, h3, h4⟩⟩
  | om c' fs' =>
    cases h
    obtain ⟨t, ps, vs, q0, q1, q2, q3, q4, q5, q6⟩ := q
    subst q1 q2
    exact ⟨t.a, t.dx, ps, vs, e2, e1, q3, q4, q5, q6, fun h1 h2 h3 h4 => ⟨t, _, _, q0, rfl, rfl, h1, h2, h3, h4⟩⟩
  | _ => cases h
end
/-- an own dict attribute: where it lies, and what becomes of it -/
theorem FldsOk.od_put {K : PySem.W.Frag} {M H : Hp} {nm : Str} {kvs : List (D × D)} {ps : List Addr} {vs : List (Str × V)} {fs : List (Str × Fld)} (h : FldsOk K M H ps vs fs) : ps.Nodup → fldAt nm fs = some (.od kvs) → ∃ p o, vs.lookup nm = some (.ref p) ∧ p ∈ ps ∧ H p = some (DicO p o) ∧ RDk K M o kvs ∧
    (∀ (M' : Hp) (o' : Obj) (kvs' : List (D × D)), Same M M' → RDk K M' o' kvs' → FldsOk K M' (upd H p (DicO p o')) ps vs (setFld nm (.od kvs') fs)) ∧
    (∀ (M' : Hp), Same M M' → M' p = some (DicO p o) → FldsOk K M' H (ps.erase p) vs (setFld nm (.fz (.dict kvs)) fs)) := by
  induction h with
  | nil => intro _ q; cases q
  | @fz n v d' ps vs fs r hr ih =>
    intro hn q
    unfold fldAt at q
    rw [lookup_cons']
    split at q
    · cases q
    · rename_i hne
      obtain ⟨p, o, w1, w2, w3, w4, w5, w6⟩ := ih hn q
      refine ⟨p, o, by rw [if_neg hne]; exact w1, w2, w3, w4, fun M' o' kvs' ms r' => ?_, fun M' ms hp => ?_⟩
      · unfold setFld
        rw [if_neg hne]
        exact .fz (r.mono ms) (w5 M' o' kvs' ms r')
      · unfold setFld
        rw [if_neg hne]
        exact .fz (r.mono ms) (w6 M' ms hp)
  | @ow n p' xs ds ps vs fs hp' r hr ih =>
    intro hn q
    unfold fldAt at q
    rw [lookup_cons']
    have hn' := List.nodup_cons.mp hn
    split at q
    · cases q
    · rename_i hne
      obtain ⟨p, o, w1, w2, w3, w4, w5, w6⟩ := ih hn'.2 q
      have np : p' ≠ p := fun z => hn'.1 (by rw [z]; exact w2)
      refine ⟨p, o, by rw [if_neg hne]; exact w1, List.mem_cons_of_mem _ w2, w3, w4, fun M' o' kvs' ms r' => ?_, fun M' ms hp => ?_⟩
      · unfold setFld
        rw [if_neg hne]
        exact .ow (by rw [upd_ne np]; exact hp') (r.mono ms) (w5 M' o' kvs' ms r')
      · unfold setFld
        rw [if_neg hne, List.erase_cons_tail (by simpa using np)]
        exact .ow hp' (r.mono ms) (w6 M' ms hp)
  | @od n p' o' kvs' ps vs fs hp' r hr ih =>
    intro hn q
    unfold fldAt at q
    rw [lookup_cons']
    have hn' := List.nodup_cons.mp hn
    split at q
    · rename_i hne
      cases q
      refine ⟨p', o', by rw [if_pos hne], List.mem_cons_self, hp', r, fun M' o2 kvs2 ms r2 => ?_, fun M' ms hp => ?_⟩
      · unfold setFld
        rw [if_pos hne]
        refine .od upd_same r2 (hr.move ms fun x hx y e => ?_)
        rw [upd_ne (fun z => hn'.1 (by rw [← z]; exact hx))]; exact e
      · unfold setFld
        rw [if_pos hne, List.erase_cons_head]
        exact .fz (RDk.rep hp (r.mono ms)) (hr.move ms fun _ _ _ e => e)
    · rename_i hne
      obtain ⟨p, o, w1, w2, w3, w4, w5, w6⟩ := ih hn'.2 q
      have np : p' ≠ p := fun z => hn'.1 (by rw [z]; exact w2)
      refine ⟨p, o, by rw [if_neg hne]; exact w1, List.mem_cons_of_mem _ w2, w3, w4, fun M' o2 kvs2 ms r2 => ?_, fun M' ms hp => ?_⟩
      · unfold setFld
        rw [if_neg hne]
        exact .od (by rw [upd_ne np]; exact hp') (r.mono ms) (w5 M' o2 kvs2 ms r2)
      · unfold setFld
        rw [if_neg hne, List.erase_cons_tail (by simpa using np)]
        exact .od hp' (r.mono ms) (w6 M' ms hp)
/-- an own object in slot i, of class c -/
def ownC (i c : Nat) (env : Envt) : Option (Ent × List (Str × Fld)) := match env[i]? with
  | some e => match ownE e with
    | some (c', fs) => if c' == c then some (e, fs) else none
    | none => none
  | none => none
theorem ownC_ok {i c : Nat} {env : Envt} {e : Ent} {fs : List (Str × Fld)} (h : ownC i c env = some (e, fs)) : env[i]? = some e ∧ ownE e = some (c, fs) := by
  unfold ownC at h
  cases he : env[i]? with
  | none => rw [he] at h; cases h
  | some e' =>
    rw [he] at h
    have h : (match ownE e' with | some (c', fs) => if c' == c then some (e', fs) else none | none => none) = some (e, fs) := h
    cases ho : ownE e' with
    | none => rw [ho] at h; cases h
    | some p =>
      obtain ⟨c', fs'⟩ := p
      rw [ho] at h
      have h : (if c' == c then some (e', fs') else none) = some (e, fs) := h
      by_cases hc : c' = c
      · subst hc
        rw [if_pos (by simp)] at h
        cases h
        exact ⟨rfl, ho⟩
      · rw [if_neg (by simpa using hc)] at h; cases h
section
variable {cl : CL} {X : Cx} {E : XK} {e a b c : Expr} {f g h : Envt → Tr D} {pos : Pos} {sts : List Stmt} {u : Stm}
theorem Ok.putF {F : Fx} {B : Hp} {ad : Ads} {σ : St} {H : Hp} {env : List Ent} (o : Ok F B ad σ H env) {i c : Nat} {nm : Str} {e : Ent} {fs : List (Str × Fld)} {kvs : List (D × D)} (he : env[i]? = some e) (ho : ownE e = some (c, fs)) (hf : fldAt nm fs = some (.od kvs)) :
    ∃ a dx vs p ob, σ[i]? = some (some (.ref a)) ∧ H a = some (.ins (F.cl c) dx vs) ∧ vs.lookup nm = some (.ref p) ∧ ¬ dl F.dt p ∧ H p = some (DicO p ob) ∧ RDk F.K (mask H (Mm F ad)) ob kvs ∧ ∀ o' kvs', RDk F.K (mask H (Mm F ad)) o' kvs' → Ok F B ad σ (upd H p (DicO p o')) (env.set i (withF e (setFld nm (.od kvs') fs))) := by
  obtain ⟨a, dx, ps, vs, q⟩ := o.own he ho
  have hn := List.nodup_cons.mp q.n
  have hn2 := List.nodup_cons.mp hn.2
  obtain ⟨p, ob, w1, w2, w3, w4, w5, _⟩ := q.f.od_put hn2.2 hf
  have hp : inW (a, dx :: ps) p := .inr (List.mem_cons_of_mem _ w2)
  refine ⟨a, dx, vs, p, ob, q.s, q.h, w1, o.notdlW q.w hp, w3, w4, fun o' kvs' r => ?_⟩
  refine o.putW q.w hp fun ms sv e2 => ?_
  rw [q.s] at e2; cases e2
  have n1 : a ≠ p := fun z => hn.1 (by rw [z]; exact List.mem_cons_of_mem _ w2)
  have n2 : dx ≠ p := fun z => hn2.1 (by rw [z]; exact w2)
  exact q.back (by rw [upd_ne n1]; exact q.h) (by rw [upd_ne n2]; exact q.d) q.n (w5 _ _ _ ms (r.mono ms))
end
end Mb
set_option maxHeartbeats 1000000
namespace Mb
open PySem L2
/-- from the object's parts w to w' -/
def OW (O : Addr → Prop) (w w' : Own) (a : Addr) : Prop := (O a ∧ ¬ inW w a) ∨ inW w' a
/-- what a method that changes its object leaves -/
structure Left (K : PySem.W.Frag) (cl : CL) (dt : Dl) (O : Addr → Prop) (H : Hp) (c : Nat) (a dx : Addr) (ps : List Addr) (H' : Hp) (fs' : List (Str × Fld)) (ps' : List Addr) (vf' : List (Str × V)) : Prop where
  keep : ∀ b o, H b = some o → ¬ dl dt b → ¬ inW (a, dx :: ps) b → H' b = some o
  dr : DrOk dt (OW O (a, dx :: ps) (a, dx :: ps')) H'
  h : H' a = some (.ins (cl.f c) dx vf')
  d : H' dx = some (.own a)
  n : (a :: dx :: ps').Nodup
  nw : ∀ p ∈ ps', p ∈ ps ∨ H p = none
  f : FldsOk K (mask H' (OW O (a, dx :: ps) (a, dx :: ps'))) H' ps' vf' fs'
def spO (K : PySem.W.Frag) (cl : CL) (c n : Nat) (m : List Ent → Tr (D × List (Str × Fld))) : Sp := fun vs H Q E => ∃ (O : Addr → Prop) (dt : Dl) (es : List Ent) (fs : List (Str × Fld)) (a dx : Addr) (ps : List Addr) (vf : List (Str × V)) (ws : List V), vs = .ref a :: ws ∧ es.length + 1 = n ∧ (∀ a, O a → ∃ o, H a = some o) ∧ (∀ a, dl dt a → O a) ∧ DrOk dt O H ∧
  (∀ p, inW (a, dx :: ps) p → O p ∧ ¬ dl dt p) ∧ H a = some (.ins (cl c) dx vf) ∧ H dx = some (.own a) ∧ (a :: dx :: ps).Nodup ∧ FldsOk K (mask H O) H ps vf fs ∧ ArgsOk K cl dt (mask H O) ws es ∧
  (m (.bo c fs :: es)).all (fun r => ∀ v H' ps' vf', Left K cl dt O H c a dx ps H' r.2 ps' vf' → Rep K (mask H' (OW O (a, dx :: ps) (a, dx :: ps'))) v r.1 → Q v H') (fun c => ∀ H', Kx dt O H H' → E (.ref (cl c)) none H')
structure CalO (P : Program) (w : World) (K : PySem.W.Frag) (mg : Str → Option Value) (base : Heap) (cl : CL) (c : Nat) (x : Str) (k n : Nat) (m : List Ent → Tr (D × List (Str × Fld))) : Prop where
  ex : ∃ f fd ps, FnOk P w K mg base (L2.CX P w) k f fd ps (spO K cl c n m) ∧ Meth K (cl c) x f ∧ Binds K fd ps []
/-- the ground behind the taking -/
noncomputable def Fx.take (F : Fx) (t : OTok) (ht : ∀ p, inW (t.a, t.dx :: t.ps) p → F.O p ∧ ¬ dl F.dt p) : Fx where
  K := F.K
  cl := F.cl
  H0 := mask F.H0 (inW (t.a, t.dx :: t.ps))
  O := fun p => F.O p ∧ ¬ inW (t.a, t.dx :: t.ps) p
  dt := F.dt
  tk := F.tk
  oin := fun a h => by
    obtain ⟨o, e⟩ := F.oin a h.1
    exact ⟨o, by rw [mask_out h.2]; exact e⟩
  odl := fun a h => ⟨F.odl a h, fun z => (ht a z).2 h⟩
  d0 := F.d0.move (mask_same fun a o n e => by
    have nw : ¬ inW (t.a, t.dx :: t.ps) a := fun z => n (ht a z).1
    exact ⟨fun z => n z.1, by rw [mask_out nw]; exact e⟩) fun b x hb e => by
    rw [mask_out fun z => (ht b z).2 hb]; exact e
/-- no other object is lent or taken -/
def aloneE : Ent → Bool
  | .bo _ _ => false
  | .om _ _ => false
  | _ => true
def loneE (i : Nat) (env : Envt) : Bool := (env.set i .un).all aloneE
section
variable {F : Fx} {B : Hp} {ad : Ads} {σ : St} {H H' : Hp} {env : List Ent}
theorem Ok.take (o : Ok F B ad σ H env) {c : Nat} {fs : List (Str × Fld)} {t : OTok} {i : Nat} (he : env[i]? = some (.bo c fs)) (hl : loneE i env = true) (htk : F.tk = some t) :
    ∃ ht : (∀ p, inW (t.a, t.dx :: t.ps) p → F.O p ∧ ¬ dl F.dt p), σ[i]? = some (some (.ref t.a)) ∧ Ok (F.take t ht) B (ad.set i (some (t.a, t.dx :: t.ps))) σ H (env.set i (.om c fs)) := by
  obtain ⟨oa, sv, e1, e2, q1, a, dx, ps, vs, q2, ⟨q0, qt⟩, q3, q4, q5, q6⟩ := o.at_ he
  subst q1 q2
  have et := qt t htk
  subst et
  refine ⟨q0, e2, ?_⟩
  have hi : i < ad.length := (List.getElem?_eq_some_iff.mp e1).1
  have hM : Mm (F.take ⟨a, dx, ps⟩ q0) (ad.set i (some (a, dx :: ps))) = Mm F ad := by
    funext x
    apply propext
    constructor
    · rintro (z | ⟨w, z, hw⟩)
      · exact .inl z.1
      · rcases List.mem_or_eq_of_mem_set z with y | y
        · exact .inr ⟨w, y, hw⟩
        · cases y; exact .inl (q0 x hw).1
    · rintro (z | ⟨w, z, hw⟩)
      · by_cases y : inW (a, dx :: ps) x
        · exact .inr ⟨_, List.mem_of_getElem? (List.getElem?_set_self hi), y⟩
        · exact .inl ⟨z, y⟩
      · obtain ⟨j, hj, e⟩ := List.getElem_of_mem z
        have ej : ad[j]? = some (some w) := by rw [List.getElem?_eq_getElem hj, e]
        have hji : i ≠ j := fun y => by subst y; rw [e1] at ej; cases ej
        exact .inr ⟨w, List.mem_of_getElem? (by rw [List.getElem?_set_ne hji]; exact ej), hw⟩
  have old : ∀ {j : Nat} {w : Own}, i ≠ j → (ad.set i (some (a, dx :: ps)))[j]? = some (some w) → ad[j]? = some (some w) := fun hj h => by rw [List.getElem?_set_ne hj] at h; exact h
  refine ⟨by rw [hM]; exact o.hb, ?_, o.ls.trans (by simp), by simp [o.la], fun j oa sv e h1 h2 h3 => ?_, fun j l v u x h1 h2 hu hv => ?_, fun j w x h hw => ?_⟩
  · rw [hM]
    exact ⟨fun b x e nd => o.k0.keep b x (mask_some e).2 nd, o.k0.dr⟩
  · by_cases hj : i = j
    · subst hj
      rw [List.getElem?_set_self hi] at h1
      rw [List.getElem?_set_self (by rw [← o.la]; exact hi)] at h3
      rw [e2] at h2
      cases h1; cases h2; cases h3
      exact ⟨⟨a, dx, ps⟩, ps, vs, htk, rfl, rfl, q3, q4, q5, by rw [hM]; exact q6⟩
    · rw [List.getElem?_set_ne hj] at h1 h3
      have q := o.ent j oa sv e h1 h2 h3
      have lo : aloneE e = true := List.all_eq_true.mp hl e (List.mem_of_getElem? (i := j) (by rw [List.getElem?_set_ne hj]; exact h3))
      cases e with
      | un => exact q
      | fz d => obtain ⟨r1, v, r2, r3⟩ := q; exact ⟨r1, v, r2, by rw [hM]; exact r3⟩
      | ow ds => obtain ⟨a', vs', r1, r2, r3, r4⟩ := q; exact ⟨a', vs', r1, r2, r3, by rw [hM]; exact r4⟩
      | od kvs => obtain ⟨a', vs', r1, r2, r3, r4⟩ := q; exact ⟨a', vs', r1, r2, r3, by rw [hM]; exact r4⟩
      | dr => exact q
      | ex c => obtain ⟨r1, a', r2, r3⟩ := q; exact ⟨r1, a', r2, by rw [hM]; exact r3⟩
      | fn c => exact q
      | ob c fs => obtain ⟨a', dx', ps', vs', r1, r2, r3, r4, r5, r6⟩ := q; exact ⟨a', dx', ps', vs', r1, r2, r3, r4, r5, by rw [hM]; exact r6⟩
      | ll dss => obtain ⟨a', ps', r1, r2, r3, r4, r5⟩ := q; exact ⟨a', ps', r1, r2, r3, r4, by rw [hM]; exact r5⟩
      | bo _ _ => cases lo
      | vo r k L => exact q
      | vp r1 k1 L1 r2 k2 L2 => obtain ⟨r1, v1, m1, v2, m2, i1, i2, t', r2, r3⟩ := q; exact ⟨r1, v1, m1, v2, m2, i1, i2, t', r2, by rw [hM]; exact r3⟩
      | om _ _ => cases lo
  · have dis : ∀ {k : Nat} {w : Own} {x : Addr}, ad[k]? = some (some w) → inW w x → ¬ inW (a, dx :: ps) x := fun h hw z => o.notOW h hw (q0 _ z).1
    by_cases hj : i = j
    · by_cases hl' : i = l
      · exact hj.symm.trans hl'
      · subst hj
        rw [List.getElem?_set_self hi] at h1
        cases h1
        exact absurd hu (dis (old hl' h2) hv)
    · by_cases hl' : i = l
      · subst hl'
        rw [List.getElem?_set_self hi] at h2
        cases h2
        exact absurd hv (dis (old hj h1) hu)
      · exact o.inj j l v u x (old hj h1) (old hl' h2) hu hv
  · by_cases hj : i = j
    · subst hj
      rw [List.getElem?_set_self hi] at h
      cases h
      exact mask_in hw
    · show mask F.H0 (inW (a, dx :: ps)) x = none
      unfold mask
      split
      · rfl
      · exact o.new j w x (old hj h) hw
end
/-- own phase: value and slots at the end -/
def PostO (F : Fx) (B : Hp) (N : Ends) (r : D × Envt) : Prop := ∀ ad σ H, Ok F B ad σ H r.2 → (∀ v, Rep F.K (mask H (Mm F ad)) v r.1 → N.rt v H) ∧ (r.1 = .none → N.nx σ H)
def DSsO (cl : CL) (X : Cx) (E : XK) (sts : List Stmt) (g : Envt → Tr (D × Envt)) : Prop := ∃ t, PSs X sts t ∧ ∀ (F : Fx) (B : Hp) (ad : Ads) (σ : St) (H : Hp) (env : Envt) (N : Ends), F.K = X.K → F.cl = cl → Ok F B ad σ H env → (g env).all (PostO F B N) (EOk F E) → t N σ H
/-- lent phase: value and attributes at the end -/
def PostL (F : Fx) (c : Nat) (t0 : OTok) (N : Ends) (r : D × List (Str × Fld)) : Prop := ∀ σ H' ps' vf', Left F.K F.cl F.dt F.O F.H0 c t0.a t0.dx t0.ps H' r.2 ps' vf' → (∀ v, Rep F.K (mask H' (OW F.O (t0.a, t0.dx :: t0.ps) (t0.a, t0.dx :: ps'))) v r.1 → N.rt v H') ∧ (r.1 = .none → N.nx σ H')
def DSsL (cl : CL) (X : Cx) (E : XK) (c : Nat) (sts : List Stmt) (g : Envt → Tr (D × List (Str × Fld))) : Prop := ∃ t, PSs X sts t ∧ ∀ (F : Fx) (B : Hp) (ad : Ads) (σ : St) (H : Hp) (env : Envt) (N : Ends) (t0 : OTok), F.K = X.K → F.cl = cl → F.tk = some t0 → Ok F B ad σ H env → (g env).all (PostL F c t0 N) (EOk F E) → t N σ H
def oSeq (u : Stm) (g : Envt → Tr (D × Envt)) : Envt → Tr (D × Envt) := fun env => (u env).bind fun o => match o with
  | .nx env' => g env'
  | _ => .bad
def lSeq (u : Stm) (g : Envt → Tr (D × List (Str × Fld))) : Envt → Tr (D × List (Str × Fld)) := fun env => (u env).bind fun o => match o with
  | .nx env' => g env'
  | _ => .bad
def oEnd (u : Stm) : Envt → Tr (D × Envt) := fun env => (u env).bind fun o => match o with
  | .nx env' => .ret (.none, env')
  | _ => .bad
def oRet (f : Envt → Tr D) : Envt → Tr (D × Envt) := fun env => (f env).bind fun d => .ret (d, env)
/-- the object becomes the slot's own; the attributes at the end -/
def lTake (c : Nat) (g : Envt → Tr (D × Envt)) : Envt → Tr (D × List (Str × Fld)) := fun env => match env[(0 : Nat)]? with
  | some (.bo c' fs) => if c' == c && loneE 0 env then (noExc (g (env.set 0 (.om c fs)))).bind fun r => match r.2[(0 : Nat)]? with
    | some (.om c'' fs') => if c'' == c then .ret (r.1, fs') else .bad
    | _ => .bad else .bad
  | _ => .bad
section
variable {cl : CL} {X : Cx} {E : XK} {e a b : Expr} {c : Nat} {f h : Envt → Tr D} {pos : Pos} {st : Stmt} {sts : List Stmt} {u v : Stm} {g : Envt → Tr (D × Envt)} {gl : Envt → Tr (D × List (Str × Fld))}
theorem dssO_end (h1 : DSs cl X E sts u) : DSsO cl X E sts (oEnd u) := by
  obtain ⟨t, p, r⟩ := h1
  refine ⟨t, p, fun F B ad σ H env N hk hc o k => ?_⟩
  refine r F B ad σ H env N hk hc o (Tr.all_mono (fun ou z => ?_) (fun _ z => z) (Tr.all_bind k))
  cases ou with
  | nx env' =>
    have z : PostO F B N (.none, env') := z
    exact fun ad' σ' H' o' => (z ad' σ' H' o').2 rfl
  | rt d => exact z.elim
  | bk e => exact z.elim
  | ct e => exact z.elim
theorem dssO_cons (h1 : DS cl X E st u) (h2 : DSsO cl X E sts g) : DSsO cl X E (st :: sts) (oSeq u g) := by
  obtain ⟨t, p, r⟩ := h1
  obtain ⟨t2, p2, r2⟩ := h2
  refine ⟨_, pss_cons p p2, fun F B ad σ H env N hk hc o k => ?_⟩
  refine r F B ad σ H env _ hk hc o (Tr.all_mono (fun ou z => ?_) (fun _ z => z) (Tr.all_bind k))
  cases ou with
  | nx env' => exact fun ad' σ' H' o' => r2 F B ad' σ' H' env' N hk hc o' z
  | rt d => exact z.elim
  | bk e => exact z.elim
  | ct e => exact z.elim
theorem dssO_ret (he : DE cl X E e f) : DSsO cl X E [.Return (some e) pos] (oRet f) := by
  obtain ⟨t, p, r⟩ := he
  refine ⟨_, pss_one (ps_ret p), fun F B ad σ H env N hk hc o k => ?_⟩
  refine r F B ad σ H env _ hk hc o (Tr.all_mono (fun d z v H1 k1 rv => ?_) (fun _ z => z) (Tr.all_bind k))
  have z : PostO F B N (d, env) := z
  exact (z ad σ H1 (o.kx k1)).1 v rv
theorem dssL_cons (h1 : DS cl X E st u) (h2 : DSsL cl X E c sts gl) : DSsL cl X E c (st :: sts) (lSeq u gl) := by
  obtain ⟨t, p, r⟩ := h1
  obtain ⟨t2, p2, r2⟩ := h2
  refine ⟨_, pss_cons p p2, fun F B ad σ H env N t0 hk hc ht o k => ?_⟩
  refine r F B ad σ H env _ hk hc o (Tr.all_mono (fun ou z => ?_) (fun _ z => z) (Tr.all_bind k))
  cases ou with
  | nx env' => exact fun ad' σ' H' o' => r2 F B ad' σ' H' env' N t0 hk hc ht o' z
  | rt d => exact z.elim
  | bk e => exact z.elim
  | ct e => exact z.elim
/-- the end of the own phase, as the caller sees it -/
theorem take_left {F : Fx} {B : Hp} {ad : Ads} {σ : St} {H : Hp} {env : List Ent} {t : OTok} {c : Nat} {fs : List (Str × Fld)} (ht : ∀ p, inW (t.a, t.dx :: t.ps) p → F.O p ∧ ¬ dl F.dt p) (htk : F.tk = some t) (o : Ok (F.take t ht) B ad σ H env) (he : env[0]? = some (.om c fs)) :
    ∃ ps vf, Left F.K F.cl F.dt F.O F.H0 c t.a t.dx t.ps H fs ps vf ∧ ∀ x, OW F.O (t.a, t.dx :: t.ps) (t.a, t.dx :: ps) x → Mm (F.take t ht) ad x := by
  obtain ⟨oa, sv, e1, e2, t', ps, vs, q0, q1, q2, q3, q4, q5, q6⟩ := o.at_ he
  have et : t' = t := by
    have q0 : F.tk = some t' := q0
    rw [htk] at q0; cases q0; rfl
  subst et
  subst q1
  have sub : ∀ x, OW F.O (t'.a, t'.dx :: t'.ps) (t'.a, t'.dx :: ps) x → Mm (F.take t' ht) ad x := fun x q => q.elim (fun z => .inl z) fun z => Mm_at e1 z
  refine ⟨ps, vs, ⟨fun b x hb nd nw => o.k0.keep b x (by show mask F.H0 _ b = _; rw [mask_out nw]; exact hb) nd, o.k0.dr.weak sub, q3, q4, q5, fun p hp => ?_, q6.move (mask_w sub) fun _ _ _ e => e⟩, sub⟩
  have hn : mask F.H0 (inW (t'.a, t'.dx :: t'.ps)) p = none := o.new 0 _ p e1 (.inr (List.mem_cons_of_mem _ hp))
  have n1 := List.nodup_cons.mp q5
  have n2 := List.nodup_cons.mp n1.2
  by_cases hw : inW (t'.a, t'.dx :: t'.ps) p
  · left
    rcases hw with z | z
    · exact absurd (show t'.a ∈ t'.dx :: ps from (show p = t'.a from z) ▸ List.mem_cons_of_mem _ hp) n1.1
    · rcases List.mem_cons.mp z with y | y
      · exact absurd (show t'.dx ∈ ps from y ▸ hp) n2.1
      · exact y
  · right
    rw [mask_out hw] at hn
    exact hn
theorem dssL_take (h1 : DSsO cl X E sts g) : DSsL cl X E c sts (lTake c g) := by
  obtain ⟨t, p, r⟩ := h1
  refine ⟨t, p, fun F B ad σ H env N t0 hk hc htk o k => ?_⟩
  unfold lTake at k
  split at k
  · rename_i c' fs he
    cases hq : c' == c && loneE 0 env with
    | false => rw [hq] at k; exact k.elim
    | true =>
      rw [hq] at k
      rw [Bool.and_eq_true] at hq
      have ec : c' = c := by simpa using hq.1
      subst ec
      obtain ⟨ht, _, o'⟩ := o.take he hq.2 htk
      refine r (F.take t0 ht) B _ σ H _ N hk hc o' (Tr.all_mono (fun rr z => ?_) (fun _ z => z.elim) (noExc_all (Tr.all_bind k)))
      obtain ⟨d, env'⟩ := rr
      intro ad2 σ2 H2 o2
      split at z
      · rename_i c2 fs2 he2
        cases hq2 : c2 == c' with
        | false => rw [hq2] at z; exact z.elim
        | true =>
          rw [hq2] at z
          have ec2 : c2 = c' := by simpa using hq2
          subst ec2
          obtain ⟨ps, vf, L, sub⟩ := take_left ht htk o2 he2
          have z : PostL F c2 t0 N (d, fs2) := z
          obtain ⟨z1, z2⟩ := z σ2 H2 ps vf L
          exact ⟨fun v rv => z1 v (rv.mono (mask_w sub)), z2⟩
      · exact z.elim
  · exact k.elim
end
def runL (N n : Nat) (g : Envt → Tr (D × List (Str × Fld))) : List Ent → Tr (D × List (Str × Fld)) := fun es => g (es ++ List.replicate (N - n) .un)
section
variable {P : Program} {w : World} {K : PySem.W.Frag} {mg : Str → Option Value} {base : Heap} {cl : CL}
open PySem.Spec PyProof.Rows in
theorem calO_of {c : Nat} {x qual : Str} {st : Stmt} {N ps : List Str} {k n : Nat} {g : Envt → Tr (D × List (Str × Fld))} (T : MethAt K (cl c) x qual st ps) (S : FnScope N ps (defScope st)) (hps : ps.length = n)
    (hbody : ∀ (f : Addr) (cdv : Value) (A : Around) (outer : List Env) (s : Shared) (H : Hp) (E : XK), Room k (A.deeper (envOfC qual (defScope st) s.heap.objs.size f cdv)) →
      DSsL cl (cxOf (L2.CX P w) P w K mg base N qual (defScope st) f cdv A outer s H E) E c (defBody st) g) : CalO P w K mg base cl c x (k + 1) n (runL N.length n g) := by
  obtain ⟨f, fd, F, gm, b⟩ := T.ex
  refine ⟨f, fd, ps, F.okX S (fun vs H Q E h => ?_) (fun cdv A outer s H vs Q E hr h => ?_), gm, b⟩
  · obtain ⟨O, dt, es, fs, a, dx, pp, vf, ws, rfl, hl, _, _, _, _, _, _, _, _, ha, _⟩ := h
    rw [List.length_cons, ha.length, hl, hps]
  · obtain ⟨O, dt, es, fs, a, dx, pp, vf, ws, rfl, hl, h1, h2, h3, h4, h5, h6, h7, h8, ha, hm⟩ := h
    obtain ⟨t, p, r⟩ := hbody f cdv A outer s H E hr
    refine ⟨t, p, ?_⟩
    obtain ⟨B, ad, o⟩ := start_lent (F := ⟨K, cl, H, O, dt, h1, h2, h3, some ⟨a, dx, pp⟩⟩) (N := N) (c := c) (fun t e => by cases e; rfl) h4 h5 h6 h7 h8 ha
    unfold runL at hm
    rw [← hl] at hm
    refine r ⟨K, cl, H, O, dt, h1, h2, h3, some ⟨a, dx, pp⟩⟩ _ _ _ H _ _ ⟨a, dx, pp⟩ rfl rfl rfl o (Tr.all_mono (fun rr z => ?_) (fun c z => z) hm)
    intro σ' H' ps' vf' L
    exact ⟨fun v rv => z v H' ps' vf' L rv, fun e => z .non H' ps' vf' L (by rw [e]; exact .non)⟩
end
end Mb
set_option maxHeartbeats 1000000
namespace Mb
open PySem L2
section
variable {F : Fx} {B : Hp} {ad : Ads} {σ : St} {H H' : Hp} {env : List Ent}
/-- the state behind a change of the object in slot i -/
theorem Ok.left (o : Ok F B ad σ H env) {i c : Nat} {fs fs' : List (Str × Fld)} {e : Ent} {a dx : Addr} {ps ps' : List Addr} {vs vf' : List (Str × V)} (he : env[i]? = some e) (q : OwnAt F ad σ H i c fs e a dx ps vs) (L : Left F.K F.cl F.dt (Mm F ad) H c a dx ps H' fs' ps' vf') :
    Ok F B (ad.set i (some (a, dx :: ps'))) σ H' (env.set i (withF e fs')) ∧ ∀ x, Mm F (ad.set i (some (a, dx :: ps'))) x → OW (Mm F ad) (a, dx :: ps) (a, dx :: ps') x := by
  have hi : i < ad.length := (List.getElem?_eq_some_iff.mp q.w).1
  have old : ∀ {j : Nat} {v : Own}, i ≠ j → (ad.set i (some (a, dx :: ps')))[j]? = some (some v) → ad[j]? = some (some v) := fun hj h => by rw [List.getElem?_set_ne hj] at h; exact h
  have self : ∀ {v : Own}, (ad.set i (some (a, dx :: ps')))[i]? = some (some v) → v = (a, dx :: ps') := fun h => by
    rw [List.getElem?_set_self hi] at h; cases h; rfl
  have apart : ∀ {j : Nat} {v : Own} {x : Addr}, i ≠ j → ad[j]? = some (some v) → inW v x → ¬ inW (a, dx :: ps) x := fun hj h hv z => hj (o.inj i _ _ _ _ q.w h z hv)
  have nw : ∀ x, inW (a, dx :: ps') x → inW (a, dx :: ps) x ∨ H x = none := fun x hx => by
    rcases hx with z | z
    · exact .inl (.inl z)
    · rcases List.mem_cons.mp z with y | y
      · exact .inl (.inr (by rw [y]; exact List.mem_cons_self))
      · rcases L.nw x y with h | h
        · exact .inl (.inr (List.mem_cons_of_mem _ h))
        · exact .inr h
  have wM : ∀ x, inW (a, dx :: ps) x → Mm F ad x := fun x hx => Mm_at q.w hx
  have sub : ∀ x, Mm F (ad.set i (some (a, dx :: ps'))) x → OW (Mm F ad) (a, dx :: ps) (a, dx :: ps') x := fun x hx => by
    rcases hx with z | ⟨v, z, hv⟩
    · exact .inl ⟨.inl z, fun y => o.notOW q.w y z⟩
    · obtain ⟨j, hj, e1⟩ := List.getElem_of_mem z
      have e1 : (ad.set i (some (a, dx :: ps')))[j]? = some (some v) := by rw [List.getElem?_eq_getElem hj, e1]
      by_cases hij : i = j
      · subst hij
        have := self e1
        subst this
        exact .inr hv
      · exact .inl ⟨Mm_at (old hij e1) hv, apart hij (old hij e1) hv⟩
  have ms : Same (mask H (Mm F ad)) (mask H' (Mm F (ad.set i (some (a, dx :: ps'))))) := mask_same fun x ob n e1 => by
    refine ⟨fun z => ?_, L.keep x ob e1 (fun z => n (Mm_dl z)) fun z => n (wM x z)⟩
    rcases sub x z with y | y
    · exact n y.1
    · rcases nw x y with y | y
      · exact n (wM x y)
      · rw [e1] at y; cases y
  refine ⟨⟨o.hb.trans ms, ⟨fun b ob e1 nd => ?_, L.dr.weak sub⟩, o.ls.trans (by simp), by simp [o.la], fun j oa sv e1 h1 h2 h3 => ?_, fun j l v u x h1 h2 hu hv => ?_, fun j v x h hv => ?_⟩, sub⟩
  · refine L.keep b ob (o.k0.keep b ob e1 nd) nd fun z => ?_
    rw [o.new i _ b q.w z] at e1; cases e1
  · by_cases hj : i = j
    · subst hj
      rw [List.getElem?_set_self hi] at h1
      rw [List.getElem?_set_self (by rw [← o.la]; exact hi)] at h3
      rw [q.s] at h2
      cases h1; cases h2; cases h3
      exact q.back L.h L.d L.n (L.f.move (mask_w sub) fun _ _ _ z => z)
    · rw [List.getElem?_set_ne hj] at h1 h3
      refine (o.ent j oa sv e1 h1 h2 h3).move rfl rfl rfl rfl ms (fun w x y e2 e3 e4 => ?_) (fun _ z => z) fun x y hx nd e2 => ?_
      · subst e2
        exact L.keep x y e4 (o.notdlW h1 e3) (apart hj h1 e3)
      · exact L.keep x y e2 nd fun z => o.notOW q.w z hx
  · by_cases hj : i = j
    · by_cases hl : i = l
      · exact hj.symm.trans hl
      · subst hj
        have := self h1
        subst this
        rcases nw x hu with y | y
        · exact absurd y (apart hl (old hl h2) hv)
        · exact absurd (Mm_at (old hl h2) hv) (o.notM y)
    · by_cases hl : i = l
      · subst hl
        have := self h2
        subst this
        rcases nw x hv with y | y
        · exact absurd y (apart hj (old hj h1) hu)
        · exact absurd (Mm_at (old hj h1) hu) (o.notM y)
      · exact o.inj j l v u x (old hj h1) (old hl h2) hu hv
  · by_cases hj : i = j
    · subst hj
      have := self h
      subst this
      rcases nw x hv with y | y
      · exact o.new i _ x q.w y
      · exact o.H0new y
    · exact o.new j v x (old hj h) hv
end
def PostY (F : Fx) (B : Hp) (σ : St) (Q : VK) (de : D × Envt) : Prop := ∀ v ad' H', Ok F B ad' σ H' de.2 → Rep F.K (mask H' (Mm F ad')) v de.1 → Q v H'
def DY (cl : CL) (X : Cx) (E : XK) (e : Expr) (f : Envt → Tr (D × Envt)) : Prop := ∃ t, PE X e t ∧ ∀ (F : Fx) (B : Hp) (ad : Ads) (σ : St) (H : Hp) (env : Envt) (Q : VK), F.K = X.K → F.cl = cl → Ok F B ad σ H env →
  (f env).all (PostY F B σ Q) (EOk F E) → t σ H Q
def PostYT (F : Fx) (B : Hp) (σ : St) (Q : Bool → Hp → Prop) (de : Bool × Envt) : Prop := ∀ ad' H', Ok F B ad' σ H' de.2 → Q de.1 H'
def DYT (cl : CL) (X : Cx) (E : XK) (e : Expr) (f : Envt → Tr (Bool × Envt)) : Prop := ∃ t, PT X e t ∧ ∀ (F : Fx) (B : Hp) (ad : Ads) (σ : St) (H : Hp) (env : Envt) (Q : Bool → Hp → Prop), F.K = X.K → F.cl = cl → Ok F B ad σ H env →
  (f env).all (PostYT F B σ Q) (EOk F E) → t σ H Q
/-- o.m(..) of an own object, which may be changed -/
def yAsk (n c : Nat) (mn : Str) (m : List Ent → Tr (D × List (Str × Fld))) (i : Nat) (g : Envt → Tr (List Ent)) : Envt → Tr (D × Envt) := fun env => match ownC i c env with
  | some (e, fs) => if (fldAt mn fs).isNone then (g env).bind fun es => if es.length + 1 == n then (m (.bo c fs :: es)).bind fun r => .ret (r.1, env.set i (withF e r.2)) else .bad else .bad
  | none => .bad
section
variable {cl : CL} {X : Cx} {E : XK} {e a b c : Expr} {f g h : Envt → Tr D} {pos : Pos} {sts : List Stmt} {u : Stm}
theorem askO_core {F : Fx} {B : Hp} {ad : Ads} {σ : St} {H : Hp} {env : Envt} {Q : VK} {i n c : Nat} {m : List Ent → Tr (D × List (Str × Fld))} {fs : List (Str × Fld)} {en : Ent} {a : Addr} {vs : List V} {es : List Ent} {H1 : Hp} (hk : F.K = X.K) (hc : F.cl = cl) (o : Ok F B ad σ H env) (he : env[i]? = some en) (ho : ownE en = some (c, fs)) (hs : σ[i]? = some (some (.ref a)))
    (k1 : Kx F.dt (Mm F ad) H H1) (rs : ArgsOk F.K F.cl F.dt (mask H1 (Mm F ad)) vs es) (z : (if es.length + 1 == n then (m (.bo c fs :: es)).bind fun r => .ret (r.1, env.set i (withF en r.2)) else .bad).all (PostY F B σ Q) (EOk F E)) : spO X.K cl c n m (.ref a :: vs) H1 Q E := by
  cases hl : es.length + 1 == n with
  | false => rw [hl] at z; exact z.elim
  | true =>
    rw [hl] at z
    have o1 := o.kx k1
    obtain ⟨a', dx, ps, vf, q⟩ := o1.own he ho
    have ea : a' = a := by have := q.s; rw [hs] at this; cases this; rfl
    subst ea
    refine ⟨Mm F ad, F.dt, es, fs, a', dx, ps, vf, vs, rfl, by simpa using hl, fun a q => o1.Msome q, fun a q => Mm_dl q, k1.dr, fun p hp => ⟨Mm_at q.w hp, o1.notdlW q.w hp⟩, by rw [← hc]; exact q.h, q.d, q.n, by rw [← hk]; exact q.f, by rw [← hk, ← hc]; exact rs, Tr.all_mono (fun r zd v H' ps' vf' L rv => ?_) (fun c zc H' k2 => ?_) (Tr.all_bind z)⟩
    · have zd : PostY F B σ Q (r.1, env.set i (withF en r.2)) := zd
      rw [← hk, ← hc] at L
      obtain ⟨o2, sub⟩ := o1.left he q L
      exact zd v _ H' o2 (by rw [hk]; exact rv.mono (mask_w sub))
    · rw [← hc]
      exact zc H' ((o1.k0.trans k2).weak fun a q => .inl q)
theorem dy_meth (i c : Nat) {k n : Nat} {m : List Ent → Tr (D × List (Str × Fld))} {x mn : Str} {es : List Expr} {p apos : Pos} {pl : Sem Bool} {g : Envt → Tr (List Ent)} (hC : Cls X.K (cl c)) (G : CalO X.prog X.w X.K X.mg X.base cl c mn k n m) (hr : Room k X.A) (hx : Passes (L2.CX X.prog X.w) X E) (ha : DA cl X E (e :: es) g)
    (hN : X.N[i]? = some x := by rfl) (hv : Vis X.env.scope x := by first | exact Or.inl rfl | exact Or.inr (Or.inl rfl) | exact Or.inr (Or.inr rfl)) (hd : (x == ("__debug__" : Str)) = false := by decide)
    (hcd : (x == ("__classdict__" : Str)) = false := by decide) (hst : starEach (e :: es) X.env = (false, eval e X.env) :: starEach es X.env := by rfl) (hpl : (backTo pos (starEach es X.env)).any (·.1) = false := by rfl)
    (ht : eval (.Call (.Attribute (.Name x p) mn apos) (e :: es) [] pos) X.env = (do
      let ov ← eval (.Name x p) X.env
      standAt apos.atName
      let (f, first) ← holding [ov] (getMethod ov mn pl)
      callWith pos f first (backTo pos (starEach (e :: es) X.env)) (backToKw pos (keywordEach [] X.env))) := by rfl) : DY cl X E (.Call (.Attribute (.Name x p) mn apos) (e :: es) [] pos) (yAsk n c mn m i g) := by
  obtain ⟨f, fd, ps, G, M, b⟩ := G.ex
  obtain ⟨t, pa, s⟩ := ha
  refine ⟨_, pe_meth (pe_var (i := i) hN hv hd hcd) hC M G hr b .nil hx pa hst hpl ht, fun F B ad σ H env Q hk hc o k => ?_⟩
  unfold yAsk at k
  split at k
  · rename_i en fs hown
    obtain ⟨he, ho⟩ := ownC_ok hown
    cases hq : (fldAt mn fs).isNone with
    | false => rw [hq] at k; exact k.elim
    | true =>
      rw [hq] at k
      obtain ⟨a, dx, pp, vf, q⟩ := o.own he ho
      refine ⟨_, q.s, a, dx, vf, rfl, by rw [← hc]; exact q.h, q.f.no_at (Option.isNone_iff_eq_none.mp hq), ?_⟩
      refine s F B ad σ H env _ hk hc o (Tr.all_mono (fun es z vs H1 k1 rs => ?_) (fun _ z => z) (Tr.all_bind k))
      show spO X.K cl c n m (V.ref a :: (vs ++ [])) H1 Q E
      rw [List.append_nil]
      exact askO_core hk hc o he ho q.s k1 rs z
  · exact k.elim
theorem dy_meth0 (i c : Nat) {k n : Nat} {m : List Ent → Tr (D × List (Str × Fld))} {x mn : Str} {p apos : Pos} {pl : Sem Bool} (hC : Cls X.K (cl c)) (G : CalO X.prog X.w X.K X.mg X.base cl c mn k n m) (hr : Room k X.A) (hx : Passes (L2.CX X.prog X.w) X E)
    (hN : X.N[i]? = some x := by rfl) (hv : Vis X.env.scope x := by first | exact Or.inl rfl | exact Or.inr (Or.inl rfl) | exact Or.inr (Or.inr rfl)) (hd : (x == ("__debug__" : Str)) = false := by decide)
    (hcd : (x == ("__classdict__" : Str)) = false := by decide)
    (ht : eval (.Call (.Attribute (.Name x p) mn apos) [] [] pos) X.env = (do
      let ov ← eval (.Name x p) X.env
      standAt apos.atName
      let (f, first) ← holding [ov] (getMethod ov mn pl)
      callWith pos f first (backTo pos (starEach [] X.env)) (backToKw pos (keywordEach [] X.env))) := by rfl) : DY cl X E (.Call (.Attribute (.Name x p) mn apos) [] [] pos) (yAsk n c mn m i aNil) := by
  obtain ⟨f, fd, ps, G, M, b⟩ := G.ex
  refine ⟨_, pe_meth0 (pe_var (i := i) hN hv hd hcd) hC M G hr b .nil hx ht, fun F B ad σ H env Q hk hc o k => ?_⟩
  unfold yAsk at k
  split at k
  · rename_i en fs hown
    obtain ⟨he, ho⟩ := ownC_ok hown
    cases hq : (fldAt mn fs).isNone with
    | false => rw [hq] at k; exact k.elim
    | true =>
      rw [hq] at k
      obtain ⟨a, dx, pp, vf, q⟩ := o.own he ho
      refine ⟨_, q.s, a, dx, vf, rfl, by rw [← hc]; exact q.h, q.f.no_at (Option.isNone_iff_eq_none.mp hq), ?_⟩
      exact askO_core hk hc o he ho q.s (Kx.refl o.k0.dr) .nil (show Tr.all _ _ (if ([] : List Ent).length + 1 == n then (m [.bo c fs]).bind fun r => .ret (r.1, env.set i (withF en r.2)) else .bad) from k)
  · exact k.elim
def sDropY (f : Envt → Tr (D × Envt)) : Stm := fun env => (f env).bind fun de => .ret (.nx de.2)
theorem ds_exprY {f : Envt → Tr (D × Envt)} (he : DY cl X E e f) (hs : swapsWith e none pos.line X.env = pure false := by rfl) : DS cl X E (.Expr e pos) (sDropY f) := by
  obtain ⟨t, p, r⟩ := he
  refine ⟨_, ps_expr p hs, fun F B ad σ H env N hk hc o k => ?_⟩
  refine r F B ad σ H env _ hk hc o (Tr.all_mono (fun d z v ad' H1 o1 rv => ?_) (fun _ z => z) (Tr.all_bind k))
  exact z ad' σ H1 o1
def yT (f : Envt → Tr (D × Envt)) : Envt → Tr (Bool × Envt) := fun env => (f env).bind fun de => (ofO (asB de.1)).bind fun b => .ret (b, de.2)
end
end Mb
set_option maxHeartbeats 1000000
namespace Mb
open PySem L2
theorem putF_cons (nm n : Str) (y v : V) (vs : List (Str × V)) : L2.putF nm y ((n, v) :: vs) = if n = nm then (n, y) :: vs else (n, v) :: L2.putF nm y vs := rfl
section
variable {K : PySem.W.Frag} {M H : Hp} {nm : Str} {ps : List Addr} {vs : List (Str × V)} {fs : List (Str × Fld)}
theorem FldsOk.snoc {v : V} {d : D} (r : Rep K M v d) (h : FldsOk K M H ps vs fs) : fldAt nm fs = none → FldsOk K M H ps (L2.putF nm v vs) (setFld nm (.fz d) fs) := by
  induction h with
  | nil => intro _; exact .fz r .nil
  | fz r' _ ih =>
    intro q; unfold fldAt at q
    split at q
    · cases q
    · rename_i hn
      have hn' := hn; simp only [beq_iff_eq] at hn'
      rw [putF_cons, if_neg hn']; unfold setFld; rw [if_neg hn]; exact .fz r' (ih q)
  | ow p' r' _ ih =>
    intro q; unfold fldAt at q
    split at q
    · cases q
    · rename_i hn
      have hn' := hn; simp only [beq_iff_eq] at hn'
      rw [putF_cons, if_neg hn']; unfold setFld; rw [if_neg hn]; exact .ow p' r' (ih q)
  | od p' r' _ ih =>
    intro q; unfold fldAt at q
    split at q
    · cases q
    · rename_i hn
      have hn' := hn; simp only [beq_iff_eq] at hn'
      rw [putF_cons, if_neg hn']; unfold setFld; rw [if_neg hn]; exact .od p' r' (ih q)
theorem FldsOk.snoc_ow {p : Addr} {xs : List V} {ds : List D} (hp : H p = some (.lst xs)) (r : RepAll K M xs ds) (h : FldsOk K M H ps vs fs) : fldAt nm fs = none → FldsOk K M H (ps ++ [p]) (L2.putF nm (.ref p) vs) (setFld nm (.ow ds) fs) := by
  induction h with
  | nil => intro _; exact .ow hp r .nil
  | fz r' _ ih =>
    intro q; unfold fldAt at q
    split at q
    · cases q
    · rename_i hn
      have hn' := hn; simp only [beq_iff_eq] at hn'
      rw [putF_cons, if_neg hn']; unfold setFld; rw [if_neg hn]; exact .fz r' (ih q)
  | ow p' r' _ ih =>
    intro q; unfold fldAt at q
    split at q
    · cases q
    · rename_i hn
      have hn' := hn; simp only [beq_iff_eq] at hn'
      rw [putF_cons, if_neg hn']; unfold setFld; rw [if_neg hn]; exact .ow p' r' (ih q)
  | od p' r' _ ih =>
    intro q; unfold fldAt at q
    split at q
    · cases q
    · rename_i hn
      have hn' := hn; simp only [beq_iff_eq] at hn'
      rw [putF_cons, if_neg hn']; unfold setFld; rw [if_neg hn]; exact .od p' r' (ih q)
theorem FldsOk.len (h : FldsOk K M H ps vs fs) : vs.length = fs.length := by
  induction h with
  | nil => rfl
  | fz _ _ ih => simp [ih]
  | ow _ _ _ ih => simp [ih]
  | od _ _ _ ih => simp [ih]
end
/-- self.f = e -/
def setFE (i c : Nat) (nm : Str) (f : Fld) (env : Envt) : Option Envt := match ownC i c env with
  | some (e, fs) => if (fldAt nm fs).isNone && decide (fs.length < 900) then some (env.set i (withF e (setFld nm f fs))) else none
  | none => none
def sSetF (i c : Nat) (nm : Str) (f : Envt → Tr D) : Stm := fun env => (f env).bind fun d => (ofO (setFE i c nm (.fz d) env)).bind fun env' => .ret (.nx env')
def sSetFL (i c : Nat) (nm : Str) (f : Envt → Tr (List D)) : Stm := fun env => (f env).bind fun d => (ofO (setFE i c nm (.ow d) env)).bind fun env' => .ret (.nx env')
theorem setFE_ok {i c : Nat} {nm : Str} {f : Fld} {env env' : Envt} (h : setFE i c nm f env = some env') : ∃ e fs, env[i]? = some e ∧ ownE e = some (c, fs) ∧ fldAt nm fs = none ∧ fs.length < 900 ∧ env' = env.set i (withF e (setFld nm f fs)) := by
  unfold setFE at h
  split at h
  · rename_i e fs hown
    obtain ⟨h1, h2⟩ := ownC_ok hown
    split at h
    · rename_i hq
      rw [Bool.and_eq_true] at hq
      cases h
      exact ⟨e, fs, h1, h2, Option.isNone_iff_eq_none.mp hq.1, of_decide_eq_true hq.2, rfl⟩
    · cases h
  · cases h
section
variable {cl : CL} {X : Cx} {E : XK} {e a b c : Expr} {f g h : Envt → Tr D} {pos : Pos} {sts : List Stmt} {u : Stm}
theorem ow_self {M : Addr → Prop} {w : Own} (hM : ∀ p, inW w p → M p) : ∀ x, OW M w w x → M x := fun x h => h.elim (fun z => z.1) (hM x)
theorem ow_more {M : Addr → Prop} {a dx p : Addr} {ps : List Addr} (hM : ∀ x, inW (a, dx :: ps) x → M x) : ∀ x, OW M (a, dx :: ps) (a, dx :: (ps ++ [p])) x → M x ∨ x = p := fun x h => by
  rcases h with z | z | z
  · exact .inl z.1
  · exact .inl (hM x (.inl z))
  · rcases List.mem_cons.mp z with y | y
    · exact .inl (hM x (.inr (by rw [y]; exact List.mem_cons_self)))
    · rcases List.mem_append.mp y with y | y
      · exact .inl (hM x (.inr (List.mem_cons_of_mem _ y)))
      · exact .inr (List.mem_singleton.mp y)
/-- a new part p, the object written -/
theorem Ok.grow {F : Fx} {B : Hp} {ad : Ads} {σ : St} {H H1 : Hp} {env : List Ent} (o : Ok F B ad σ H env) {i c : Nat} {nm : Str} {en : Ent} {fs fs' : List (Str × Fld)} {a dx : Addr} {ps : List Addr} {vs : List (Str × V)} {p : Addr} (he : env[i]? = some en) (q : OwnAt F ad σ H i c fs en a dx ps vs)
    (k : Kx F.dt (fun x => Mm F ad x ∨ x = p) H H1) (hn : H p = none) (hf : FldsOk F.K (mask H1 fun x => Mm F ad x ∨ x = p) H1 ps vs fs → FldsOk F.K (mask H1 fun x => Mm F ad x ∨ x = p) H1 (ps ++ [p]) (L2.putF nm (.ref p) vs) fs') :
    ∃ ad', Ok F B ad' σ (upd H1 a (.ins (F.cl c) dx (L2.putF nm (.ref p) vs))) (env.set i (withF en fs')) := by
  have wM : ∀ x, inW (a, dx :: ps) x → Mm F ad x := fun x hx => Mm_at q.w hx
  have wd : ∀ x, inW (a, dx :: ps) x → ¬ dl F.dt x := fun x hx => o.notdlW q.w hx
  have ex : ∀ x, inW (a, dx :: ps) x → ∃ y, H x = some y := fun x hx => o.Msome (wM x hx)
  have n1 := List.nodup_cons.mp q.n
  have n2 := List.nodup_cons.mp n1.2
  have pW : ∀ x, inW (a, dx :: ps) x → x ≠ p := fun x hx z => by
    obtain ⟨y, e⟩ := ex x hx
    rw [z, hn] at e; cases e
  have adx : dx ≠ a := fun z => n1.1 (by rw [z]; exact List.mem_cons_self)
  have pa : ∀ x ∈ ps, x ≠ a := fun x hx z => n1.1 (by rw [← z]; exact List.mem_cons_of_mem _ hx)
  have me : ∀ {M' : Addr → Prop}, (∀ x, M' x → (Mm F ad x ∨ x = p)) → Same (mask H1 fun x => Mm F ad x ∨ x = p) (mask (upd H1 a (.ins (F.cl c) dx (L2.putF nm (.ref p) vs))) M') := fun hM => mask_same fun x y n e => ⟨fun z => n (hM x z), by rw [upd_ne (fun z => n (.inl (by rw [z]; exact wM a (.inl rfl))))]; exact e⟩
  have old : FldsOk F.K (mask H1 fun x => Mm F ad x ∨ x = p) H1 ps vs fs := q.f.move (mask_same fun x y n e => ⟨fun z => z.elim n (fun z => by rw [z, hn] at e; cases e), k.keep x y e fun z => n (Mm_dl z)⟩) fun x hx y e => k.keep x y e (wd x (.inr (List.mem_cons_of_mem _ hx)))
  refine ⟨_, (o.left he q (H' := upd H1 a (.ins (F.cl c) dx (L2.putF nm (.ref p) vs))) (ps' := ps ++ [p]) (vf' := L2.putF nm (.ref p) vs) (fs' := fs') ⟨fun b ob e nd nw => ?_, (k.dr.put (.inl (wM a (.inl rfl))) (wd a (.inl rfl))).weak (ow_more wM), upd_same, ?_, ?_, fun x hx => ?_, ?_⟩).1⟩
  · rw [upd_ne (fun z => nw (.inl z))]; exact k.keep b ob e nd
  · rw [upd_ne adx]; exact k.keep _ _ q.d (wd dx (.inr List.mem_cons_self))
  · have nn : (ps ++ [p]).Nodup := List.nodup_append.mpr ⟨n2.2, by simp, fun x hx y hy e => by
      rw [List.mem_singleton.mp hy] at e
      exact pW x (.inr (List.mem_cons_of_mem _ hx)) e⟩
    refine List.nodup_cons.mpr ⟨fun z => ?_, List.nodup_cons.mpr ⟨fun z => ?_, nn⟩⟩
    · rcases List.mem_cons.mp z with y | y
      · exact adx y.symm
      · rcases List.mem_append.mp y with y | y
        · exact pa a y rfl
        · exact pW a (.inl rfl) (List.mem_singleton.mp y)
    · rcases List.mem_append.mp z with y | y
      · exact n2.1 y
      · exact pW dx (.inr List.mem_cons_self) (List.mem_singleton.mp y)
  · rcases List.mem_append.mp hx with y | y
    · exact .inl y
    · exact .inr (by rw [List.mem_singleton.mp y]; exact hn)
  · refine (hf old).move (me (ow_more wM)) fun x hx y e => ?_
    rw [upd_ne (fun z => ?_)]; exact e
    rcases List.mem_append.mp hx with y | y
    · exact pa x y z
    · exact pW a (.inl rfl) (by rw [← z]; exact List.mem_singleton.mp y)
/-- .. a value -/
theorem Ok.setF {F : Fx} {B : Hp} {ad : Ads} {σ : St} {H : Hp} {env : List Ent} (o : Ok F B ad σ H env) {i c : Nat} {nm : Str} {en : Ent} {fs : List (Str × Fld)} {a dx : Addr} {ps : List Addr} {vs : List (Str × V)} {v : V} {d : D} (he : env[i]? = some en) (q : OwnAt F ad σ H i c fs en a dx ps vs) (hq : fldAt nm fs = none)
    (r : Rep F.K (mask H (Mm F ad)) v d) : ∃ ad', Ok F B ad' σ (upd H a (.ins (F.cl c) dx (L2.putF nm v vs))) (env.set i (withF en (setFld nm (.fz d) fs))) := by
  have wM : ∀ x, inW (a, dx :: ps) x → Mm F ad x := fun x hx => Mm_at q.w hx
  have wd : ∀ x, inW (a, dx :: ps) x → ¬ dl F.dt x := fun x hx => o.notdlW q.w hx
  have n1 := List.nodup_cons.mp q.n
  have adx : dx ≠ a := fun z => n1.1 (by rw [z]; exact List.mem_cons_self)
  have pa : ∀ x ∈ ps, x ≠ a := fun x hx z => n1.1 (by rw [← z]; exact List.mem_cons_of_mem _ hx)
  have me : ∀ {M' : Addr → Prop}, (∀ x, M' x → Mm F ad x) → Same (mask H (Mm F ad)) (mask (upd H a (.ins (F.cl c) dx (L2.putF nm v vs))) M') := fun hM => mask_same fun x y n e => ⟨fun z => n (hM x z), by rw [upd_ne (fun z => n (by rw [z]; exact wM a (.inl rfl)))]; exact e⟩
  refine ⟨_, (o.left he q (H' := upd H a (.ins (F.cl c) dx (L2.putF nm v vs))) (ps' := ps) (vf' := L2.putF nm v vs) (fs' := setFld nm (.fz d) fs) ⟨fun b ob e nd nw => ?_, (o.k0.dr.put (wM a (.inl rfl)) (wd a (.inl rfl))).weak (ow_self wM), upd_same, ?_, q.n, fun x hx => .inl hx, ?_⟩).1⟩
  · rw [upd_ne (fun z => nw (.inl z))]; exact e
  · rw [upd_ne adx]; exact q.d
  · refine (q.f.snoc r hq).move (me (ow_self wM)) fun x hx y e => ?_
    rw [upd_ne (pa x hx)]; exact e
theorem ds_setF (i n : Nat) {x nm : Str} {p pos' : Pos} (hC : Cls X.K (cl n)) (hna : NoAttr X.K (cl n) nm) (he : DE cl X E e f) (hN : X.N[i]? = some x := by rfl) (hv : Vis X.env.scope x := by first | exact Or.inl rfl | exact Or.inr (Or.inl rfl) | exact Or.inr (Or.inr rfl)) (hd : (x == ("__debug__" : Str)) = false := by decide)
    (hcd : (x == ("__classdict__" : Str)) = false := by decide) (hs : swapsWith e (some (.Attribute (.Name x p) nm pos')) pos.line X.env = pure false := by rfl) : DS cl X E (.Assign [.Attribute (.Name x p) nm pos'] e pos) (sSetF i n nm f) := by
  obtain ⟨t, pe, r⟩ := he
  refine ⟨_, ps_fld (pe_var (i := i) hN hv hd hcd) pe hs, fun F B ad σ H env N hk hc o k => ?_⟩
  refine r F B ad σ H env _ hk hc o (Tr.all_mono (fun d z v H1 k1 rv => ?_) (fun _ z => z) (Tr.all_bind k))
  have o1 := o.kx k1
  cases hq : setFE i n nm (.fz d) env with
  | none => rw [hq] at z; exact z.elim
  | some env' =>
    rw [hq] at z
    obtain ⟨en, fs, h1, h2, h3, h4, rfl⟩ := setFE_ok hq
    obtain ⟨a, dx, ps, vs, q⟩ := o1.own h1 h2
    obtain ⟨ad', o2⟩ := o1.setF h1 q h3 rv
    have hl := q.f.len
    exact ⟨_, q.s, a, F.cl n, dx, vs, rfl, q.h, by rw [hc]; exact hC, by rw [hc]; exact hna, by omega, z ad' σ _ o2⟩
theorem ds_setFL (i n : Nat) {x nm : Str} {p pos' : Pos} {f : Envt → Tr (List D)} (hC : Cls X.K (cl n)) (hna : NoAttr X.K (cl n) nm) (he : DN cl X E e f) (hN : X.N[i]? = some x := by rfl) (hv : Vis X.env.scope x := by first | exact Or.inl rfl | exact Or.inr (Or.inl rfl) | exact Or.inr (Or.inr rfl)) (hd : (x == ("__debug__" : Str)) = false := by decide)
    (hcd : (x == ("__classdict__" : Str)) = false := by decide) (hs : swapsWith e (some (.Attribute (.Name x p) nm pos')) pos.line X.env = pure false := by rfl) : DS cl X E (.Assign [.Attribute (.Name x p) nm pos'] e pos) (sSetFL i n nm f) := by
  obtain ⟨t, pe, r⟩ := he
  refine ⟨_, ps_fld (pe_var (i := i) hN hv hd hcd) pe hs, fun F B ad σ H env N hk hc o k => ?_⟩
  refine r F B ad σ H env _ hk hc o (Tr.all_mono (fun d z p H1 ws k1 hn hp rv => ?_) (fun _ z => z) (Tr.all_bind k))
  cases hq : setFE i n nm (.ow d) env with
  | none => rw [hq] at z; exact z.elim
  | some env' =>
    rw [hq] at z
    obtain ⟨en, fs, h1, h2, h3, h4, rfl⟩ := setFE_ok hq
    obtain ⟨a, dx, ps, vs, q⟩ := o.own h1 h2
    obtain ⟨ad', o2⟩ := o.grow h1 q k1 hn (nm := nm) (fs' := setFld nm (.ow d) fs) fun h => h.snoc_ow hp rv h3
    have hl := q.f.len
    have ha1 : H1 a = some (.ins (F.cl n) dx vs) := k1.keep _ _ q.h (o.notdlW q.w (.inl rfl))
    exact ⟨_, q.s, a, F.cl n, dx, vs, rfl, ha1, by rw [hc]; exact hC, by rw [hc]; exact hna, by omega, z ad' σ _ o2⟩
end
/-- what __init__ leaves -/
structure LeftN (K : PySem.W.Frag) (cl : CL) (dt : Dl) (O : Addr → Prop) (H1 : Hp) (c : Nat) (x dx : Addr) (H' : Hp) (fs : List (Str × Fld)) (ps : List Addr) (vf : List (Str × V)) : Prop where
  k : Kx dt (fun a => O a ∨ inW (x, dx :: ps) a) H1 H'
  h : H' x = some (.ins (cl.f c) dx vf)
  d : H' dx = some (.own x)
  n : (x :: dx :: ps).Nodup
  nw : ∀ p ∈ ps, H1 p = none
  f : FldsOk K (mask H' fun a => O a ∨ inW (x, dx :: ps) a) H' ps vf fs
def spG (K : PySem.W.Frag) (cl : CL) (c n : Nat) (m : List Ent → Tr (List (Str × Fld))) : Sp := fun vs H Q E => ∃ (O : Addr → Prop) (dt : Dl) (es : List Ent) (H1 : Hp) (x dx : Addr) (ws : List V), vs = .ref x :: ws ∧ H1 x = none ∧ H1 dx = none ∧ dx ≠ x ∧ H = upd (upd H1 dx (.own x)) x (.ins (cl c) dx []) ∧
  es.length = n ∧ (∀ a, O a → ∃ o, H1 a = some o) ∧ (∀ a, dl dt a → O a) ∧ DrOk dt O H1 ∧ ArgsOk K cl dt (mask H1 O) ws es ∧ (m es).all (fun fs => ∀ H' ps vf, LeftN K cl dt O H1 c x dx H' fs ps vf → Q .non H') (fun c => ∀ H', Kx dt O H1 H' → E (.ref (cl c)) none H')
/-- a class of the text, an __init__ of its own: what the attributes are -/
structure CalG (P : Program) (w : World) (K : PySem.W.Frag) (mg : Str → Option Value) (base : Heap) (cl : CL) (c : Nat) (x : Str) (k n : Nat) (m : List Ent → Tr (List (Str × Fld))) : Prop where
  ex : ∃ f fd ps, FnOk P w K mg base (L2.CX P w) k f fd ps (spG K cl c n m) ∧ Mk K (cl c) f ∧ mg x = some (.ref (cl c)) ∧ Binds K fd ps []
/-- the body of __init__ -/
def runG (N n c : Nat) (g : Envt → Tr (D × Envt)) : List Ent → Tr (List (Str × Fld)) := fun es => (g (.om c [] :: (es ++ List.replicate (N - (n + 1)) .un))).bind fun r => match r.2[(0 : Nat)]? with
  | some (.om c' fs) => if c' == c then (match r.1 with | .none => .ret fs | _ => .bad) else .bad
  | _ => .bad
theorem start_made {F : Fx} {N : List Str} {c : Nat} {x dx : Addr} {ws : List V} {es : List Ent} (ht : F.tk = some ⟨x, dx, []⟩) (hx : F.H0 x = none) (hdx : F.H0 dx = none) (ne : dx ≠ x) (ha : ArgsOk F.K F.cl F.dt (mask F.H0 F.O) ws es) :
    ∃ B ad, Ok F B ad (L2.start N (.ref x :: ws)) (upd (upd F.H0 dx (.own x)) x (.ins (F.cl c) dx [])) (.om c [] :: (es ++ List.replicate (N.length - (es.length + 1)) .un)) := by
  have o := start_ok (F := F) (N := N) (vs := .non :: ws) (es := .fz .none :: es) (.cons (show ArgOk F.K F.cl F.dt (mask F.H0 F.O) .non (.fz .none) from .non) ha)
  have hx1 : upd F.H0 dx (.own x) x = none := by rw [upd_ne ne.symm]; exact hx
  have k1 : Kx F.dt (fun a => F.O a ∨ a = dx) F.H0 (upd F.H0 dx (.own x)) := Kx.newW F.d0 hdx
  have k2 := k1.trans (Kx.newW (o := .ins (F.cl c) dx []) k1.dr hx1)
  have hM : ∀ a, Mm F (List.replicate ((Ent.fz .none :: es).length + (N.length - (Ent.fz .none :: es).length)) none) a → F.O a := fun a q => q.elim id fun ⟨w, z, _⟩ => by cases List.eq_of_mem_replicate z
  have q := o.setNewW (i := 0) (w := (x, [dx])) (sv' := .ref x) (e' := .om c []) (H' := upd (upd F.H0 dx (.own x)) x (.ins (F.cl c) dx [])) (k2.weak fun a q => by
    rcases q with z | z | z
    · exact .inl (.inl (hM a z))
    · exact .inr z
    · exact .inl (.inr (List.mem_singleton.mp z))) (fun a h => by
    rcases h with z | z
    · have z : a = x := z
      rw [z]; exact hx
    · rw [List.mem_singleton.mp z]; exact hdx) ⟨⟨x, dx, []⟩, [], [], ht, rfl, rfl, upd_same, by rw [upd_ne ne]; exact upd_same, by simp [Ne.symm ne], .nil⟩
  rw [start_cons] at q
  exact ⟨_, _, q⟩
section
variable {P : Program} {w : World} {K : PySem.W.Frag} {mg : Str → Option Value} {base : Heap} {cl : CL}
open PySem.Spec PyProof.Rows in
theorem calG_of {c : Nat} {x qual : Str} {st : Stmt} {N ps as : List Str} {k n : Nat} {g : Envt → Tr (D × Envt)} (T : MkAt K mg x qual (cl c) st ps as) (S : FnScope N ps (defScope st)) (hps : ps.length = n + 1)
    (hbody : ∀ (f : Addr) (cdv : Value) (A : Around) (outer : List Env) (s : Shared) (H : Hp) (E : XK), Room k (A.deeper (envOfC qual (defScope st) s.heap.objs.size f cdv)) →
      DSsO cl (cxOf (L2.CX P w) P w K mg base N qual (defScope st) f cdv A outer s H E) E (defBody st) g) : CalG P w K mg base cl c x (k + 1) n (runG N.length n c g) := by
  obtain ⟨f, fd, F, b, M⟩ := T.ex
  refine ⟨f, fd, ps, F.okX S (fun vs H Q E h => ?_) (fun cdv A outer s H vs Q E hr h => ?_), M, T.g, b⟩
  · obtain ⟨O, dt, es, H1, x, dx, ws, rfl, _, _, _, _, hl, _, _, _, ha, _⟩ := h
    rw [List.length_cons, ha.length, hl, hps]
  · obtain ⟨O, dt, es, H1, x, dx, ws, rfl, nx, ndx, ne, rfl, hl, h1, h2, h3, ha, hm⟩ := h
    obtain ⟨t, p, r⟩ := hbody f cdv A outer s _ E hr
    refine ⟨t, p, ?_⟩
    obtain ⟨B, ad, o⟩ := start_made (F := ⟨K, cl, H1, O, dt, h1, h2, h3, some ⟨x, dx, []⟩⟩) (N := N) (c := c) rfl nx ndx ne ha
    unfold runG at hm
    rw [← hl] at hm
    refine r ⟨K, cl, H1, O, dt, h1, h2, h3, some ⟨x, dx, []⟩⟩ _ _ _ _ _ _ rfl rfl o (Tr.all_mono (fun rr z => ?_) (fun c z => z) (Tr.all_bind hm))
    obtain ⟨d, env'⟩ := rr
    intro ad2 σ2 H2 o2
    split at z
    · rename_i c2 fs2 he2
      cases hq2 : c2 == c with
      | false => rw [hq2] at z; exact z.elim
      | true =>
        rw [hq2] at z
        have ec2 : c2 = c := by simpa using hq2
        subst ec2
        have he2 : env'[0]? = some (.om c2 fs2) := he2
        obtain ⟨oa, sv, e1, e2, t', pp, vs, q0, q1, q2, q3, q4, q5, q6⟩ := o2.at_ he2
        cases q0
        subst q1
        have sub : ∀ a, (O a ∨ inW (x, dx :: pp) a) → Mm ⟨K, cl, H1, O, dt, h1, h2, h3, some ⟨x, dx, []⟩⟩ ad2 a := fun a q => q.elim .inl fun z => Mm_at e1 z
        have L : LeftN K cl dt O H1 c2 x dx H2 fs2 pp vs := ⟨o2.k0.weak sub, q3, q4, q5, fun p hp => o2.new 0 _ p e1 (.inr (List.mem_cons_of_mem _ hp)), q6.move (mask_w sub) fun _ _ _ e => e⟩
        cases d with
        | none =>
          have z : ∀ H' ps vf, LeftN K cl dt O H1 c2 x dx H' fs2 ps vf → Q .non H' := z
          exact ⟨fun v rv => by cases rv; exact z _ _ _ L, fun _ => z _ _ _ L⟩
        | _ => exact z.elim
    · exact z.elim
end
/-- y = C(..) -/
def sMkO (i c n : Nat) (m : List Ent → Tr (List (Str × Fld))) (g : Envt → Tr (List Ent)) : Stm := fun env => (g env).bind fun es => if es.length == n then (m es).bind fun fs => .ret (.nx (env.set i (.ob c fs))) else .bad
section
variable {cl : CL} {X : Cx} {E : XK} {e a b : Expr} {pos : Pos}
theorem ds_mkO (i c : Nat) {k n : Nat} {m : List Ent → Tr (List (Str × Fld))} {x y : Str} {es : List Expr} {p p2 spos : Pos} {g : Envt → Tr (List Ent)} (hN : X.N.Nodup) (G : CalG X.prog X.w X.K X.mg X.base cl c x k n m) (hr : Room (k + 1) X.A) (hx : Passes (L2.CX X.prog X.w) X E) (ha : DA cl X E (e :: es) g) (hg : Gl X x := by rfl) (hdb : (x == ("__debug__" : Str)) = false := by decide)
    (he : starEach (e :: es) X.env = (false, eval e X.env) :: starEach es X.env := by rfl) (hpl : (backTo pos (starEach es X.env)).any (·.1) = false := by rfl)
    (hi : X.N[i]? = some y := by rfl) (hy : Loc X.env.scope y := by first | exact Or.inl rfl | exact Or.inr rfl) (hs : swapsWith (.Call (.Name x p) (e :: es) [] pos) (some (.Name y p2)) spos.line X.env = pure false := by rfl)
    (hf : X.fn y = true ∨ X.env.scope.names.lookup y = some .local := by first | exact .inl rfl | exact .inr rfl | assumption) : DS cl X E (.Assign [.Name y p2] (.Call (.Name x p) (e :: es) [] pos) spos) (sMkO i c n m g) := by
  obtain ⟨f, fd, ps, G, M, hm, hb⟩ := G.ex
  obtain ⟨t, pa, s⟩ := ha
  refine ⟨_, ps_set (i := i) hN hi hy (pe_make M G hr hg hm hb .nil hx pa hdb he hpl) hs hf, fun F B ad σ H env N hk hc o k => ?_⟩
  refine s F B ad σ H env _ hk hc o (Tr.all_mono (fun es z vs H1 k1 rs => ?_) (fun _ z => z) (Tr.all_bind k))
  intro x dx nx ndx ne
  cases hl : es.length == n with
  | false => rw [hl] at z; exact z.elim
  | true =>
    rw [hl] at z
    have o1 := o.kx k1
    rw [List.append_nil]
    refine ⟨Mm F ad, F.dt, es, H1, x, dx, vs, rfl, nx, ndx, ne, rfl, by simpa using hl, fun a q => o1.Msome q, fun a q => Mm_dl q, k1.dr, by rw [← hk, ← hc]; exact rs, Tr.all_mono (fun fs zd H' ps vf L => ⟨rfl, ?_⟩) (fun c zc H' k2 => ?_) (Tr.all_bind z)⟩
    · rw [← hc]; exact zc H' ((o1.k0.trans k2).weak fun a q => .inl q)
    · have zd : SPost F B N (.nx (env.set i (.ob c fs))) := zd
      rw [← hk, ← hc] at L
      refine zd _ _ H' (o1.setNewW (i := i) (w := (x, dx :: ps)) (sv' := .ref x) (e' := .ob c fs) L.k (fun a h => ?_) ⟨x, dx, ps, vf, rfl, rfl, L.h, L.d, L.n, L.f.move (mask_w fun a q => Mm_setW q) fun _ _ _ e => e⟩)
      rcases h with z | z
      · have z : a = x := z
        rw [z]; exact nx
      · rcases List.mem_cons.mp z with y | y
        · rw [y]; exact ndx
        · exact L.nw a y
end
end Mb
set_option maxHeartbeats 1000000
namespace Mb
open PySem L2
section
variable {cl : CL} {X : Cx} {E : XK} {e a b c : Expr} {f g h : Envt → Tr D} {pos : Pos} {st : Stmt} {sts s1 s2 : List Stmt} {u v : Stm}
def yE (f : Envt → Tr D) : Envt → Tr (D × Envt) := fun env => (f env).bind fun d => .ret (d, env)
theorem DE.dy (q : DE cl X E e f) : DY cl X E e (yE f) := by
  obtain ⟨t, p, r⟩ := q
  exact ⟨t, p, fun F B ad σ H env Q hk hc o k => r F B ad σ H env Q hk hc o (Tr.all_mono (fun d z v H' kx rv => z v ad H' (o.kx kx) rv) (fun _ z => z) (Tr.all_bind k))⟩
def yTT (f : Envt → Tr Bool) : Envt → Tr (Bool × Envt) := fun env => (f env).bind fun d => .ret (d, env)
theorem DT.dyt {f : Envt → Tr Bool} (q : DT cl X E e f) : DYT cl X E e (yTT f) := by
  obtain ⟨t, p, r⟩ := q
  exact ⟨t, p, fun F B ad σ H env Q hk hc o k => r F B ad σ H env Q hk hc o (Tr.all_mono (fun d z H' kx => z ad H' (o.kx kx)) (fun _ z => z) (Tr.all_bind k))⟩
theorem RepAll.dropLast {K : PySem.W.Frag} {H : Hp} {vs : List V} {ds : List D} (r : RepAll K H vs ds) : RepAll K H vs.dropLast ds.dropLast := by
  rw [List.dropLast_eq_take, List.dropLast_eq_take, r.length]
  exact r.take _
/-- two operands -/
def y2 (op : D → D → Option D) (f g : Envt → Tr (D × Envt)) : Envt → Tr (D × Envt) := fun env => (f env).bind fun x => (g x.2).bind fun y => (ofO (op x.1 y.1)).bind fun z => .ret (z, y.2)
theorem y2_core {r : R2} {op : D → D → Option D} {ta tb : TE} {f g : Envt → Tr (D × Envt)} (hr : SemB X.K r op)
    (ra : ∀ (F : Fx) (B : Hp) (ad : Ads) (σ : St) (H : Hp) (env : Envt) (Q : VK), F.K = X.K → F.cl = cl → Ok F B ad σ H env → (f env).all (PostY F B σ Q) (EOk F E) → ta σ H Q)
    (rb : ∀ (F : Fx) (B : Hp) (ad : Ads) (σ : St) (H : Hp) (env : Envt) (Q : VK), F.K = X.K → F.cl = cl → Ok F B ad σ H env → (g env).all (PostY F B σ Q) (EOk F E) → tb σ H Q)
    {F : Fx} {B : Hp} {ad : Ads} {σ : St} {H : Hp} {env : Envt} {Q : VK} (hk : F.K = X.K) (hc : F.cl = cl) (o : Ok F B ad σ H env) (k : (y2 op f g env).all (PostY F B σ Q) (EOk F E)) : tOp r ta tb σ H Q := by
  refine ra F B ad σ H env _ hk hc o (Tr.all_mono (fun x z v ad1 H1 o1 rx => ?_) (fun _ z => z) (Tr.all_bind k))
  refine rb F _ ad1 σ H1 x.2 _ hk hc o1.ground (Tr.all_mono (fun y z w ad2 H2 o2 ry => ?_) (fun _ z => z) (Tr.all_bind z))
  cases hz : op x.1 y.1 with
  | none => rw [hz] at z; exact z.elim
  | some d =>
    rw [hz] at z
    have z : PostY F B σ Q (d, y.2) := z
    refine hr H2 v w x.1 y.1 d Q ?_ ?_ hz fun u ru => z u ad2 H2 (o2.base o1.hb) (by rw [hk]; exact ru _)
    · rw [← hk]; exact (rx.mono o2.hb).mono (mask_le _ _)
    · rw [← hk]; exact ry.mono (mask_le _ _)
theorem dy_cmpB {o : CmpOp} {r : R2} {op : D → D → Option D} {f g : Envt → Tr (D × Envt)} (ho : OpR X (compareOp o) r) (hr : SemB X.K r op) (ha : DY cl X E a f) (hb : DY cl X E b g) (hm : behindInMarks o b = false) : DY cl X E (.Compare a [o] [b] pos) (y2 op f g) := by
  obtain ⟨ta, pa, ra⟩ := ha
  obtain ⟨tb, pb, rb⟩ := hb
  exact ⟨_, pe_cmpR ho pa pb hm, fun F B ad σ H env Q hk hc o k => y2_core hr ra rb hk hc o k⟩
theorem ytt_core {ta : TE} {f : Envt → Tr (D × Envt)} (ra : ∀ (F : Fx) (B : Hp) (ad : Ads) (σ : St) (H : Hp) (env : Envt) (Q : VK), F.K = X.K → F.cl = cl → Ok F B ad σ H env → (f env).all (PostY F B σ Q) (EOk F E) → ta σ H Q)
    {F : Fx} {B : Hp} {ad : Ads} {σ : St} {H : Hp} {env : Envt} {Q : Bool → Hp → Prop} (hk : F.K = X.K) (hc : F.cl = cl) (o : Ok F B ad σ H env) (k : (yT f env).all (PostYT F B σ Q) (EOk F E)) : tTest ta σ H Q := by
  refine ra F B ad σ H env _ hk hc o (Tr.all_mono (fun d z v ad' H1 o1 rv => ?_) (fun _ z => z) (Tr.all_bind k))
  obtain ⟨d, env'⟩ := d
  cases d with
  | bool b =>
    cases rv
    have z : PostYT F B σ Q (b, env') := z
    exact ⟨b, rfl, z ad' H1 o1⟩
  | _ => exact z.elim
theorem dyt_cmpB {o : CmpOp} {r : R2} {op : D → D → Option D} {f g : Envt → Tr (D × Envt)} (ho : OpR X (compareOp o) r) (hr : SemB X.K r op) (ha : DY cl X E a f) (hb : DY cl X E b g) (hm : behindInMarks o b = false) : DYT cl X E (.Compare a [o] [b] pos) (yT (y2 op f g)) := by
  obtain ⟨ta, pa, ra⟩ := ha
  obtain ⟨tb, pb, rb⟩ := hb
  exact ⟨_, pt_cmpR ho pa pb hm, fun F B ad σ H env Q hk hc o k => ytt_core (cl := cl) (fun F B ad σ H env Q hk hc o k => y2_core hr ra rb hk hc o k) hk hc o k⟩
theorem dyt_ne {k : Nat} {f g : Envt → Tr (D × Envt)} (hr : Room k X.A) (ha : DY cl X E a f) (hb : DY cl X E b g) : DYT cl X E (.Compare a [.NotEq] [b] pos) (yT (y2 dNe f g)) := dyt_cmpB (op_neD hr.units) sem_ne ha hb (nomark _)
theorem dy_eq {k : Nat} {f g : Envt → Tr (D × Envt)} (hr : Room k X.A) (ha : DY cl X E a f) (hb : DY cl X E b g) : DY cl X E (.Compare a [.Eq] [b] pos) (y2 dEq f g) := dy_cmpB (op_eqD hr.units) sem_eq ha hb (nomark _)
def DYW (cl : CL) (X : Cx) (E : XK) (e : Expr) (f : Envt → Tr (Bool × Envt)) : Prop := ∃ t, PW X e t ∧ ∀ (F : Fx) (B : Hp) (ad : Ads) (σ : St) (H : Hp) (env : Envt) (Q : Bool → Hp → Prop), F.K = X.K → F.cl = cl → Ok F B ad σ H env →
  (f env).all (PostYT F B σ Q) (EOk F E) → t σ H Q
theorem DYW.dyt {f : Envt → Tr (Bool × Envt)} (h : DYW cl X E e f) : DYT cl X E e f := by
  obtain ⟨t, p, r⟩ := h
  exact ⟨t, p.pt, r⟩
def yOr (f g : Envt → Tr (Bool × Envt)) : Envt → Tr (Bool × Envt) := fun env => (f env).bind fun x => if x.1 then .ret (true, x.2) else g x.2
theorem dyw_or1 {f : Envt → Tr (Bool × Envt)} (h : DYT cl X E a f) : DYW cl X E (.BoolOp .Or [a] pos) f := by
  obtain ⟨t, p, r⟩ := h
  exact ⟨t, pw_or1 p, r⟩
theorem dyw_or {rest : List Expr} {f g : Envt → Tr (Bool × Envt)} (ha : DYT cl X E a f) (hb : DYW cl X E (.BoolOp .Or (b :: rest) pos) g) : DYW cl X E (.BoolOp .Or (a :: b :: rest) pos) (yOr f g) := by
  obtain ⟨t, p, r⟩ := ha
  obtain ⟨u, q, s⟩ := hb
  refine ⟨_, pw_or p q, fun F B ad σ H env Q hk hc o k => ?_⟩
  refine r F B ad σ H env _ hk hc o (Tr.all_mono (fun x z ad1 H1 o1 => ?_) (fun _ z => z) (Tr.all_bind k))
  obtain ⟨x, env1⟩ := x
  cases x with
  | true => exact iteT (z ad1 H1 o1)
  | false => exact iteF (s F B ad1 σ H1 env1 Q hk hc o1 z)
def sIfY (c : Envt → Tr (Bool × Envt)) (u v : Stm) : Stm := fun env => (c env).bind fun b => if b.1 then u b.2 else v b.2
theorem ds_ifY {k : Envt → Tr (Bool × Envt)} (hc : DYT cl X E c k) (ha : DSs cl X E s1 u) (hb : DSs cl X E s2 v) : DS cl X E (.If c s1 s2 pos) (sIfY k u v) := by
  obtain ⟨t, p, r⟩ := hc
  obtain ⟨ta, pa, ra⟩ := ha
  obtain ⟨tb, pb, rb⟩ := hb
  refine ⟨_, ps_if p pa pb, fun F B ad σ H env N hk hc o k => ?_⟩
  refine r F B ad σ H env _ hk hc o (Tr.all_mono (fun x z ad1 H1 o1 => ?_) (fun _ z => z) (Tr.all_bind k))
  obtain ⟨x, env1⟩ := x
  cases x with
  | true => exact iteT (ra F B ad1 σ H1 env1 N hk hc o1 z)
  | false => exact iteF (rb F B ad1 σ H1 env1 N hk hc o1 z)
end
end Mb
set_option maxHeartbeats 1000000
namespace Mb
open PySem L2
end Mb
set_option maxHeartbeats 1000000
namespace Mb
open PySem L2 PyProof.Rows
end Mb
set_option maxHeartbeats 1000000
namespace Mb
open PySem L2
/-- a value to look at: it may be a list of an object's own -/
def PostLk (F : Fx) (ad : Ads) (H : Hp) (Q : VK) (d : D) : Prop := ∀ v H', Kx F.dt (Mm F ad) H H' → Rep F.K (mask H' (dl F.dt)) v d → Q v H'
def DLk (cl : CL) (X : Cx) (E : XK) (e : Expr) (f : Envt → Tr D) : Prop := ∃ t, PE X e t ∧ ∀ (F : Fx) (B : Hp) (ad : Ads) (σ : St) (H : Hp) (env : Envt) (Q : VK), F.K = X.K → F.cl = cl → Ok F B ad σ H env →
  (f env).all (PostLk F ad H Q) (EOk F E) → t σ H Q
theorem Kx.dsame {δ : Dl} {M : Addr → Prop} {H H' : Hp} (k : Kx δ M H H') : Same (mask H (dl δ)) (mask H' (dl δ)) := mask_same fun a o n e => ⟨n, k.keep a o e n⟩
theorem mm_dl {F : Fx} {ad : Ads} {H : Hp} : Same (mask H (Mm F ad)) (mask H (dl F.dt)) := mask_w fun a q => Mm_dl q
/-- a list attribute -/
def vFldL (i c : Nat) (nm : Str) : Envt → Tr D := fun env => match fldE i c nm env with
  | some (.ow ds) => .ret (.list ds)
  | some (.fz d) => .ret d
  | _ => .bad
section
variable {cl : CL} {X : Cx} {E : XK} {e a b c : Expr} {f g h : Envt → Tr D} {pos : Pos}
theorem di_fld (i n : Nat) {x nm : Str} {p : Pos} (hC : Cls X.K (cl n)) (hn : NoAttr X.K (cl n) nm) (hN : X.N[i]? = some x := by rfl) (hv : Vis X.env.scope x := by first | exact Or.inl rfl | exact Or.inr (Or.inl rfl) | exact Or.inr (Or.inr rfl)) (hd : (x == ("__debug__" : Str)) = false := by decide)
    (hcd : (x == ("__classdict__" : Str)) = false := by decide) (hb : attributeBase (.Name x p) nm X.env (eval (.Name x p) X.env) = eval (.Name x p) X.env := by rfl) : DLk cl X E (.Attribute (.Name x p) nm pos) (vFldL i n nm) := by
  refine ⟨_, pe_fld (pe_var (i := i) hN hv hd hcd) hb, fun F B ad σ H env Q hk hc o k => ?_⟩
  unfold vFldL at k
  split at k
  · rename_i ds hf
    obtain ⟨e, fs, h1, h2, h3⟩ := fldE_ok hf
    obtain ⟨a, dx, ps, vs, q⟩ := o.obj h1 h2
    obtain ⟨p', xs, v1, v2, v3, v4⟩ := q.f.ow_at h3
    exact ⟨_, q.s, a, F.cl n, dx, vs, _, rfl, q.h, by rw [hc]; exact hC, by rw [hc]; exact hn, v1, k _ H (Kx.refl o.k0.dr) (.lst (by rw [mask_out (q.m p' (.inr (List.mem_cons_of_mem _ v2))).2]; exact v3) (v4.mono mm_dl))⟩
  · rename_i d hf
    obtain ⟨e, fs, h1, h2, h3⟩ := fldE_ok hf
    obtain ⟨a, dx, ps, vs, q⟩ := o.obj h1 h2
    obtain ⟨v, v1, v2⟩ := q.f.fz_at h3
    exact ⟨_, q.s, a, F.cl n, dx, vs, v, rfl, q.h, by rw [hc]; exact hC, by rw [hc]; exact hn, v1, k v H (Kx.refl o.k0.dr) (v2.mono mm_dl)⟩
  · exact k.elim
theorem twoI_core {r : R2} {op : D → D → Option D} {ta tb : TE} (hr : SemB X.K r op) (ra : ∀ (F : Fx) (B : Hp) (ad : Ads) (σ : St) (H : Hp) (env : Envt) (Q : VK), F.K = X.K → F.cl = cl → Ok F B ad σ H env → (f env).all (PostLk F ad H Q) (EOk F E) → ta σ H Q)
    (rb : ∀ (F : Fx) (B : Hp) (ad : Ads) (σ : St) (H : Hp) (env : Envt) (Q : VK), F.K = X.K → F.cl = cl → Ok F B ad σ H env → (g env).all (Post F ad H Q) (EOk F E) → tb σ H Q)
    {F : Fx} {B : Hp} {ad : Ads} {σ : St} {H : Hp} {env : Envt} {Q : VK} (hk : F.K = X.K) (hc : F.cl = cl) (o : Ok F B ad σ H env) (k : (v2 op f g env).all (Post F ad H Q) (EOk F E)) : tOp r ta tb σ H Q := by
  refine ra F B ad σ H env _ hk hc o (Tr.all_mono (fun d z x H1 k1 rx => ?_) (fun _ z => z) (Tr.all_bind k))
  refine rb F B ad σ H1 env _ hk hc (o.kx k1) (Tr.all_mono (fun e z y H2 k2 ry => ?_) (fun _ z => z) (Tr.all_bind z))
  cases hz : op d e with
  | none => rw [hz] at z; exact z.elim
  | some w =>
    rw [hz] at z
    exact hr H2 x y d e w Q (by rw [← hk]; exact (rx.mono k2.dsame).mono (mask_le _ _)) (by rw [← hk]; exact ry.mono (mask_le _ _)) hz fun v rv => z v H2 (k1.trans k2) (by rw [hk]; exact rv _)
theorem dt_cmpI {o : CmpOp} {r : R2} {op : D → D → Option D} (ho : OpR X (compareOp o) r) (hr : SemB X.K r op) (ha : DLk cl X E a f) (hb : DE cl X E b g) (hm : behindInMarks o b = false) : DT cl X E (.Compare a [o] [b] pos) (vT (v2 op f g)) := by
  obtain ⟨ta, pa, ra⟩ := ha
  obtain ⟨tb, pb, rb⟩ := hb
  exact ⟨_, pt_cmpR ho pa pb hm, fun F B ad σ H env Q hk hc o k => tt_core (cl := cl) (fun F B ad σ H env Q hk hc o k => twoI_core hr ra rb hk hc o k) hk hc o k⟩
theorem dt_eqI {k : Nat} (hr : Room k X.A) (ha : DLk cl X E a f) (hb : DE cl X E b g) : DT cl X E (.Compare a [.Eq] [b] pos) (vT (v2 dEq f g)) := dt_cmpI (op_eqD hr.units) sem_eq ha hb (nomark _)
/-- len(self.d) -/
def vLenI (f : Envt → Tr D) : Envt → Tr D := fun env => (f env).bind fun d => ofO (lenD d)
theorem de_lenI {p : Pos} (hm : X.mg "len" = none) (ha : DLk cl X E a f) (hg : Gl X "len" := by rfl)
    (he : starEach [a] X.env = (false, eval a X.env) :: starEach [] X.env := by rfl) (hpl : (backTo pos (starEach [] X.env)).any (·.1) = false := by rfl) : DE cl X E (.Call (.Name "len" p) [a] [] pos) (vLenI f) := by
  obtain ⟨ta, pa, ra⟩ := ha
  refine ⟨_, pe_callB call_len hg hm PySem.boot_len (pa_cons pa pa_nil he) (by decide) (by decide) he hpl, fun F B ad σ H env Q hk hc o k => ?_⟩
  refine ra F B ad σ H env _ hk hc o (Tr.all_mono (fun d z v H1 k1 rv => ?_) (fun _ z => z) (Tr.all_bind k))
  cases hz : lenD d with
  | none => rw [hz] at z; exact z.elim
  | some w =>
    rw [hz] at z
    exact len_sem (K := X.K) (by rw [← hk]; exact rv.mono (mask_le _ _)) hz fun w' rw' => z w' H1 k1 (by rw [hk]; exact rw' _)
/-- self.d[k] -/
def vIxF (i c : Nat) (nm : Str) (g : Envt → Tr D) : Envt → Tr D := fun env => match fldE i c nm env with
  | some (.ow ds) => (g env).bind fun y => ofO (dIx (.list ds) y)
  | _ => .bad
theorem de_ixF (i n : Nat) {x nm : Str} {p p2 : Pos} (hC : Cls X.K (cl n)) (hn : NoAttr X.K (cl n) nm) (hb : DE cl X E b g) (hN : X.N[i]? = some x := by rfl) (hv : Vis X.env.scope x := by first | exact Or.inl rfl | exact Or.inr (Or.inl rfl) | exact Or.inr (Or.inr rfl)) (hd : (x == ("__debug__" : Str)) = false := by decide)
    (hcd : (x == ("__classdict__" : Str)) = false := by decide) (ha : attributeBase (.Name x p) nm X.env (eval (.Name x p) X.env) = eval (.Name x p) X.env := by rfl) (hs : PlainIx b := by exact fun _ _ => rfl) : DE cl X E (.Subscript (.Attribute (.Name x p) nm p2) b pos) (vIxF i n nm g) := by
  obtain ⟨tb, pb, rb⟩ := hb
  refine ⟨_, pe_ix ix_seq (pe_fld (pe_var (i := i) hN hv hd hcd) ha) pb hs, fun F B ad σ H env Q hk hc o k => ?_⟩
  unfold vIxF at k
  split at k
  · rename_i ds hf
    obtain ⟨e, fs, h1, h2, h3⟩ := fldE_ok hf
    obtain ⟨a, dx, ps, vs, q⟩ := o.obj h1 h2
    obtain ⟨p', xs, v1, v2, v3, v4⟩ := q.f.ow_at h3
    refine ⟨_, q.s, a, F.cl n, dx, vs, _, rfl, q.h, by rw [hc]; exact hC, by rw [hc]; exact hn, v1, rb F B ad σ H env _ hk hc o (Tr.all_mono (fun d z y H1 k1 ry => ?_) (fun _ z => z) (Tr.all_bind k))⟩
    cases ry with
    | int j =>
      cases hz : dIx (.list ds) (.int j) with
      | none => rw [hz] at z; exact z.elim
      | some w =>
        rw [hz] at z
        obtain ⟨v, a1, a2⟩ := atI_rep v4 hz
        exact .inl ⟨p', xs, j, v, rfl, rfl, SqL.of (k1.keep _ _ v3 (q.m p' (.inr (List.mem_cons_of_mem _ v2))).2), a1, z v H1 k1 (a2.mono k1.msame)⟩
    | _ => exact z.elim
  · exact k.elim
/-- self.d[k:l] -/
def vSlF (i c : Nat) (nm : Str) (l u : Envt → Tr (Option Int)) : Envt → Tr D := fun env => match fldE i c nm env with
  | some (.ow ds) => (l env).bind fun lo => (u env).bind fun hi => ofO (dSl (.list ds) lo hi)
  | _ => .bad
theorem de_slF (i n : Nat) {x nm : Str} {p p2 p3 : Pos} {lo hi : Option Expr} {l u : Envt → Tr (Option Int)} (hC : Cls X.K (cl n)) (hn : NoAttr X.K (cl n) nm) (hl : DO cl X E lo l) (hh : DO cl X E hi u) (hN : X.N[i]? = some x := by rfl) (hv : Vis X.env.scope x := by first | exact Or.inl rfl | exact Or.inr (Or.inl rfl) | exact Or.inr (Or.inr rfl)) (hd : (x == ("__debug__" : Str)) = false := by decide)
    (hcd : (x == ("__classdict__" : Str)) = false := by decide) (ha : attributeBase (.Name x p) nm X.env (eval (.Name x p) X.env) = eval (.Name x p) X.env := by rfl) : DE cl X E (.Subscript (.Attribute (.Name x p) nm p2) (.Slice lo hi none p3) pos) (vSlF i n nm l u) := by
  obtain ⟨tl, pl, rl⟩ := hl
  obtain ⟨th, ph, rh⟩ := hh
  refine ⟨_, pe_slice (slr_or sl_list (slr_or sl_tupA sl_str)) (pe_fld (pe_var (i := i) hN hv hd hcd) ha) pl ph, fun F B ad σ H env Q hk hc o k => ?_⟩
  unfold vSlF at k
  split at k
  · rename_i ds hf
    obtain ⟨e, fs, h1, h2, h3⟩ := fldE_ok hf
    obtain ⟨a, dx, ps, vs, q⟩ := o.obj h1 h2
    obtain ⟨p', xs, v1, v2, v3, v4⟩ := q.f.ow_at h3
    refine ⟨_, q.s, a, F.cl n, dx, vs, _, rfl, q.h, by rw [hc]; exact hC, by rw [hc]; exact hn, v1, rl F B ad σ H env _ hk hc o (Tr.all_mono (fun lo z H2 k2 => ?_) (fun _ z => z) (Tr.all_bind k))⟩
    refine rh F B ad σ H2 env _ hk hc (o.kx k2) (Tr.all_mono (fun hi z H3 k3 => ?_) (fun _ z => z) (Tr.all_bind z))
    have o3 := (o.kx k2).kx k3
    have k13 := k2.trans k3
    refine .inl ⟨p', xs, rfl, SqL.of (k13.keep _ _ v3 (q.m p' (.inr (List.mem_cons_of_mem _ v2))).2), ?_⟩
    exact new_lst (K := F.K) k3.dr (fun a q => Mm_dl (F := F) (ad := ad) q) (fun p hp => o3.notM hp) (cut_rep (v4.mono k13.msame)) fun v H' k4 rv => z v H' (k13.trans k4) rv
  · exact k.elim
end
end Mb
set_option maxHeartbeats 1000000
namespace Mb
open PySem L2
theorem FldsOk.ow_put {K : PySem.W.Frag} {M H : Hp} {nm : Str} {ds : List D} {ps : List Addr} {vs : List (Str × V)} {fs : List (Str × Fld)} (h : FldsOk K M H ps vs fs) : ps.Nodup → fldAt nm fs = some (.ow ds) → ∃ p xs, vs.lookup nm = some (.ref p) ∧ p ∈ ps ∧ H p = some (.lst xs) ∧ RepAll K M xs ds ∧
    (∀ (M' : Hp) (xs' : List V) (ds' : List D), Same M M' → RepAll K M' xs' ds' → FldsOk K M' (upd H p (.lst xs')) ps vs (setFld nm (.ow ds') fs)) := by
  induction h with
  | nil => intro _ q; cases q
  | @fz n v d' ps vs fs r hr ih =>
    intro hn q
    unfold fldAt at q
    rw [lookup_cons']
    split at q
    · cases q
    · rename_i hne
      obtain ⟨p, o, w1, w2, w3, w4, w5⟩ := ih hn q
      refine ⟨p, o, by rw [if_neg hne]; exact w1, w2, w3, w4, fun M' o' kvs' ms r' => ?_⟩
      unfold setFld
      rw [if_neg hne]
      exact .fz (r.mono ms) (w5 M' o' kvs' ms r')
  | @od n p' o' kvs' ps vs fs hp' r hr ih =>
    intro hn q
    unfold fldAt at q
    rw [lookup_cons']
    have hn' := List.nodup_cons.mp hn
    split at q
    · cases q
    · rename_i hne
      obtain ⟨p, o, w1, w2, w3, w4, w5⟩ := ih hn'.2 q
      have np : p' ≠ p := fun z => hn'.1 (by rw [z]; exact w2)
      refine ⟨p, o, by rw [if_neg hne]; exact w1, List.mem_cons_of_mem _ w2, w3, w4, fun M' o2 kvs2 ms r2 => ?_⟩
      unfold setFld
      rw [if_neg hne]
      exact .od (by rw [upd_ne np]; exact hp') (r.mono ms) (w5 M' o2 kvs2 ms r2)
  | @ow n p' xs ds' ps vs fs hp' r hr ih =>
    intro hn q
    unfold fldAt at q
    rw [lookup_cons']
    have hn' := List.nodup_cons.mp hn
    split at q
    · rename_i hne
      cases q
      refine ⟨p', xs, by rw [if_pos hne], List.mem_cons_self, hp', r, fun M' xs2 ds2 ms r2 => ?_⟩
      unfold setFld
      rw [if_pos hne]
      refine .ow upd_same r2 (hr.move ms fun x hx y e => ?_)
      rw [upd_ne (fun z => hn'.1 (by rw [← z]; exact hx))]; exact e
    · rename_i hne
      obtain ⟨p, o, w1, w2, w3, w4, w5⟩ := ih hn'.2 q
      have np : p' ≠ p := fun z => hn'.1 (by rw [z]; exact w2)
      refine ⟨p, o, by rw [if_neg hne]; exact w1, List.mem_cons_of_mem _ w2, w3, w4, fun M' o2 kvs2 ms r2 => ?_⟩
      unfold setFld
      rw [if_neg hne]
      exact .ow (by rw [upd_ne np]; exact hp') (r.mono ms) (w5 M' o2 kvs2 ms r2)
/-- self.d.append(v) -/
def sAppF (i c : Nat) (nm : Str) (f : Envt → Tr D) : Stm := fun env => match ownC i c env with
  | some (e, fs) => match fldAt nm fs with
    | some (.ow ds) => (f env).bind fun d => if small ds.length then .ret (.nx (env.set i (withF e (setFld nm (.ow (ds ++ [d])) fs)))) else .bad
    | _ => .bad
  | none => .bad
/-- self.d.pop() -/
def yPopF (i c : Nat) (nm : Str) : Envt → Tr (D × Envt) := fun env => match ownC i c env with
  | some (e, fs) => match fldAt nm fs with
    | some (.ow ds) => match ds[ds.length - 1]? with
      | some d => .ret (d, env.set i (withF e (setFld nm (.ow ds.dropLast) fs)))
      | none => .bad
    | _ => .bad
  | none => .bad
theorem Ok.putL {F : Fx} {B : Hp} {ad : Ads} {σ : St} {H : Hp} {env : List Ent} (o : Ok F B ad σ H env) {i c : Nat} {nm : Str} {e : Ent} {fs : List (Str × Fld)} {ds : List D} (he : env[i]? = some e) (ho : ownE e = some (c, fs)) (hf : fldAt nm fs = some (.ow ds)) :
    ∃ a dx vs p xs, σ[i]? = some (some (.ref a)) ∧ H a = some (.ins (F.cl c) dx vs) ∧ vs.lookup nm = some (.ref p) ∧ ¬ dl F.dt p ∧ ¬ dl F.dt a ∧ Mm F ad p ∧ H p = some (.lst xs) ∧ RepAll F.K (mask H (Mm F ad)) xs ds ∧ ∀ xs' ds', RepAll F.K (mask H (Mm F ad)) xs' ds' → Ok F B ad σ (upd H p (.lst xs')) (env.set i (withF e (setFld nm (.ow ds') fs))) := by
  obtain ⟨a, dx, ps, vs, q⟩ := o.own he ho
  have hn := List.nodup_cons.mp q.n
  have hn2 := List.nodup_cons.mp hn.2
  obtain ⟨p, xs, w1, w2, w3, w4, w5⟩ := q.f.ow_put hn2.2 hf
  have hp : inW (a, dx :: ps) p := .inr (List.mem_cons_of_mem _ w2)
  refine ⟨a, dx, vs, p, xs, q.s, q.h, w1, o.notdlW q.w hp, o.notdlW q.w (.inl rfl), Mm_at q.w hp, w3, w4, fun xs' ds' r => ?_⟩
  refine o.putW q.w hp fun ms sv e2 => ?_
  rw [q.s] at e2; cases e2
  have n1 : a ≠ p := fun z => hn.1 (by rw [z]; exact List.mem_cons_of_mem _ w2)
  have n2 : dx ≠ p := fun z => hn2.1 (by rw [z]; exact w2)
  exact q.back (by rw [upd_ne n1]; exact q.h) (by rw [upd_ne n2]; exact q.d) q.n (w5 _ _ _ ms (r.mono ms))
section
variable {cl : CL} {X : Cx} {E : XK} {e a b c : Expr} {f g h : Envt → Tr D} {pos : Pos}
theorem ds_appF (i n : Nat) {x nm : Str} {p p2 p3 : Pos} {cpos : Pos} (hC : Cls X.K (cl n)) (hna : NoAttr X.K (cl n) nm) (he : DE cl X E a f) (hN : X.N[i]? = some x := by rfl) (hv : Vis X.env.scope x := by first | exact Or.inl rfl | exact Or.inr (Or.inl rfl) | exact Or.inr (Or.inr rfl)) (hd : (x == ("__debug__" : Str)) = false := by decide)
    (hcd : (x == ("__classdict__" : Str)) = false := by decide) (hb : attributeBase (.Name x p) nm X.env (eval (.Name x p) X.env) = eval (.Name x p) X.env := by rfl) (hbase : attributeBase (.Attribute (.Name x p) nm p3) "append" X.env (eval (.Attribute (.Name x p) nm p3) X.env) = eval (.Attribute (.Name x p) nm p3) X.env := by rfl)
    (hfew : ((backTo cpos (starEach [a] X.env)).all (fun x => !x.1) && (backToKw cpos (keywordEach [] X.env)).all (fun x => x.1.isSome) && decide ([a].length + ([] : List Keyword).length + (if ([] : List Keyword).isEmpty then 0 else 1) < 30)) = true := by rfl)
    (hline : (p2.endLine == cpos.line) = true := by rfl) (hs : starEach [a] X.env = (false, eval a X.env) :: starEach [] X.env := by rfl) (hplain : (backTo cpos (starEach [] X.env)).any (·.1) = false := by rfl) (hsw : swapsWith (.Call (.Attribute (.Attribute (.Name x p) nm p3) "append" p2) [a] [] cpos) none pos.line X.env = pure false := by rfl) :
    DS cl X E (.Expr (.Call (.Attribute (.Attribute (.Name x p) nm p3) "append" p2) [a] [] cpos) pos) (sAppF i n nm f) := by
  obtain ⟨t, pe, r⟩ := he
  refine ⟨_, ps_expr (pe_bm PySem.F.plainAttrs_list PySem.F.slot_list_append PySem.F.type_list_append mt_append (pe_fld (pe_var (i := i) hN hv hd hcd) hb) (pa_cons pe pa_nil hs) hbase hfew hline hs hplain) hsw, fun F B ad σ H env N hk hc o k => ?_⟩
  unfold sAppF at k
  split at k
  · rename_i en fs hown
    split at k
    · rename_i ds hf
      obtain ⟨e1, e2⟩ := ownC_ok hown
      obtain ⟨a, dx, vs, p', xs, g1, g2, g3, g4, ga, _, g5, g6, _⟩ := o.putL e1 e2 hf
      refine ⟨_, g1, a, F.cl n, dx, vs, _, rfl, g2, by rw [hc]; exact hC, by rw [hc]; exact hna, g3, .inl ⟨rfl, xs, SqL.of g5⟩, r F B ad σ H env _ hk hc o (Tr.all_mono (fun d z v H1 k1 rv => ?_) (fun _ z => z) (Tr.all_bind k))⟩
      have o1 := o.kx k1
      obtain ⟨a', dx', vs', p2', xs', g1', g2', g3', g4', _, _, g5', g6', g7'⟩ := o1.putL e1 e2 hf
      have ea : a' = a := by rw [g1] at g1'; cases g1'; rfl
      subst ea
      have g2n : H1 a' = some (.ins (F.cl n) dx vs) := k1.keep _ _ g2 ga
      have ev : vs' = vs := by rw [g2'] at g2n; cases g2n; rfl
      subst ev
      have ep : p2' = p' := by rw [g3] at g3'; cases g3'; rfl
      subst ep
      cases hsm : small ds.length with
      | false => rw [hsm] at z; exact z.elim
      | true =>
        rw [hsm] at z
        refine ⟨p2', xs', v, rfl, rfl, g5', ?_, ?_⟩
        · rw [g6'.length]; exact Nat.lt_of_le_of_lt (of_decide_eq_true hsm) (by decide)
        · have z : SPost F B N (.nx (env.set i (withF en (setFld nm (.ow (ds ++ [d])) fs)))) := z
          exact z ad σ _ (g7' _ _ (g6'.append (.cons rv .nil)))
    · exact k.elim
  · exact k.elim
theorem dy_popF (i n : Nat) {x nm : Str} {p p3 apos : Pos} (hC : Cls X.K (cl n)) (hna : NoAttr X.K (cl n) nm) (hN : X.N[i]? = some x := by rfl) (hv : Vis X.env.scope x := by first | exact Or.inl rfl | exact Or.inr (Or.inl rfl) | exact Or.inr (Or.inr rfl)) (hd : (x == ("__debug__" : Str)) = false := by decide)
    (hcd : (x == ("__classdict__" : Str)) = false := by decide) (hb : attributeBase (.Name x p) nm X.env (eval (.Name x p) X.env) = eval (.Name x p) X.env := by rfl) (hbase : attributeBase (.Attribute (.Name x p) nm p3) "pop" X.env (eval (.Attribute (.Name x p) nm p3) X.env) = eval (.Attribute (.Name x p) nm p3) X.env := by rfl) (hline : (apos.endLine == pos.line) = true := by rfl) :
    DY cl X E (.Call (.Attribute (.Attribute (.Name x p) nm p3) "pop" apos) [] [] pos) (yPopF i n nm) := by
  refine ⟨_, pe_bm0 PySem.F.plainAttrs_list PySem.F.slot_list_pop PySem.F.type_list_pop mt_pop (pe_fld (pe_var (i := i) hN hv hd hcd) hb) hbase hline, fun F B ad σ H env Q hk hc o k => ?_⟩
  unfold yPopF at k
  split at k
  · rename_i en fs hown
    split at k
    · rename_i ds hf
      split at k
      · rename_i d hd'
        obtain ⟨e1, e2⟩ := ownC_ok hown
        obtain ⟨a, dx, vs, p', xs, g1, g2, g3, g4, ga, pm, g5, g6, g7⟩ := o.putL e1 e2 hf
        obtain ⟨v, hv', rv⟩ := g6.getD hd'
        have me : Same (mask H (Mm F ad)) (mask (upd H p' (.lst xs.dropLast)) (Mm F ad)) := mask_same fun b x n q => ⟨n, by rw [upd_ne (fun y => n (by rw [y]; exact pm))]; exact q⟩
        have k : PostY F B σ Q (d, env.set i (withF en (setFld nm (.ow ds.dropLast) fs))) := k
        exact ⟨_, g1, a, F.cl n, dx, vs, _, rfl, g2, by rw [hc]; exact hC, by rw [hc]; exact hna, g3, .inl ⟨rfl, xs, SqL.of g5⟩, p', xs, v, rfl, rfl, g5, by rw [g6.length]; exact hv', k v ad _ (g7 _ _ g6.dropLast) (rv.mono me)⟩
      · exact k.elim
    · exact k.elim
  · exact k.elim
end
end Mb
set_option maxHeartbeats 1000000
namespace Mb
open PySem L2
def nListF (i c : Nat) (nm : Str) : Envt → Tr (List D) := fun env => match fldE i c nm env with
  | some (.ow ds) => .ret ds
  | _ => .bad
section
variable {cl : CL} {X : Cx} {E : XK} {e a b c : Expr} {pos : Pos}
theorem dn_listF (i n : Nat) {x nm : Str} {p0 p p2 : Pos} (hm : X.mg "list" = none) (hC : Cls X.K (cl n)) (hn : NoAttr X.K (cl n) nm) (hN : X.N[i]? = some x := by rfl) (hv : Vis X.env.scope x := by first | exact Or.inl rfl | exact Or.inr (Or.inl rfl) | exact Or.inr (Or.inr rfl)) (hd : (x == ("__debug__" : Str)) = false := by decide)
    (hcd : (x == ("__classdict__" : Str)) = false := by decide) (hb : attributeBase (.Name x p) nm X.env (eval (.Name x p) X.env) = eval (.Name x p) X.env := by rfl) (hg : Gl X "list" := by rfl)
    (he : starEach [.Attribute (.Name x p) nm p2] X.env = (false, eval (.Attribute (.Name x p) nm p2) X.env) :: starEach [] X.env := by rfl) (hpl : (backTo pos (starEach [] X.env)).any (·.1) = false := by rfl) : DN cl X E (.Call (.Name "list" p0) [.Attribute (.Name x p) nm p2] [] pos) (nListF i n nm) := by
  refine ⟨_, pe_callTy call_list_of hg hm (by decide +kernel) (pa_cons (pe_fld (pe_var (i := i) hN hv hd hcd) hb) pa_nil he) (by decide) (by decide) he hpl, fun F B ad σ H env Q hk hc o k => ?_⟩
  unfold nListF at k
  split at k
  · rename_i ds hf
    obtain ⟨e, fs, h1, h2, h3⟩ := fldE_ok hf
    obtain ⟨a, dx, ps, vs, q⟩ := o.obj h1 h2
    obtain ⟨p', xs, v1, v2, v3, v4⟩ := q.f.ow_at h3
    refine ⟨_, q.s, a, F.cl n, dx, vs, _, rfl, q.h, by rw [hc]; exact hC, by rw [hc]; exact hn, v1, ?_⟩
    refine ⟨p', xs, rfl, .inl (SqL.of v3), fun l hl => ?_⟩
    have k2 : Kx F.dt (fun a => Mm F ad a ∨ a = l) H (upd H l (.lst xs)) := Kx.newW o.k0.dr hl
    refine k l _ xs k2 hl upd_same (v4.mono (mask_same fun a x n e => ⟨fun q => q.elim n fun y => ?_, same_new hl a x e⟩))
    rw [y, hl] at e; cases e
  · exact k.elim
end
end Mb
set_option maxHeartbeats 1000000
namespace Mb
open PySem L2
def EOkH (F : Fx) (ad : Ads) (H : Hp) (E : XK) (c : Nat) : Prop := ∀ H', Kx F.dt (Mm F ad) H H' → E (.ref (F.cl c)) none H'
def DYx (cl : CL) (X : Cx) (E : XK) (e : Expr) (f : Envt → Tr (D × Envt)) : Prop := ∃ t, PE X e t ∧ ∀ (F : Fx) (B : Hp) (ad : Ads) (σ : St) (H : Hp) (env : Envt) (Q : VK), F.K = X.K → F.cl = cl → Ok F B ad σ H env →
  (f env).all (PostY F B σ Q) (EOkH F ad H E) → t σ H Q
def yAskX (n c : Nat) (mn : Str) (m : List Ent → Tr (D × List (Str × Fld))) (i : Nat) (g : Envt → Tr (List Ent)) : Envt → Tr (D × Envt) := fun env => match ownC i c env with
  | some (e, fs) => if (fldAt mn fs).isNone then (noExc (g env)).bind fun es => if es.length + 1 == n then (m (.bo c fs :: es)).bind fun r => .ret (r.1, env.set i (withF e r.2)) else .bad else .bad
  | none => .bad
section
variable {cl : CL} {X : Cx} {E : XK} {e a b c : Expr} {f g h : Envt → Tr D} {pos : Pos} {sts : List Stmt} {u : Stm}
theorem askOx_core {F : Fx} {B : Hp} {ad : Ads} {σ : St} {H : Hp} {env : Envt} {Q : VK} {i n c : Nat} {m : List Ent → Tr (D × List (Str × Fld))} {fs : List (Str × Fld)} {en : Ent} {a : Addr} {vs : List V} {es : List Ent} {H1 : Hp} (hk : F.K = X.K) (hc : F.cl = cl) (o : Ok F B ad σ H env) (he : env[i]? = some en) (ho : ownE en = some (c, fs)) (hs : σ[i]? = some (some (.ref a)))
    (k1 : Kx F.dt (Mm F ad) H H1) (rs : ArgsOk F.K F.cl F.dt (mask H1 (Mm F ad)) vs es) (z : (if es.length + 1 == n then (m (.bo c fs :: es)).bind fun r => .ret (r.1, env.set i (withF en r.2)) else .bad).all (PostY F B σ Q) (EOkH F ad H E)) : spO X.K cl c n m (.ref a :: vs) H1 Q E := by
  cases hl : es.length + 1 == n with
  | false => rw [hl] at z; exact z.elim
  | true =>
    rw [hl] at z
    have o1 := o.kx k1
    obtain ⟨a', dx, ps, vf, q⟩ := o1.own he ho
    have ea : a' = a := by have := q.s; rw [hs] at this; cases this; rfl
    subst ea
    refine ⟨Mm F ad, F.dt, es, fs, a', dx, ps, vf, vs, rfl, by simpa using hl, fun a q => o1.Msome q, fun a q => Mm_dl q, k1.dr, fun p hp => ⟨Mm_at q.w hp, o1.notdlW q.w hp⟩, by rw [← hc]; exact q.h, q.d, q.n, by rw [← hk]; exact q.f, by rw [← hk, ← hc]; exact rs, Tr.all_mono (fun r zd v H' ps' vf' L rv => ?_) (fun c zc H' k2 => ?_) (Tr.all_bind z)⟩
    · have zd : PostY F B σ Q (r.1, env.set i (withF en r.2)) := zd
      rw [← hk, ← hc] at L
      obtain ⟨o2, sub⟩ := o1.left he q L
      exact zd v _ H' o2 (by rw [hk]; exact rv.mono (mask_w sub))
    · rw [← hc]
      exact zc H' (k1.trans k2)
theorem dyx_meth (i c : Nat) {k n : Nat} {m : List Ent → Tr (D × List (Str × Fld))} {x mn : Str} {es : List Expr} {p apos : Pos} {pl : Sem Bool} {g : Envt → Tr (List Ent)} (hC : Cls X.K (cl c)) (G : CalO X.prog X.w X.K X.mg X.base cl c mn k n m) (hr : Room k X.A) (hx : Passes (L2.CX X.prog X.w) X E) (ha : DA cl X E (e :: es) g)
    (hN : X.N[i]? = some x := by rfl) (hv : Vis X.env.scope x := by first | exact Or.inl rfl | exact Or.inr (Or.inl rfl) | exact Or.inr (Or.inr rfl)) (hd : (x == ("__debug__" : Str)) = false := by decide)
    (hcd : (x == ("__classdict__" : Str)) = false := by decide) (hst : starEach (e :: es) X.env = (false, eval e X.env) :: starEach es X.env := by rfl) (hpl : (backTo pos (starEach es X.env)).any (·.1) = false := by rfl)
    (ht : eval (.Call (.Attribute (.Name x p) mn apos) (e :: es) [] pos) X.env = (do
      let ov ← eval (.Name x p) X.env
      standAt apos.atName
      let (f, first) ← holding [ov] (getMethod ov mn pl)
      callWith pos f first (backTo pos (starEach (e :: es) X.env)) (backToKw pos (keywordEach [] X.env))) := by rfl) : DYx cl X E (.Call (.Attribute (.Name x p) mn apos) (e :: es) [] pos) (yAskX n c mn m i g) := by
  obtain ⟨f, fd, ps, G, M, b⟩ := G.ex
  obtain ⟨t, pa, s⟩ := ha
  refine ⟨_, pe_meth (pe_var (i := i) hN hv hd hcd) hC M G hr b .nil hx pa hst hpl ht, fun F B ad σ H env Q hk hc o k => ?_⟩
  unfold yAskX at k
  split at k
  · rename_i en fs hown
    obtain ⟨he, ho⟩ := ownC_ok hown
    cases hq : (fldAt mn fs).isNone with
    | false => rw [hq] at k; exact k.elim
    | true =>
      rw [hq] at k
      obtain ⟨a, dx, pp, vf, q⟩ := o.own he ho
      refine ⟨_, q.s, a, dx, vf, rfl, by rw [← hc]; exact q.h, q.f.no_at (Option.isNone_iff_eq_none.mp hq), ?_⟩
      refine s F B ad σ H env _ hk hc o (Tr.all_mono (fun es z vs H1 k1 rs => ?_) (fun _ z => z.elim) (noExc_all (Tr.all_bind k)))
      show spO X.K cl c n m (V.ref a :: (vs ++ [])) H1 Q E
      rw [List.append_nil]
      exact askOx_core hk hc o he ho q.s k1 rs z
  · exact k.elim
theorem dyx_meth0 (i c : Nat) {k n : Nat} {m : List Ent → Tr (D × List (Str × Fld))} {x mn : Str} {p apos : Pos} {pl : Sem Bool} (hC : Cls X.K (cl c)) (G : CalO X.prog X.w X.K X.mg X.base cl c mn k n m) (hr : Room k X.A) (hx : Passes (L2.CX X.prog X.w) X E)
    (hN : X.N[i]? = some x := by rfl) (hv : Vis X.env.scope x := by first | exact Or.inl rfl | exact Or.inr (Or.inl rfl) | exact Or.inr (Or.inr rfl)) (hd : (x == ("__debug__" : Str)) = false := by decide)
    (hcd : (x == ("__classdict__" : Str)) = false := by decide)
    (ht : eval (.Call (.Attribute (.Name x p) mn apos) [] [] pos) X.env = (do
      let ov ← eval (.Name x p) X.env
      standAt apos.atName
      let (f, first) ← holding [ov] (getMethod ov mn pl)
      callWith pos f first (backTo pos (starEach [] X.env)) (backToKw pos (keywordEach [] X.env))) := by rfl) : DYx cl X E (.Call (.Attribute (.Name x p) mn apos) [] [] pos) (yAskX n c mn m i aNil) := by
  obtain ⟨f, fd, ps, G, M, b⟩ := G.ex
  refine ⟨_, pe_meth0 (pe_var (i := i) hN hv hd hcd) hC M G hr b .nil hx ht, fun F B ad σ H env Q hk hc o k => ?_⟩
  unfold yAskX at k
  split at k
  · rename_i en fs hown
    obtain ⟨he, ho⟩ := ownC_ok hown
    cases hq : (fldAt mn fs).isNone with
    | false => rw [hq] at k; exact k.elim
    | true =>
      rw [hq] at k
      obtain ⟨a, dx, pp, vf, q⟩ := o.own he ho
      refine ⟨_, q.s, a, dx, vf, rfl, by rw [← hc]; exact q.h, q.f.no_at (Option.isNone_iff_eq_none.mp hq), ?_⟩
      exact askOx_core hk hc o he ho q.s (Kx.refl o.k0.dr) .nil (show Tr.all _ _ (if ([] : List Ent).length + 1 == n then (m [.bo c fs]).bind fun r => .ret (r.1, env.set i (withF en r.2)) else .bad) from k)
  · exact k.elim
end
end Mb
set_option maxHeartbeats 1000000
namespace Mb
open PySem L2
def yIfX (c : Envt → Tr Bool) (f g : Envt → Tr (D × Envt)) : Envt → Tr (D × Envt) := fun env => (noExc (c env)).bind fun b => if b then f env else g env
section
variable {cl : CL} {X : Cx} {E : XK} {a b c : Expr} {f g : Envt → Tr (D × Envt)} {pos : Pos}
theorem dyx_if {k : Envt → Tr Bool} (hc : DT cl X E c k) (ha : DYx cl X E a f) (hb : DYx cl X E b g) : DYx cl X E (.IfExp c a b pos) (yIfX k f g) := by
  obtain ⟨t, p, r⟩ := hc
  obtain ⟨ta, pa, ra⟩ := ha
  obtain ⟨tb, pb, rb⟩ := hb
  refine ⟨_, pe_ifExp p pa pb, fun F B ad σ H env Q hk hc o k => ?_⟩
  refine r F B ad σ H env _ hk hc o (Tr.all_mono (fun x z H1 k1 => ?_) (fun _ z => z.elim) (noExc_all (Tr.all_bind k)))
  cases x with
  | true => exact iteT (ra F B ad σ H1 env Q hk hc (o.kx k1) (Tr.all_mono (fun y z => z) (fun _ z H' k2 => z H' (k1.trans k2)) z))
  | false => exact iteF (rb F B ad σ H1 env Q hk hc (o.kx k1) (Tr.all_mono (fun y z => z) (fun _ z H' k2 => z H' (k1.trans k2)) z))
end
end Mb
set_option maxHeartbeats 1000000
namespace Mb
open PySem L2
def tryX {α β : Type} : Tr α → (α → Tr β) → (Nat → Tr β) → Tr β
  | .ret a, g, _ => g a
  | .exc c, _, h => h c
  | .bad, _, _ => .bad
  | .draw n k, g, h => .draw n fun r => tryX (k r) g h
theorem tryX_all {α β : Type} {P : β → Prop} {E E' : Nat → Prop} {P' : α → Prop} {g : α → Tr β} {h : Nat → Tr β} (hg : ∀ a, (g a).all P E → P' a) (hh : ∀ c, (h c).all P E → E' c) : ∀ {t : Tr α}, (tryX t g h).all P E → t.all P' E'
  | .ret _, k => hg _ k
  | .exc _, k => hh _ k
  | .bad, k => k
  | .draw _ _, k => fun r hr => tryX_all hg hh (k r hr)
/-- a try in the lent phase, and the return behind it -/
def lTry (c m k j : Nat) (fx : Envt → Tr (D × Envt)) (f : Envt → Tr D) : Envt → Tr (D × List (Str × Fld)) := fun env => match env[(0 : Nat)]? with
  | some (.bo c' fs) => if c' == c && loneE 0 env && decide (0 < k) then tryX (fx (env.set 0 (.om c fs)))
      (fun de => match de.2[(0 : Nat)]? with
        | some (.om c'' fs') => if c'' == c then (noExc (f (de.2.set k (.fz de.1)))).bind fun d => .ret (d, fs') else .bad
        | _ => .bad)
      (fun code => if code < 6 then (noExc (f ((List.replicate m .un).set j (.ex code)))).bind fun d => .ret (d, fs) else .bad)
    else .bad
  | _ => .bad
section
variable {cl : CL} {X : Cx} {E : XK} {e a b r : Expr} {c : Nat} {f : Envt → Tr D} {fx : Envt → Tr (D × Envt)} {pos : Pos}
theorem dssL_try (i j k m : Nat) {x n y z : Str} {M : Addr} {np yp ep ap zp zp2 rp pos' : Pos} (hN : X.N.Nodup) (hm : X.mg x = some (.ref M)) (hE : ∀ c, c < 6 → PySem.W.exmOne X.K (.ref (cl c)) (.ref M) = some true)
    (hb : ∀ (pn : List (Addr × Obj)) (xe : Value → Shared → Prop) (E' : XK), Passes (L2.CX X.prog X.w) (X.tr pn xe) E' → DYx cl (X.tr pn xe) E' e fx) (hf : DE cl X E r f)
    (hs : X.stack = X.env :: X.outer := by rfl) (hfr : X.env.frame = some X.env.locals := by rfl) (hi : X.N[i]? = some n := by rfl) (hj : X.N[j]? = some y := by rfl) (hk : X.N[k]? = some z := by rfl) (hij : i ≠ j := by decide) (hml : X.N.length = m := by rfl) (hln : X.env.kindOf n = some .local := by rfl) (hly : X.env.kindOf y = some .local := by rfl)
    (hlz : Loc X.env.scope z := by first | exact Or.inl rfl | exact Or.inr rfl) (hg : Gl X x := by rfl) (hdb : (x == ("__debug__" : Str)) = false := by decide)
    (hex : X.ex = [] := by rfl) (nd1 : (n == ("__debug__" : Str)) = false := by decide) (nd2 : (n == ("__classdict__" : Str)) = false := by decide) (hsw : swapsWith (.Name n ep) (some (.Name y yp)) ap.line X.env = pure false := by rfl)
    (hsz : swapsWith e (some (.Name z zp)) zp2.line X.env = pure false := by rfl) (hfz : X.fn z = true ∨ X.env.scope.names.lookup z = some .local := by first | exact .inl rfl | exact .inr rfl | assumption) :
    DSsL cl X E c [.Try [.Assign [.Name z zp] e zp2] [.ExceptHandler (some (.Name x np)) (some n) [.Assign [.Name y yp] (.Name n ep) ap] pos'] [] [] pos, .Return (some r) rp] (lTry c m k j fx f) := by
  obtain ⟨tr, pr, rr⟩ := hf
  refine ⟨_, pss_cons (ps_try_keep (tb := fun W D σ H => ∃ (F : Fx) (B : Hp) (ad : Ads) (env : Envt), F.K = X.K ∧ F.cl = cl ∧ Ok F B ad σ H env ∧ (fx env).all (fun de => ∀ v ad' H', Ok F B ad' σ H' de.2 → Rep F.K (mask H' (Mm F ad')) v de.1 → D.nx (σ.set k (some v)) H') (EOkH F ad H fun cls d H => ∀ σ' : St, σ'.length = X.N.length → W cls d σ' H)) hs hfr hN hi hj hln hly hg hdb hm hex nd1 nd2 hsw (fun W pn xe tk po => ?_)) (pss_one (ps_ret pr)), fun F B ad σ H env N t0 hK hc htk o kk => ?_⟩
  · obtain ⟨t, p, q⟩ := hb pn xe (fun cls d H => ∀ σ' : St, σ'.length = X.N.length → W cls d σ' H) (fun pins σ H s e s' I c => tk e s' (XE.of_call I (fun cls d H' z => z σ I.len) c))
    have ps := pss_one (ps_set (X := X.tr pn xe) (i := k) hN hk hlz p hsz hfz)
    exact ⟨fun pins s σ H D I ⟨F, B, ad, env, hK, hc, o, kk⟩ => ps.run pins s σ H D I (q F B ad σ H env _ hK hc o (Tr.all_mono (fun de z v ad' H' o' rv => z v ad' H' o' rv) (fun _ z => z) kk))⟩
  · unfold lTry at kk
    split at kk
    · rename_i c' fs he
      cases hq : c' == c && loneE 0 env && decide (0 < k) with
      | false => rw [hq] at kk; exact kk.elim
      | true =>
        rw [hq] at kk
        rw [Bool.and_eq_true, Bool.and_eq_true] at hq
        have ec : c' = c := by simpa using hq.1.1
        have k0 : 0 < k := of_decide_eq_true hq.2
        subst ec
        obtain ⟨ht, hs0, o'⟩ := o.take he hq.1.2 htk
        refine ⟨F.take t0 ht, B, _, _, hK, hc, o', ?_⟩
        refine tryX_all (fun de z v ad2 H2 o2 rv => ?_) (fun code z => ?_) kk
        · split at z
          · rename_i c2 fs2 he2
            cases hq2 : c2 == c' with
            | false => rw [hq2] at z; exact z.elim
            | true =>
              rw [hq2] at z
              have ec2 : c2 = c' := by simpa using hq2
              subst ec2
              have o3 := o2.setFz (i := k) rv
              refine rr (F.take t0 ht) B _ _ H2 _ _ hK hc o3 (Tr.all_mono (fun d zd v' H3 k3 rv' => ?_) (fun _ z => z.elim) (noExc_all (Tr.all_bind z)))
              have o4 := o3.kx k3
              have he3 : (de.2.set k (.fz de.1))[0]? = some (.om c2 fs2) := by rw [List.getElem?_set_ne (by omega)]; exact he2
              obtain ⟨ps, vf, L, sub⟩ := take_left ht htk o4 he3
              have zd : PostL F c2 t0 N (d, fs2) := zd
              exact (zd (σ.set k (some v)) H3 ps vf L).1 v' (rv'.mono (mask_w sub))
          · exact z.elim
        · intro H' k' σ' hl
          split at z
          · rename_i hlt
            refine ⟨F.cl code, rfl, rfl, by show PySem.W.exmOne X.K (.ref (F.cl code)) _ = _; rw [hc]; exact hE code hlt, fun ax na => ?_⟩
            have mn : ∀ {a}, Mm F (List.replicate m none) a → F.O a := fun {a} q => q.elim id fun ⟨_, w, _⟩ => by cases List.eq_of_mem_replicate w
            have nO : ¬ F.O ax := fun q => by
              obtain ⟨x, e⟩ := o.Msome (.inl q)
              by_cases hd : dl F.dt ax
              · obtain ⟨x, e⟩ := k'.dr.some hd
                rw [na] at e; cases e
              · rw [k'.keep ax x e hd] at na; cases na
            have jl : j < m := by rw [← hml]; exact (List.getElem?_eq_some_iff.mp hj).1
            have o5 : Ok F B (List.replicate m none) (((σ'.set i (some (.ref ax))).set j (some (.ref ax))).set i none) (upd H' ax (ExT (F.cl code) ax)) ((List.replicate m .un).set j (.ex code)) := by
              refine ⟨?_, ?_, ?_, ?_, ?_, ?_, ?_⟩
              · refine o.hb.trans (mask_same fun b x n e => ⟨fun q => n (.inl (mn q)), ?_⟩)
                have e1 := k'.keep b x e (fun q => n (Mm_dl q))
                rw [upd_ne (ne_of_none e1 na)]; exact e1
              · refine ⟨fun b x e nd => ?_, ?_⟩
                · have e1 := k'.keep b x (o.k0.keep b x e nd) nd
                  rw [upd_ne (ne_of_none e1 na)]; exact e1
                · have q1 : DrOk F.dt F.O H' := k'.dr.weak fun a z => by
                    by_cases y : inW (t0.a, t0.dx :: t0.ps) a
                    · exact .inr ⟨_, List.mem_of_getElem? (i := 0) (List.getElem?_set_self (List.getElem?_eq_some_iff.mp (o.at_ he).choose_spec.choose_spec.1).1), y⟩
                    · exact .inl ⟨z, y⟩
                  exact (Kx.of_same (M := Mm F (List.replicate m none)) (q1.weak fun _ q => mn q) (same_new na)).dr
              · simp [hl, hml]
              · simp
              · intro l oa sv e h1 h2 h3
                have ho := List.eq_of_mem_replicate (List.mem_of_getElem? h1)
                subst ho
                by_cases hjl : j = l
                · subst hjl
                  rw [List.getElem?_set_self (by simpa using jl)] at h3
                  cases h3
                  rw [List.getElem?_set_ne hij, List.getElem?_set_self (by simp [hl, hml, jl])] at h2
                  cases h2
                  exact ⟨rfl, ax, rfl, (mask_out fun q => nO (mn q)).trans upd_same⟩
                · rw [List.getElem?_set_ne hjl] at h3
                  have := List.eq_of_mem_replicate (List.mem_of_getElem? h3)
                  subst this
                  exact rfl
              · intro i j _ _ a q1 q2 _ _
                have := List.eq_of_mem_replicate (List.mem_of_getElem? q1)
                cases this
              · intro i _ a q _
                have := List.eq_of_mem_replicate (List.mem_of_getElem? q)
                cases this
            refine rr F B _ _ _ _ _ hK hc o5 (Tr.all_mono (fun d zd v' H3 k3 rv' => ?_) (fun _ z => z.elim) (noExc_all (Tr.all_bind z)))
            have zd : PostL F c' t0 N (d, fs) := zd
            obtain ⟨oa, sv, e1, e2, q1, a, dx, ps, vs, q2, ⟨q0, qt⟩, q3, q4, q5, q6⟩ := o.at_ he
            subst q1 q2
            have et := qt t0 htk
            subst et
            have sub : ∀ x, OW F.O (a, dx :: ps) (a, dx :: ps) x → F.O x := fun x q => q.elim (fun z => z.1) fun z => (q0 x z).1
            have kp : ∀ b x, H b = some x → ¬ dl F.dt b → H3 b = some x := fun b x e nd => by
              have e1 := k'.keep b x e nd
              exact k3.keep b x (by rw [upd_ne (ne_of_none e1 na)]; exact e1) nd
            have nd : ∀ x, inW (a, dx :: ps) x → ¬ dl F.dt x := fun x z => (q0 x z).2
            refine (zd σ H3 ps vs ⟨fun b x e n1 _ => kp b x (o.k0.keep b x e n1) n1, k3.dr.weak fun x q => .inl (sub x q), kp _ _ q3 (nd _ (.inl rfl)), kp _ _ q4 (nd _ (.inr List.mem_cons_self)), q5, fun p hp => .inl hp, ?_⟩).1 v' (rv'.mono (mask_w fun x q => .inl (sub x q)))
            exact q6.move (mask_same fun b x n e => ⟨fun z => n (.inl (sub b z)), kp b x e fun z => n (Mm_dl z)⟩) fun x hx y e => kp x y e (nd x (.inr (List.mem_cons_of_mem _ hx)))
          · exact z.elim
    · exact kk.elim
end
end Mb
set_option maxHeartbeats 1000000
namespace Mb
open PySem L2
structure CalF (P : Program) (w : World) (K : PySem.W.Frag) (mg : Str → Option Value) (base : Heap) (cl : CL) (c : Nat) (x : Str) (k n : Nat) (m : List Ent → Tr (D × List (Str × Fld))) : Prop where
  ex : ∃ f fd ps, FnOk P w K mg base (L2.CX P w) k f fd ps (spO K cl c n m) ∧ mg x = some (.ref f) ∧ PySem.W.keepIn K (.ref f) = true ∧ Binds K fd ps []
section
variable {P : Program} {w : World} {K : PySem.W.Frag} {mg : Str → Option Value} {base : Heap} {cl : CL}
open PySem.Spec PyProof.Rows in
theorem calF_of {c : Nat} {x : Str} {st : Stmt} {N ps : List Str} {k n : Nat} {g : Envt → Tr (D × List (Str × Fld))} (T : DefAt K mg x st ps) (S : FnScope N ps (defScope st)) (hps : ps.length = n)
    (hbody : ∀ (f : Addr) (cdv : Value) (A : Around) (outer : List Env) (s : Shared) (H : Hp) (E : XK), Room k (A.deeper (envOfC x (defScope st) s.heap.objs.size f cdv)) →
      DSsL cl (cxOf (L2.CX P w) P w K mg base N x (defScope st) f cdv A outer s H E) E c (defBody st) g) : CalF P w K mg base cl c x (k + 1) n (runL N.length n g) := by
  obtain ⟨f, fd, F, gm, b⟩ := T.ex
  refine ⟨f, fd, ps, F.okX S (fun vs H Q E h => ?_) (fun cdv A outer s H vs Q E hr h => ?_), gm, F.kp, b⟩
  · obtain ⟨O, dt, es, fs, a, dx, pp, vf, ws, rfl, hl, _, _, _, _, _, _, _, _, ha, _⟩ := h
    rw [List.length_cons, ha.length, hl, hps]
  · obtain ⟨O, dt, es, fs, a, dx, pp, vf, ws, rfl, hl, h1, h2, h3, h4, h5, h6, h7, h8, ha, hm⟩ := h
    obtain ⟨t, p, r⟩ := hbody f cdv A outer s H E hr
    refine ⟨t, p, ?_⟩
    obtain ⟨B, ad, o⟩ := start_lent (F := ⟨K, cl, H, O, dt, h1, h2, h3, some ⟨a, dx, pp⟩⟩) (N := N) (c := c) (fun t e => by cases e; rfl) h4 h5 h6 h7 h8 ha
    unfold runL at hm
    rw [← hl] at hm
    refine r ⟨K, cl, H, O, dt, h1, h2, h3, some ⟨a, dx, pp⟩⟩ _ _ _ H _ _ ⟨a, dx, pp⟩ rfl rfl rfl o (Tr.all_mono (fun rr z => ?_) (fun c z => z) hm)
    intro σ' H' ps' vf' L
    exact ⟨fun v rv => z v H' ps' vf' L rv, fun e => z .non H' ps' vf' L (by rw [e]; exact .non)⟩
end
/-- f(o, ..) of an own object, which may be changed -/
def yGive (n c : Nat) (m : List Ent → Tr (D × List (Str × Fld))) (i : Nat) (g : Envt → Tr (List Ent)) : Envt → Tr (D × Envt) := fun env => match ownC i c env with
  | some (e, fs) => (g env).bind fun es => if es.length + 1 == n then (m (.bo c fs :: es)).bind fun r => .ret (r.1, env.set i (withF e r.2)) else .bad
  | none => .bad
/-- len(o), o in slot i -/
def vLenO (c : Nat) (m : List Ent → Tr D) (i : Nat) : Envt → Tr D := fun env => match (env[i]?).bind objE with
  | some (c', fs) => if c' == c then (m [.bo c fs]).bind fun d => match d with
    | .int n => if 0 ≤ n ∧ n < 9223372036854775808 then .ret (.int n) else .bad
    | _ => .bad else .bad
  | none => .bad
def rLenO (K : PySem.W.Frag) (cl : CL) (c : Nat) (m : List Ent → Tr D) (E : XK) : List V → Hp → VK → Prop := fun xs H Q => ∃ a dx fs, xs = [.ref a] ∧ H a = some (.ins (cl c) dx fs) ∧
  spR K cl c 1 m [.ref a] H (fun v H' => ∃ n : Int, v = .int n ∧ 0 ≤ n ∧ n < 9223372036854775808 ∧ Q (.int n) H') E
section
variable {cl : CL} {X : Cx} {E : XK} {e a b c : Expr} {f g h : Envt → Tr D} {pos : Pos} {sts : List Stmt} {u : Stm}
theorem dy_give (i c : Nat) {k n : Nat} {m : List Ent → Tr (D × List (Str × Fld))} {y x : Str} {es : List Expr} {p p1 : Pos} {g : Envt → Tr (List Ent)} (G : CalF X.prog X.w X.K X.mg X.base cl c y k n m) (hr : Room k X.A) (hx : Passes (L2.CX X.prog X.w) X E) (ha : DA cl X E es g)
    (hN : X.N[i]? = some x := by rfl) (hg : Gl X y := by rfl) (hv : Vis X.env.scope x := by first | exact Or.inl rfl | exact Or.inr (Or.inl rfl) | exact Or.inr (Or.inr rfl)) (hd : (x == ("__debug__" : Str)) = false := by decide)
    (hcd : (x == ("__classdict__" : Str)) = false := by decide) (hdb : (y == ("__debug__" : Str)) = false := by decide) (he : starEach (.Name x p1 :: es) X.env = (false, eval (.Name x p1) X.env) :: starEach es X.env := by rfl) (hpl : (backTo pos (starEach es X.env)).any (·.1) = false := by rfl) :
    DY cl X E (.Call (.Name y p) (.Name x p1 :: es) [] pos) (yGive n c m i g) := by
  obtain ⟨f, fd, ps, G, gm, kp, b⟩ := G.ex
  obtain ⟨t, pa, s⟩ := ha
  refine ⟨_, pe_call G hr hg gm kp b .nil hx (pa_cons (pe_var (i := i) hN hv hd hcd) pa he) hdb he hpl, fun F B ad σ H env Q hk hc o k => ?_⟩
  unfold yGive at k
  split at k
  · rename_i en fs hown
    obtain ⟨he, ho⟩ := ownC_ok hown
    obtain ⟨a, dx, pp, vf, q⟩ := o.own he ho
    refine ⟨_, q.s, ?_⟩
    refine s F B ad σ H env _ hk hc o (Tr.all_mono (fun es z vs H1 k1 rs => ?_) (fun _ z => z) (Tr.all_bind k))
    show spO X.K cl c n m (V.ref a :: vs ++ []) H1 Q E
    rw [List.append_nil]
    exact askO_core hk hc o he ho q.s k1 rs z
  · exact k.elim
theorem call_lenO {c k : Nat} {f : Addr} {fd : FuncData} {ps : List Str} {m : List Ent → Tr D} (M : Meth X.K (cl c) "__len__" f) (F : FnOk X.prog X.w X.K X.mg X.base (L2.CX X.prog X.w) k f fd ps (spR X.K cl c 1 m)) (hr : Room (k + 1) X.A) (b : Binds X.K fd ps []) (hx : Passes (L2.CX X.prog X.w) X E) : CallR X (.builtin "len") (rLenO X.K cl c m E) := by
  intro pins s σ H xs us Q I r h
  obtain ⟨a, dx, fs, rfl, ha, hsp⟩ := h
  rw [Vals.ref1 r]
  obtain ⟨mA, J, _⟩ := ins_get I.hok ha
  obtain ⟨od, J, _⟩ := J.look
  obtain ⟨m0, hF⟩ := I.fr
  refine PySem.W.len_K hF I.ok.mod.kin J M.at_ M.fn ?_
  have hl := F.len _ _ _ _ hsp
  have r2 : Vals [V.ref a] [Value.ref a] := .cons rfl .nil
  refine wpAny_call (codeAny_mono (F.run X.A.in1 X.stack s H ⟨[.ref a], []⟩ [.ref a] [.ref a] _ E hr.in1 I.env0.in1 (by
    have := b s [.ref a] I.kIn (by simpa using hl)
    simpa using this) r2 hsp) fun r s' hq => ?_)
  cases r with
  | error e => exact hx pins σ H s e s' I hq
  | ok fl =>
    cases fl with
    | ret u =>
      obtain ⟨v, H', I', rv, n, rfl, h0, h1, q⟩ := I.after hq
      obtain ⟨t, rfl⟩ := rv
      exact ⟨⟨h0, h1⟩, .int n, H', I'.tok _, ⟨_, rfl⟩, q⟩
    | next => exact False.elim hq
    | brk => exact False.elim hq
    | cont => exact False.elim hq
theorem de_lenO (i c : Nat) {k : Nat} {m : List Ent → Tr D} {x : Str} {p p1 : Pos} (hC : Cls X.K (cl c)) (G : CalR X.prog X.w X.K X.mg X.base cl c "__len__" k 1 m) (hr : Room (k + 1) X.A) (hx : Passes (L2.CX X.prog X.w) X E) (hm : X.mg "len" = none)
    (hN : X.N[i]? = some x := by rfl) (hv : Vis X.env.scope x := by first | exact Or.inl rfl | exact Or.inr (Or.inl rfl) | exact Or.inr (Or.inr rfl)) (hd : (x == ("__debug__" : Str)) = false := by decide)
    (hcd : (x == ("__classdict__" : Str)) = false := by decide) (hg : Gl X "len" := by rfl) (he2 : starEach [Expr.Name x p1] X.env = (false, eval (.Name x p1) X.env) :: starEach [] X.env := by rfl) (hpl2 : (backTo pos (starEach [] X.env)).any (·.1) = false := by rfl) :
    DE cl X E (.Call (.Name "len" p) [.Name x p1] [] pos) (vLenO c m i) := by
  obtain ⟨f, fd, ps, G, M, b⟩ := G.ex
  refine ⟨_, pe_callB (call_lenO M G hr b hx) hg hm (by decide +kernel) (pa_cons (pe_var (i := i) hN hv hd hcd) pa_nil he2) (by decide) (by decide) he2 hpl2, fun F B ad σ H env Q hk hc o k => ?_⟩
  unfold vLenO at k
  split at k
  · rename_i c' fs he
    cases hq : c' == c with
    | false => rw [hq] at k; exact k.elim
    | true =>
      rw [hq] at k
      have ec : c' = c := by simpa using hq
      subst ec
      obtain ⟨en, he1, ho⟩ := objE_at he
      obtain ⟨a, dx, pp, vf, q⟩ := o.obj he1 ho
      refine ⟨_, q.s, a, dx, vf, rfl, by rw [← hc]; exact q.h, ?_⟩
      refine methR_core hk hc o he1 ho q.s (Kx.refl o.k0.dr) .nil (show Tr.all _ _ (if ([] : List Ent).length + 1 == 1 then m [.bo c' fs] else .bad) from Tr.all_mono (fun d z v H' k1 rv => ?_) (fun _ z => z) (Tr.all_bind k))
      cases d with
      | int n =>
        cases rv
        have z : (if 0 ≤ n ∧ n < 9223372036854775808 then Tr.ret (PyData.int n) else .bad).all (Post F ad H Q) (EOk F E) := z
        split at z
        · rename_i hn
          exact ⟨n, rfl, hn.1, hn.2, z _ H' k1 (.int n)⟩
        · exact z.elim
      | _ => exact z.elim
  · exact k.elim
end
end Mb
set_option maxHeartbeats 1000000
namespace Mb
open PySem L2
def sRetY (f : Envt → Tr (D × Envt)) : Stm := fun env => (f env).bind fun de => .ret (.rt de.1)
def yAndV (f g : Envt → Tr (D × Envt)) : Envt → Tr (D × Envt) := fun env => (f env).bind fun x => match x.1 with
  | .bool true => g x.2
  | .bool false => .ret (.bool false, x.2)
  | _ => .bad
section
variable {cl : CL} {X : Cx} {E : XK} {e a b : Expr} {pos : Pos} {f g : Envt → Tr (D × Envt)}
theorem ds_retY (he : DY cl X E e f) : DS cl X E (.Return (some e) pos) (sRetY f) := by
  obtain ⟨t, p, r⟩ := he
  refine ⟨_, ps_ret p, fun F B ad σ H env N hk hc o k => ?_⟩
  refine r F B ad σ H env _ hk hc o (Tr.all_mono (fun de z v ad' H1 o1 rv => ?_) (fun _ z => z) (Tr.all_bind k))
  exact z v H1 o1.kO (rv.mono (mm_O _ _))
theorem dssO_retY (he : DY cl X E e f) : DSsO cl X E [.Return (some e) pos] f := by
  obtain ⟨t, p, r⟩ := he
  refine ⟨_, pss_one (ps_ret p), fun F B ad σ H env N hk hc o k => ?_⟩
  refine r F B ad σ H env _ hk hc o (Tr.all_mono (fun de z v ad' H1 o1 rv => ?_) (fun _ z => z) k)
  exact (z ad' σ H1 o1).1 v rv
theorem dy_one {op : BoolOp} (h : DY cl X E a f) : DY cl X E (.BoolOp op [a] pos) f := by
  obtain ⟨t, p, r⟩ := h
  exact ⟨t, pe_one p, r⟩
theorem dy_and {rest : List Expr} (ha : DY cl X E a f) (hb : DY cl X E (.BoolOp .And (b :: rest) pos) g) : DY cl X E (.BoolOp .And (a :: b :: rest) pos) (yAndV f g) := by
  obtain ⟨t, p, r⟩ := ha
  obtain ⟨u, q, s⟩ := hb
  refine ⟨_, pe_and p q, fun F B ad σ H env Q hk hc o k => ?_⟩
  refine r F B ad σ H env _ hk hc o (Tr.all_mono (fun de z x ad1 H1 o1 rx => ?_) (fun _ z => z) (Tr.all_bind k))
  obtain ⟨d, env1⟩ := de
  cases d with
  | bool b =>
    cases rx
    refine ⟨b, rfl, ?_⟩
    cases b with
    | true => exact iteT (s F B ad1 σ H1 env1 Q hk hc o1 z)
    | false =>
      have z : PostY F B σ Q (.bool false, env1) := z
      exact iteF (z (.bl false) ad1 H1 o1 (.bl false))
  | _ => exact z.elim
end
open Classical in
/-- some more addresses of the caller's -/
noncomputable def Fx.plusS (F : Fx) (S : Addr → Prop) (G : Hp) (hn : ∀ a, S a → F.H0 a = none) (hs : ∀ a, S a → ∃ o, G a = some o) : Fx where
  K := F.K
  cl := F.cl
  H0 := fun a => if S a then G a else F.H0 a
  O := fun a => F.O a ∨ S a
  dt := F.dt
  oin := fun a q => by
    by_cases z : S a
    · obtain ⟨o, e⟩ := hs a z
      exact ⟨o, by rw [if_pos z]; exact e⟩
    · rcases q with q | q
      · obtain ⟨o, e⟩ := F.oin a q
        exact ⟨o, by rw [if_neg z]; exact e⟩
      · exact absurd q z
  odl := fun a q => .inl (F.odl a q)
  d0 := F.d0.move (mask_same fun a x n e => by
    have z : ¬ S a := fun q => by rw [hn a q] at e; cases e
    exact ⟨fun q => q.elim n z, by rw [if_neg z]; exact e⟩) fun b x _ e => by
    have z : ¬ S b := fun q => by rw [hn b q] at e; cases e
    rw [if_neg z]; exact e
  tk := F.tk
theorem Mm_plusS {F : Fx} {S : Addr → Prop} {G : Hp} {hn : ∀ a, S a → F.H0 a = none} {hs : ∀ a, S a → ∃ o, G a = some o} {ad : Ads} : Mm (F.plusS S G hn hs) ad = fun a => Mm F ad a ∨ S a := by
  funext a
  apply propext
  constructor
  · rintro ((q | q) | q)
    · exact .inl (.inl q)
    · exact .inr q
    · exact .inl (.inr q)
  · rintro ((q | q) | q)
    · exact .inl (.inl q)
    · exact .inr q
    · exact .inl (.inr q)
section
variable {F : Fx} {B : Hp} {ad : Ads} {σ : St} {H H' : Hp} {env : List Ent}
open Classical in
theorem Ok.plusS {S : Addr → Prop} (o : Ok F B ad σ H env) (k : Kx F.dt (fun a => Mm F ad a ∨ S a) H H') (hS : ∀ a, S a → H a = none) (h0 : ∀ a, S a → F.H0 a = none) (hS' : ∀ a, S a → ∃ o, H' a = some o) : Ok (F.plusS S H' h0 hS') B ad σ H' env := by
  have ms : Same (mask H (Mm F ad)) (mask H' (Mm (F.plusS S H' h0 hS') ad)) := mask_same fun a y n e => by
    refine ⟨fun q => ?_, k.keep a y e fun q => n (Mm_dl q)⟩
    rw [Mm_plusS] at q
    rcases q with q | q
    · exact n q
    · rw [hS a q] at e; cases e
  refine ⟨o.hb.trans ms, ⟨fun b y e n => ?_, k.dr.weak fun a q => by rw [Mm_plusS] at q; exact q⟩, o.ls, o.la, fun i oa sv e h1 h2 h3 => ?_, o.inj, fun i w a h hw => ?_⟩
  · by_cases hb : S b
    · have e : (if S b then H' b else F.H0 b) = some y := e
      rw [if_pos hb] at e; exact e
    · have e : (if S b then H' b else F.H0 b) = some y := e
      rw [if_neg hb] at e
      exact (o.k0.trans k).keep b y e n
  · exact EntOk.move (F := F) (F' := F.plusS S H' h0 hS') rfl rfl rfl rfl ms (fun w a x e1 e2 e3 => k.keep a x e3 (o.notdlW (by rw [h1, e1]) e2)) (fun _ q => .inl q) (fun a x _ n e => k.keep a x e n) (o.ent i oa sv e h1 h2 h3)
  · show (if S a then H' a else F.H0 a) = none
    rw [if_neg]
    · exact o.new i w a h hw
    · intro q
      obtain ⟨x, e⟩ := o.Msome (Mm_at h hw)
      rw [hS a q] at e; cases e
end
theorem FldsOk.some {K : PySem.W.Frag} {M H : Hp} {ps : List Addr} {vs : List (Str × V)} {fs : List (Str × Fld)} (h : FldsOk K M H ps vs fs) : ∀ {p : Addr}, p ∈ ps → ∃ o, H p = some o := by
  induction h with
  | nil => intro p q; cases q
  | fz _ _ ih => exact fun q => ih q
  | ow hp _ _ ih => exact fun q => (List.mem_cons.mp q).elim (fun z => z ▸ ⟨_, hp⟩) fun z => ih z
  | od hp _ _ ih => exact fun q => (List.mem_cons.mp q).elim (fun z => z ▸ ⟨_, hp⟩) fun z => ih z
/-- y, z = (C(..), a new list) -/
def sParO (i j c n : Nat) (m : List Ent → Tr (List (Str × Fld))) (g : Envt → Tr (List Ent)) (f : Envt → Tr (List D)) : Stm := fun env => (g env).bind fun es => if es.length == n then (m es).bind fun fs => (f env).bind fun ds => .ret (.nx ((env.set i (.ob c fs)).set j (.ow ds))) else .bad
section
variable {cl : CL} {X : Cx} {E : XK} {e a b : Expr} {pos : Pos}
open Classical in
theorem ds_parO (i j c : Nat) {k n : Nat} {m : List Ent → Tr (List (Str × Fld))} {x y z : Str} {es : List Expr} {p py pz pt spos : Pos} {kt k2 : Nat} {pt2 : Pos} {g : Envt → Tr (List Ent)} {f : Envt → Tr (List D)} (hN : X.N.Nodup) (G : CalG X.prog X.w X.K X.mg X.base cl c x k n m) (hr : Room (k + 1) X.A) (hx : Passes (L2.CX X.prog X.w) X E) (ha : DA cl X E (e :: es) g) (hf : DN cl X E b f) (hg : Gl X x := by rfl) (hdb : (x == ("__debug__" : Str)) = false := by decide)
    (he : starEach (e :: es) X.env = (false, eval e X.env) :: starEach es X.env := by rfl) (hpl : (backTo pos (starEach es X.env)).any (·.1) = false := by rfl)
    (hst : starEach [.Call (.Name x p) (e :: es) [] pos, b] X.env = (false, eval (.Call (.Name x p) (e :: es) [] pos) X.env) :: starEach [b] X.env := by rfl) (hst2 : starEach [b] X.env = (false, eval b X.env) :: starEach [] X.env := by rfl)
    (hw : swappedStores [.Tuple [.Name y py, .Name z pz] kt pt] (.Tuple [.Call (.Name x p) (e :: es) [] pos, b] k2 pt2) X.env = pure (some [y, z]) := by rfl)
    (hi : X.N[i]? = some y := by rfl) (hj : X.N[j]? = some z := by rfl) (hij : i ≠ j := by decide) (hy : X.env.scope.names.lookup y = some .local := by rfl) (hz : X.env.scope.names.lookup z = some .local := by rfl) (hc : X.calm = true := by rfl)
    (hs : swapsWithSole [.Tuple [.Name y py, .Name z pz] kt pt] (.Tuple [.Call (.Name x p) (e :: es) [] pos, b] k2 pt2) spos.line X.env = pure false := by rfl) :
    DS cl X E (.Assign [.Tuple [.Name y py, .Name z pz] kt pt] (.Tuple [.Call (.Name x p) (e :: es) [] pos, b] k2 pt2) spos) (sParO i j c n m g f) := by
  obtain ⟨ff, fd, ps, G, M, hm, hb⟩ := G.ex
  obtain ⟨t, pa, s⟩ := ha
  obtain ⟨tn, pn, rn⟩ := hf
  refine ⟨_, ps_par hc hN hi hj hij hy hz (pa_cons (pe_make M G hr hg hm hb .nil hx pa hdb he hpl) (pa_cons pn pa_nil hst2) hst) hw hs, fun F B ad σ H env N hk hcl o k => ?_⟩
  refine s F B ad σ H env _ hk hcl o (Tr.all_mono (fun es z vs H1 k1 rs => ?_) (fun _ z => z) (Tr.all_bind k))
  intro x dx nx ndx ne
  cases hl : es.length == n with
  | false => rw [hl] at z; exact z.elim
  | true =>
    rw [hl] at z
    have o1 := o.kx k1
    rw [List.append_nil]
    refine ⟨Mm F ad, F.dt, es, H1, x, dx, vs, rfl, nx, ndx, ne, rfl, by simpa using hl, fun a q => o1.Msome q, fun a q => Mm_dl q, k1.dr, by rw [← hk, ← hcl]; exact rs, Tr.all_mono (fun fs zd H' ps vf L => ⟨rfl, ?_⟩) (fun c zc H' k2 => ?_) (Tr.all_bind z)⟩
    · rw [← hcl]; exact zc H' ((o1.k0.trans k2).weak fun a q => .inl q)
    · rw [← hk, ← hcl] at L
      have new : ∀ a, inW (x, dx :: ps) a → H1 a = none := fun a h => by
        rcases h with z | z
        · have z : a = x := z
          rw [z]; exact nx
        · rcases List.mem_cons.mp z with y | y
          · rw [y]; exact ndx
          · exact L.nw a y
      have ex : ∀ a, inW (x, dx :: ps) a → ∃ o, H' a = some o := fun a h => by
        rcases h with z | z
        · have z : a = x := z
          exact ⟨_, by rw [z]; exact L.h⟩
        · rcases List.mem_cons.mp z with y | y
          · exact ⟨_, by rw [y]; exact L.d⟩
          · exact L.f.some y
      have oA := o1.setNewW (i := i) (w := (x, dx :: ps)) (sv' := .ref x) (e' := .ob c fs) L.k new ⟨x, dx, ps, vf, rfl, rfl, L.h, L.d, L.n, L.f.move (mask_w fun a q => Mm_setW q) fun _ _ _ e => e⟩
      have oB := o1.plusS L.k new (fun a h => o1.H0none (new a h)) ex
      refine rn (F.plusS (inW (x, dx :: ps)) H' (fun a h => o1.H0none (new a h)) ex) B ad σ H' env _ hk hcl oB (Tr.all_mono (fun ds zf p H3 ws k3 hn hp rv => ?_) (fun c zc H3 k3 => ?_) (Tr.all_bind zd))
      · have zf : SPost F B N (.nx ((env.set i (.ob c fs)).set j (.ow ds))) := zf
        rw [Mm_plusS] at k3 rv
        have sub : ∀ a, Mm F (ad.set i (some (x, dx :: ps))) a ∨ a = p → (Mm F ad a ∨ inW (x, dx :: ps) a) ∨ a = p := fun a q => q.imp_left Mm_setW
        exact (show ∃ v w, [V.ref x, V.ref p] = [v, w] ∧ N.nx ((σ.set i (some v)).set j (some w)) H3 from ⟨.ref x, .ref p, rfl, zf _ _ H3 (oA.setOw (i := j) (k3.weak sub) hn hp (rv.mono (mask_w sub)))⟩)
      · refine zc H3 ⟨fun b ob e nd => k3.keep b ob ?_ nd, k3.dr.weak fun a q => .inl q⟩
        have nb : ¬ inW (x, dx :: ps) b := fun q => by
          rw [o1.H0none (new b q)] at e; cases e
        show (if inW (x, dx :: ps) b then H' b else F.H0 b) = some ob
        rw [if_neg nb]; exact e
end
end Mb
set_option maxHeartbeats 4000000
namespace Mb
open PySem L2
def topS (i : Nat) : Stmt := PySem.Challenge.pw_matchboards_k13_whole_tables.main.body.getD i (.Pass ⟨0, 0, 0, 0⟩)
abbrev s_is_int : Stmt := topS 8
abbrev s_is_word : Stmt := topS 16
abbrev s_is_rule : Stmt := topS 17
abbrev s_check_rule : Stmt := topS 18
abbrev s_check_number : Stmt := topS 9
abbrev s_check_sight : Stmt := topS 10
abbrev s_Table_init : Stmt := inClass (topS 35) 0
abbrev s_Table___len__ : Stmt := inClass (topS 35) 1
abbrev s_board_of : Stmt := topS 32
abbrev s_Table_boards : Stmt := inClass (topS 35) 5
abbrev s_is_rally : Stmt := topS 19
abbrev s_check_rally : Stmt := topS 20
abbrev s_ended : Stmt := topS 26
abbrev s_folded : Stmt := topS 29
abbrev s_maker_of : Stmt := topS 27
abbrev s_served : Stmt := topS 30
abbrev s_wanted : Stmt := topS 25
abbrev s_wins_game : Stmt := topS 28
abbrev s_step : Stmt := topS 31
abbrev s_Table_play : Stmt := inClass (topS 35) 2
abbrev s_Table_rallies : Stmt := inClass (topS 35) 4
abbrev s_Table_state : Stmt := inClass (topS 35) 3
abbrev s_Table_undo : Stmt := inClass (topS 35) 6
abbrev s_law_board : Stmt := topS 51
abbrev s_law_error : Stmt := topS 44
abbrev s_law_call : Stmt := topS 53
abbrev s_law_draw : Stmt := topS 42
abbrev s_law_pick : Stmt := topS 43
abbrev s_law_rule : Stmt := topS 45
abbrev s_law_start : Stmt := topS 41
abbrev s_law_folded : Stmt := topS 48
abbrev s_law_wanted : Stmt := topS 46
abbrev s_law_won : Stmt := topS 47
abbrev s_law_along : Stmt := topS 49
abbrev s_law_states : Stmt := topS 50
abbrev s_law_step : Stmt := topS 52
abbrev s_is_row : Stmt := topS 21
abbrev s_check_row : Stmt := topS 22
abbrev s_states_of : Stmt := topS 37
abbrev s_shown : Stmt := topS 38
abbrev s_boards_of : Stmt := topS 39
abbrev s_law : Stmt := topS 54
theorem sc_is_int : FnScope ["value", "low", "high"] ["value", "low", "high"] (defScope s_is_int) := ⟨rfl, rfl, rfl, by decide +kernel, rfl, by decide +kernel, by decide +kernel⟩
theorem sc_is_word : FnScope ["value", "words"] ["value", "words"] (defScope s_is_word) := ⟨rfl, rfl, rfl, by decide +kernel, rfl, by decide +kernel, by decide +kernel⟩
theorem sc_is_rule : FnScope ["value"] ["value"] (defScope s_is_rule) := ⟨rfl, rfl, rfl, by decide +kernel, rfl, by decide +kernel, by decide +kernel⟩
theorem sc_check_rule : FnScope ["value"] ["value"] (defScope s_check_rule) := ⟨rfl, rfl, rfl, by decide +kernel, rfl, by decide +kernel, by decide +kernel⟩
theorem sc_check_number : FnScope ["value", "low", "high"] ["value", "low", "high"] (defScope s_check_number) := ⟨rfl, rfl, rfl, by decide +kernel, rfl, by decide +kernel, by decide +kernel⟩
theorem sc_check_sight : FnScope ["value"] ["value"] (defScope s_check_sight) := ⟨rfl, rfl, rfl, by decide +kernel, rfl, by decide +kernel, by decide +kernel⟩
theorem sc_Table_init : FnScope ["self", "rule", "sight"] ["self", "rule", "sight"] (defScope s_Table_init) := ⟨rfl, rfl, rfl, by decide +kernel, rfl, by decide +kernel, by decide +kernel⟩
theorem sc_Table___len__ : FnScope ["self"] ["self"] (defScope s_Table___len__) := ⟨rfl, rfl, rfl, by decide +kernel, rfl, by decide +kernel, by decide +kernel⟩
theorem sc_board_of : FnScope ["state", "sight"] ["state", "sight"] (defScope s_board_of) := ⟨rfl, rfl, rfl, by decide +kernel, rfl, by decide +kernel, by decide +kernel⟩
theorem sc_Table_boards : FnScope ["self", "state"] ["self"] (defScope s_Table_boards) := ⟨rfl, rfl, rfl, by decide +kernel, rfl, by decide +kernel, by decide +kernel⟩
theorem sc_is_rally : FnScope ["value"] ["value"] (defScope s_is_rally) := ⟨rfl, rfl, rfl, by decide +kernel, rfl, by decide +kernel, by decide +kernel⟩
theorem sc_check_rally : FnScope ["value"] ["value"] (defScope s_check_rally) := ⟨rfl, rfl, rfl, by decide +kernel, rfl, by decide +kernel, by decide +kernel⟩
theorem sc_ended : FnScope ["rule", "state"] ["rule", "state"] (defScope s_ended) := ⟨rfl, rfl, rfl, by decide +kernel, rfl, by decide +kernel, by decide +kernel⟩
theorem sc_folded : FnScope ["many", "one", "other", "low"] ["many", "one", "other"] (defScope s_folded) := ⟨rfl, rfl, rfl, by decide +kernel, rfl, by decide +kernel, by decide +kernel⟩
theorem sc_maker_of : FnScope ["rule", "state", "rally"] ["rule", "state", "rally"] (defScope s_maker_of) := ⟨rfl, rfl, rfl, by decide +kernel, rfl, by decide +kernel, by decide +kernel⟩
theorem sc_served : FnScope ["rule", "state", "rally", "games", "over"] ["rule", "state", "rally", "games", "over"] (defScope s_served) := ⟨rfl, rfl, rfl, by decide +kernel, rfl, by decide +kernel, by decide +kernel⟩
theorem sc_wanted : FnScope ["rule", "state", "more"] ["rule", "state"] (defScope s_wanted) := ⟨rfl, rfl, rfl, by decide +kernel, rfl, by decide +kernel, by decide +kernel⟩
theorem sc_wins_game : FnScope ["rule", "many", "own", "other"] ["rule", "many", "own", "other"] (defScope s_wins_game) := ⟨rfl, rfl, rfl, by decide +kernel, rfl, by decide +kernel, by decide +kernel⟩
theorem sc_step : FnScope ["rule", "state", "rally", "maker", "many", "points", "games", "over", "serving", "turn"] ["rule", "state", "rally"] (defScope s_step) := ⟨rfl, rfl, rfl, by decide +kernel, rfl, by decide +kernel, by decide +kernel⟩
theorem sc_Table_play : FnScope ["self", "rally"] ["self", "rally"] (defScope s_Table_play) := ⟨rfl, rfl, rfl, by decide +kernel, rfl, by decide +kernel, by decide +kernel⟩
theorem sc_Table_rallies : FnScope ["self"] ["self"] (defScope s_Table_rallies) := ⟨rfl, rfl, rfl, by decide +kernel, rfl, by decide +kernel, by decide +kernel⟩
theorem sc_Table_state : FnScope ["self"] ["self"] (defScope s_Table_state) := ⟨rfl, rfl, rfl, by decide +kernel, rfl, by decide +kernel, by decide +kernel⟩
theorem sc_Table_undo : FnScope ["self"] ["self"] (defScope s_Table_undo) := ⟨rfl, rfl, rfl, by decide +kernel, rfl, by decide +kernel, by decide +kernel⟩
theorem sc_law_board : FnScope ["state", "sight"] ["state", "sight"] (defScope s_law_board) := ⟨rfl, rfl, rfl, by decide +kernel, rfl, by decide +kernel, by decide +kernel⟩
theorem sc_law_error : FnScope ["caught", "kinds"] ["caught"] (defScope s_law_error) := ⟨rfl, rfl, rfl, by decide +kernel, rfl, by decide +kernel, by decide +kernel⟩
theorem sc_law_call : FnScope ["shown_here", "kind", "thing", "found", "caught", "e"] ["shown_here", "kind", "thing"] (defScope s_law_call) := ⟨rfl, rfl, rfl, by decide +kernel, rfl, by decide +kernel, by decide +kernel⟩
theorem sc_law_draw : FnScope ["draws", "limit", "numbers", "at", "cell", "mixed"] ["draws", "limit"] (defScope s_law_draw) := ⟨rfl, rfl, rfl, by decide +kernel, rfl, by decide +kernel, by decide +kernel⟩
theorem sc_law_pick : FnScope ["draws", "choices"] ["draws", "choices"] (defScope s_law_pick) := ⟨rfl, rfl, rfl, by decide +kernel, rfl, by decide +kernel, by decide +kernel⟩
theorem sc_law_rule : FnScope ["draws", "lead", "serve"] ["draws"] (defScope s_law_rule) := ⟨rfl, rfl, rfl, by decide +kernel, rfl, by decide +kernel, by decide +kernel⟩
theorem sc_law_start : FnScope ["script"] ["script"] (defScope s_law_start) := ⟨rfl, rfl, rfl, by decide +kernel, rfl, by decide +kernel, by decide +kernel⟩
theorem sc_law_folded : FnScope ["rule", "many", "points", "lead"] ["rule", "many", "points"] (defScope s_law_folded) := ⟨rfl, rfl, rfl, by decide +kernel, rfl, by decide +kernel, by decide +kernel⟩
theorem sc_law_wanted : FnScope ["rule", "games"] ["rule", "games"] (defScope s_law_wanted) := ⟨rfl, rfl, rfl, by decide +kernel, rfl, by decide +kernel, by decide +kernel⟩
theorem sc_law_won : FnScope ["rule", "many", "own", "other"] ["rule", "many", "own", "other"] (defScope s_law_won) := ⟨rfl, rfl, rfl, by decide +kernel, rfl, by decide +kernel, by decide +kernel⟩
theorem sc_law_along : FnScope ["rule", "row", "points", "games", "serving", "turn", "made_here", "states", "ended_at", "k", "rally", "many", "over", "kept", "side"] ["rule", "row"] (defScope s_law_along) := ⟨rfl, rfl, rfl, by decide +kernel, rfl, by decide +kernel, by decide +kernel⟩
theorem sc_law_states : FnScope ["rule", "row"] ["rule", "row"] (defScope s_law_states) := ⟨rfl, rfl, rfl, by decide +kernel, rfl, by decide +kernel, by decide +kernel⟩
theorem sc_law_step : FnScope ["rule", "state", "rally", "points", "games", "serving", "turn", "over", "many", "kept", "side"] ["rule", "state", "rally"] (defScope s_law_step) := ⟨rfl, rfl, rfl, by decide +kernel, rfl, by decide +kernel, by decide +kernel⟩
theorem sc_is_row : FnScope ["value", "one"] ["value"] (defScope s_is_row) := ⟨rfl, rfl, rfl, by decide +kernel, rfl, by decide +kernel, by decide +kernel⟩
theorem sc_check_row : FnScope ["value"] ["value"] (defScope s_check_row) := ⟨rfl, rfl, rfl, by decide +kernel, rfl, by decide +kernel, by decide +kernel⟩
theorem sc_states_of : FnScope ["rule", "row", "found", "rally"] ["rule", "row"] (defScope s_states_of) := ⟨rfl, rfl, rfl, by decide +kernel, rfl, by decide +kernel, by decide +kernel⟩
theorem sc_shown : FnScope ["rule", "row", "sight", "state"] ["rule", "row", "sight"] (defScope s_shown) := ⟨rfl, rfl, rfl, by decide +kernel, rfl, by decide +kernel, by decide +kernel⟩
theorem sc_boards_of : FnScope ["rule", "row", "sight"] ["rule", "row", "sight"] (defScope s_boards_of) := ⟨rfl, rfl, rfl, by decide +kernel, rfl, by decide +kernel, by decide +kernel⟩
theorem sc_law : FnScope ["script", "draws", "rule", "sight", "table", "line", "side", "turn", "states", "rally", "bad", "state"] ["script"] (defScope s_law) := ⟨rfl, rfl, rfl, by decide +kernel, rfl, by decide +kernel, by decide +kernel⟩
def u_is_int : Stm :=
  sRet (vAnd (vIsi isInt (vVar 0)) (vAnd (vNot (vIsi isBool (vVar 0))) (vChain dLe dLe (vVar 1) (vVar 0) (vVar 2))))
def m_is_int : List Ent → Tr D := runB 3 3 u_is_int
def u_is_word : Stm :=
  sRet (vAnd (vIsi isStr (vVar 0)) (v2 dIn (vVar 0) (vVar 1)))
def m_is_word : List Ent → Tr D := runB 2 2 u_is_word
def u_is_rule : Stm :=
  sSeq (sIf (bOr (bNot (vT (vIsi isTuple (vVar 0)))) (vT (v2 dNe (vB fnLen (aCons (vVar 0) (aNil))) (vC (.int 5)))))
  (sRet (vC (.bool false)))
  (sNil))
  (sSeq (sIf (bOr (bNot (vT (vCall 3 m_is_int (aCons (v2 dIx (vVar 0) (vC (.int 0))) (aCons (vC (.int 2)) (aCons (vC (.int 4)) (aNil))))))) (bOr (bNot (vT (vCall 2 m_is_word (aCons (v2 dIx (vVar 0) (vC (.int 1))) (aCons (vC (.tuple [.str "one", .str "two", .str "cap"])) (aNil)))))) (bNot (vT (vCall 3 m_is_int (aCons (v2 dIx (vVar 0) (vC (.int 2))) (aCons (vC (.int 1)) (aCons (vC (.int 3)) (aNil)))))))))
  (sRet (vC (.bool false)))
  (sNil))
  (sRet (vAnd (vCall 2 m_is_word (aCons (v2 dIx (vVar 0) (vC (.int 3))) (aCons (vC (.tuple [.str "same", .str "longer"])) (aNil)))) (vCall 2 m_is_word (aCons (v2 dIx (vVar 0) (vC (.int 4))) (aCons (vC (.tuple [.str "games", .str "twos", .str "winner", .str "only"])) (aNil)))))))
def m_is_rule : List Ent → Tr D := runB 1 1 u_is_rule
def u_check_rule : Stm :=
  sIf (bNot (vT (vCall 1 m_is_rule (aCons (vVar 0) (aNil)))))
  (sRaise 0)
  (sNil)
def m_check_rule : List Ent → Tr D := runB 1 1 u_check_rule
def u_check_number : Stm :=
  sIf (bNot (vT (vCall 3 m_is_int (aCons (vVar 0) (aCons (vVar 1) (aCons (vVar 2) (aNil)))))))
  (sRaise 3)
  (sNil)
def m_check_number : List Ent → Tr D := runB 3 3 u_check_number
def u_check_sight : Stm :=
  sDrop (vCall 3 m_check_number (aCons (vVar 0) (aCons (vC (.int 0)) (aCons (vC (.int 2)) (aNil)))))
def m_check_sight : List Ent → Tr D := runB 1 1 u_check_sight
def u_Table_init : Envt → Tr (D × Envt) :=
  oSeq (sDrop (vCall 1 m_check_rule (aCons (vVar 1) (aNil))))
  (oSeq (sDrop (vCall 1 m_check_sight (aCons (vVar 2) (aNil))))
  (oSeq (sSetF 0 80 "rule" (vVar 1))
  (oSeq (sSetF 0 80 "sight" (vVar 2))
  (oSeq (sSetFL 0 80 "line" (nLst (aNil)))
  (oEnd (sSetFL 0 80 "states" (nLst (aCons (vC (.tuple [.int 0, .int 0, .int 0, .int 0, .int 0, .int 0])) (aNil)))))))))
def m_Table_init : List Ent → Tr (List (Str × Fld)) := runG 3 2 80 u_Table_init
def u_Table___len__ : Stm :=
  sRet (vLenI (vFldL 0 80 "line"))
def m_Table___len__ : List Ent → Tr D := runB 1 1 u_Table___len__
def u_board_of : Stm :=
  sSeq (sIf (vT (v2 dEq (vVar 1) (vC (.int 2))))
  (sRet (vSl (vVar 0) (oSome (vC (.int 3))) (oSome (vC (.int 5)))))
  (sNil))
  (sRet (vIf (vT (v2 dEq (vVar 1) (vC (.int 0)))) (vSl (vVar 0) (oNone) (oSome (vC (.int 5)))) (v2 dIx (vVar 0) (vC (.int 0)))))
def m_board_of : List Ent → Tr D := runB 2 2 u_board_of
def u_Table_boards : Stm :=
  sRet (vL (nLc [1] (wSeq (vSlF 0 80 "states" (oSome (vC (.int 1))) (oNone))) (tgName 1) (bYes) (vCall 2 m_board_of (aCons (vVar 1) (aCons (vFld 0 80 "sight") (aNil))))))
def m_Table_boards : List Ent → Tr D := runB 2 1 u_Table_boards
def u_is_rally : Stm :=
  sRet (vCall 3 m_is_int (aCons (vVar 0) (aCons (vC (.int 0)) (aCons (vC (.int 1)) (aNil)))))
def m_is_rally : List Ent → Tr D := runB 1 1 u_is_rally
def u_check_rally : Stm :=
  sIf (bNot (vT (vCall 1 m_is_rally (aCons (vVar 0) (aNil)))))
  (sRaise 1)
  (sNil)
def m_check_rally : List Ent → Tr D := runB 1 1 u_check_rally
def u_ended : Stm :=
  sRet (v2 dIn (v2 dIx (vVar 0) (vC (.int 2))) (vSl (vVar 1) (oSome (vC (.int 3))) (oSome (vC (.int 5)))))
def m_ended : List Ent → Tr D := runB 2 2 u_ended
def u_folded : Stm :=
  sSeq (sIf (vT (v2 dLt (vB fnMin2 (aCons (vVar 1) (aCons (vVar 2) (aNil)))) (v2 dSub (vVar 0) (vC (.int 1)))))
  (sRet (vTup (aCons (vVar 1) (aCons (vVar 2) (aNil)))))
  (sNil))
  (sSeq (sSet 3 (v2 dSub (vVar 0) (vC (.int 1))))
  (sRet (vTup (aCons (v2 dAdd (vVar 3) (vIf (vT (v2 dGt (vVar 1) (vVar 2))) (vC (.int 1)) (vC (.int 0)))) (aCons (v2 dAdd (vVar 3) (vIf (vT (v2 dGt (vVar 2) (vVar 1))) (vC (.int 1)) (vC (.int 0)))) (aNil))))))
def m_folded : List Ent → Tr D := runB 4 3 u_folded
def u_maker_of : Stm :=
  sSeq (sIf (bOr (vT (vCall 2 m_ended (aCons (vVar 0) (aCons (vVar 1) (aNil))))) (bAnd (vT (v2 dEq (v2 dIx (vVar 0) (vC (.int 4))) (vC (.str "only")))) (vT (v2 dNe (vVar 2) (v2 dIx (vVar 1) (vC (.int 0)))))))
  (sRet (vC .none))
  (sNil))
  (sRet (vVar 2))
def m_maker_of : List Ent → Tr D := runB 3 3 u_maker_of
def u_served : Stm :=
  sSeq (sIf (vT (v2 dIn (v2 dIx (vVar 0) (vC (.int 4))) (vTup (aCons (vC (.str "winner")) (aCons (vC (.str "only")) (aNil))))))
  (sRet (vTup (aCons (vVar 2) (aCons (vC (.int 0)) (aNil)))))
  (sNil))
  (sSeq (sIf (bOr (vT (v2 dEq (v2 dIx (vVar 0) (vC (.int 4))) (vC (.str "games")))) (vT (vVar 4)))
  (sRet (vTup (aCons (v2 dMod (vB fnSum (aCons (vVar 3) (aNil))) (vC (.int 2))) (aCons (vC (.int 0)) (aNil)))))
  (sNil))
  (sRet (vIf (vT (v2 dEq (v2 dIx (vVar 1) (vC (.int 5))) (vC (.int 0)))) (vTup (aCons (v2 dIx (vVar 1) (vC (.int 0))) (aCons (vC (.int 1)) (aNil)))) (vTup (aCons (v2 dSub (vC (.int 1)) (v2 dIx (vVar 1) (vC (.int 0)))) (aCons (vC (.int 0)) (aNil)))))))
def m_served : List Ent → Tr D := runB 5 5 u_served
def u_wanted : Stm :=
  sSeq (sSet 2 (vAnd (v2 dEq (v2 dIx (vVar 0) (vC (.int 3))) (vC (.str "longer"))) (v2 dIn (v2 dSub (v2 dIx (vVar 0) (vC (.int 2))) (vC (.int 1))) (vSl (vVar 1) (oSome (vC (.int 3))) (oSome (vC (.int 5)))))))
  (sRet (v2 dAdd (v2 dIx (vVar 0) (vC (.int 0))) (vIf (vT (vVar 2)) (vC (.int 1)) (vC (.int 0)))))
def m_wanted : List Ent → Tr D := runB 3 2 u_wanted
def u_wins_game : Stm :=
  sSeq (sIf (vT (v2 dEq (v2 dIx (vVar 0) (vC (.int 1))) (vC (.str "one"))))
  (sRet (v2 dGe (vVar 2) (vVar 1)))
  (sNil))
  (sRet (vOr (vAnd (v2 dGe (vVar 2) (vVar 1)) (v2 dGe (v2 dSub (vVar 2) (vVar 3)) (vC (.int 2)))) (vAnd (v2 dEq (v2 dIx (vVar 0) (vC (.int 1))) (vC (.str "cap"))) (v2 dGt (vVar 2) (vVar 1)))))
def m_wins_game : List Ent → Tr D := runB 4 4 u_wins_game
def u_step : Stm :=
  sSeq (sIf (vT (vCall 2 m_ended (aCons (vVar 0) (aCons (vVar 1) (aNil)))))
  (sRet (vVar 1))
  (sNil))
  (sSeq (sPar [3, 4] (aCons (vCall 3 m_maker_of (aCons (vVar 0) (aCons (vVar 1) (aCons (vVar 2) (aNil))))) (aCons (vCall 2 m_wanted (aCons (vVar 0) (aCons (vVar 1) (aNil)))) (aNil))))
  (sSeq (sPar [5, 6] (aOwn (nList (aCons (vSl (vVar 1) (oSome (vC (.int 1))) (oSome (vC (.int 3)))) (aNil))) (aOwn (nList (aCons (vSl (vVar 1) (oSome (vC (.int 3))) (oSome (vC (.int 5)))) (aNil))) (aNil))))
  (sSeq (sSet 7 (vC (.bool false)))
  (sSeq (sIf (vT (v2 dIsNot (vVar 3) (vC .none)))
  (sSeq (sAugI 5 (vVar 3) (vC (.int 1)))
  (sSeq (sSet 7 (vCall 4 m_wins_game (aCons (vVar 0) (aCons (vVar 4) (aCons (vIxV 5 (vVar 3)) (aCons (vIxV 5 (v2 dSub (vC (.int 1)) (vVar 3))) (aNil)))))))
  (sIf (vT (vVar 7))
  (sSeq (sAugI 6 (vVar 3) (vC (.int 1)))
  (sOwn 5 (nLst (aCons (vC (.int 0)) (aCons (vC (.int 0)) (aNil))))))
  (sIf (vT (v2 dEq (v2 dIx (vVar 0) (vC (.int 1))) (vC (.str "two"))))
  (sOwn 5 (nList (aCons (vCall 3 m_folded (aCons (vVar 4) (aCons (vIxV 5 (vC (.int 0))) (aCons (vIxV 5 (vC (.int 1))) (aNil))))) (aNil))))
  (sNil)))))
  (sNil))
  (sFz 6 (sSeq (sAsg (tgTup 2 (tgCons (tgName 8) (tgCons (tgName 9) (tgNil)))) (vCall 5 m_served (aCons (vVar 0) (aCons (vVar 1) (aCons (vVar 2) (aCons (vVar 6) (aCons (vVar 7) (aNil))))))))
  (sFz 5 (sRet (v2 dAdd (v2 dAdd (v2 dAdd (vTup (aCons (vVar 8) (aNil))) (vB fnTuple (aCons (vVar 5) (aNil)))) (vB fnTuple (aCons (vVar 6) (aNil)))) (vTup (aCons (vVar 9) (aNil))))))))))))
def m_step : List Ent → Tr D := runB 10 3 u_step
def u_Table_play : Envt → Tr (D × List (Str × Fld)) :=
  lSeq (sDrop (vCall 1 m_check_rally (aCons (vVar 1) (aNil))))
  (lSeq (sIf (vT (v2 dEq (vLenI (vFldL 0 80 "line")) (vC (.int 200))))
  (sRaise 3)
  (sNil))
  (lTake 80 (oSeq (sAppF 0 80 "states" (vCall 3 m_step (aCons (vFld 0 80 "rule") (aCons (vIxF 0 80 "states" (vC (.int (-1)))) (aCons (vVar 1) (aNil))))))
  (oSeq (sAppF 0 80 "line" (vVar 1))
  (oRet (vCall 2 m_board_of (aCons (vIxF 0 80 "states" (vC (.int (-1)))) (aCons (vFld 0 80 "sight") (aNil)))))))))
def m_Table_play : List Ent → Tr (D × List (Str × Fld)) := runL 2 2 u_Table_play
def u_Table_rallies : Stm :=
  sRet (vL (nListF 0 80 "line"))
def m_Table_rallies : List Ent → Tr D := runB 1 1 u_Table_rallies
def u_Table_state : Stm :=
  sRet (vIxF 0 80 "states" (vC (.int (-1))))
def m_Table_state : List Ent → Tr D := runB 1 1 u_Table_state
def u_Table_undo : Envt → Tr (D × List (Str × Fld)) :=
  lSeq (sIf (vT (v2 dEq (vFldL 0 80 "line") (vL (nLst (aNil)))))
  (sRaise 5)
  (sNil))
  (lTake 80 (oSeq (sDropY (yPopF 0 80 "states"))
  (yPopF 0 80 "line")))
def m_Table_undo : List Ent → Tr (D × List (Str × Fld)) := runL 1 1 u_Table_undo
def u_law_board : Stm :=
  sRet (vIf (vT (v2 dEq (vVar 1) (vC (.int 0)))) (vSl (vVar 0) (oNone) (oSome (vC (.int 5)))) (vIf (vT (v2 dEq (vVar 1) (vC (.int 1)))) (v2 dIx (vVar 0) (vC (.int 0))) (vSl (vVar 0) (oSome (vC (.int 3))) (oSome (vC (.int 5))))))
def m_law_board : List Ent → Tr D := runB 2 2 u_law_board
def u_law_error : Stm :=
  sSeq (sSet 1 (vL (nLst (aCons (vIsE 0 (fun c => c == 0)) (aCons (vIsE 0 (fun c => c == 1)) (aCons (vIsE 0 (fun c => c == 2)) (aNil)))))))
  (sSeq (sSet 1 (v2 dAdd (vVar 1) (vL (nLst (aCons (vIsE 0 (fun c => c == 3)) (aCons (vIsE 0 (fun c => c == 4)) (aCons (vIsE 0 (fun c => c == 5)) (aNil))))))))
  (sSeq (sIf (bOr (vT (v2 dNe (vMeth isList dCount (vVar 1) (vC (.bool true))) (vC (.int 1)))) (bOr (bNot (vT (vIsE 0 (fun _ => true)))) (bNot (vT (vIsE 0 (fun _ => true))))))
  (sRet (vC (.str "odd")))
  (sNil))
  (sRet (v2 dIx (vL (nLst (aCons (vC (.str "rule")) (aCons (vC (.str "rally")) (aCons (vC (.str "boards")) (aCons (vC (.str "number")) (aCons (vC (.str "text")) (aCons (vC (.str "none")) (aNil))))))))) (vMeth isList dIndex (vVar 1) (vC (.bool true)))))))
def m_law_error : List Ent → Tr D := runB 2 1 u_law_error
def u_law_call : Envt → Tr (D × List (Str × Fld)) :=
  lSeq (sSet 3 (vC .none))
  (lSeq (sSet 4 (vC .none))
  (lTry 80 6 3 4 (yIfX (vT (v2 dEq (vVar 1) (vC (.int 0)))) (yAskX 2 80 "play" m_Table_play 0 (aCons (vVar 2) (aNil))) (yAskX 1 80 "undo" m_Table_undo 0 aNil)) (vIf (bNoE 4) (vTup (aCons (vC (.str "told")) (aCons (vVar 3) (aNil)))) (vTup (aCons (vC (.str "error")) (aCons (vCall 1 m_law_error (aEx 4 (aNil))) (aNil)))))))
def m_law_call : List Ent → Tr (D × List (Str × Fld)) := runL 6 3 u_law_call
def u_law_pick : Stm :=
  sRet (v2 dIx (vVar 1) (vCall 2 mDraw (aDr 0 (aCons (vB fnLen (aCons (vVar 1) (aNil))) (aNil)))))
def m_law_pick : List Ent → Tr D := runB 2 2 u_law_pick
def u_law_rule : Stm :=
  sSeq (sPar [1, 2] (aCons (vCall 2 m_law_pick (aDr 0 (aCons (vL (nLst (aCons (vC (.str "one")) (aCons (vC (.str "two")) (aCons (vC (.str "cap")) (aNil)))))) (aNil)))) (aCons (vCall 2 m_law_pick (aDr 0 (aCons (vL (nLst (aCons (vC (.str "games")) (aCons (vC (.str "twos")) (aCons (vC (.str "winner")) (aCons (vC (.str "only")) (aNil))))))) (aNil)))) (aNil))))
  (sRet (vTup (aCons (v2 dAdd (vC (.int 2)) (vCall 2 mDraw (aDr 0 (aCons (vC (.int 3)) (aNil))))) (aCons (vVar 1) (aCons (v2 dAdd (vC (.int 1)) (vCall 2 mDraw (aDr 0 (aCons (vC (.int 3)) (aNil))))) (aCons (vCall 2 m_law_pick (aDr 0 (aCons (vL (nLst (aCons (vC (.str "same")) (aCons (vC (.str "longer")) (aNil))))) (aNil)))) (aCons (vVar 2) (aNil))))))))
def m_law_rule : List Ent → Tr D := runB 3 1 u_law_rule
def u_law_folded : Stm :=
  sSeq (sIf (bOr (vT (v2 dNe (v2 dIx (vVar 0) (vC (.int 1))) (vC (.str "two")))) (vT (v2 dLt (vB fnMin (aCons (vVar 2) (aNil))) (v2 dSub (vVar 1) (vC (.int 1))))))
  (sRet (vB fnTuple (aCons (vVar 2) (aNil))))
  (sNil))
  (sSeq (sSet 3 (v2 dSub (v2 dIx (vVar 2) (vC (.int 0))) (v2 dIx (vVar 2) (vC (.int 1)))))
  (sRet (vTup (aCons (v2 dAdd (v2 dSub (vVar 1) (vC (.int 1))) (vIf (vT (v2 dGt (vVar 3) (vC (.int 0)))) (vC (.int 1)) (vC (.int 0)))) (aCons (v2 dAdd (v2 dSub (vVar 1) (vC (.int 1))) (vIf (vT (v2 dLt (vVar 3) (vC (.int 0)))) (vC (.int 1)) (vC (.int 0)))) (aNil))))))
def m_law_folded : List Ent → Tr D := runB 4 3 u_law_folded
def u_law_wanted : Stm :=
  sRet (v2 dAdd (v2 dIx (vVar 0) (vC (.int 0))) (vIf (bAnd (vT (v2 dEq (v2 dIx (vVar 0) (vC (.int 3))) (vC (.str "longer")))) (vT (v2 dIn (v2 dSub (v2 dIx (vVar 0) (vC (.int 2))) (vC (.int 1))) (vVar 1)))) (vC (.int 1)) (vC (.int 0))))
def m_law_wanted : List Ent → Tr D := runB 2 2 u_law_wanted
def u_law_won : Stm :=
  sSeq (sIf (vT (v2 dEq (v2 dIx (vVar 0) (vC (.int 1))) (vC (.str "one"))))
  (sRet (v2 dEq (vVar 2) (vVar 1)))
  (sNil))
  (sRet (vOr (vAnd (v2 dGe (vVar 2) (vVar 1)) (v2 dGe (vVar 2) (v2 dAdd (vVar 3) (vC (.int 2))))) (vAnd (v2 dEq (v2 dIx (vVar 0) (vC (.int 1))) (vC (.str "cap"))) (v2 dEq (vVar 2) (v2 dAdd (vVar 1) (vC (.int 1)))))))
def m_law_won : List Ent → Tr D := runB 4 4 u_law_won
def u_law_along : Stm :=
  sSeq (sPar [2, 3, 4, 5, 6] (aCons (vL (nLst (aCons (vC (.int 0)) (aCons (vC (.int 0)) (aNil))))) (aCons (vL (nLst (aCons (vC (.int 0)) (aCons (vC (.int 0)) (aNil))))) (aCons (vC (.int 0)) (aCons (vC (.int 0)) (aCons (vL (nLst (aCons (vC (.int 0)) (aCons (vC (.int 0)) (aNil))))) (aNil)))))))
  (sSeq (sPar [7, 8] (aOwn (nLst (aCons (vTup (aCons (vC (.int 0)) (aCons (vC (.int 0)) (aCons (vC (.int 0)) (aCons (vC (.int 0)) (aCons (vC (.int 0)) (aCons (vC (.int 0)) (aNil)))))))) (aNil))) (aCons (vC .none) (aNil))))
  (sSeq (sFor (wArg rng1 (aCons (vB fnLen (aCons (vVar 1) (aNil))) (aNil))) (tgName 9) (sSeq (sSet 10 (v2 dIx (vVar 1) (vVar 9)))
  (sIf (vT (v2 dNotIn (v2 dIx (vVar 0) (vC (.int 2))) (vVar 3)))
  (sSeq (sPar [11, 12] (aCons (vCall 2 m_law_wanted (aCons (vVar 0) (aCons (vVar 3) (aNil)))) (aCons (vC (.bool false)) (aNil))))
  (sSeq (sIf (bOr (vT (v2 dNe (v2 dIx (vVar 0) (vC (.int 4))) (vC (.str "only")))) (vT (v2 dEq (vVar 10) (vVar 4))))
  (sSeq (sSet 2 (vL (nLc [14] (wSeq (vTup (aCons (vC (.int 0)) (aCons (vC (.int 1)) (aNil))))) (tgName 14) (bYes) (v2 dAdd (v2 dIx (vVar 2) (vVar 14)) (vIf (vT (v2 dEq (vVar 14) (vVar 10))) (vC (.int 1)) (vC (.int 0)))))))
  (sSeq (sSet 6 (vL (nLc [14] (wSeq (vTup (aCons (vC (.int 0)) (aCons (vC (.int 1)) (aNil))))) (tgName 14) (bYes) (v2 dAdd (v2 dIx (vVar 6) (vVar 14)) (vIf (vT (v2 dEq (vVar 14) (vVar 10))) (vC (.int 1)) (vC (.int 0)))))))
  (sSet 12 (vCall 4 m_law_won (aCons (vVar 0) (aCons (vVar 11) (aCons (v2 dIx (vVar 2) (vVar 10)) (aCons (v2 dIx (vVar 2) (v2 dSub (vC (.int 1)) (vVar 10))) (aNil)))))))))
  (sNil))
  (sSeq (sIf (vT (vVar 12))
  (sSeq (sSet 3 (vL (nLc [14] (wSeq (vTup (aCons (vC (.int 0)) (aCons (vC (.int 1)) (aNil))))) (tgName 14) (bYes) (v2 dAdd (v2 dIx (vVar 3) (vVar 14)) (vIf (vT (v2 dEq (vVar 14) (vVar 10))) (vC (.int 1)) (vC (.int 0)))))))
  (sSeq (sPar [2, 11] (aCons (vL (nLst (aCons (vC (.int 0)) (aCons (vC (.int 0)) (aNil))))) (aCons (vC (.int 9)) (aNil))))
  (sSet 8 (vIf (vT (v2 dIn (v2 dIx (vVar 0) (vC (.int 2))) (vVar 3))) (v2 dAdd (vVar 9) (vC (.int 1))) (vC .none)))))
  (sNil))
  (sSeq (sIf (vT (v2 dIn (v2 dIx (vVar 0) (vC (.int 4))) (vTup (aCons (vC (.str "winner")) (aCons (vC (.str "only")) (aNil))))))
  (sSet 4 (vVar 10))
  (sIf (bOr (vT (v2 dEq (v2 dIx (vVar 0) (vC (.int 4))) (vC (.str "games")))) (vT (vVar 12)))
  (sPar [4, 5] (aCons (v2 dMod (v2 dAdd (v2 dIx (vVar 3) (vC (.int 0))) (v2 dIx (vVar 3) (vC (.int 1)))) (vC (.int 2))) (aCons (vC (.int 0)) (aNil))))
  (sPar [4, 5] (aCons (vIf (vT (v2 dEq (vVar 5) (vC (.int 0)))) (vVar 4) (v2 dSub (vC (.int 1)) (vVar 4))) (aCons (v2 dSub (vC (.int 1)) (vVar 5)) (aNil))))))
  (sSeq (sSet 13 (vCall 3 m_law_folded (aCons (vVar 0) (aCons (vVar 11) (aCons (vVar 2) (aNil))))))
  (sApp 7 (vTup (aCons (vVar 4) (aCons (v2 dIx (vVar 13) (vC (.int 0))) (aCons (v2 dIx (vVar 13) (vC (.int 1))) (aCons (v2 dIx (vVar 3) (vC (.int 0))) (aCons (v2 dIx (vVar 3) (vC (.int 1))) (aCons (vVar 5) (aNil))))))))))))))
  (sApp 7 (vIxV 7 (vC (.int (-1))))))))
  (sFz 7 (sRet (vTup (aCons (vVar 7) (aCons (vB fnTuple (aCons (vVar 6) (aNil))) (aCons (vVar 8) (aNil)))))))))
def m_law_along : List Ent → Tr D := runB 15 2 u_law_along
def u_law_states : Stm :=
  sRet (v2 dIx (vCall 2 m_law_along (aCons (vVar 0) (aCons (vVar 1) (aNil)))) (vC (.int 0)))
def m_law_states : List Ent → Tr D := runB 2 2 u_law_states
def u_law_step : Stm :=
  sSeq (sIf (vT (v2 dIn (v2 dIx (vVar 0) (vC (.int 2))) (vSl (vVar 1) (oSome (vC (.int 3))) (oSome (vC (.int 5))))))
  (sRet (vVar 1))
  (sNil))
  (sSeq (sPar [3, 4, 5, 6, 7] (aCons (vL (nList (aCons (vSl (vVar 1) (oSome (vC (.int 1))) (oSome (vC (.int 3)))) (aNil)))) (aCons (vL (nList (aCons (vSl (vVar 1) (oSome (vC (.int 3))) (oSome (vC (.int 5)))) (aNil)))) (aCons (v2 dIx (vVar 1) (vC (.int 0))) (aCons (v2 dIx (vVar 1) (vC (.int 5))) (aCons (vC (.bool false)) (aNil)))))))
  (sSeq (sSet 8 (vCall 2 m_law_wanted (aCons (vVar 0) (aCons (vVar 4) (aNil)))))
  (sSeq (sIf (bOr (vT (v2 dNe (v2 dIx (vVar 0) (vC (.int 4))) (vC (.str "only")))) (vT (v2 dEq (vVar 2) (vVar 5))))
  (sSeq (sSet 3 (vL (nLc [10] (wSeq (vTup (aCons (vC (.int 0)) (aCons (vC (.int 1)) (aNil))))) (tgName 10) (bYes) (v2 dAdd (v2 dIx (vVar 3) (vVar 10)) (vIf (vT (v2 dEq (vVar 10) (vVar 2))) (vC (.int 1)) (vC (.int 0)))))))
  (sSet 7 (vCall 4 m_law_won (aCons (vVar 0) (aCons (vVar 8) (aCons (v2 dIx (vVar 3) (vVar 2)) (aCons (v2 dIx (vVar 3) (v2 dSub (vC (.int 1)) (vVar 2))) (aNil))))))))
  (sNil))
  (sSeq (sIf (vT (vVar 7))
  (sPar [4, 3, 8] (aCons (vL (nLc [10] (wSeq (vTup (aCons (vC (.int 0)) (aCons (vC (.int 1)) (aNil))))) (tgName 10) (bYes) (v2 dAdd (v2 dIx (vVar 4) (vVar 10)) (vIf (vT (v2 dEq (vVar 10) (vVar 2))) (vC (.int 1)) (vC (.int 0)))))) (aCons (vL (nLst (aCons (vC (.int 0)) (aCons (vC (.int 0)) (aNil))))) (aCons (vC (.int 9)) (aNil)))))
  (sNil))
  (sSeq (sIf (vT (v2 dIn (v2 dIx (vVar 0) (vC (.int 4))) (vTup (aCons (vC (.str "winner")) (aCons (vC (.str "only")) (aNil))))))
  (sSet 5 (vVar 2))
  (sIf (bOr (vT (v2 dEq (v2 dIx (vVar 0) (vC (.int 4))) (vC (.str "games")))) (vT (vVar 7)))
  (sPar [5, 6] (aCons (v2 dMod (v2 dAdd (v2 dIx (vVar 4) (vC (.int 0))) (v2 dIx (vVar 4) (vC (.int 1)))) (vC (.int 2))) (aCons (vC (.int 0)) (aNil))))
  (sPar [5, 6] (aCons (vIf (vT (v2 dEq (vVar 6) (vC (.int 0)))) (vVar 5) (v2 dSub (vC (.int 1)) (vVar 5))) (aCons (v2 dSub (vC (.int 1)) (vVar 6)) (aNil))))))
  (sSeq (sSet 9 (vCall 3 m_law_folded (aCons (vVar 0) (aCons (vVar 8) (aCons (vVar 3) (aNil))))))
  (sRet (vTup (aCons (vVar 5) (aCons (v2 dIx (vVar 9) (vC (.int 0))) (aCons (v2 dIx (vVar 9) (vC (.int 1))) (aCons (v2 dIx (vVar 4) (vC (.int 0))) (aCons (v2 dIx (vVar 4) (vC (.int 1))) (aCons (vVar 6) (aNil)))))))))))))))
def m_law_step : List Ent → Tr D := runB 11 3 u_law_step
def u_is_row : Stm :=
  sRet (vAnd (vIsi isList (vVar 0)) (vAnd (v2 dLe (vB fnLen (aCons (vVar 0) (aNil))) (vC (.int 60))) (vB allD (aCons (vL (nLc [1] (wSeq (vVar 0)) (tgName 1) (bYes) (vCall 1 m_is_rally (aCons (vVar 1) (aNil))))) (aNil)))))
def m_is_row : List Ent → Tr D := runB 2 1 u_is_row
def u_check_row : Stm :=
  sIf (bNot (vT (vCall 1 m_is_row (aCons (vVar 0) (aNil)))))
  (sRaise 1)
  (sNil)
def m_check_row : List Ent → Tr D := runB 1 1 u_check_row
def u_states_of : Stm :=
  sSeq (sOwn 2 (nLst (aCons (vC (.tuple [.int 0, .int 0, .int 0, .int 0, .int 0, .int 0])) (aNil))))
  (sSeq (sFor (wSeq (vVar 1)) (tgName 3) (sApp 2 (vCall 3 m_step (aCons (vVar 0) (aCons (vIxV 2 (vC (.int (-1)))) (aCons (vVar 3) (aNil)))))))
  (sFz 2 (sRet (vVar 2))))
def m_states_of : List Ent → Tr D := runB 4 2 u_states_of
def u_shown : Stm :=
  sRet (vL (nLc [3] (wSeq (vSl (vCall 2 m_states_of (aCons (vVar 0) (aCons (vVar 1) (aNil)))) (oSome (vC (.int 1))) (oNone))) (tgName 3) (bYes) (vCall 2 m_board_of (aCons (vVar 3) (aCons (vVar 2) (aNil))))))
def m_shown : List Ent → Tr D := runB 4 3 u_shown
def u_boards_of : Stm :=
  sSeq (sDrop (vCall 1 m_check_rule (aCons (vVar 0) (aNil))))
  (sSeq (sDrop (vCall 1 m_check_row (aCons (vVar 1) (aNil))))
  (sSeq (sDrop (vCall 1 m_check_sight (aCons (vVar 2) (aNil))))
  (sRet (vCall 3 m_shown (aCons (vVar 0) (aCons (vVar 1) (aCons (vVar 2) (aNil))))))))
def m_boards_of : List Ent → Tr D := runB 3 3 u_boards_of
def u_law : Stm :=
  sSeq (sPar [2, 3] (aCons (vCall 1 m_law_rule (aDr 1 (aNil))) (aCons (vCall 2 mDraw (aDr 1 (aCons (vC (.int 3)) (aNil)))) (aNil))))
  (sSeq (sParO 4 5 80 2 m_Table_init (aCons (vVar 2) (aCons (vVar 3) (aNil))) (nLst (aNil)))
  (sFz 5 (sSeq (sMkO 6 80 2 m_Table_init (aCons (vTup (aCons (vC (.int 2)) (aCons (vC (.str "two")) (aCons (vC (.int 2)) (aCons (vC (.str "longer")) (aCons (vC (.str "twos")) (aNil))))))) (aCons (vC (.int 0)) (aNil))))
  (sSeq (sFor (wArg rng1 (aCons (vC (.int 16)) (aNil))) (tgName 7) (sSeq (sDropY (yAsk 2 80 "play" m_Table_play 6 (aCons (v2 dIx (vL (nLst (aCons (vC (.int 0)) (aCons (vC (.int 1)) (aCons (vC (.int 1)) (aCons (vC (.int 1)) (aCons (vC (.int 0)) (aCons (vC (.int 0)) (aCons (vC (.int 1)) (aCons (vC (.int 0)) (aNil))))))))))) (v2 dMod (vVar 7) (vC (.int 8)))) (aNil))))
  (sSeq (sSet 8 (vCall 2 m_law_states (aCons (vVar 2) (aCons (vVar 5) (aNil)))))
  (sSeq (sIf (bOr (vT (v2 dNe (vAskR 1 80 "state" m_Table_state 4 aNil) (v2 dIx (vVar 8) (vC (.int (-1)))))) (bOr (vT (v2 dNe (vAskR 1 80 "rallies" m_Table_rallies 4 aNil) (vVar 5))) (vT (v2 dNe (vLenO 80 m_Table___len__ 4) (vB fnLen (aCons (vVar 5) (aNil)))))))
  (sRet (vC (.bool false)))
  (sNil))
  (sSeq (sIf (vT (v2 dNe (vAskR 1 80 "boards" m_Table_boards 4 aNil) (vL (nLc [11] (wSeq (vSl (vVar 8) (oSome (vC (.int 1))) (oNone))) (tgName 11) (bYes) (vCall 2 m_law_board (aCons (vVar 11) (aCons (vVar 3) (aNil))))))))
  (sRet (vC (.bool false)))
  (sNil))
  (sSeq (sIf (vT (v2 dEq (vCall 2 mDraw (aDr 1 (aCons (vC (.int 5)) (aNil)))) (vC (.int 0))))
  (sSeq (sIfY (yT (y2 dNe (yGive 3 80 m_law_call 4 (aCons (vC (.int 1)) (aCons (vC (.int 0)) (aNil)))) (yE (vIf (vT (v2 dNe (vVar 5) (vL (nLst (aNil))))) (vTup (aCons (vC (.str "told")) (aCons (v2 dIx (vVar 5) (vC (.int (-1)))) (aNil)))) (vTup (aCons (vC (.str "error")) (aCons (vC (.str "none")) (aNil))))))))
  (sRet (vC (.bool false)))
  (sNil))
  (sSet 5 (vSl (vVar 5) (oNone) (oSome (vC (.int (-1)))))))
  (sSeq (sSet 9 (vCall 2 mDraw (aDr 1 (aCons (vC (.int 2)) (aNil)))))
  (sSeq (sIfY (yT (y2 dNe (yGive 3 80 m_law_call 4 (aCons (vC (.int 0)) (aCons (vVar 9) (aNil)))) (yE (vTup (aCons (vC (.str "told")) (aCons (vCall 2 m_law_board (aCons (vCall 3 m_law_step (aCons (vVar 2) (aCons (v2 dIx (vVar 8) (vC (.int (-1)))) (aCons (vVar 9) (aNil))))) (aCons (vVar 3) (aNil)))) (aNil)))))))
  (sRet (vC (.bool false)))
  (sNil))
  (sSet 5 (v2 dAdd (vVar 5) (vL (nLst (aCons (vVar 9) (aNil)))))))))
  (sSeq (sSet 10 (vCall 2 m_law_pick (aDr 1 (aCons (vL (nLst (aCons (vC .none) (aCons (vC (.int 2)) (aCons (vC (.int (-1))) (aCons (vC (.bool true)) (aCons (vC (.str "1")) (aCons (vL (nLst (aCons (vC (.int 1)) (aNil)))) (aCons (vTup (aCons (vC (.int 0)) (aNil))) (aCons (vC (.bool false)) (aCons (vC (.int 100)) (aNil)))))))))))) (aNil)))))
  (sIfY (yT (y2 dNe (yGive 3 80 m_law_call 4 (aCons (vC (.int 0)) (aCons (vVar 10) (aNil)))) (yE (vTup (aCons (vC (.str "error")) (aCons (vC (.str "rally")) (aNil)))))))
  (sRet (vC (.bool false)))
  (sNil)))))))))
  (sSeq (sIf (bOr (vT (v2 dNe (vAskR 1 80 "rallies" m_Table_rallies 6 aNil) (v2 dMul (vL (nLst (aCons (vC (.int 0)) (aCons (vC (.int 1)) (aCons (vC (.int 1)) (aCons (vC (.int 1)) (aCons (vC (.int 0)) (aCons (vC (.int 0)) (aCons (vC (.int 1)) (aCons (vC (.int 0)) (aNil))))))))))) (vC (.int 2))))) (vT (v2 dNe (vAskR 1 80 "boards" m_Table_boards 6 aNil) (vCall 3 m_boards_of (aCons (vTup (aCons (vC (.int 2)) (aCons (vC (.str "two")) (aCons (vC (.int 2)) (aCons (vC (.str "longer")) (aCons (vC (.str "twos")) (aNil))))))) (aCons (v2 dMul (vL (nLst (aCons (vC (.int 0)) (aCons (vC (.int 1)) (aCons (vC (.int 1)) (aCons (vC (.int 1)) (aCons (vC (.int 0)) (aCons (vC (.int 0)) (aCons (vC (.int 1)) (aCons (vC (.int 0)) (aNil))))))))))) (vC (.int 2))) (aCons (vC (.int 0)) (aNil))))))))
  (sRet (vC (.bool false)))
  (sNil))
  (sSeq (sWhile (vT (v2 dLt (vLenO 80 m_Table___len__ 6) (vC (.int 200)))) (sDropY (yAsk 2 80 "play" m_Table_play 6 (aCons (vC (.int 1)) (aNil)))) 1000)
  (sSeq (sIfY (yOr (yT (y2 dNe (yGive 3 80 m_law_call 6 (aCons (vC (.int 0)) (aCons (vC (.int 1)) (aNil)))) (yE (vTup (aCons (vC (.str "error")) (aCons (vC (.str "number")) (aNil))))))) (yOr (yT (y2 dNe (yGive 3 80 m_law_call 6 (aCons (vC (.int 0)) (aCons (vC (.int 2)) (aNil)))) (yE (vTup (aCons (vC (.str "error")) (aCons (vC (.str "rally")) (aNil))))))) (yTT (vT (v2 dNe (vLenO 80 m_Table___len__ 6) (vC (.int 200)))))))
  (sRet (vC (.bool false)))
  (sNil))
  (sRetY (yAndV (y2 dEq (yAsk 1 80 "undo" m_Table_undo 6 aNil) (yE (vC (.int 1)))) (yAndV (y2 dEq (yAsk 2 80 "play" m_Table_play 6 (aCons (vC (.int 0)) (aNil))) (yE (v2 dIx (vAskR 1 80 "boards" m_Table_boards 6 aNil) (vC (.int (-1)))))) (yAndV (yE (v2 dEq (vLenO 80 m_Table___len__ 6) (vC (.int 200)))) (yE (v2 dEq (v2 dIx (vAskR 1 80 "rallies" m_Table_rallies 6 aNil) (vC (.int (-1)))) (vC (.int 0)))))))))))))))
structure Tx (K : PySem.W.Frag) (mg : Str → Option Value) (cl : CL) : Prop where
  f_is_int : DefAt K mg "is_int" s_is_int ["value", "low", "high"]
  f_is_word : DefAt K mg "is_word" s_is_word ["value", "words"]
  f_is_rule : DefAt K mg "is_rule" s_is_rule ["value"]
  f_check_rule : DefAt K mg "check_rule" s_check_rule ["value"]
  f_check_number : DefAt K mg "check_number" s_check_number ["value", "low", "high"]
  f_check_sight : DefAt K mg "check_sight" s_check_sight ["value"]
  to : MkAt K mg "Table" "Table.__init__" (cl 80) s_Table_init ["self", "rule", "sight"] ["rule", "sight", "line", "states"]
  f_Table___len__ : MethAt K (cl 80) "__len__" "Table.__len__" s_Table___len__ ["self"]
  f_board_of : DefAt K mg "board_of" s_board_of ["state", "sight"]
  f_Table_boards : MethAt K (cl 80) "boards" "Table.boards" s_Table_boards ["self"]
  f_is_rally : DefAt K mg "is_rally" s_is_rally ["value"]
  f_check_rally : DefAt K mg "check_rally" s_check_rally ["value"]
  f_ended : DefAt K mg "ended" s_ended ["rule", "state"]
  f_folded : DefAt K mg "folded" s_folded ["many", "one", "other"]
  f_maker_of : DefAt K mg "maker_of" s_maker_of ["rule", "state", "rally"]
  f_served : DefAt K mg "served" s_served ["rule", "state", "rally", "games", "over"]
  f_wanted : DefAt K mg "wanted" s_wanted ["rule", "state"]
  f_wins_game : DefAt K mg "wins_game" s_wins_game ["rule", "many", "own", "other"]
  f_step : DefAt K mg "step" s_step ["rule", "state", "rally"]
  f_Table_play : MethAt K (cl 80) "play" "Table.play" s_Table_play ["self", "rally"]
  f_Table_rallies : MethAt K (cl 80) "rallies" "Table.rallies" s_Table_rallies ["self"]
  f_Table_state : MethAt K (cl 80) "state" "Table.state" s_Table_state ["self"]
  f_Table_undo : MethAt K (cl 80) "undo" "Table.undo" s_Table_undo ["self"]
  f_law_board : DefAt K mg "_law_board" s_law_board ["state", "sight"]
  f_law_error : DefAt K mg "_law_error" s_law_error ["caught"]
  f_law_call : DefAt K mg "_law_call" s_law_call ["shown_here", "kind", "thing"]
  f_law_draw : DefAt K mg "_law_draw" s_law_draw ["draws", "limit"]
  f_law_pick : DefAt K mg "_law_pick" s_law_pick ["draws", "choices"]
  f_law_rule : DefAt K mg "_law_rule" s_law_rule ["draws"]
  f_law_start : DefAt K mg "_law_start" s_law_start ["script"]
  f_law_folded : DefAt K mg "_law_folded" s_law_folded ["rule", "many", "points"]
  f_law_wanted : DefAt K mg "_law_wanted" s_law_wanted ["rule", "games"]
  f_law_won : DefAt K mg "_law_won" s_law_won ["rule", "many", "own", "other"]
  f_law_along : DefAt K mg "_law_along" s_law_along ["rule", "row"]
  f_law_states : DefAt K mg "_law_states" s_law_states ["rule", "row"]
  f_law_step : DefAt K mg "_law_step" s_law_step ["rule", "state", "rally"]
  f_is_row : DefAt K mg "is_row" s_is_row ["value"]
  f_check_row : DefAt K mg "check_row" s_check_row ["value"]
  f_states_of : DefAt K mg "states_of" s_states_of ["rule", "row"]
  f_shown : DefAt K mg "shown" s_shown ["rule", "row", "sight"]
  f_boards_of : DefAt K mg "boards_of" s_boards_of ["rule", "row", "sight"]
  f_law : DefAt K mg "law" s_law ["script"]
  z_ValueError : mg "ValueError" = none
  z_all : mg "all" = none
  z_bool : mg "bool" = none
  z_int : mg "int" = none
  z_isinstance : mg "isinstance" = none
  z_len : mg "len" = none
  z_list : mg "list" = none
  z_min : mg "min" = none
  z_range : mg "range" = none
  z_str : mg "str" = none
  z_sum : mg "sum" = none
  z_tuple : mg "tuple" = none
  g_DECIDERS : GlobAt K mg "DECIDERS" (.tuple [.str "same", .str "longer"])
  g_LEADS : GlobAt K mg "LEADS" (.tuple [.str "one", .str "two", .str "cap"])
  g_MOST_RALLIES : GlobAt K mg "MOST_RALLIES" (.int 200)
  g_MOST_ROW : GlobAt K mg "MOST_ROW" (.int 60)
  g_SERVES : GlobAt K mg "SERVES" (.tuple [.str "games", .str "twos", .str "winner", .str "only"])
  g_START : GlobAt K mg "START" (.tuple [.int 0, .int 0, .int 0, .int 0, .int 0, .int 0])
  e_BadNumber : ExcAt K mg "BadNumber" (cl 3)
  e_BadRally : ExcAt K mg "BadRally" (cl 1)
  e_BadRule : ExcAt K mg "BadRule" (cl 0)
  e_NotFound : ExcAt K mg "NotFound" (cl 5)
  err : ErrAt K mg cl
section
variable {P : Program} {w : World} {K : PySem.W.Frag} {mg : Str → Option Value} {base : Heap} {cl : CL}
open PySem.Spec PyProof.Rows in
theorem c_law_draw (T : Tx K mg cl) : Cal P w K mg base cl "_law_draw" 1 2 mDraw := by
  obtain ⟨f, fd, F, g, b⟩ := T.f_law_draw.ex
  refine ⟨f, fd, _, F.okX sc_law_draw (fun vs H Q E h => ?_) (fun cdv A outer s H vs Q E hr h => ?_), g, F.kp, b⟩
  · obtain ⟨O, dt, es, hl, _, _, _, ha, _⟩ := h
    rw [ha.length, hl]; rfl
  · obtain ⟨O, dt, es, hl, h1, h2, h3, ha, hm⟩ := h
    obtain ⟨l, rfl⟩ : ∃ l, es = [.dr, .fz (.int l)] := by
      unfold mDraw at hm
      split at hm
      · exact ⟨_, rfl⟩
      · exact hm.elim
    cases ha with
    | cons ha hb =>
      cases hb with
      | cons hb hn =>
        cases hn
        obtain ⟨a, n, hdr, rfl⟩ := ha
        cases (show Rep K (mask H O) _ (.int l) from hb)
        have hm : (if decide (0 < l) && decide (l < 1073741824) then Tr.draw l.toNat (fun r => Tr.ret (PyData.int (r : Nat))) else Tr.bad).all (fun d => ∀ v H', Kx dt O H H' → Rep K (mask H' O) v d → Q v H') (fun c => ∀ H', Kx dt O H H' → E (.ref (cl c)) none H') := hm
        cases hlm : decide (0 < l) && decide (l < 1073741824) with
        | false => rw [hlm] at hm; exact hm.elim
        | true =>
          rw [hlm] at hm
          rw [Bool.and_eq_true] at hlm
          have l0 := of_decide_eq_true hlm.1
          have l1 := of_decide_eq_true hlm.2
          have hm : ∀ r, r < l.toNat → ∀ v H', Kx dt O H H' → Rep K (mask H' O) v (.int (r : Nat)) → Q v H' := hm
          obtain ⟨c, ns, ea, hc, en, n0, n63⟩ := h3.dr a n hdr
          have nan : a ≠ n := dr_ne h3 hdr
          refine ⟨_, pss_cons (ps_set (i := 2) sc_law_draw.nd rfl (.inl rfl) (pe_ix ix_list (pv 0) pe_int (fun _ _ => rfl)))
            (pss_cons (ps_asg (pe_op op_add (pe_ix ix_list (pv 0) pe_int (fun _ _ => rfl)) pe_int) (pg_sub (pv 0) pe_int set_list))
            (pss_cons (ps_set (i := 3) sc_law_draw.nd rfl (.inl rfl) (pe_op op_mod (pe_ix ix_list (pv 0) pe_int (fun _ _ => rfl)) (pe_callB call_len_seq (by rfl) T.z_len PySem.boot_len (pa_cons (pv 2) pa_nil))))
            (pss_cons (ps_set (i := 4) sc_law_draw.nd rfl (.inl rfl) (pe_ix ix_list (pv 2) (pv 3) (fun _ _ => rfl)))
            (pss_cons (ps_if (pt_cmpR op_ge (pv 4) pe_int (nomark _)) (pss_cons (ps_asg (pe_op op_fdiv (pv 4) (pv 1)) (pg_sub (pv 2) (pv 3) set_list)) (pss_one (ps_ret (pe_op op_mod (pv 4) (pv 1))))) pss_nil)
            (pss_cons (ps_set (i := 5) sc_law_draw.nd rfl (.inl rfl) (pe_op op_mod (pe_op op_add (pv 4) (pe_op op_mul pe_int (pe_ix ix_list (pv 0) pe_int (fun _ _ => rfl)))) pe_int))
            (pss_cons (ps_set (i := 5) sc_law_draw.nd rfl (.inl rfl) (pe_op op_mod (pe_op op_pow (pv 5) pe_int) pe_int))
            (pss_one (ps_ret (pe_op op_mod (pe_op op_fdiv (pe_op op_mod (pe_op op_add (pe_op op_mul (pe_op op_fdiv (pv 5) pe_int) pe_int) (pv 5)) pe_int) pe_int) (pv 1)))))))))), ?_⟩
          have k1 : ∀ (o : HO) (H2 : Hp), H2 a = some (.lst [.ref n, .int (c + 1)]) → H2 n = some o → (∀ b, b ≠ a → b ≠ n → H2 b = H b) → (∃ ns' : List Int, o = .lst (ns'.map V.int) ∧ 0 < ns'.length ∧ ns'.length ≤ 63) → Kx dt O H H2 := fun o H2 q1 q2 q3 ⟨ns', q4, q5, q6⟩ => by
            subst q4
            exact kx_draw h3 h2 hdr q1 (by omega) q2 q3 q5 q6
          have en1 : (upd H a (.lst [.ref n, .int (c + 1)])) n = some (.lst (ns.map V.int)) := by rw [upd_ne nan.symm]; exact en
          have ea1 : (upd H a (.lst [.ref n, .int (c + 1)])) a = some (.lst [.ref n, .int (c + 1)]) := upd_same
          -- numbers = draws[0]
          refine ⟨_, rfl, a, _, 0, .ref n, rfl, rfl, SqL.of ea, atI_nat (j := 0) rfl, ?_⟩
          -- draws[1] = draws[1] + 1
          refine ⟨_, rfl, a, _, 1, .int c, rfl, rfl, SqL.of ea, atI_nat (j := 1) rfl, c, 1, rfl, rfl, _, rfl, a, _, 1, 1, rfl, rfl, ea, rfl, ?_⟩
          -- at = draws[1] % len(numbers)
          refine ⟨_, rfl, a, _, 1, .int (c + 1), rfl, rfl, SqL.of ea1, atI_nat (j := 1) rfl, _, rfl, n, _, rfl, .inl (SqL.of en1), c + 1, _, rfl, rfl, by rw [List.length_map]; omega, ?_⟩
          have hl' : ((ns.map V.int).length : Int) = (ns.length : Int) := by rw [List.length_map]
          have at0 : 0 ≤ (c + 1) % ((ns.map V.int).length : Int) := Int.emod_nonneg _ (by rw [hl']; omega)
          have at1 : (c + 1) % ((ns.map V.int).length : Int) < (ns.length : Int) := by rw [hl']; exact Int.emod_lt_of_pos _ (by omega)
          obtain ⟨j, hj⟩ : ∃ j : Nat, (c + 1) % ((ns.map V.int).length : Int) = (j : Int) := ⟨((c + 1) % ((ns.map V.int).length : Int)).toNat, by omega⟩
          rw [hj] at at0 at1
          have fin : ∀ (z : Int) (H2 : Hp), Kx dt O H H2 → Q (.int (z % l)) H2 := fun z H2 k => by
            have r0 := Int.emod_nonneg z (show l ≠ 0 by omega)
            have r1 := Int.emod_lt_of_pos z l0
            refine hm (z % l).toNat (by omega) _ H2 k ?_
            rw [Int.toNat_of_nonneg r0]; exact .int _
          have hjl : j < ns.length := by omega
          have hget : (ns.map V.int)[j]? = some (.int ns[j]) := by rw [List.getElem?_map, List.getElem?_eq_getElem hjl]; rfl
          -- cell = numbers[at]
          refine ⟨_, rfl, _, rfl, n, _, _, _, rfl, rfl, SqL.of en1, (by rw [hj]; exact atI_nat hget), ?_⟩
          obtain ⟨cell, hcell⟩ : ∃ cell, ns[j] = cell := ⟨_, rfl⟩
          rw [hcell]
          -- if cell >= ..
          refine ⟨_, rfl, cell, _, rfl, rfl, _, rfl, ite2 (fun hge => ?_) (fun _ => ?_)⟩
          · have hge : (1000000000000000000 : Int) ≤ cell := of_decide_eq_true hge
            refine ⟨_, rfl, _, rfl, cell, l, rfl, rfl, ⟨l0, l1⟩, _, rfl, _, rfl, n, _, _, j, rfl, rfl, en1, ?_, ?_⟩
            · rw [hj]
              unfold ixN
              rw [if_pos (by omega), if_pos (by rw [List.length_map]; omega)]
              rfl
            · refine ⟨_, rfl, _, rfl, cell, l, rfl, rfl, l0, ?_⟩
              exact fin _ _ (k1 _ (upd (upd H a (.lst [.ref n, .int (c + 1)])) n (.lst ((ns.map V.int).set j (.int (cell / l))))) (by rw [upd_ne nan]; exact upd_same) upd_same (fun b b1 b2 => by rw [upd_ne b2, upd_ne b1]) ⟨ns.set j (cell / l), by rw [List.map_set], by simpa using n0, by simpa using n63⟩)
          · -- the rest
            refine ⟨_, rfl, _, rfl, a, _, 1, .int (c + 1), rfl, rfl, SqL.of ea1, atI_nat (j := 1) rfl, 104729, c + 1, rfl, rfl, .inl ⟨by decide, by decide⟩, cell, _, rfl, rfl, _, _, rfl, rfl, (by show (0 : Int) < 4294967291; decide), ?_⟩
            refine ⟨_, rfl, _, 5, rfl, rfl, ⟨by decide, by decide, ?_⟩, _, _, rfl, rfl, (by show (0 : Int) < 4294967279; decide), ?_⟩
            · show ((cell + 104729 * (c + 1)) % 4294967291).natAbs < 2 ^ 64
              omega
            refine ⟨_, rfl, _, 64, rfl, rfl, ⟨by decide, by decide⟩, _, _, rfl, rfl, .inr ⟨by decide, by decide⟩, _, rfl, _, _, rfl, rfl, _, _, rfl, rfl, (by show (0 : Int) < 4294967231; decide), _, 8, rfl, rfl, ⟨by decide, by decide⟩, _, rfl, _, l, rfl, rfl, l0, ?_⟩
            exact fin _ _ (k1 _ (upd H a (.lst [.ref n, .int (c + 1)])) upd_same en1 (fun b b1 _ => by rw [upd_ne b1]) ⟨ns, rfl, n0, n63⟩)
open PySem.Spec PyProof.Rows in
theorem c_law_start (T : Tx K mg cl) : ∃ f fd, FnOk P w K mg base (L2.CX P w) 1 f fd ["script"] (spStart K) ∧ mg "_law_start" = some (.ref f) ∧ PySem.W.keepIn K (.ref f) = true ∧ Binds K fd ["script"] [] := by
  obtain ⟨f, fd, F, g, b⟩ := T.f_law_start.ex
  refine ⟨f, fd, F.okX sc_law_start (fun vs H Q E h => ?_) (fun cdv A outer s H vs Q E hr h => ?_), g, F.kp, b⟩
  · obtain ⟨a, ns, rfl, _⟩ := h
    rfl
  · obtain ⟨a, ns, rfl, hS, hl, q⟩ := h
    refine ⟨_, pss_one (ps_ret (pe_lst (pa_cons (pe_ifExp (pt_cmpR (op_neD hr.units) (pv 0) (pe_lst pa_nil) (nomark _)) (pe_callTy call_list_of (by rfl) T.z_list (by decide +kernel) (pa_cons (pv 0) pa_nil)) (pe_lst (pa_cons pe_int pa_nil))) (pa_cons pe_int pa_nil)))), ?_⟩
    refine ⟨_, rfl, Nat.zero_le _, fun p0 np0 => ?_⟩
    have s1 : Same H (upd H p0 (.lst [])) := same_new np0
    have lay : ∀ ns : List Int, PyData.canLayAll0 (ns.map PyData.int) = true := fun ns => by
      induction ns with
      | nil => rfl
      | cons x r ih => simp only [List.map_cons, PyData.canLayAll0, PyData.canLay0, ih, Bool.and_self]
    have dep : ∀ ns : List Int, PyData.depthAll (ns.map PyData.int) ≤ 1 := fun ns => by
      induction ns with
      | nil => simp [PyData.depthAll]
      | cons x r ih => simp only [List.map_cons, PyData.depthAll, PyData.depth]; omega
    have dps : ∀ ns : List Int, DpAll K (upd H p0 (.lst [])) (ns.map V.int) (ns.map PyData.int) := fun ns => by
      induction ns with
      | nil => exact .nil
      | cons x r ih => exact .cons (.int x) ih
    refine ⟨.list (ns.map PyData.int), .list [], .lst (s1.seq hS) (dps ns), .lst (SqL.of upd_same) .nil, ?_, by decide, _, rfl, ?_⟩
    · show (PyData.canLay0 (.list (ns.map PyData.int)) && decide (PyData.depth (.list (ns.map PyData.int)) ≤ 64)) = true
      rw [Bool.and_eq_true]
      refine ⟨by simp only [PyData.canLay0]; exact lay ns, decide_eq_true ?_⟩
      have := dep ns
      simp only [PyData.depth]; omega
    · cases ns with
      | nil =>
        refine iteF ?_
        refine ⟨by show 1 ≤ sizeLine; decide, fun n hn => ⟨by show 2 ≤ sizeLine; decide, fun p hp => ?_⟩⟩
        have s2 : Same H (upd (upd H p0 (.lst [])) n (.lst [.int 0])) := s1.trans (same_new hn)
        have s3 : Same H (upd (upd (upd H p0 (.lst [])) n (.lst [.int 0])) p (.lst [.ref n, .int 0])) := s2.trans (same_new hp)
        have nnp : n ≠ p := fun z => by rw [← z, upd_same] at hp; cases hp
        refine q _ p n s3 (s2.free hp) (s1.free hn) fun M => dr_start nnp.symm (ns := [0]) upd_same (by rw [upd_ne nnp, upd_same]; rfl) (by decide) (by decide)
      | cons x r =>
        refine iteT ?_
        refine ⟨_, rfl, a, _, rfl, .inl (s1.seq hS), fun n hn => ⟨by show 2 ≤ sizeLine; decide, fun p hp => ?_⟩⟩
        have s2 : Same H (upd (upd H p0 (.lst [])) n (.lst ((x :: r).map V.int))) := s1.trans (same_new hn)
        have s3 : Same H (upd (upd (upd H p0 (.lst [])) n (.lst ((x :: r).map V.int))) p (.lst [.ref n, .int 0])) := s2.trans (same_new hp)
        have nnp : n ≠ p := fun z => by rw [← z, upd_same] at hp; cases hp
        refine q _ p n s3 (s2.free hp) (s1.free hn) fun M => dr_start nnp.symm (ns := x :: r) upd_same (by rw [upd_ne nnp, upd_same]) (by simp) hl
theorem c_is_int (T : Tx K mg cl) : Cal P w K mg base cl "is_int" 1 3 m_is_int :=
  cal_of (N := ["value", "low", "high"]) (n := 3) (u := u_is_int) (k := 0) T.f_is_int sc_is_int rfl fun f cdv A outer s H E hr =>
  (dss_one (ds_ret (de_and (de_isInt T.z_isinstance T.z_int (de_var 0)) (de_and (de_not (de_isBool T.z_isinstance T.z_bool (de_var 0))) (de_one (de_lele (de_var 1) (de_var 0) (de_var 2)))))))
theorem c_is_word (T : Tx K mg cl) : Cal P w K mg base cl "is_word" 1 2 m_is_word :=
  cal_of (N := ["value", "words"]) (n := 2) (u := u_is_word) (k := 0) T.f_is_word sc_is_word rfl fun f cdv A outer s H E hr =>
  (dss_one (ds_ret (de_and (de_isStr T.z_isinstance T.z_str (de_var 0)) (de_one (de_in hr (DE.db (de_var 0)) (DE.db (de_var 1)))))))
theorem c_is_rule (T : Tx K mg cl) : Cal P w K mg base cl "is_rule" 2 1 m_is_rule :=
  cal_of (N := ["value"]) (n := 1) (u := u_is_rule) (k := 1) T.f_is_rule sc_is_rule rfl fun f cdv A outer s H E hr =>
  (dss_cons (ds_if (DW.dt (dw_or (dt_not (dt_val (de_isTuple T.z_isinstance T.z_tuple (de_var 0)))) (dw_or1 (dt_ne hr (DE.db (de_len T.z_len (da_cons (de_var 0) da_nil))) (DE.db de_int)))))
  (dss_one (ds_ret de_bl))
  dss_nil)
  (dss_cons (ds_if (DW.dt (dw_or (dt_not (dt_val (de_fn (c_is_int T) (hr.mono (by decide)) psOf (da_cons (de_ix (de_var 0) de_int) (da_cons de_int (da_cons de_int da_nil)))))) (dw_or (dt_not (dt_val (de_fn (c_is_word T) (hr.mono (by decide)) psOf (da_cons (de_ix (de_var 0) de_int) (da_cons (de_gl T.g_LEADS) da_nil))))) (dw_or1 (dt_not (dt_val (de_fn (c_is_int T) (hr.mono (by decide)) psOf (da_cons (de_ix (de_var 0) de_int) (da_cons de_int (da_cons de_int da_nil))))))))))
  (dss_one (ds_ret de_bl))
  dss_nil)
  (dss_one (ds_ret (de_and (de_fn (c_is_word T) (hr.mono (by decide)) psOf (da_cons (de_ix (de_var 0) de_int) (da_cons (de_gl T.g_DECIDERS) da_nil))) (de_one (de_fn (c_is_word T) (hr.mono (by decide)) psOf (da_cons (de_ix (de_var 0) de_int) (da_cons (de_gl T.g_SERVES) da_nil)))))))))
theorem c_check_rule (T : Tx K mg cl) : Cal P w K mg base cl "check_rule" 3 1 m_check_rule :=
  cal_of (N := ["value"]) (n := 1) (u := u_check_rule) (k := 2) T.f_check_rule sc_check_rule rfl fun f cdv A outer s H E hr =>
  (dss_one (ds_if (dt_not (dt_val (de_fn (c_is_rule T) (hr.mono (by decide)) psOf (da_cons (de_var 0) da_nil))))
  (dss_one (ds_raiseX 0 tkOf T.e_BadRule))
  dss_nil))
theorem c_check_number (T : Tx K mg cl) : Cal P w K mg base cl "check_number" 2 3 m_check_number :=
  cal_of (N := ["value", "low", "high"]) (n := 3) (u := u_check_number) (k := 1) T.f_check_number sc_check_number rfl fun f cdv A outer s H E hr =>
  (dss_one (ds_if (dt_not (dt_val (de_fn (c_is_int T) (hr.mono (by decide)) psOf (da_cons (de_var 0) (da_cons (de_var 1) (da_cons (de_var 2) da_nil))))))
  (dss_one (ds_raiseX 3 tkOf T.e_BadNumber))
  dss_nil))
theorem c_check_sight (T : Tx K mg cl) : Cal P w K mg base cl "check_sight" 3 1 m_check_sight :=
  cal_of (N := ["value"]) (n := 1) (u := u_check_sight) (k := 2) T.f_check_sight sc_check_sight rfl fun f cdv A outer s H E hr =>
  (dss_one (ds_expr (de_fn (c_check_number T) (hr.mono (by decide)) psOf (da_cons (de_var 0) (da_cons de_int (da_cons de_int da_nil))))))
theorem c_Table_init (T : Tx K mg cl) : CalG P w K mg base cl 80 "Table" 4 2 m_Table_init :=
  calG_of (N := ["self", "rule", "sight"]) (n := 2) (g := u_Table_init) (k := 3) T.to sc_Table_init rfl fun f cdv A outer s H E hr =>
  (dssO_cons (ds_expr (de_fn (c_check_rule T) (hr.mono (by decide)) psOf (da_cons (de_var 1) da_nil)))
  (dssO_cons (ds_expr (de_fn (c_check_sight T) (hr.mono (by decide)) psOf (da_cons (de_var 2) da_nil)))
  (dssO_cons (ds_setF 0 80 T.to.c (T.to.na "rule" (by simp)) (de_var 1))
  (dssO_cons (ds_setF 0 80 T.to.c (T.to.na "sight" (by simp)) (de_var 2))
  (dssO_cons (ds_setFL 0 80 T.to.c (T.to.na "line" (by simp)) (dn_lst da_nil))
  (dssO_end (dss_one (ds_setFL 0 80 T.to.c (T.to.na "states" (by simp)) (dn_lst (da_cons (de_gl T.g_START) da_nil))))))))))
theorem c_Table___len__ (T : Tx K mg cl) : CalR P w K mg base cl 80 "__len__" 1 1 m_Table___len__ :=
  calR_of (N := ["self"]) (n := 1) (u := u_Table___len__) (k := 0) T.f_Table___len__ sc_Table___len__ rfl fun f cdv A outer s H E hr =>
  (dss_one (ds_ret (de_lenI T.z_len (di_fld 0 80 T.to.c (T.to.na "line" (by simp))))))
theorem c_board_of (T : Tx K mg cl) : Cal P w K mg base cl "board_of" 1 2 m_board_of :=
  cal_of (N := ["state", "sight"]) (n := 2) (u := u_board_of) (k := 0) T.f_board_of sc_board_of rfl fun f cdv A outer s H E hr =>
  (dss_cons (ds_if (dt_eq hr (DE.db (de_var 1)) (DE.db de_int))
  (dss_one (ds_ret (de_slice (de_var 0) (do_some de_int) (do_some de_int))))
  dss_nil)
  (dss_one (ds_ret (de_if (dt_eq hr (DE.db (de_var 1)) (DE.db de_int)) (de_slice (de_var 0) do_none (do_some de_int)) (de_ix (de_var 0) de_int)))))
theorem c_Table_boards (T : Tx K mg cl) : CalR P w K mg base cl 80 "boards" 2 1 m_Table_boards :=
  calR_of (N := ["self", "state"]) (n := 1) (u := u_Table_boards) (k := 1) T.f_Table_boards sc_Table_boards rfl fun f cdv A outer s H E hr =>
  (dss_one (ds_ret (DN.dl (dn_lc [("state", 1)] sc_Table_boards.nd (di_seq (de_slF 0 80 T.to.c (T.to.na "states" (by simp)) (do_some de_int) do_none)) (blkOk_by (N := ["self", "state"]) (sc := defScope s_Table_boards) (by decide +kernel)) (fun _ _ _ _ _ => (dg_name 1 sc_Table_boards.nd)) (fun _ _ _ _ _ => dts_nil) (fun _ _ _ _ _ => (de_fn (c_board_of T) (hr.mono (by decide)) passL (da_cons (de_var 1) (da_cons (de_fld 0 80 T.to.c (T.to.na "sight" (by simp))) da_nil))))))))
theorem c_is_rally (T : Tx K mg cl) : Cal P w K mg base cl "is_rally" 2 1 m_is_rally :=
  cal_of (N := ["value"]) (n := 1) (u := u_is_rally) (k := 1) T.f_is_rally sc_is_rally rfl fun f cdv A outer s H E hr =>
  (dss_one (ds_ret (de_fn (c_is_int T) (hr.mono (by decide)) psOf (da_cons (de_var 0) (da_cons de_int (da_cons de_int da_nil))))))
theorem c_check_rally (T : Tx K mg cl) : Cal P w K mg base cl "check_rally" 3 1 m_check_rally :=
  cal_of (N := ["value"]) (n := 1) (u := u_check_rally) (k := 2) T.f_check_rally sc_check_rally rfl fun f cdv A outer s H E hr =>
  (dss_one (ds_if (dt_not (dt_val (de_fn (c_is_rally T) (hr.mono (by decide)) psOf (da_cons (de_var 0) da_nil))))
  (dss_one (ds_raiseX 1 tkOf T.e_BadRally))
  dss_nil))
theorem c_ended (T : Tx K mg cl) : Cal P w K mg base cl "ended" 1 2 m_ended :=
  cal_of (N := ["rule", "state"]) (n := 2) (u := u_ended) (k := 0) T.f_ended sc_ended rfl fun f cdv A outer s H E hr =>
  (dss_one (ds_ret (de_in hr (DE.db (de_ix (de_var 0) de_int)) (DE.db (de_slice (de_var 1) (do_some de_int) (do_some de_int))))))
theorem c_folded (T : Tx K mg cl) : Cal P w K mg base cl "folded" 1 3 m_folded :=
  cal_of (N := ["many", "one", "other", "low"]) (n := 3) (u := u_folded) (k := 0) T.f_folded sc_folded rfl fun f cdv A outer s H E hr =>
  (dss_cons (ds_if (dt_lt (DE.db (de_min2 T.z_min (da_cons (de_var 1) (da_cons (de_var 2) da_nil)))) (DE.db (de_sub (de_var 0) de_int)))
  (dss_one (ds_ret (de_tup (da_cons (de_var 1) (da_cons (de_var 2) da_nil)))))
  dss_nil)
  (dss_cons (ds_set 3 sc_folded.nd (de_sub (de_var 0) de_int))
  (dss_one (ds_ret (de_tup (da_cons (de_add (de_var 3) (de_if (dt_gt (DE.db (de_var 1)) (DE.db (de_var 2))) de_int de_int)) (da_cons (de_add (de_var 3) (de_if (dt_gt (DE.db (de_var 2)) (DE.db (de_var 1))) de_int de_int)) da_nil)))))))
theorem c_maker_of (T : Tx K mg cl) : Cal P w K mg base cl "maker_of" 2 3 m_maker_of :=
  cal_of (N := ["rule", "state", "rally"]) (n := 3) (u := u_maker_of) (k := 1) T.f_maker_of sc_maker_of rfl fun f cdv A outer s H E hr =>
  (dss_cons (ds_if (DW.dt (dw_or (dt_val (de_fn (c_ended T) (hr.mono (by decide)) psOf (da_cons (de_var 0) (da_cons (de_var 1) da_nil)))) (dw_or1 (DW.dt (dw_and (dt_eq hr (DE.db (de_ix (de_var 0) de_int)) (DE.db de_str)) (dw_and1 (dt_ne hr (DE.db (de_var 2)) (DE.db (de_ix (de_var 1) de_int)))))))))
  (dss_one (ds_ret de_non))
  dss_nil)
  (dss_one (ds_ret (de_var 2))))
theorem c_served (T : Tx K mg cl) : Cal P w K mg base cl "served" 1 5 m_served :=
  cal_of (N := ["rule", "state", "rally", "games", "over"]) (n := 5) (u := u_served) (k := 0) T.f_served sc_served rfl fun f cdv A outer s H E hr =>
  (dss_cons (ds_if (dt_in hr (DE.db (de_ix (de_var 0) de_int)) (DE.db (de_tup (da_cons de_str (da_cons de_str da_nil)))))
  (dss_one (ds_ret (de_tup (da_cons (de_var 2) (da_cons de_int da_nil)))))
  dss_nil)
  (dss_cons (ds_if (DW.dt (dw_or (dt_eq hr (DE.db (de_ix (de_var 0) de_int)) (DE.db de_str)) (dw_or1 (dt_val (de_var 4)))))
  (dss_one (ds_ret (de_tup (da_cons (de_mod (de_sum T.z_sum (da_cons (de_var 3) da_nil)) de_int) (da_cons de_int da_nil)))))
  dss_nil)
  (dss_one (ds_ret (de_if (dt_eq hr (DE.db (de_ix (de_var 1) de_int)) (DE.db de_int)) (de_tup (da_cons (de_ix (de_var 1) de_int) (da_cons de_int da_nil))) (de_tup (da_cons (de_sub de_int (de_ix (de_var 1) de_int)) (da_cons de_int da_nil))))))))
theorem c_wanted (T : Tx K mg cl) : Cal P w K mg base cl "wanted" 1 2 m_wanted :=
  cal_of (N := ["rule", "state", "more"]) (n := 2) (u := u_wanted) (k := 0) T.f_wanted sc_wanted rfl fun f cdv A outer s H E hr =>
  (dss_cons (ds_set 2 sc_wanted.nd (de_and (de_eq hr (DE.db (de_ix (de_var 0) de_int)) (DE.db de_str)) (de_one (de_in hr (DE.db (de_sub (de_ix (de_var 0) de_int) de_int)) (DE.db (de_slice (de_var 1) (do_some de_int) (do_some de_int)))))))
  (dss_one (ds_ret (de_add (de_ix (de_var 0) de_int) (de_if (dt_val (de_var 2)) de_int de_int)))))
theorem c_wins_game (T : Tx K mg cl) : Cal P w K mg base cl "wins_game" 1 4 m_wins_game :=
  cal_of (N := ["rule", "many", "own", "other"]) (n := 4) (u := u_wins_game) (k := 0) T.f_wins_game sc_wins_game rfl fun f cdv A outer s H E hr =>
  (dss_cons (ds_if (dt_eq hr (DE.db (de_ix (de_var 0) de_int)) (DE.db de_str))
  (dss_one (ds_ret (de_ge (DE.db (de_var 2)) (DE.db (de_var 1)))))
  dss_nil)
  (dss_one (ds_ret (de_or (de_and (de_ge (DE.db (de_var 2)) (DE.db (de_var 1))) (de_one (de_ge (DE.db (de_sub (de_var 2) (de_var 3))) (DE.db de_int)))) (de_one (de_and (de_eq hr (DE.db (de_ix (de_var 0) de_int)) (DE.db de_str)) (de_one (de_gt (DE.db (de_var 2)) (DE.db (de_var 1))))))))))
theorem c_step (T : Tx K mg cl) : Cal P w K mg base cl "step" 3 3 m_step :=
  cal_of (N := ["rule", "state", "rally", "maker", "many", "points", "games", "over", "serving", "turn"]) (n := 3) (u := u_step) (k := 2) T.f_step sc_step rfl fun f cdv A outer s H E hr =>
  (dss_cons (ds_if (dt_val (de_fn (c_ended T) (hr.mono (by decide)) psOf (da_cons (de_var 0) (da_cons (de_var 1) da_nil))))
  (dss_one (ds_ret (de_var 1)))
  dss_nil)
  (dss_cons (ds_par2 3 4 sc_step.nd (dps_fz (de_fn (c_maker_of T) (hr.mono (by decide)) psOf (da_cons (de_var 0) (da_cons (de_var 1) (da_cons (de_var 2) da_nil)))) (dps_fz (de_fn (c_wanted T) (hr.mono (by decide)) psOf (da_cons (de_var 0) (da_cons (de_var 1) da_nil))) dps_nil)))
  (dss_cons (ds_par2 5 6 sc_step.nd (dps_ow (dn_list T.z_list (da_cons (de_slice (de_var 1) (do_some de_int) (do_some de_int)) da_nil)) (dps_ow (dn_list T.z_list (da_cons (de_slice (de_var 1) (do_some de_int) (do_some de_int)) da_nil)) dps_nil)))
  (dss_cons (ds_set 7 sc_step.nd de_bl)
  (dss_cons (ds_if (dt_isNot (DE.db (de_var 3)) (DE.db de_non))
  (dss_cons (ds_augI 5 (de_var 3) de_int)
  (dss_cons (ds_set 7 sc_step.nd (de_fn (c_wins_game T) (hr.mono (by decide)) psOf (da_cons (de_var 0) (da_cons (de_var 4) (da_cons (de_ixV 5 (de_var 3)) (da_cons (de_ixV 5 (de_sub de_int (de_var 3))) da_nil))))))
  (dss_one (ds_if (dt_val (de_var 7))
  (dss_cons (ds_augI 6 (de_var 3) de_int)
  (dss_one (ds_own 5 sc_step.nd (dn_lst (da_cons de_int (da_cons de_int da_nil))))))
  (dss_one (ds_if (dt_eq hr (DE.db (de_ix (de_var 0) de_int)) (DE.db de_str))
  (dss_one (ds_own 5 sc_step.nd (dn_list T.z_list (da_cons (de_fn (c_folded T) (hr.mono (by decide)) psOf (da_cons (de_var 4) (da_cons (de_ixV 5 de_int) (da_cons (de_ixV 5 de_int) da_nil)))) da_nil))))
  dss_nil))))))
  dss_nil)
  (dss_fz 6 (dss_cons (ds_asg (de_fn (c_served T) (hr.mono (by decide)) psOf (da_cons (de_var 0) (da_cons (de_var 1) (da_cons (de_var 2) (da_cons (de_var 6) (da_cons (de_var 7) da_nil)))))) (dg_tup (dgs_cons (dg_name 8 sc_step.nd) (dgs_cons (dg_name 9 sc_step.nd) dgs_nil))))
  (dss_fz 5 (dss_one (ds_ret (de_add (de_add (de_add (de_tup (da_cons (de_var 8) da_nil)) (de_tuple T.z_tuple (da_cons (de_var 5) da_nil))) (de_tuple T.z_tuple (da_cons (de_var 6) da_nil))) (de_tup (da_cons (de_var 9) da_nil)))))))))))))
theorem c_Table_play (T : Tx K mg cl) : CalO P w K mg base cl 80 "play" 4 2 m_Table_play :=
  calO_of (N := ["self", "rally"]) (n := 2) (g := u_Table_play) (k := 3) T.f_Table_play sc_Table_play rfl fun f cdv A outer s H E hr =>
  (dssL_cons (ds_expr (de_fn (c_check_rally T) (hr.mono (by decide)) psOf (da_cons (de_var 1) da_nil)))
  (dssL_cons (ds_if (dt_eq hr (DE.db (de_lenI T.z_len (di_fld 0 80 T.to.c (T.to.na "line" (by simp))))) (DE.db (de_gl T.g_MOST_RALLIES)))
  (dss_one (ds_raiseX 3 tkOf T.e_BadNumber))
  dss_nil)
  (dssL_take (dssO_cons (ds_appF 0 80 T.to.c (T.to.na "states" (by simp)) (de_fn (c_step T) (hr.mono (by decide)) psOf (da_cons (de_fld 0 80 T.to.c (T.to.na "rule" (by simp))) (da_cons (de_ixF 0 80 T.to.c (T.to.na "states" (by simp)) de_neg) (da_cons (de_var 1) da_nil)))))
  (dssO_cons (ds_appF 0 80 T.to.c (T.to.na "line" (by simp)) (de_var 1))
  (dssO_ret (de_fn (c_board_of T) (hr.mono (by decide)) psOf (da_cons (de_ixF 0 80 T.to.c (T.to.na "states" (by simp)) de_neg) (da_cons (de_fld 0 80 T.to.c (T.to.na "sight" (by simp))) da_nil)))))))))
theorem c_Table_rallies (T : Tx K mg cl) : CalR P w K mg base cl 80 "rallies" 1 1 m_Table_rallies :=
  calR_of (N := ["self"]) (n := 1) (u := u_Table_rallies) (k := 0) T.f_Table_rallies sc_Table_rallies rfl fun f cdv A outer s H E hr =>
  (dss_one (ds_ret (DN.dl (dn_listF 0 80 T.z_list T.to.c (T.to.na "line" (by simp))))))
theorem c_Table_state (T : Tx K mg cl) : CalR P w K mg base cl 80 "state" 1 1 m_Table_state :=
  calR_of (N := ["self"]) (n := 1) (u := u_Table_state) (k := 0) T.f_Table_state sc_Table_state rfl fun f cdv A outer s H E hr =>
  (dss_one (ds_ret (de_ixF 0 80 T.to.c (T.to.na "states" (by simp)) de_neg)))
theorem c_Table_undo (T : Tx K mg cl) : CalO P w K mg base cl 80 "undo" 1 1 m_Table_undo :=
  calO_of (N := ["self"]) (n := 1) (g := u_Table_undo) (k := 0) T.f_Table_undo sc_Table_undo rfl fun f cdv A outer s H E hr =>
  (dssL_cons (ds_if (dt_eqI hr (di_fld 0 80 T.to.c (T.to.na "line" (by simp))) (DN.dl (dn_lst da_nil)))
  (dss_one (ds_raiseX 5 tkOf T.e_NotFound))
  dss_nil)
  (dssL_take (dssO_cons (ds_exprY (dy_popF 0 80 T.to.c (T.to.na "states" (by simp))))
  (dssO_retY (dy_popF 0 80 T.to.c (T.to.na "line" (by simp)))))))
theorem c_law_board (T : Tx K mg cl) : Cal P w K mg base cl "_law_board" 1 2 m_law_board :=
  cal_of (N := ["state", "sight"]) (n := 2) (u := u_law_board) (k := 0) T.f_law_board sc_law_board rfl fun f cdv A outer s H E hr =>
  (dss_one (ds_ret (de_if (dt_eq hr (DE.db (de_var 1)) (DE.db de_int)) (de_slice (de_var 0) do_none (do_some de_int)) (de_if (dt_eq hr (DE.db (de_var 1)) (DE.db de_int)) (de_ix (de_var 0) de_int) (de_slice (de_var 0) (do_some de_int) (do_some de_int))))))
theorem c_law_error (T : Tx K mg cl) : Cal P w K mg base cl "_law_error" 1 1 m_law_error :=
  cal_of (N := ["caught", "kinds"]) (n := 1) (u := u_law_error) (k := 0) T.f_law_error sc_law_error rfl fun f cdv A outer s H E hr =>
  (dss_cons (ds_set 1 sc_law_error.nd (DN.dl (dn_lst (da_cons (de_isE 0 0 T.err T.z_isinstance T.err.n0) (da_cons (de_isE 0 1 T.err T.z_isinstance T.err.n1) (da_cons (de_isE 0 2 T.err T.z_isinstance T.err.n2) da_nil))))))
  (dss_cons (ds_set 1 sc_law_error.nd (de_add (de_var 1) (DN.dl (dn_lst (da_cons (de_isE 0 3 T.err T.z_isinstance T.err.n3) (da_cons (de_isE 0 4 T.err T.z_isinstance T.err.n4) (da_cons (de_isE 0 5 T.err T.z_isinstance T.err.n5) da_nil)))))))
  (dss_cons (ds_if (DW.dt (dw_or (dt_ne hr (DE.db (de_count hr (de_var 1) de_bl)) (DE.db de_int)) (dw_or (dt_not (dt_val (de_isEm 0 T.err T.z_isinstance T.err.n6))) (dw_or1 (dt_not (dt_val (de_isEv 0 T.err T.z_isinstance T.z_ValueError)))))))
  (dss_one (ds_ret de_str))
  dss_nil)
  (dss_one (ds_ret (de_ix (DN.dl (dn_lst (da_cons de_str (da_cons de_str (da_cons de_str (da_cons de_str (da_cons de_str (da_cons de_str da_nil)))))))) (de_index hr (de_var 1) de_bl)))))))
theorem c_law_call (T : Tx K mg cl) : CalF P w K mg base cl 80 "_law_call" 5 3 m_law_call :=
  calF_of (N := ["shown_here", "kind", "thing", "found", "caught", "e"]) (n := 3) (g := u_law_call) (k := 4) T.f_law_call sc_law_call rfl fun f cdv A outer s H E hr =>
  (dssL_cons (ds_set 3 sc_law_call.nd de_non)
  (dssL_cons (ds_set 4 sc_law_call.nd de_non)
  (dssL_try 5 4 3 6 sc_law_call.nd T.err.n6 T.err.m (fun pn xe E' hps => (dyx_if (dt_eq hr (DE.db (de_var 1)) (DE.db de_int)) (dyx_meth 0 80 T.to.c (c_Table_play T) (hr.mono (by decide)) hps (da_cons (de_var 2) da_nil)) (dyx_meth0 0 80 T.to.c (c_Table_undo T) (hr.mono (by decide)) hps))) (de_if (dt_noE 4) (de_tup (da_cons de_str (da_cons (de_var 3) da_nil))) (de_tup (da_cons de_str (da_cons (de_fn (c_law_error T) (hr.mono (by decide)) psOf (da_ex 4 da_nil)) da_nil)))))))
theorem c_law_pick (T : Tx K mg cl) : Cal P w K mg base cl "_law_pick" 2 2 m_law_pick :=
  cal_of (N := ["draws", "choices"]) (n := 2) (u := u_law_pick) (k := 1) T.f_law_pick sc_law_pick rfl fun f cdv A outer s H E hr =>
  (dss_one (ds_ret (de_ix (de_var 1) (de_fn (c_law_draw T) (hr.mono (by decide)) psOf (da_dr 0 (da_cons (de_len T.z_len (da_cons (de_var 1) da_nil)) da_nil))))))
theorem c_law_rule (T : Tx K mg cl) : Cal P w K mg base cl "_law_rule" 3 1 m_law_rule :=
  cal_of (N := ["draws", "lead", "serve"]) (n := 1) (u := u_law_rule) (k := 2) T.f_law_rule sc_law_rule rfl fun f cdv A outer s H E hr =>
  (dss_cons (ds_par2 1 2 sc_law_rule.nd (dps_fz (de_fn (c_law_pick T) (hr.mono (by decide)) psOf (da_dr 0 (da_cons (DN.dl (dn_lst (da_cons de_str (da_cons de_str (da_cons de_str da_nil))))) da_nil))) (dps_fz (de_fn (c_law_pick T) (hr.mono (by decide)) psOf (da_dr 0 (da_cons (DN.dl (dn_lst (da_cons de_str (da_cons de_str (da_cons de_str (da_cons de_str da_nil)))))) da_nil))) dps_nil)))
  (dss_one (ds_ret (de_tup (da_cons (de_add de_int (de_fn (c_law_draw T) (hr.mono (by decide)) psOf (da_dr 0 (da_cons de_int da_nil)))) (da_cons (de_var 1) (da_cons (de_add de_int (de_fn (c_law_draw T) (hr.mono (by decide)) psOf (da_dr 0 (da_cons de_int da_nil)))) (da_cons (de_fn (c_law_pick T) (hr.mono (by decide)) psOf (da_dr 0 (da_cons (DN.dl (dn_lst (da_cons de_str (da_cons de_str da_nil)))) da_nil))) (da_cons (de_var 2) da_nil)))))))))
theorem c_law_folded (T : Tx K mg cl) : Cal P w K mg base cl "_law_folded" 1 3 m_law_folded :=
  cal_of (N := ["rule", "many", "points", "lead"]) (n := 3) (u := u_law_folded) (k := 0) T.f_law_folded sc_law_folded rfl fun f cdv A outer s H E hr =>
  (dss_cons (ds_if (DW.dt (dw_or (dt_ne hr (DE.db (de_ix (de_var 0) de_int)) (DE.db de_str)) (dw_or1 (dt_lt (DE.db (de_min T.z_min (da_cons (de_var 2) da_nil))) (DE.db (de_sub (de_var 1) de_int))))))
  (dss_one (ds_ret (de_tuple T.z_tuple (da_cons (de_var 2) da_nil))))
  dss_nil)
  (dss_cons (ds_set 3 sc_law_folded.nd (de_sub (de_ix (de_var 2) de_int) (de_ix (de_var 2) de_int)))
  (dss_one (ds_ret (de_tup (da_cons (de_add (de_sub (de_var 1) de_int) (de_if (dt_gt (DE.db (de_var 3)) (DE.db de_int)) de_int de_int)) (da_cons (de_add (de_sub (de_var 1) de_int) (de_if (dt_lt (DE.db (de_var 3)) (DE.db de_int)) de_int de_int)) da_nil)))))))
theorem c_law_wanted (T : Tx K mg cl) : Cal P w K mg base cl "_law_wanted" 1 2 m_law_wanted :=
  cal_of (N := ["rule", "games"]) (n := 2) (u := u_law_wanted) (k := 0) T.f_law_wanted sc_law_wanted rfl fun f cdv A outer s H E hr =>
  (dss_one (ds_ret (de_add (de_ix (de_var 0) de_int) (de_if (DW.dt (dw_and (dt_eq hr (DE.db (de_ix (de_var 0) de_int)) (DE.db de_str)) (dw_and1 (dt_in hr (DE.db (de_sub (de_ix (de_var 0) de_int) de_int)) (DE.db (de_var 1)))))) de_int de_int))))
theorem c_law_won (T : Tx K mg cl) : Cal P w K mg base cl "_law_won" 1 4 m_law_won :=
  cal_of (N := ["rule", "many", "own", "other"]) (n := 4) (u := u_law_won) (k := 0) T.f_law_won sc_law_won rfl fun f cdv A outer s H E hr =>
  (dss_cons (ds_if (dt_eq hr (DE.db (de_ix (de_var 0) de_int)) (DE.db de_str))
  (dss_one (ds_ret (de_eq hr (DE.db (de_var 2)) (DE.db (de_var 1)))))
  dss_nil)
  (dss_one (ds_ret (de_or (de_and (de_ge (DE.db (de_var 2)) (DE.db (de_var 1))) (de_one (de_ge (DE.db (de_var 2)) (DE.db (de_add (de_var 3) de_int))))) (de_one (de_and (de_eq hr (DE.db (de_ix (de_var 0) de_int)) (DE.db de_str)) (de_one (de_eq hr (DE.db (de_var 2)) (DE.db (de_add (de_var 1) de_int))))))))))
theorem c_law_along (T : Tx K mg cl) : Cal P w K mg base cl "_law_along" 2 2 m_law_along :=
  cal_of (N := ["rule", "row", "points", "games", "serving", "turn", "made_here", "states", "ended_at", "k", "rally", "many", "over", "kept", "side"]) (n := 2) (u := u_law_along) (k := 1) T.f_law_along sc_law_along rfl fun f cdv A outer s H E hr =>
  (dss_cons (ds_parN (dps_fz (DN.dl (dn_lst (da_cons de_int (da_cons de_int da_nil)))) (dps_fz (DN.dl (dn_lst (da_cons de_int (da_cons de_int da_nil)))) (dps_fz de_int (dps_fz de_int (dps_fz (DN.dl (dn_lst (da_cons de_int (da_cons de_int da_nil)))) dps_nil))))) (nms_cons 2 sc_law_along.nd (nms_cons 3 sc_law_along.nd (nms_cons 4 sc_law_along.nd (nms_cons 5 sc_law_along.nd (nms_cons 6 sc_law_along.nd nms_nil))))))
  (dss_cons (ds_par2 7 8 sc_law_along.nd (dps_ow (dn_lst (da_cons (de_tup (da_cons de_int (da_cons de_int (da_cons de_int (da_cons de_int (da_cons de_int (da_cons de_int da_nil))))))) da_nil)) (dps_fz de_non dps_nil)))
  (dss_cons (ds_for poOf (di_range1 T.z_range (da_cons (de_len T.z_len (da_cons (de_var 1) da_nil)) da_nil)) (dg_name 9 sc_law_along.nd) (dss_cons (ds_set 10 sc_law_along.nd (de_ix (de_var 1) (de_var 9)))
  (dss_one (ds_if (dt_notIn hr (DE.db (de_ix (de_var 0) de_int)) (DE.db (de_var 3)))
  (dss_cons (ds_par2 11 12 sc_law_along.nd (dps_fz (de_fn (c_law_wanted T) (hr.mono (by decide)) psOf (da_cons (de_var 0) (da_cons (de_var 3) da_nil))) (dps_fz de_bl dps_nil)))
  (dss_cons (ds_if (DW.dt (dw_or (dt_ne hr (DE.db (de_ix (de_var 0) de_int)) (DE.db de_str)) (dw_or1 (dt_eq hr (DE.db (de_var 10)) (DE.db (de_var 4))))))
  (dss_cons (ds_set 2 sc_law_along.nd (DN.dl (dn_lc [("side", 14)] sc_law_along.nd (di_seq (de_tup (da_cons de_int (da_cons de_int da_nil)))) (blkOk_by (N := ["rule", "row", "points", "games", "serving", "turn", "made_here", "states", "ended_at", "k", "rally", "many", "over", "kept", "side"]) (sc := defScope s_law_along) (by decide +kernel)) (fun _ _ _ _ _ => (dg_name 14 sc_law_along.nd)) (fun _ _ _ _ _ => dts_nil) (fun _ _ _ _ _ => (de_add (de_ix (de_var 2) (de_var 14)) (de_if (dt_eq hr (DE.db (de_var 14)) (DE.db (de_var 10))) de_int de_int))))))
  (dss_cons (ds_set 6 sc_law_along.nd (DN.dl (dn_lc [("side", 14)] sc_law_along.nd (di_seq (de_tup (da_cons de_int (da_cons de_int da_nil)))) (blkOk_by (N := ["rule", "row", "points", "games", "serving", "turn", "made_here", "states", "ended_at", "k", "rally", "many", "over", "kept", "side"]) (sc := defScope s_law_along) (by decide +kernel)) (fun _ _ _ _ _ => (dg_name 14 sc_law_along.nd)) (fun _ _ _ _ _ => dts_nil) (fun _ _ _ _ _ => (de_add (de_ix (de_var 6) (de_var 14)) (de_if (dt_eq hr (DE.db (de_var 14)) (DE.db (de_var 10))) de_int de_int))))))
  (dss_one (ds_set 12 sc_law_along.nd (de_fn (c_law_won T) (hr.mono (by decide)) psOf (da_cons (de_var 0) (da_cons (de_var 11) (da_cons (de_ix (de_var 2) (de_var 10)) (da_cons (de_ix (de_var 2) (de_sub de_int (de_var 10))) da_nil)))))))))
  dss_nil)
  (dss_cons (ds_if (dt_val (de_var 12))
  (dss_cons (ds_set 3 sc_law_along.nd (DN.dl (dn_lc [("side", 14)] sc_law_along.nd (di_seq (de_tup (da_cons de_int (da_cons de_int da_nil)))) (blkOk_by (N := ["rule", "row", "points", "games", "serving", "turn", "made_here", "states", "ended_at", "k", "rally", "many", "over", "kept", "side"]) (sc := defScope s_law_along) (by decide +kernel)) (fun _ _ _ _ _ => (dg_name 14 sc_law_along.nd)) (fun _ _ _ _ _ => dts_nil) (fun _ _ _ _ _ => (de_add (de_ix (de_var 3) (de_var 14)) (de_if (dt_eq hr (DE.db (de_var 14)) (DE.db (de_var 10))) de_int de_int))))))
  (dss_cons (ds_parN (dps_fz (DN.dl (dn_lst (da_cons de_int (da_cons de_int da_nil)))) (dps_fz de_int dps_nil)) (nms_cons 2 sc_law_along.nd (nms_cons 11 sc_law_along.nd nms_nil)))
  (dss_one (ds_set 8 sc_law_along.nd (de_if (dt_in hr (DE.db (de_ix (de_var 0) de_int)) (DE.db (de_var 3))) (de_add (de_var 9) de_int) de_non)))))
  dss_nil)
  (dss_cons (ds_if (dt_in hr (DE.db (de_ix (de_var 0) de_int)) (DE.db (de_tup (da_cons de_str (da_cons de_str da_nil)))))
  (dss_one (ds_set 4 sc_law_along.nd (de_var 10)))
  (dss_one (ds_if (DW.dt (dw_or (dt_eq hr (DE.db (de_ix (de_var 0) de_int)) (DE.db de_str)) (dw_or1 (dt_val (de_var 12)))))
  (dss_one (ds_par2 4 5 sc_law_along.nd (dps_fz (de_mod (de_add (de_ix (de_var 3) de_int) (de_ix (de_var 3) de_int)) de_int) (dps_fz de_int dps_nil))))
  (dss_one (ds_par2 4 5 sc_law_along.nd (dps_fz (de_if (dt_eq hr (DE.db (de_var 5)) (DE.db de_int)) (de_var 4) (de_sub de_int (de_var 4))) (dps_fz (de_sub de_int (de_var 5)) dps_nil)))))))
  (dss_cons (ds_set 13 sc_law_along.nd (de_fn (c_law_folded T) (hr.mono (by decide)) psOf (da_cons (de_var 0) (da_cons (de_var 11) (da_cons (de_var 2) da_nil)))))
  (dss_one (ds_append 7 (de_tup (da_cons (de_var 4) (da_cons (de_ix (de_var 13) de_int) (da_cons (de_ix (de_var 13) de_int) (da_cons (de_ix (de_var 3) de_int) (da_cons (de_ix (de_var 3) de_int) (da_cons (de_var 5) da_nil))))))))))))))
  (dss_one (ds_append 7 (de_ixV 7 de_neg)))))))
  (dss_fz 7 (dss_one (ds_ret (de_tup (da_cons (de_var 7) (da_cons (de_tuple T.z_tuple (da_cons (de_var 6) da_nil)) (da_cons (de_var 8) da_nil))))))))))
theorem c_law_states (T : Tx K mg cl) : Cal P w K mg base cl "_law_states" 3 2 m_law_states :=
  cal_of (N := ["rule", "row"]) (n := 2) (u := u_law_states) (k := 2) T.f_law_states sc_law_states rfl fun f cdv A outer s H E hr =>
  (dss_one (ds_ret (de_ix (de_fn (c_law_along T) (hr.mono (by decide)) psOf (da_cons (de_var 0) (da_cons (de_var 1) da_nil))) de_int)))
theorem c_law_step (T : Tx K mg cl) : Cal P w K mg base cl "_law_step" 2 3 m_law_step :=
  cal_of (N := ["rule", "state", "rally", "points", "games", "serving", "turn", "over", "many", "kept", "side"]) (n := 3) (u := u_law_step) (k := 1) T.f_law_step sc_law_step rfl fun f cdv A outer s H E hr =>
  (dss_cons (ds_if (dt_in hr (DE.db (de_ix (de_var 0) de_int)) (DE.db (de_slice (de_var 1) (do_some de_int) (do_some de_int))))
  (dss_one (ds_ret (de_var 1)))
  dss_nil)
  (dss_cons (ds_parN (dps_fz (DN.dl (dn_list T.z_list (da_cons (de_slice (de_var 1) (do_some de_int) (do_some de_int)) da_nil))) (dps_fz (DN.dl (dn_list T.z_list (da_cons (de_slice (de_var 1) (do_some de_int) (do_some de_int)) da_nil))) (dps_fz (de_ix (de_var 1) de_int) (dps_fz (de_ix (de_var 1) de_int) (dps_fz de_bl dps_nil))))) (nms_cons 3 sc_law_step.nd (nms_cons 4 sc_law_step.nd (nms_cons 5 sc_law_step.nd (nms_cons 6 sc_law_step.nd (nms_cons 7 sc_law_step.nd nms_nil))))))
  (dss_cons (ds_set 8 sc_law_step.nd (de_fn (c_law_wanted T) (hr.mono (by decide)) psOf (da_cons (de_var 0) (da_cons (de_var 4) da_nil))))
  (dss_cons (ds_if (DW.dt (dw_or (dt_ne hr (DE.db (de_ix (de_var 0) de_int)) (DE.db de_str)) (dw_or1 (dt_eq hr (DE.db (de_var 2)) (DE.db (de_var 5))))))
  (dss_cons (ds_set 3 sc_law_step.nd (DN.dl (dn_lc [("side", 10)] sc_law_step.nd (di_seq (de_tup (da_cons de_int (da_cons de_int da_nil)))) (blkOk_by (N := ["rule", "state", "rally", "points", "games", "serving", "turn", "over", "many", "kept", "side"]) (sc := defScope s_law_step) (by decide +kernel)) (fun _ _ _ _ _ => (dg_name 10 sc_law_step.nd)) (fun _ _ _ _ _ => dts_nil) (fun _ _ _ _ _ => (de_add (de_ix (de_var 3) (de_var 10)) (de_if (dt_eq hr (DE.db (de_var 10)) (DE.db (de_var 2))) de_int de_int))))))
  (dss_one (ds_set 7 sc_law_step.nd (de_fn (c_law_won T) (hr.mono (by decide)) psOf (da_cons (de_var 0) (da_cons (de_var 8) (da_cons (de_ix (de_var 3) (de_var 2)) (da_cons (de_ix (de_var 3) (de_sub de_int (de_var 2))) da_nil))))))))
  dss_nil)
  (dss_cons (ds_if (dt_val (de_var 7))
  (dss_one (ds_parN (dps_fz (DN.dl (dn_lc [("side", 10)] sc_law_step.nd (di_seq (de_tup (da_cons de_int (da_cons de_int da_nil)))) (blkOk_by (N := ["rule", "state", "rally", "points", "games", "serving", "turn", "over", "many", "kept", "side"]) (sc := defScope s_law_step) (by decide +kernel)) (fun _ _ _ _ _ => (dg_name 10 sc_law_step.nd)) (fun _ _ _ _ _ => dts_nil) (fun _ _ _ _ _ => (de_add (de_ix (de_var 4) (de_var 10)) (de_if (dt_eq hr (DE.db (de_var 10)) (DE.db (de_var 2))) de_int de_int))))) (dps_fz (DN.dl (dn_lst (da_cons de_int (da_cons de_int da_nil)))) (dps_fz de_int dps_nil))) (nms_cons 4 sc_law_step.nd (nms_cons 3 sc_law_step.nd (nms_cons 8 sc_law_step.nd nms_nil)))))
  dss_nil)
  (dss_cons (ds_if (dt_in hr (DE.db (de_ix (de_var 0) de_int)) (DE.db (de_tup (da_cons de_str (da_cons de_str da_nil)))))
  (dss_one (ds_set 5 sc_law_step.nd (de_var 2)))
  (dss_one (ds_if (DW.dt (dw_or (dt_eq hr (DE.db (de_ix (de_var 0) de_int)) (DE.db de_str)) (dw_or1 (dt_val (de_var 7)))))
  (dss_one (ds_par2 5 6 sc_law_step.nd (dps_fz (de_mod (de_add (de_ix (de_var 4) de_int) (de_ix (de_var 4) de_int)) de_int) (dps_fz de_int dps_nil))))
  (dss_one (ds_par2 5 6 sc_law_step.nd (dps_fz (de_if (dt_eq hr (DE.db (de_var 6)) (DE.db de_int)) (de_var 5) (de_sub de_int (de_var 5))) (dps_fz (de_sub de_int (de_var 6)) dps_nil)))))))
  (dss_cons (ds_set 9 sc_law_step.nd (de_fn (c_law_folded T) (hr.mono (by decide)) psOf (da_cons (de_var 0) (da_cons (de_var 8) (da_cons (de_var 3) da_nil)))))
  (dss_one (ds_ret (de_tup (da_cons (de_var 5) (da_cons (de_ix (de_var 9) de_int) (da_cons (de_ix (de_var 9) de_int) (da_cons (de_ix (de_var 4) de_int) (da_cons (de_ix (de_var 4) de_int) (da_cons (de_var 6) da_nil))))))))))))))))
theorem c_is_row (T : Tx K mg cl) : Cal P w K mg base cl "is_row" 3 1 m_is_row :=
  cal_of (N := ["value", "one"]) (n := 1) (u := u_is_row) (k := 2) T.f_is_row sc_is_row rfl fun f cdv A outer s H E hr =>
  (dss_one (ds_ret (de_and (de_isList T.z_isinstance T.z_list (de_var 0)) (de_and (de_le (DE.db (de_len T.z_len (da_cons (de_var 0) da_nil))) (DE.db (de_gl T.g_MOST_ROW))) (de_one (de_all T.z_all (da_cons (DN.dl (dn_lc [("one", 1)] sc_is_row.nd (di_seq (de_var 0)) (blkOk_by (N := ["value", "one"]) (sc := defScope s_is_row) (by decide +kernel)) (fun _ _ _ _ _ => (dg_name 1 sc_is_row.nd)) (fun _ _ _ _ _ => dts_nil) (fun _ _ _ _ _ => (de_fn (c_is_rally T) (hr.mono (by decide)) passL (da_cons (de_var 1) da_nil))))) da_nil)))))))
theorem c_check_row (T : Tx K mg cl) : Cal P w K mg base cl "check_row" 4 1 m_check_row :=
  cal_of (N := ["value"]) (n := 1) (u := u_check_row) (k := 3) T.f_check_row sc_check_row rfl fun f cdv A outer s H E hr =>
  (dss_one (ds_if (dt_not (dt_val (de_fn (c_is_row T) (hr.mono (by decide)) psOf (da_cons (de_var 0) da_nil))))
  (dss_one (ds_raiseX 1 tkOf T.e_BadRally))
  dss_nil))
theorem c_states_of (T : Tx K mg cl) : Cal P w K mg base cl "states_of" 4 2 m_states_of :=
  cal_of (N := ["rule", "row", "found", "rally"]) (n := 2) (u := u_states_of) (k := 3) T.f_states_of sc_states_of rfl fun f cdv A outer s H E hr =>
  (dss_cons (ds_own 2 sc_states_of.nd (dn_lst (da_cons (de_gl T.g_START) da_nil)))
  (dss_cons (ds_for poOf (di_seq (de_var 1)) (dg_name 3 sc_states_of.nd) (dss_one (ds_append 2 (de_fn (c_step T) (hr.mono (by decide)) psOf (da_cons (de_var 0) (da_cons (de_ixV 2 de_neg) (da_cons (de_var 3) da_nil)))))))
  (dss_fz 2 (dss_one (ds_ret (de_var 2))))))
theorem c_shown (T : Tx K mg cl) : Cal P w K mg base cl "shown" 5 3 m_shown :=
  cal_of (N := ["rule", "row", "sight", "state"]) (n := 3) (u := u_shown) (k := 4) T.f_shown sc_shown rfl fun f cdv A outer s H E hr =>
  (dss_one (ds_ret (DN.dl (dn_lc [("state", 3)] sc_shown.nd (di_seq (de_slice (de_fn (c_states_of T) (hr.mono (by decide)) psOf (da_cons (de_var 0) (da_cons (de_var 1) da_nil))) (do_some de_int) do_none)) (blkOk_by (N := ["rule", "row", "sight", "state"]) (sc := defScope s_shown) (by decide +kernel)) (fun _ _ _ _ _ => (dg_name 3 sc_shown.nd)) (fun _ _ _ _ _ => dts_nil) (fun _ _ _ _ _ => (de_fn (c_board_of T) (hr.mono (by decide)) passL (da_cons (de_var 3) (da_cons (de_var 2) da_nil))))))))
theorem c_boards_of (T : Tx K mg cl) : Cal P w K mg base cl "boards_of" 6 3 m_boards_of :=
  cal_of (N := ["rule", "row", "sight"]) (n := 3) (u := u_boards_of) (k := 5) T.f_boards_of sc_boards_of rfl fun f cdv A outer s H E hr =>
  (dss_cons (ds_expr (de_fn (c_check_rule T) (hr.mono (by decide)) psOf (da_cons (de_var 0) da_nil)))
  (dss_cons (ds_expr (de_fn (c_check_row T) (hr.mono (by decide)) psOf (da_cons (de_var 1) da_nil)))
  (dss_cons (ds_expr (de_fn (c_check_sight T) (hr.mono (by decide)) psOf (da_cons (de_var 2) da_nil)))
  (dss_one (ds_ret (de_fn (c_shown T) (hr.mono (by decide)) psOf (da_cons (de_var 0) (da_cons (de_var 1) (da_cons (de_var 2) da_nil)))))))))
theorem b_law (T : Tx K mg cl) {f : Addr} {cdv : Value} {A : Around} {outer : List Env} {s : Shared} {H : Hp} {E : XK} (hr : Room 6 (A.deeper (PyProof.Rows.envOfC "law" (defScope s_law) s.heap.objs.size f cdv))) :
    DSs cl (cxOf (L2.CX P w) P w K mg base ["script", "draws", "rule", "sight", "table", "line", "side", "turn", "states", "rally", "bad", "state"] "law" (defScope s_law) f cdv A outer s H E) E ((defBody s_law).tail) u_law :=
  (dss_cons (ds_parN (dps_fz (de_fn (c_law_rule T) (hr.mono (by decide)) psOf (da_dr 1 da_nil)) (dps_fz (de_fn (c_law_draw T) (hr.mono (by decide)) psOf (da_dr 1 (da_cons de_int da_nil))) dps_nil)) (nms_cons 2 sc_law.nd (nms_cons 3 sc_law.nd nms_nil)))
  (dss_cons (ds_parO 4 5 80 sc_law.nd (c_Table_init T) (hr.mono (by decide)) psOf (da_cons (de_var 2) (da_cons (de_var 3) da_nil)) (dn_lst da_nil))
  (dss_fz 5 (dss_cons (ds_mkO 6 80 sc_law.nd (c_Table_init T) (hr.mono (by decide)) psOf (da_cons (de_tup (da_cons de_int (da_cons de_str (da_cons de_int (da_cons de_str (da_cons de_str da_nil)))))) (da_cons de_int da_nil)))
  (dss_cons (ds_for poOf (di_range1 T.z_range (da_cons de_int da_nil)) (dg_name 7 sc_law.nd) (dss_cons (ds_exprY (dy_meth 6 80 T.to.c (c_Table_play T) (hr.mono (by decide)) psOf (da_cons (de_ix (DN.dl (dn_lst (da_cons de_int (da_cons de_int (da_cons de_int (da_cons de_int (da_cons de_int (da_cons de_int (da_cons de_int (da_cons de_int da_nil)))))))))) (de_mod (de_var 7) de_int)) da_nil)))
  (dss_cons (ds_set 8 sc_law.nd (de_fn (c_law_states T) (hr.mono (by decide)) psOf (da_cons (de_var 2) (da_cons (de_var 5) da_nil))))
  (dss_cons (ds_if (DW.dt (dw_or (dt_ne hr (DE.db (de_methR0 4 80 T.to.c (c_Table_state T) (hr.mono (by decide)) psOf)) (DE.db (de_ix (de_var 8) de_neg))) (dw_or (dt_ne hr (DE.db (de_methR0 4 80 T.to.c (c_Table_rallies T) (hr.mono (by decide)) psOf)) (DE.db (de_var 5))) (dw_or1 (dt_ne hr (DE.db (de_lenO 4 80 T.to.c (c_Table___len__ T) (hr.mono (by decide)) psOf T.z_len)) (DE.db (de_len T.z_len (da_cons (de_var 5) da_nil))))))))
  (dss_one (ds_ret de_bl))
  dss_nil)
  (dss_cons (ds_if (dt_ne hr (DE.db (de_methR0 4 80 T.to.c (c_Table_boards T) (hr.mono (by decide)) psOf)) (DE.db (DN.dl (dn_lc [("state", 11)] sc_law.nd (di_seq (de_slice (de_var 8) (do_some de_int) do_none)) (blkOk_by (N := ["script", "draws", "rule", "sight", "table", "line", "side", "turn", "states", "rally", "bad", "state"]) (sc := defScope s_law) (by decide +kernel)) (fun _ _ _ _ _ => (dg_name 11 sc_law.nd)) (fun _ _ _ _ _ => dts_nil) (fun _ _ _ _ _ => (de_fn (c_law_board T) (hr.mono (by decide)) passL (da_cons (de_var 11) (da_cons (de_var 3) da_nil))))))))
  (dss_one (ds_ret de_bl))
  dss_nil)
  (dss_cons (ds_if (dt_eq hr (DE.db (de_fn (c_law_draw T) (hr.mono (by decide)) psOf (da_dr 1 (da_cons de_int da_nil)))) (DE.db de_int))
  (dss_cons (ds_ifY (dyt_ne hr (dy_give 4 80 (c_law_call T) (hr.mono (by decide)) psOf (da_cons de_int (da_cons de_int da_nil))) (DE.dy (de_if (dt_ne hr (DE.db (de_var 5)) (DE.db (DN.dl (dn_lst da_nil)))) (de_tup (da_cons de_str (da_cons (de_ix (de_var 5) de_neg) da_nil))) (de_tup (da_cons de_str (da_cons de_str da_nil))))))
  (dss_one (ds_ret de_bl))
  dss_nil)
  (dss_one (ds_set 5 sc_law.nd (de_slice (de_var 5) do_none (do_some de_neg)))))
  (dss_cons (ds_set 9 sc_law.nd (de_fn (c_law_draw T) (hr.mono (by decide)) psOf (da_dr 1 (da_cons de_int da_nil))))
  (dss_cons (ds_ifY (dyt_ne hr (dy_give 4 80 (c_law_call T) (hr.mono (by decide)) psOf (da_cons de_int (da_cons (de_var 9) da_nil))) (DE.dy (de_tup (da_cons de_str (da_cons (de_fn (c_law_board T) (hr.mono (by decide)) psOf (da_cons (de_fn (c_law_step T) (hr.mono (by decide)) psOf (da_cons (de_var 2) (da_cons (de_ix (de_var 8) de_neg) (da_cons (de_var 9) da_nil)))) (da_cons (de_var 3) da_nil))) da_nil)))))
  (dss_one (ds_ret de_bl))
  dss_nil)
  (dss_one (ds_set 5 sc_law.nd (de_add (de_var 5) (DN.dl (dn_lst (da_cons (de_var 9) da_nil)))))))))
  (dss_cons (ds_set 10 sc_law.nd (de_fn (c_law_pick T) (hr.mono (by decide)) psOf (da_dr 1 (da_cons (DN.dl (dn_lst (da_cons de_non (da_cons de_int (da_cons de_neg (da_cons de_bl (da_cons de_str (da_cons (DN.dl (dn_lst (da_cons de_int da_nil))) (da_cons (de_tup (da_cons de_int da_nil)) (da_cons de_bl (da_cons de_int da_nil))))))))))) da_nil))))
  (dss_one (ds_ifY (dyt_ne hr (dy_give 4 80 (c_law_call T) (hr.mono (by decide)) psOf (da_cons de_int (da_cons (de_var 10) da_nil))) (DE.dy (de_tup (da_cons de_str (da_cons de_str da_nil)))))
  (dss_one (ds_ret de_bl))
  dss_nil)))))))))
  (dss_cons (ds_if (DW.dt (dw_or (dt_ne hr (DE.db (de_methR0 6 80 T.to.c (c_Table_rallies T) (hr.mono (by decide)) psOf)) (DE.db (de_mul (DN.dl (dn_lst (da_cons de_int (da_cons de_int (da_cons de_int (da_cons de_int (da_cons de_int (da_cons de_int (da_cons de_int (da_cons de_int da_nil)))))))))) de_int))) (dw_or1 (dt_ne hr (DE.db (de_methR0 6 80 T.to.c (c_Table_boards T) (hr.mono (by decide)) psOf)) (DE.db (de_fn (c_boards_of T) (hr.mono (by decide)) psOf (da_cons (de_tup (da_cons de_int (da_cons de_str (da_cons de_int (da_cons de_str (da_cons de_str da_nil)))))) (da_cons (de_mul (DN.dl (dn_lst (da_cons de_int (da_cons de_int (da_cons de_int (da_cons de_int (da_cons de_int (da_cons de_int (da_cons de_int (da_cons de_int da_nil)))))))))) de_int) (da_cons de_int da_nil)))))))))
  (dss_one (ds_ret de_bl))
  dss_nil)
  (dss_cons (ds_while 1000 poOf (dt_lt (DE.db (de_lenO 6 80 T.to.c (c_Table___len__ T) (hr.mono (by decide)) psOf T.z_len)) (DE.db de_int)) (dss_one (ds_exprY (dy_meth 6 80 T.to.c (c_Table_play T) (hr.mono (by decide)) psOf (da_cons de_int da_nil)))))
  (dss_cons (ds_ifY (DYW.dyt (dyw_or (dyt_ne hr (dy_give 6 80 (c_law_call T) (hr.mono (by decide)) psOf (da_cons de_int (da_cons de_int da_nil))) (DE.dy (de_tup (da_cons de_str (da_cons de_str da_nil))))) (dyw_or (dyt_ne hr (dy_give 6 80 (c_law_call T) (hr.mono (by decide)) psOf (da_cons de_int (da_cons de_int da_nil))) (DE.dy (de_tup (da_cons de_str (da_cons de_str da_nil))))) (dyw_or1 (DT.dyt (dt_ne hr (DE.db (de_lenO 6 80 T.to.c (c_Table___len__ T) (hr.mono (by decide)) psOf T.z_len)) (DE.db de_int)))))))
  (dss_one (ds_ret de_bl))
  dss_nil)
  (dss_one (ds_retY (dy_and (dy_eq hr (dy_meth0 6 80 T.to.c (c_Table_undo T) (hr.mono (by decide)) psOf) (DE.dy de_int)) (dy_and (dy_eq hr (dy_meth 6 80 T.to.c (c_Table_play T) (hr.mono (by decide)) psOf (da_cons de_int da_nil)) (DE.dy (de_ix (de_methR0 6 80 T.to.c (c_Table_boards T) (hr.mono (by decide)) psOf) de_neg))) (dy_and (DE.dy (de_eq hr (DE.db (de_lenO 6 80 T.to.c (c_Table___len__ T) (hr.mono (by decide)) psOf T.z_len)) (DE.db de_int))) (dy_one (DE.dy (de_eq hr (DE.db (de_ix (de_methR0 6 80 T.to.c (c_Table_rallies T) (hr.mono (by decide)) psOf) de_neg)) (DE.db de_int)))))))))))))))))
open PySem.Spec PyProof.Rows in
theorem ok_law (T : Tx K mg cl) (u : Stm) (hb : ∀ {f : Addr} {cdv : Value} {A : Around} {outer : List Env} {s : Shared} {H : Hp} {E : XK}, Room 6 (A.deeper (envOfC "law" (defScope s_law) s.heap.objs.size f cdv)) →
    DSs cl (cxOf (L2.CX P w) P w K mg base ["script", "draws", "rule", "sight", "table", "line", "side", "turn", "states", "rally", "bad", "state"] "law" (defScope s_law) f cdv A outer s H E) E ((defBody s_law).tail) u) (hlaw : LawOk u 10) {fa : Addr} {fd : FuncData} (F : Fun K "law" "law" s_law fa fd) : FnOk P w K mg base (L2.CX P w) 7 fa fd ["script"] (spLaw K) := by
  obtain ⟨f1, fd1, G1, g1, kp1, b1⟩ := c_law_start (P := P) (w := w) (base := base) T
  refine F.okX sc_law (fun vs H Q E h => ?_) (fun cdv A outer s H vs Q E hr h => ?_)
  · obtain ⟨a, ns, rfl, _⟩ := h
    rfl
  · obtain ⟨a, ns, rfl, hS, hl, q⟩ := h
    obtain ⟨t, p, r⟩ := hb (H := H) (E := E) hr
    refine ⟨_, pss_cons (ps_set (i := 1) sc_law.nd rfl (by first | exact Or.inl rfl | exact Or.inr rfl) (pe_call G1 (hr.mono (by decide)) (by rfl) g1 kp1 b1 .nil psOf (pa_cons (pv 0) pa_nil))) p, ?_⟩
    refine ⟨.ref a, rfl, a, ns, rfl, hS, hl, fun H' p n sm hp hn hd => ?_⟩
    obtain ⟨F, f1, f2, f3, B, ad, o⟩ := law_ok (K := K) (cl := cl) (σ := (L2.start ["script", "draws", "rule", "sight", "table", "line", "side", "turn", "states", "rally", "bad", "state"] [V.ref a]).set 1 (some (.ref p))) (m := 10) hd rfl rfl
    refine r F B ad _ H' _ _ f1 f2 o (Tr.all_mono (fun ou z => ?_) (fun _ z => z.elim) hlaw.h)
    subst z
    intro v H2 _ rv
    cases rv
    exact q H2
end
theorem all_mk {l : PySem.W.OpenLaw} {w : World} {K : PySem.W.Frag} {h : Heap} {mg : Str → Option Value} {fa : Addr} (hlaw : LawOk u_law 10) (X : K.In h) (G : h.Ns mainGlobals mg) (hfa : mg "law" = some (.ref fa))
    {C_Table : Addr}
    {f0 : Addr} {od0 an0 : Option Addr} {sl0 : Array (Option Value)} {oc0 kV0 dc0 pm0 cd0 ct0 : Value}
    {f1 : Addr} {od1 an1 : Option Addr} {sl1 : Array (Option Value)} {oc1 kV1 dc1 pm1 cd1 ct1 : Value}
    {f2 : Addr} {od2 an2 : Option Addr} {sl2 : Array (Option Value)} {oc2 kV2 dc2 pm2 cd2 ct2 : Value}
    {f3 : Addr} {od3 an3 : Option Addr} {sl3 : Array (Option Value)} {oc3 kV3 dc3 pm3 cd3 ct3 : Value}
    {f4 : Addr} {od4 an4 : Option Addr} {sl4 : Array (Option Value)} {oc4 kV4 dc4 pm4 cd4 ct4 : Value}
    {f5 : Addr} {od5 an5 : Option Addr} {sl5 : Array (Option Value)} {oc5 kV5 dc5 pm5 cd5 ct5 : Value}
    {f6 : Addr} {od6 an6 : Option Addr} {sl6 : Array (Option Value)} {oc6 kV6 dc6 pm6 cd6 ct6 : Value}
    {f7 : Addr} {od7 an7 : Option Addr} {sl7 : Array (Option Value)} {oc7 kV7 dc7 pm7 cd7 ct7 : Value}
    {f8 : Addr} {od8 an8 : Option Addr} {sl8 : Array (Option Value)} {oc8 kV8 dc8 pm8 cd8 ct8 : Value}
    {f9 : Addr} {od9 an9 : Option Addr} {sl9 : Array (Option Value)} {oc9 kV9 dc9 pm9 cd9 ct9 : Value}
    {f10 : Addr} {od10 an10 : Option Addr} {sl10 : Array (Option Value)} {oc10 kV10 dc10 pm10 cd10 ct10 : Value}
    {f11 : Addr} {od11 an11 : Option Addr} {sl11 : Array (Option Value)} {oc11 kV11 dc11 pm11 cd11 ct11 : Value}
    {f12 : Addr} {od12 an12 : Option Addr} {sl12 : Array (Option Value)} {oc12 kV12 dc12 pm12 cd12 ct12 : Value}
    {f13 : Addr} {od13 an13 : Option Addr} {sl13 : Array (Option Value)} {oc13 kV13 dc13 pm13 cd13 ct13 : Value}
    {f14 : Addr} {od14 an14 : Option Addr} {sl14 : Array (Option Value)} {oc14 kV14 dc14 pm14 cd14 ct14 : Value}
    {f15 : Addr} {od15 an15 : Option Addr} {sl15 : Array (Option Value)} {oc15 kV15 dc15 pm15 cd15 ct15 : Value}
    {f16 : Addr} {od16 an16 : Option Addr} {sl16 : Array (Option Value)} {oc16 kV16 dc16 pm16 cd16 ct16 : Value}
    {f17 : Addr} {od17 an17 : Option Addr} {sl17 : Array (Option Value)} {oc17 kV17 dc17 pm17 cd17 ct17 : Value}
    {f18 : Addr} {od18 an18 : Option Addr} {sl18 : Array (Option Value)} {oc18 kV18 dc18 pm18 cd18 ct18 : Value}
    {f19 : Addr} {od19 an19 : Option Addr} {sl19 : Array (Option Value)} {oc19 kV19 dc19 pm19 cd19 ct19 : Value}
    {f20 : Addr} {od20 an20 : Option Addr} {sl20 : Array (Option Value)} {oc20 kV20 dc20 pm20 cd20 ct20 : Value}
    {f21 : Addr} {od21 an21 : Option Addr} {sl21 : Array (Option Value)} {oc21 kV21 dc21 pm21 cd21 ct21 : Value}
    {f22 : Addr} {od22 an22 : Option Addr} {sl22 : Array (Option Value)} {oc22 kV22 dc22 pm22 cd22 ct22 : Value}
    {f23 : Addr} {od23 an23 : Option Addr} {sl23 : Array (Option Value)} {oc23 kV23 dc23 pm23 cd23 ct23 : Value}
    {f24 : Addr} {od24 an24 : Option Addr} {sl24 : Array (Option Value)} {oc24 kV24 dc24 pm24 cd24 ct24 : Value}
    {f25 : Addr} {od25 an25 : Option Addr} {sl25 : Array (Option Value)} {oc25 kV25 dc25 pm25 cd25 ct25 : Value}
    {f26 : Addr} {od26 an26 : Option Addr} {sl26 : Array (Option Value)} {oc26 kV26 dc26 pm26 cd26 ct26 : Value}
    {f27 : Addr} {od27 an27 : Option Addr} {sl27 : Array (Option Value)} {oc27 kV27 dc27 pm27 cd27 ct27 : Value}
    {f28 : Addr} {od28 an28 : Option Addr} {sl28 : Array (Option Value)} {oc28 kV28 dc28 pm28 cd28 ct28 : Value}
    {f29 : Addr} {od29 an29 : Option Addr} {sl29 : Array (Option Value)} {oc29 kV29 dc29 pm29 cd29 ct29 : Value}
    {f30 : Addr} {od30 an30 : Option Addr} {sl30 : Array (Option Value)} {oc30 kV30 dc30 pm30 cd30 ct30 : Value}
    {f31 : Addr} {od31 an31 : Option Addr} {sl31 : Array (Option Value)} {oc31 kV31 dc31 pm31 cd31 ct31 : Value}
    {f32 : Addr} {od32 an32 : Option Addr} {sl32 : Array (Option Value)} {oc32 kV32 dc32 pm32 cd32 ct32 : Value}
    {f33 : Addr} {od33 an33 : Option Addr} {sl33 : Array (Option Value)} {oc33 kV33 dc33 pm33 cd33 ct33 : Value}
    {f34 : Addr} {od34 an34 : Option Addr} {sl34 : Array (Option Value)} {oc34 kV34 dc34 pm34 cd34 ct34 : Value}
    {f35 : Addr} {od35 an35 : Option Addr} {sl35 : Array (Option Value)} {oc35 kV35 dc35 pm35 cd35 ct35 : Value}
    {f36 : Addr} {od36 an36 : Option Addr} {sl36 : Array (Option Value)} {oc36 kV36 dc36 pm36 cd36 ct36 : Value}
    {f37 : Addr} {od37 an37 : Option Addr} {sl37 : Array (Option Value)} {oc37 kV37 dc37 pm37 cd37 ct37 : Value}
    {f38 : Addr} {od38 an38 : Option Addr} {sl38 : Array (Option Value)} {oc38 kV38 dc38 pm38 cd38 ct38 : Value}
    {f39 : Addr} {od39 an39 : Option Addr} {sl39 : Array (Option Value)} {oc39 kV39 dc39 pm39 cd39 ct39 : Value}
    {f40 : Addr} {od40 an40 : Option Addr} {sl40 : Array (Option Value)} {oc40 kV40 dc40 pm40 cd40 ct40 : Value}
    {f41 : Addr} {od41 an41 : Option Addr} {sl41 : Array (Option Value)} {oc41 kV41 dc41 pm41 cd41 ct41 : Value}
    {a_DECIDERS : Addr} {dd_DECIDERS : Option Addr} {n_DECIDERS : Nat} {sl_DECIDERS : Array (Option Value)} {t_DECIDERS_0 t_DECIDERS_1 : Tok}
    {a_LEADS : Addr} {dd_LEADS : Option Addr} {n_LEADS : Nat} {sl_LEADS : Array (Option Value)} {t_LEADS_0 t_LEADS_1 t_LEADS_2 : Tok}
    {t_MOST_RALLIES : Tok}
    {t_MOST_ROW : Tok}
    {a_SERVES : Addr} {dd_SERVES : Option Addr} {n_SERVES : Nat} {sl_SERVES : Array (Option Value)} {t_SERVES_0 t_SERVES_1 t_SERVES_2 t_SERVES_3 : Tok}
    {a_START : Addr} {dd_START : Option Addr} {n_START : Nat} {sl_START : Array (Option Value)} {t_START_0 t_START_1 t_START_2 t_START_3 t_START_4 t_START_5 : Tok}
    {C_BadNumber : Addr}
    {C_BadRally : Addr}
    {C_BadRule : Addr}
    {C_NotFound : Addr}
    {C_BadBoards : Addr}
    {C_BadText : Addr}
    {C_MatchError : Addr}
    (a0 : PySem.W.nsIn K mainGlobals "is_int" = some (some (.ref f0)))
    (l0 : K.lookup f0 = some ⟨oc0, od0, .func (PySem.W.fnOf "is_int" "is_int" (defArgs s_is_int) (defBody s_is_int) (defScope s_is_int) .none kV0 dc0 pm0 an0 cd0 ct0), sl0⟩)
    (c0 : PySem.W.codeIn K cd0 "is_int" = true)
    (k0 : PySem.W.keepIn K (.ref f0) = true)
    (a1 : PySem.W.nsIn K mainGlobals "is_word" = some (some (.ref f1)))
    (l1 : K.lookup f1 = some ⟨oc1, od1, .func (PySem.W.fnOf "is_word" "is_word" (defArgs s_is_word) (defBody s_is_word) (defScope s_is_word) .none kV1 dc1 pm1 an1 cd1 ct1), sl1⟩)
    (c1 : PySem.W.codeIn K cd1 "is_word" = true)
    (k1 : PySem.W.keepIn K (.ref f1) = true)
    (a2 : PySem.W.nsIn K mainGlobals "is_rule" = some (some (.ref f2)))
    (l2 : K.lookup f2 = some ⟨oc2, od2, .func (PySem.W.fnOf "is_rule" "is_rule" (defArgs s_is_rule) (defBody s_is_rule) (defScope s_is_rule) .none kV2 dc2 pm2 an2 cd2 ct2), sl2⟩)
    (c2 : PySem.W.codeIn K cd2 "is_rule" = true)
    (k2 : PySem.W.keepIn K (.ref f2) = true)
    (a3 : PySem.W.nsIn K mainGlobals "check_rule" = some (some (.ref f3)))
    (l3 : K.lookup f3 = some ⟨oc3, od3, .func (PySem.W.fnOf "check_rule" "check_rule" (defArgs s_check_rule) (defBody s_check_rule) (defScope s_check_rule) .none kV3 dc3 pm3 an3 cd3 ct3), sl3⟩)
    (c3 : PySem.W.codeIn K cd3 "check_rule" = true)
    (k3 : PySem.W.keepIn K (.ref f3) = true)
    (a4 : PySem.W.nsIn K mainGlobals "check_number" = some (some (.ref f4)))
    (l4 : K.lookup f4 = some ⟨oc4, od4, .func (PySem.W.fnOf "check_number" "check_number" (defArgs s_check_number) (defBody s_check_number) (defScope s_check_number) .none kV4 dc4 pm4 an4 cd4 ct4), sl4⟩)
    (c4 : PySem.W.codeIn K cd4 "check_number" = true)
    (k4 : PySem.W.keepIn K (.ref f4) = true)
    (a5 : PySem.W.nsIn K mainGlobals "check_sight" = some (some (.ref f5)))
    (l5 : K.lookup f5 = some ⟨oc5, od5, .func (PySem.W.fnOf "check_sight" "check_sight" (defArgs s_check_sight) (defBody s_check_sight) (defScope s_check_sight) .none kV5 dc5 pm5 an5 cd5 ct5), sl5⟩)
    (c5 : PySem.W.codeIn K cd5 "check_sight" = true)
    (k5 : PySem.W.keepIn K (.ref f5) = true)
    (tI : PySem.W.findIn K (.ref C_Table) "__init__" = some (some (.ref f6)))
    (tF : PySem.W.isFn K (.ref f6) = true)
    (l6 : K.lookup f6 = some ⟨oc6, od6, .func (PySem.W.fnOf "__init__" "Table.__init__" (defArgs s_Table_init) (defBody s_Table_init) (defScope s_Table_init) .none kV6 dc6 pm6 an6 cd6 ct6), sl6⟩)
    (c6 : PySem.W.codeIn K cd6 "Table.__init__" = true)
    (k6 : PySem.W.keepIn K (.ref f6) = true)
    (a7 : PySem.W.findIn K (.ref C_Table) "__len__" = some (some (.ref f7)))
    (l7 : K.lookup f7 = some ⟨oc7, od7, .func (PySem.W.fnOf "__len__" "Table.__len__" (defArgs s_Table___len__) (defBody s_Table___len__) (defScope s_Table___len__) .none kV7 dc7 pm7 an7 cd7 ct7), sl7⟩)
    (c7 : PySem.W.codeIn K cd7 "Table.__len__" = true)
    (k7 : PySem.W.keepIn K (.ref f7) = true)
    (m7 : PySem.W.isFn K (.ref f7) = true)
    (a8 : PySem.W.nsIn K mainGlobals "board_of" = some (some (.ref f8)))
    (l8 : K.lookup f8 = some ⟨oc8, od8, .func (PySem.W.fnOf "board_of" "board_of" (defArgs s_board_of) (defBody s_board_of) (defScope s_board_of) .none kV8 dc8 pm8 an8 cd8 ct8), sl8⟩)
    (c8 : PySem.W.codeIn K cd8 "board_of" = true)
    (k8 : PySem.W.keepIn K (.ref f8) = true)
    (a9 : PySem.W.findIn K (.ref C_Table) "boards" = some (some (.ref f9)))
    (l9 : K.lookup f9 = some ⟨oc9, od9, .func (PySem.W.fnOf "boards" "Table.boards" (defArgs s_Table_boards) (defBody s_Table_boards) (defScope s_Table_boards) .none kV9 dc9 pm9 an9 cd9 ct9), sl9⟩)
    (c9 : PySem.W.codeIn K cd9 "Table.boards" = true)
    (k9 : PySem.W.keepIn K (.ref f9) = true)
    (m9 : PySem.W.isFn K (.ref f9) = true)
    (a10 : PySem.W.nsIn K mainGlobals "is_rally" = some (some (.ref f10)))
    (l10 : K.lookup f10 = some ⟨oc10, od10, .func (PySem.W.fnOf "is_rally" "is_rally" (defArgs s_is_rally) (defBody s_is_rally) (defScope s_is_rally) .none kV10 dc10 pm10 an10 cd10 ct10), sl10⟩)
    (c10 : PySem.W.codeIn K cd10 "is_rally" = true)
    (k10 : PySem.W.keepIn K (.ref f10) = true)
    (a11 : PySem.W.nsIn K mainGlobals "check_rally" = some (some (.ref f11)))
    (l11 : K.lookup f11 = some ⟨oc11, od11, .func (PySem.W.fnOf "check_rally" "check_rally" (defArgs s_check_rally) (defBody s_check_rally) (defScope s_check_rally) .none kV11 dc11 pm11 an11 cd11 ct11), sl11⟩)
    (c11 : PySem.W.codeIn K cd11 "check_rally" = true)
    (k11 : PySem.W.keepIn K (.ref f11) = true)
    (a12 : PySem.W.nsIn K mainGlobals "ended" = some (some (.ref f12)))
    (l12 : K.lookup f12 = some ⟨oc12, od12, .func (PySem.W.fnOf "ended" "ended" (defArgs s_ended) (defBody s_ended) (defScope s_ended) .none kV12 dc12 pm12 an12 cd12 ct12), sl12⟩)
    (c12 : PySem.W.codeIn K cd12 "ended" = true)
    (k12 : PySem.W.keepIn K (.ref f12) = true)
    (a13 : PySem.W.nsIn K mainGlobals "folded" = some (some (.ref f13)))
    (l13 : K.lookup f13 = some ⟨oc13, od13, .func (PySem.W.fnOf "folded" "folded" (defArgs s_folded) (defBody s_folded) (defScope s_folded) .none kV13 dc13 pm13 an13 cd13 ct13), sl13⟩)
    (c13 : PySem.W.codeIn K cd13 "folded" = true)
    (k13 : PySem.W.keepIn K (.ref f13) = true)
    (a14 : PySem.W.nsIn K mainGlobals "maker_of" = some (some (.ref f14)))
    (l14 : K.lookup f14 = some ⟨oc14, od14, .func (PySem.W.fnOf "maker_of" "maker_of" (defArgs s_maker_of) (defBody s_maker_of) (defScope s_maker_of) .none kV14 dc14 pm14 an14 cd14 ct14), sl14⟩)
    (c14 : PySem.W.codeIn K cd14 "maker_of" = true)
    (k14 : PySem.W.keepIn K (.ref f14) = true)
    (a15 : PySem.W.nsIn K mainGlobals "served" = some (some (.ref f15)))
    (l15 : K.lookup f15 = some ⟨oc15, od15, .func (PySem.W.fnOf "served" "served" (defArgs s_served) (defBody s_served) (defScope s_served) .none kV15 dc15 pm15 an15 cd15 ct15), sl15⟩)
    (c15 : PySem.W.codeIn K cd15 "served" = true)
    (k15 : PySem.W.keepIn K (.ref f15) = true)
    (a16 : PySem.W.nsIn K mainGlobals "wanted" = some (some (.ref f16)))
    (l16 : K.lookup f16 = some ⟨oc16, od16, .func (PySem.W.fnOf "wanted" "wanted" (defArgs s_wanted) (defBody s_wanted) (defScope s_wanted) .none kV16 dc16 pm16 an16 cd16 ct16), sl16⟩)
    (c16 : PySem.W.codeIn K cd16 "wanted" = true)
    (k16 : PySem.W.keepIn K (.ref f16) = true)
    (a17 : PySem.W.nsIn K mainGlobals "wins_game" = some (some (.ref f17)))
    (l17 : K.lookup f17 = some ⟨oc17, od17, .func (PySem.W.fnOf "wins_game" "wins_game" (defArgs s_wins_game) (defBody s_wins_game) (defScope s_wins_game) .none kV17 dc17 pm17 an17 cd17 ct17), sl17⟩)
    (c17 : PySem.W.codeIn K cd17 "wins_game" = true)
    (k17 : PySem.W.keepIn K (.ref f17) = true)
    (a18 : PySem.W.nsIn K mainGlobals "step" = some (some (.ref f18)))
    (l18 : K.lookup f18 = some ⟨oc18, od18, .func (PySem.W.fnOf "step" "step" (defArgs s_step) (defBody s_step) (defScope s_step) .none kV18 dc18 pm18 an18 cd18 ct18), sl18⟩)
    (c18 : PySem.W.codeIn K cd18 "step" = true)
    (k18 : PySem.W.keepIn K (.ref f18) = true)
    (a19 : PySem.W.findIn K (.ref C_Table) "play" = some (some (.ref f19)))
    (l19 : K.lookup f19 = some ⟨oc19, od19, .func (PySem.W.fnOf "play" "Table.play" (defArgs s_Table_play) (defBody s_Table_play) (defScope s_Table_play) .none kV19 dc19 pm19 an19 cd19 ct19), sl19⟩)
    (c19 : PySem.W.codeIn K cd19 "Table.play" = true)
    (k19 : PySem.W.keepIn K (.ref f19) = true)
    (m19 : PySem.W.isFn K (.ref f19) = true)
    (a20 : PySem.W.findIn K (.ref C_Table) "rallies" = some (some (.ref f20)))
    (l20 : K.lookup f20 = some ⟨oc20, od20, .func (PySem.W.fnOf "rallies" "Table.rallies" (defArgs s_Table_rallies) (defBody s_Table_rallies) (defScope s_Table_rallies) .none kV20 dc20 pm20 an20 cd20 ct20), sl20⟩)
    (c20 : PySem.W.codeIn K cd20 "Table.rallies" = true)
    (k20 : PySem.W.keepIn K (.ref f20) = true)
    (m20 : PySem.W.isFn K (.ref f20) = true)
    (a21 : PySem.W.findIn K (.ref C_Table) "state" = some (some (.ref f21)))
    (l21 : K.lookup f21 = some ⟨oc21, od21, .func (PySem.W.fnOf "state" "Table.state" (defArgs s_Table_state) (defBody s_Table_state) (defScope s_Table_state) .none kV21 dc21 pm21 an21 cd21 ct21), sl21⟩)
    (c21 : PySem.W.codeIn K cd21 "Table.state" = true)
    (k21 : PySem.W.keepIn K (.ref f21) = true)
    (m21 : PySem.W.isFn K (.ref f21) = true)
    (a22 : PySem.W.findIn K (.ref C_Table) "undo" = some (some (.ref f22)))
    (l22 : K.lookup f22 = some ⟨oc22, od22, .func (PySem.W.fnOf "undo" "Table.undo" (defArgs s_Table_undo) (defBody s_Table_undo) (defScope s_Table_undo) .none kV22 dc22 pm22 an22 cd22 ct22), sl22⟩)
    (c22 : PySem.W.codeIn K cd22 "Table.undo" = true)
    (k22 : PySem.W.keepIn K (.ref f22) = true)
    (m22 : PySem.W.isFn K (.ref f22) = true)
    (a23 : PySem.W.nsIn K mainGlobals "_law_board" = some (some (.ref f23)))
    (l23 : K.lookup f23 = some ⟨oc23, od23, .func (PySem.W.fnOf "_law_board" "_law_board" (defArgs s_law_board) (defBody s_law_board) (defScope s_law_board) .none kV23 dc23 pm23 an23 cd23 ct23), sl23⟩)
    (c23 : PySem.W.codeIn K cd23 "_law_board" = true)
    (k23 : PySem.W.keepIn K (.ref f23) = true)
    (a24 : PySem.W.nsIn K mainGlobals "_law_error" = some (some (.ref f24)))
    (l24 : K.lookup f24 = some ⟨oc24, od24, .func (PySem.W.fnOf "_law_error" "_law_error" (defArgs s_law_error) (defBody s_law_error) (defScope s_law_error) .none kV24 dc24 pm24 an24 cd24 ct24), sl24⟩)
    (c24 : PySem.W.codeIn K cd24 "_law_error" = true)
    (k24 : PySem.W.keepIn K (.ref f24) = true)
    (a25 : PySem.W.nsIn K mainGlobals "_law_call" = some (some (.ref f25)))
    (l25 : K.lookup f25 = some ⟨oc25, od25, .func (PySem.W.fnOf "_law_call" "_law_call" (defArgs s_law_call) (defBody s_law_call) (defScope s_law_call) .none kV25 dc25 pm25 an25 cd25 ct25), sl25⟩)
    (c25 : PySem.W.codeIn K cd25 "_law_call" = true)
    (k25 : PySem.W.keepIn K (.ref f25) = true)
    (a26 : PySem.W.nsIn K mainGlobals "_law_draw" = some (some (.ref f26)))
    (l26 : K.lookup f26 = some ⟨oc26, od26, .func (PySem.W.fnOf "_law_draw" "_law_draw" (defArgs s_law_draw) (defBody s_law_draw) (defScope s_law_draw) .none kV26 dc26 pm26 an26 cd26 ct26), sl26⟩)
    (c26 : PySem.W.codeIn K cd26 "_law_draw" = true)
    (k26 : PySem.W.keepIn K (.ref f26) = true)
    (a27 : PySem.W.nsIn K mainGlobals "_law_pick" = some (some (.ref f27)))
    (l27 : K.lookup f27 = some ⟨oc27, od27, .func (PySem.W.fnOf "_law_pick" "_law_pick" (defArgs s_law_pick) (defBody s_law_pick) (defScope s_law_pick) .none kV27 dc27 pm27 an27 cd27 ct27), sl27⟩)
    (c27 : PySem.W.codeIn K cd27 "_law_pick" = true)
    (k27 : PySem.W.keepIn K (.ref f27) = true)
    (a28 : PySem.W.nsIn K mainGlobals "_law_rule" = some (some (.ref f28)))
    (l28 : K.lookup f28 = some ⟨oc28, od28, .func (PySem.W.fnOf "_law_rule" "_law_rule" (defArgs s_law_rule) (defBody s_law_rule) (defScope s_law_rule) .none kV28 dc28 pm28 an28 cd28 ct28), sl28⟩)
    (c28 : PySem.W.codeIn K cd28 "_law_rule" = true)
    (k28 : PySem.W.keepIn K (.ref f28) = true)
    (a29 : PySem.W.nsIn K mainGlobals "_law_start" = some (some (.ref f29)))
    (l29 : K.lookup f29 = some ⟨oc29, od29, .func (PySem.W.fnOf "_law_start" "_law_start" (defArgs s_law_start) (defBody s_law_start) (defScope s_law_start) .none kV29 dc29 pm29 an29 cd29 ct29), sl29⟩)
    (c29 : PySem.W.codeIn K cd29 "_law_start" = true)
    (k29 : PySem.W.keepIn K (.ref f29) = true)
    (a30 : PySem.W.nsIn K mainGlobals "_law_folded" = some (some (.ref f30)))
    (l30 : K.lookup f30 = some ⟨oc30, od30, .func (PySem.W.fnOf "_law_folded" "_law_folded" (defArgs s_law_folded) (defBody s_law_folded) (defScope s_law_folded) .none kV30 dc30 pm30 an30 cd30 ct30), sl30⟩)
    (c30 : PySem.W.codeIn K cd30 "_law_folded" = true)
    (k30 : PySem.W.keepIn K (.ref f30) = true)
    (a31 : PySem.W.nsIn K mainGlobals "_law_wanted" = some (some (.ref f31)))
    (l31 : K.lookup f31 = some ⟨oc31, od31, .func (PySem.W.fnOf "_law_wanted" "_law_wanted" (defArgs s_law_wanted) (defBody s_law_wanted) (defScope s_law_wanted) .none kV31 dc31 pm31 an31 cd31 ct31), sl31⟩)
    (c31 : PySem.W.codeIn K cd31 "_law_wanted" = true)
    (k31 : PySem.W.keepIn K (.ref f31) = true)
    (a32 : PySem.W.nsIn K mainGlobals "_law_won" = some (some (.ref f32)))
    (l32 : K.lookup f32 = some ⟨oc32, od32, .func (PySem.W.fnOf "_law_won" "_law_won" (defArgs s_law_won) (defBody s_law_won) (defScope s_law_won) .none kV32 dc32 pm32 an32 cd32 ct32), sl32⟩)
    (c32 : PySem.W.codeIn K cd32 "_law_won" = true)
    (k32 : PySem.W.keepIn K (.ref f32) = true)
    (a33 : PySem.W.nsIn K mainGlobals "_law_along" = some (some (.ref f33)))
    (l33 : K.lookup f33 = some ⟨oc33, od33, .func (PySem.W.fnOf "_law_along" "_law_along" (defArgs s_law_along) (defBody s_law_along) (defScope s_law_along) .none kV33 dc33 pm33 an33 cd33 ct33), sl33⟩)
    (c33 : PySem.W.codeIn K cd33 "_law_along" = true)
    (k33 : PySem.W.keepIn K (.ref f33) = true)
    (a34 : PySem.W.nsIn K mainGlobals "_law_states" = some (some (.ref f34)))
    (l34 : K.lookup f34 = some ⟨oc34, od34, .func (PySem.W.fnOf "_law_states" "_law_states" (defArgs s_law_states) (defBody s_law_states) (defScope s_law_states) .none kV34 dc34 pm34 an34 cd34 ct34), sl34⟩)
    (c34 : PySem.W.codeIn K cd34 "_law_states" = true)
    (k34 : PySem.W.keepIn K (.ref f34) = true)
    (a35 : PySem.W.nsIn K mainGlobals "_law_step" = some (some (.ref f35)))
    (l35 : K.lookup f35 = some ⟨oc35, od35, .func (PySem.W.fnOf "_law_step" "_law_step" (defArgs s_law_step) (defBody s_law_step) (defScope s_law_step) .none kV35 dc35 pm35 an35 cd35 ct35), sl35⟩)
    (c35 : PySem.W.codeIn K cd35 "_law_step" = true)
    (k35 : PySem.W.keepIn K (.ref f35) = true)
    (a36 : PySem.W.nsIn K mainGlobals "is_row" = some (some (.ref f36)))
    (l36 : K.lookup f36 = some ⟨oc36, od36, .func (PySem.W.fnOf "is_row" "is_row" (defArgs s_is_row) (defBody s_is_row) (defScope s_is_row) .none kV36 dc36 pm36 an36 cd36 ct36), sl36⟩)
    (c36 : PySem.W.codeIn K cd36 "is_row" = true)
    (k36 : PySem.W.keepIn K (.ref f36) = true)
    (a37 : PySem.W.nsIn K mainGlobals "check_row" = some (some (.ref f37)))
    (l37 : K.lookup f37 = some ⟨oc37, od37, .func (PySem.W.fnOf "check_row" "check_row" (defArgs s_check_row) (defBody s_check_row) (defScope s_check_row) .none kV37 dc37 pm37 an37 cd37 ct37), sl37⟩)
    (c37 : PySem.W.codeIn K cd37 "check_row" = true)
    (k37 : PySem.W.keepIn K (.ref f37) = true)
    (a38 : PySem.W.nsIn K mainGlobals "states_of" = some (some (.ref f38)))
    (l38 : K.lookup f38 = some ⟨oc38, od38, .func (PySem.W.fnOf "states_of" "states_of" (defArgs s_states_of) (defBody s_states_of) (defScope s_states_of) .none kV38 dc38 pm38 an38 cd38 ct38), sl38⟩)
    (c38 : PySem.W.codeIn K cd38 "states_of" = true)
    (k38 : PySem.W.keepIn K (.ref f38) = true)
    (a39 : PySem.W.nsIn K mainGlobals "shown" = some (some (.ref f39)))
    (l39 : K.lookup f39 = some ⟨oc39, od39, .func (PySem.W.fnOf "shown" "shown" (defArgs s_shown) (defBody s_shown) (defScope s_shown) .none kV39 dc39 pm39 an39 cd39 ct39), sl39⟩)
    (c39 : PySem.W.codeIn K cd39 "shown" = true)
    (k39 : PySem.W.keepIn K (.ref f39) = true)
    (a40 : PySem.W.nsIn K mainGlobals "boards_of" = some (some (.ref f40)))
    (l40 : K.lookup f40 = some ⟨oc40, od40, .func (PySem.W.fnOf "boards_of" "boards_of" (defArgs s_boards_of) (defBody s_boards_of) (defScope s_boards_of) .none kV40 dc40 pm40 an40 cd40 ct40), sl40⟩)
    (c40 : PySem.W.codeIn K cd40 "boards_of" = true)
    (k40 : PySem.W.keepIn K (.ref f40) = true)
    (a41 : PySem.W.nsIn K mainGlobals "law" = some (some (.ref f41)))
    (l41 : K.lookup f41 = some ⟨oc41, od41, .func (PySem.W.fnOf "law" "law" (defArgs s_law) (defBody s_law) (defScope s_law) .none kV41 dc41 pm41 an41 cd41 ct41), sl41⟩)
    (c41 : PySem.W.codeIn K cd41 "law" = true)
    (k41 : PySem.W.keepIn K (.ref f41) = true)
    (z_ValueError : PySem.W.nsIn K mainGlobals "ValueError" = some none)
    (z_all : PySem.W.nsIn K mainGlobals "all" = some none)
    (z_bool : PySem.W.nsIn K mainGlobals "bool" = some none)
    (z_int : PySem.W.nsIn K mainGlobals "int" = some none)
    (z_isinstance : PySem.W.nsIn K mainGlobals "isinstance" = some none)
    (z_len : PySem.W.nsIn K mainGlobals "len" = some none)
    (z_list : PySem.W.nsIn K mainGlobals "list" = some none)
    (z_min : PySem.W.nsIn K mainGlobals "min" = some none)
    (z_range : PySem.W.nsIn K mainGlobals "range" = some none)
    (z_str : PySem.W.nsIn K mainGlobals "str" = some none)
    (z_sum : PySem.W.nsIn K mainGlobals "sum" = some none)
    (z_tuple : PySem.W.nsIn K mainGlobals "tuple" = some none)
    (g_DECIDERS : PySem.W.nsIn K mainGlobals "DECIDERS" = some (some (.ref a_DECIDERS)))
    (gl_DECIDERS : K.lookup a_DECIDERS = some ⟨.type "tuple", dd_DECIDERS, .seq #[.str "same" t_DECIDERS_0, .str "longer" t_DECIDERS_1] n_DECIDERS, sl_DECIDERS⟩)
    (g_LEADS : PySem.W.nsIn K mainGlobals "LEADS" = some (some (.ref a_LEADS)))
    (gl_LEADS : K.lookup a_LEADS = some ⟨.type "tuple", dd_LEADS, .seq #[.str "one" t_LEADS_0, .str "two" t_LEADS_1, .str "cap" t_LEADS_2] n_LEADS, sl_LEADS⟩)
    (g_MOST_RALLIES : PySem.W.nsIn K mainGlobals "MOST_RALLIES" = some (some (.int 200 t_MOST_RALLIES)))
    (g_MOST_ROW : PySem.W.nsIn K mainGlobals "MOST_ROW" = some (some (.int 60 t_MOST_ROW)))
    (g_SERVES : PySem.W.nsIn K mainGlobals "SERVES" = some (some (.ref a_SERVES)))
    (gl_SERVES : K.lookup a_SERVES = some ⟨.type "tuple", dd_SERVES, .seq #[.str "games" t_SERVES_0, .str "twos" t_SERVES_1, .str "winner" t_SERVES_2, .str "only" t_SERVES_3] n_SERVES, sl_SERVES⟩)
    (g_START : PySem.W.nsIn K mainGlobals "START" = some (some (.ref a_START)))
    (gl_START : K.lookup a_START = some ⟨.type "tuple", dd_START, .seq #[.int 0 t_START_0, .int 0 t_START_1, .int 0 t_START_2, .int 0 t_START_3, .int 0 t_START_4, .int 0 t_START_5] n_START, sl_START⟩)
    (ec_BadNumber : PySem.W.nsIn K mainGlobals "BadNumber" = some (some (.ref C_BadNumber)))
    (ex_BadNumber : PySem.W.excIn K C_BadNumber [.type "ValueError", .type "Exception", .type "BaseException", .type "object"] "ValueError.__new__" = true)
    (ek_BadNumber : PySem.W.keepIn K (.ref C_BadNumber) = true)
    (eb_BadNumber : PySem.W.subIn K (.ref C_BadNumber) (.type "BaseException") = some true)
    (et_BadNumber : PySem.W.typeIn K (.ref C_BadNumber) = some (.type "type"))
    (ec_BadRally : PySem.W.nsIn K mainGlobals "BadRally" = some (some (.ref C_BadRally)))
    (ex_BadRally : PySem.W.excIn K C_BadRally [.type "ValueError", .type "Exception", .type "BaseException", .type "object"] "ValueError.__new__" = true)
    (ek_BadRally : PySem.W.keepIn K (.ref C_BadRally) = true)
    (eb_BadRally : PySem.W.subIn K (.ref C_BadRally) (.type "BaseException") = some true)
    (et_BadRally : PySem.W.typeIn K (.ref C_BadRally) = some (.type "type"))
    (ec_BadRule : PySem.W.nsIn K mainGlobals "BadRule" = some (some (.ref C_BadRule)))
    (ex_BadRule : PySem.W.excIn K C_BadRule [.type "ValueError", .type "Exception", .type "BaseException", .type "object"] "ValueError.__new__" = true)
    (ek_BadRule : PySem.W.keepIn K (.ref C_BadRule) = true)
    (eb_BadRule : PySem.W.subIn K (.ref C_BadRule) (.type "BaseException") = some true)
    (et_BadRule : PySem.W.typeIn K (.ref C_BadRule) = some (.type "type"))
    (ec_NotFound : PySem.W.nsIn K mainGlobals "NotFound" = some (some (.ref C_NotFound)))
    (ex_NotFound : PySem.W.excIn K C_NotFound [.type "ValueError", .type "Exception", .type "BaseException", .type "object"] "ValueError.__new__" = true)
    (ek_NotFound : PySem.W.keepIn K (.ref C_NotFound) = true)
    (eb_NotFound : PySem.W.subIn K (.ref C_NotFound) (.type "BaseException") = some true)
    (et_NotFound : PySem.W.typeIn K (.ref C_NotFound) = some (.type "type"))
    (ec_BadBoards : PySem.W.nsIn K mainGlobals "BadBoards" = some (some (.ref C_BadBoards)))
    (ec_BadText : PySem.W.nsIn K mainGlobals "BadText" = some (some (.ref C_BadText)))
    (ec_MatchError : PySem.W.nsIn K mainGlobals "MatchError" = some (some (.ref C_MatchError)))
    (mS : PySem.W.subIn K (.ref C_MatchError) (.type "BaseException") = some true)
    (mD : PySem.W.hasDictIn K C_MatchError = true)
    (mT : PySem.W.typeIn K (.ref C_MatchError) = some (.type "type"))
    (em_BadRule : PySem.W.subIn K (.ref C_BadRule) (.ref C_MatchError) = some true)
    (xhg_BadRule : PySem.W.findIn K (.ref C_BadRule) "__getattribute__" = some (some (.builtin "BaseException.__getattribute__")))
    (xhk_BadRule : PySem.W.findIn K (.ref C_BadRule) "__getattr__" = some none)
    (xhs_BadRule : PySem.W.subIn K (.ref C_BadRule) (.type "BaseException") = some true)
    (xhd_BadRule : PySem.W.hasDictIn K C_BadRule = true)
    (xha_BadRule : PySem.W.findIn K (.ref C_BadRule) "__class__" = some (some (.builtin "object.__class__")))
    (xhm_BadRule : PySem.W.mroIn K C_BadRule (.type "object") = some true)
    (kb_BadRule : PySem.W.kitOne K (.ref C_BadRule) (.ref C_MatchError) = some true)
    (kv_BadRule : PySem.W.kitOne K (.ref C_BadRule) (.type "ValueError") = some true)
    (kk_BadRule_BadRule : PySem.W.kitOne K (.ref C_BadRule) (.ref C_BadRule) = some true)
    (kk_BadRally_BadRule : PySem.W.kitOne K (.ref C_BadRule) (.ref C_BadRally) = some false)
    (kk_BadBoards_BadRule : PySem.W.kitOne K (.ref C_BadRule) (.ref C_BadBoards) = some false)
    (kk_BadNumber_BadRule : PySem.W.kitOne K (.ref C_BadRule) (.ref C_BadNumber) = some false)
    (kk_BadText_BadRule : PySem.W.kitOne K (.ref C_BadRule) (.ref C_BadText) = some false)
    (kk_NotFound_BadRule : PySem.W.kitOne K (.ref C_BadRule) (.ref C_NotFound) = some false)
    (em_BadRally : PySem.W.subIn K (.ref C_BadRally) (.ref C_MatchError) = some true)
    (xhg_BadRally : PySem.W.findIn K (.ref C_BadRally) "__getattribute__" = some (some (.builtin "BaseException.__getattribute__")))
    (xhk_BadRally : PySem.W.findIn K (.ref C_BadRally) "__getattr__" = some none)
    (xhs_BadRally : PySem.W.subIn K (.ref C_BadRally) (.type "BaseException") = some true)
    (xhd_BadRally : PySem.W.hasDictIn K C_BadRally = true)
    (xha_BadRally : PySem.W.findIn K (.ref C_BadRally) "__class__" = some (some (.builtin "object.__class__")))
    (xhm_BadRally : PySem.W.mroIn K C_BadRally (.type "object") = some true)
    (kb_BadRally : PySem.W.kitOne K (.ref C_BadRally) (.ref C_MatchError) = some true)
    (kv_BadRally : PySem.W.kitOne K (.ref C_BadRally) (.type "ValueError") = some true)
    (kk_BadRule_BadRally : PySem.W.kitOne K (.ref C_BadRally) (.ref C_BadRule) = some false)
    (kk_BadRally_BadRally : PySem.W.kitOne K (.ref C_BadRally) (.ref C_BadRally) = some true)
    (kk_BadBoards_BadRally : PySem.W.kitOne K (.ref C_BadRally) (.ref C_BadBoards) = some false)
    (kk_BadNumber_BadRally : PySem.W.kitOne K (.ref C_BadRally) (.ref C_BadNumber) = some false)
    (kk_BadText_BadRally : PySem.W.kitOne K (.ref C_BadRally) (.ref C_BadText) = some false)
    (kk_NotFound_BadRally : PySem.W.kitOne K (.ref C_BadRally) (.ref C_NotFound) = some false)
    (em_BadBoards : PySem.W.subIn K (.ref C_BadBoards) (.ref C_MatchError) = some true)
    (xhg_BadBoards : PySem.W.findIn K (.ref C_BadBoards) "__getattribute__" = some (some (.builtin "BaseException.__getattribute__")))
    (xhk_BadBoards : PySem.W.findIn K (.ref C_BadBoards) "__getattr__" = some none)
    (xhs_BadBoards : PySem.W.subIn K (.ref C_BadBoards) (.type "BaseException") = some true)
    (xhd_BadBoards : PySem.W.hasDictIn K C_BadBoards = true)
    (xha_BadBoards : PySem.W.findIn K (.ref C_BadBoards) "__class__" = some (some (.builtin "object.__class__")))
    (xhm_BadBoards : PySem.W.mroIn K C_BadBoards (.type "object") = some true)
    (kb_BadBoards : PySem.W.kitOne K (.ref C_BadBoards) (.ref C_MatchError) = some true)
    (kv_BadBoards : PySem.W.kitOne K (.ref C_BadBoards) (.type "ValueError") = some true)
    (kk_BadRule_BadBoards : PySem.W.kitOne K (.ref C_BadBoards) (.ref C_BadRule) = some false)
    (kk_BadRally_BadBoards : PySem.W.kitOne K (.ref C_BadBoards) (.ref C_BadRally) = some false)
    (kk_BadBoards_BadBoards : PySem.W.kitOne K (.ref C_BadBoards) (.ref C_BadBoards) = some true)
    (kk_BadNumber_BadBoards : PySem.W.kitOne K (.ref C_BadBoards) (.ref C_BadNumber) = some false)
    (kk_BadText_BadBoards : PySem.W.kitOne K (.ref C_BadBoards) (.ref C_BadText) = some false)
    (kk_NotFound_BadBoards : PySem.W.kitOne K (.ref C_BadBoards) (.ref C_NotFound) = some false)
    (em_BadNumber : PySem.W.subIn K (.ref C_BadNumber) (.ref C_MatchError) = some true)
    (xhg_BadNumber : PySem.W.findIn K (.ref C_BadNumber) "__getattribute__" = some (some (.builtin "BaseException.__getattribute__")))
    (xhk_BadNumber : PySem.W.findIn K (.ref C_BadNumber) "__getattr__" = some none)
    (xhs_BadNumber : PySem.W.subIn K (.ref C_BadNumber) (.type "BaseException") = some true)
    (xhd_BadNumber : PySem.W.hasDictIn K C_BadNumber = true)
    (xha_BadNumber : PySem.W.findIn K (.ref C_BadNumber) "__class__" = some (some (.builtin "object.__class__")))
    (xhm_BadNumber : PySem.W.mroIn K C_BadNumber (.type "object") = some true)
    (kb_BadNumber : PySem.W.kitOne K (.ref C_BadNumber) (.ref C_MatchError) = some true)
    (kv_BadNumber : PySem.W.kitOne K (.ref C_BadNumber) (.type "ValueError") = some true)
    (kk_BadRule_BadNumber : PySem.W.kitOne K (.ref C_BadNumber) (.ref C_BadRule) = some false)
    (kk_BadRally_BadNumber : PySem.W.kitOne K (.ref C_BadNumber) (.ref C_BadRally) = some false)
    (kk_BadBoards_BadNumber : PySem.W.kitOne K (.ref C_BadNumber) (.ref C_BadBoards) = some false)
    (kk_BadNumber_BadNumber : PySem.W.kitOne K (.ref C_BadNumber) (.ref C_BadNumber) = some true)
    (kk_BadText_BadNumber : PySem.W.kitOne K (.ref C_BadNumber) (.ref C_BadText) = some false)
    (kk_NotFound_BadNumber : PySem.W.kitOne K (.ref C_BadNumber) (.ref C_NotFound) = some false)
    (em_BadText : PySem.W.subIn K (.ref C_BadText) (.ref C_MatchError) = some true)
    (xhg_BadText : PySem.W.findIn K (.ref C_BadText) "__getattribute__" = some (some (.builtin "BaseException.__getattribute__")))
    (xhk_BadText : PySem.W.findIn K (.ref C_BadText) "__getattr__" = some none)
    (xhs_BadText : PySem.W.subIn K (.ref C_BadText) (.type "BaseException") = some true)
    (xhd_BadText : PySem.W.hasDictIn K C_BadText = true)
    (xha_BadText : PySem.W.findIn K (.ref C_BadText) "__class__" = some (some (.builtin "object.__class__")))
    (xhm_BadText : PySem.W.mroIn K C_BadText (.type "object") = some true)
    (kb_BadText : PySem.W.kitOne K (.ref C_BadText) (.ref C_MatchError) = some true)
    (kv_BadText : PySem.W.kitOne K (.ref C_BadText) (.type "ValueError") = some true)
    (kk_BadRule_BadText : PySem.W.kitOne K (.ref C_BadText) (.ref C_BadRule) = some false)
    (kk_BadRally_BadText : PySem.W.kitOne K (.ref C_BadText) (.ref C_BadRally) = some false)
    (kk_BadBoards_BadText : PySem.W.kitOne K (.ref C_BadText) (.ref C_BadBoards) = some false)
    (kk_BadNumber_BadText : PySem.W.kitOne K (.ref C_BadText) (.ref C_BadNumber) = some false)
    (kk_BadText_BadText : PySem.W.kitOne K (.ref C_BadText) (.ref C_BadText) = some true)
    (kk_NotFound_BadText : PySem.W.kitOne K (.ref C_BadText) (.ref C_NotFound) = some false)
    (em_NotFound : PySem.W.subIn K (.ref C_NotFound) (.ref C_MatchError) = some true)
    (xhg_NotFound : PySem.W.findIn K (.ref C_NotFound) "__getattribute__" = some (some (.builtin "BaseException.__getattribute__")))
    (xhk_NotFound : PySem.W.findIn K (.ref C_NotFound) "__getattr__" = some none)
    (xhs_NotFound : PySem.W.subIn K (.ref C_NotFound) (.type "BaseException") = some true)
    (xhd_NotFound : PySem.W.hasDictIn K C_NotFound = true)
    (xha_NotFound : PySem.W.findIn K (.ref C_NotFound) "__class__" = some (some (.builtin "object.__class__")))
    (xhm_NotFound : PySem.W.mroIn K C_NotFound (.type "object") = some true)
    (kb_NotFound : PySem.W.kitOne K (.ref C_NotFound) (.ref C_MatchError) = some true)
    (kv_NotFound : PySem.W.kitOne K (.ref C_NotFound) (.type "ValueError") = some true)
    (kk_BadRule_NotFound : PySem.W.kitOne K (.ref C_NotFound) (.ref C_BadRule) = some false)
    (kk_BadRally_NotFound : PySem.W.kitOne K (.ref C_NotFound) (.ref C_BadRally) = some false)
    (kk_BadBoards_NotFound : PySem.W.kitOne K (.ref C_NotFound) (.ref C_BadBoards) = some false)
    (kk_BadNumber_NotFound : PySem.W.kitOne K (.ref C_NotFound) (.ref C_BadNumber) = some false)
    (kk_BadText_NotFound : PySem.W.kitOne K (.ref C_NotFound) (.ref C_BadText) = some false)
    (kk_NotFound_NotFound : PySem.W.kitOne K (.ref C_NotFound) (.ref C_NotFound) = some true)
    (xn : PySem.W.specialIn K (.builtin "object.__class__") "__get__" = some (some (.builtin "getset_descriptor.__get__")))
    (xt : PySem.W.takesIn K (.builtin "object.__class__") = some true)
    (tC : PySem.W.nsIn K mainGlobals "Table" = some (some (.ref C_Table)))
    (tpg : PySem.W.plainGet K C_Table Str.empty = true)
    (thd : PySem.W.hasDictIn K C_Table = true)
    (tpo : PySem.W.plainOver K C_Table = true)
    (tsa : PySem.W.findIn K (.ref C_Table) "__setattr__" = some (some (.builtin "object.__setattr__")))
    (tmk : PySem.W.makesIn K C_Table = true)
    (tkc : PySem.W.keepIn K (.ref C_Table) = true)
    (tn_rule : PySem.W.findIn K (.ref C_Table) "rule" = some none)
    (tn_sight : PySem.W.findIn K (.ref C_Table) "sight" = some none)
    (tn_line : PySem.W.findIn K (.ref C_Table) "line" = some none)
    (tn_states : PySem.W.findIn K (.ref C_Table) "states" = some none) :
    ∃ fd : FuncData, (∀ (s : Shared) (v : Value), BindsTo s fd ⟨[v], []⟩ [("script", v)]) ∧ ∀ base : Heap, K.In base → base.Ns mainGlobals mg → FnOk l.prog w K mg base (L2.CX l.prog w) 7 fa fd ["script"] (spLaw K) := by
  have e := hfa.symm.trans (PySem.W.mg_of X G a41)
  cases e
  have T : Tx K mg (⟨fun c => match c with | 0 => C_BadRule | 1 => C_BadRally | 2 => C_BadBoards | 3 => C_BadNumber | 4 => C_BadText | 5 => C_NotFound | 6 => C_MatchError  | 80 => C_Table | _ => 0, fun _ _ _ _ _ => False, fun _ _ _ _ _ => False⟩) := ⟨defAt_mk (PySem.W.mg_of X G a0) l0 c0 k0 (fun _ _ _ _ _ _ us hl => match us, hl with | [_, _, _], _ => rfl),
    defAt_mk (PySem.W.mg_of X G a1) l1 c1 k1 (fun _ _ _ _ _ _ us hl => match us, hl with | [_, _], _ => rfl),
    defAt_mk (PySem.W.mg_of X G a2) l2 c2 k2 (fun _ _ _ _ _ _ us hl => match us, hl with | [_], _ => rfl),
    defAt_mk (PySem.W.mg_of X G a3) l3 c3 k3 (fun _ _ _ _ _ _ us hl => match us, hl with | [_], _ => rfl),
    defAt_mk (PySem.W.mg_of X G a4) l4 c4 k4 (fun _ _ _ _ _ _ us hl => match us, hl with | [_, _, _], _ => rfl),
    defAt_mk (PySem.W.mg_of X G a5) l5 c5 k5 (fun _ _ _ _ _ _ us hl => match us, hl with | [_], _ => rfl),
    ⟨⟨f6, _, fun_mk (st := s_Table_init) l6 c6 k6, (fun_mk (st := s_Table_init) l6 c6 k6).binds (ps := ["self", "rule", "sight"]) (fun _ _ _ _ _ _ us hl => match us, hl with | [_, _, _], _ => rfl), ⟨tmk, tI, tF, tkc⟩⟩, PySem.W.mg_of X G tC, ⟨tpg, thd, tpo, tsa⟩, fun s hs => by simp only [List.mem_cons, List.not_mem_nil, or_false] at hs; rcases hs with rfl | rfl | rfl | rfl; exact tn_rule; exact tn_sight; exact tn_line; exact tn_states⟩,
    ⟨f7, _, fun_mk (st := s_Table___len__) l7 c7 k7, ⟨a7, m7, k7⟩, (fun_mk (st := s_Table___len__) l7 c7 k7).binds (ps := ["self"]) (fun _ _ _ _ _ _ us hl => match us, hl with | [_], _ => rfl)⟩,
    defAt_mk (PySem.W.mg_of X G a8) l8 c8 k8 (fun _ _ _ _ _ _ us hl => match us, hl with | [_, _], _ => rfl),
    ⟨f9, _, fun_mk (st := s_Table_boards) l9 c9 k9, ⟨a9, m9, k9⟩, (fun_mk (st := s_Table_boards) l9 c9 k9).binds (ps := ["self"]) (fun _ _ _ _ _ _ us hl => match us, hl with | [_], _ => rfl)⟩,
    defAt_mk (PySem.W.mg_of X G a10) l10 c10 k10 (fun _ _ _ _ _ _ us hl => match us, hl with | [_], _ => rfl),
    defAt_mk (PySem.W.mg_of X G a11) l11 c11 k11 (fun _ _ _ _ _ _ us hl => match us, hl with | [_], _ => rfl),
    defAt_mk (PySem.W.mg_of X G a12) l12 c12 k12 (fun _ _ _ _ _ _ us hl => match us, hl with | [_, _], _ => rfl),
    defAt_mk (PySem.W.mg_of X G a13) l13 c13 k13 (fun _ _ _ _ _ _ us hl => match us, hl with | [_, _, _], _ => rfl),
    defAt_mk (PySem.W.mg_of X G a14) l14 c14 k14 (fun _ _ _ _ _ _ us hl => match us, hl with | [_, _, _], _ => rfl),
    defAt_mk (PySem.W.mg_of X G a15) l15 c15 k15 (fun _ _ _ _ _ _ us hl => match us, hl with | [_, _, _, _, _], _ => rfl),
    defAt_mk (PySem.W.mg_of X G a16) l16 c16 k16 (fun _ _ _ _ _ _ us hl => match us, hl with | [_, _], _ => rfl),
    defAt_mk (PySem.W.mg_of X G a17) l17 c17 k17 (fun _ _ _ _ _ _ us hl => match us, hl with | [_, _, _, _], _ => rfl),
    defAt_mk (PySem.W.mg_of X G a18) l18 c18 k18 (fun _ _ _ _ _ _ us hl => match us, hl with | [_, _, _], _ => rfl),
    ⟨f19, _, fun_mk (st := s_Table_play) l19 c19 k19, ⟨a19, m19, k19⟩, (fun_mk (st := s_Table_play) l19 c19 k19).binds (ps := ["self", "rally"]) (fun _ _ _ _ _ _ us hl => match us, hl with | [_, _], _ => rfl)⟩,
    ⟨f20, _, fun_mk (st := s_Table_rallies) l20 c20 k20, ⟨a20, m20, k20⟩, (fun_mk (st := s_Table_rallies) l20 c20 k20).binds (ps := ["self"]) (fun _ _ _ _ _ _ us hl => match us, hl with | [_], _ => rfl)⟩,
    ⟨f21, _, fun_mk (st := s_Table_state) l21 c21 k21, ⟨a21, m21, k21⟩, (fun_mk (st := s_Table_state) l21 c21 k21).binds (ps := ["self"]) (fun _ _ _ _ _ _ us hl => match us, hl with | [_], _ => rfl)⟩,
    ⟨f22, _, fun_mk (st := s_Table_undo) l22 c22 k22, ⟨a22, m22, k22⟩, (fun_mk (st := s_Table_undo) l22 c22 k22).binds (ps := ["self"]) (fun _ _ _ _ _ _ us hl => match us, hl with | [_], _ => rfl)⟩,
    defAt_mk (PySem.W.mg_of X G a23) l23 c23 k23 (fun _ _ _ _ _ _ us hl => match us, hl with | [_, _], _ => rfl),
    defAt_mk (PySem.W.mg_of X G a24) l24 c24 k24 (fun _ _ _ _ _ _ us hl => match us, hl with | [_], _ => rfl),
    defAt_mk (PySem.W.mg_of X G a25) l25 c25 k25 (fun _ _ _ _ _ _ us hl => match us, hl with | [_, _, _], _ => rfl),
    defAt_mk (PySem.W.mg_of X G a26) l26 c26 k26 (fun _ _ _ _ _ _ us hl => match us, hl with | [_, _], _ => rfl),
    defAt_mk (PySem.W.mg_of X G a27) l27 c27 k27 (fun _ _ _ _ _ _ us hl => match us, hl with | [_, _], _ => rfl),
    defAt_mk (PySem.W.mg_of X G a28) l28 c28 k28 (fun _ _ _ _ _ _ us hl => match us, hl with | [_], _ => rfl),
    defAt_mk (PySem.W.mg_of X G a29) l29 c29 k29 (fun _ _ _ _ _ _ us hl => match us, hl with | [_], _ => rfl),
    defAt_mk (PySem.W.mg_of X G a30) l30 c30 k30 (fun _ _ _ _ _ _ us hl => match us, hl with | [_, _, _], _ => rfl),
    defAt_mk (PySem.W.mg_of X G a31) l31 c31 k31 (fun _ _ _ _ _ _ us hl => match us, hl with | [_, _], _ => rfl),
    defAt_mk (PySem.W.mg_of X G a32) l32 c32 k32 (fun _ _ _ _ _ _ us hl => match us, hl with | [_, _, _, _], _ => rfl),
    defAt_mk (PySem.W.mg_of X G a33) l33 c33 k33 (fun _ _ _ _ _ _ us hl => match us, hl with | [_, _], _ => rfl),
    defAt_mk (PySem.W.mg_of X G a34) l34 c34 k34 (fun _ _ _ _ _ _ us hl => match us, hl with | [_, _], _ => rfl),
    defAt_mk (PySem.W.mg_of X G a35) l35 c35 k35 (fun _ _ _ _ _ _ us hl => match us, hl with | [_, _, _], _ => rfl),
    defAt_mk (PySem.W.mg_of X G a36) l36 c36 k36 (fun _ _ _ _ _ _ us hl => match us, hl with | [_], _ => rfl),
    defAt_mk (PySem.W.mg_of X G a37) l37 c37 k37 (fun _ _ _ _ _ _ us hl => match us, hl with | [_], _ => rfl),
    defAt_mk (PySem.W.mg_of X G a38) l38 c38 k38 (fun _ _ _ _ _ _ us hl => match us, hl with | [_, _], _ => rfl),
    defAt_mk (PySem.W.mg_of X G a39) l39 c39 k39 (fun _ _ _ _ _ _ us hl => match us, hl with | [_, _, _], _ => rfl),
    defAt_mk (PySem.W.mg_of X G a40) l40 c40 k40 (fun _ _ _ _ _ _ us hl => match us, hl with | [_, _, _], _ => rfl),
    defAt_mk (PySem.W.mg_of X G a41) l41 c41 k41 (fun _ _ _ _ _ _ us hl => match us, hl with | [_], _ => rfl),
    PySem.W.mg_none_of X G z_ValueError,
    PySem.W.mg_none_of X G z_all,
    PySem.W.mg_none_of X G z_bool,
    PySem.W.mg_none_of X G z_int,
    PySem.W.mg_none_of X G z_isinstance,
    PySem.W.mg_none_of X G z_len,
    PySem.W.mg_none_of X G z_list,
    PySem.W.mg_none_of X G z_min,
    PySem.W.mg_none_of X G z_range,
    PySem.W.mg_none_of X G z_str,
    PySem.W.mg_none_of X G z_sum,
    PySem.W.mg_none_of X G z_tuple,
    globAt_tup (us := [.str "same" t_DECIDERS_0, .str "longer" t_DECIDERS_1]) (PySem.W.mg_of X G g_DECIDERS) gl_DECIDERS (by show 2 ≤ 1000; decide) rfl,
    globAt_tup (us := [.str "one" t_LEADS_0, .str "two" t_LEADS_1, .str "cap" t_LEADS_2]) (PySem.W.mg_of X G g_LEADS) gl_LEADS (by show 3 ≤ 1000; decide) rfl,
    globAt_int (PySem.W.mg_of X G g_MOST_RALLIES),
    globAt_int (PySem.W.mg_of X G g_MOST_ROW),
    globAt_tup (us := [.str "games" t_SERVES_0, .str "twos" t_SERVES_1, .str "winner" t_SERVES_2, .str "only" t_SERVES_3]) (PySem.W.mg_of X G g_SERVES) gl_SERVES (by show 4 ≤ 1000; decide) rfl,
    globAt_tup (us := [.int 0 t_START_0, .int 0 t_START_1, .int 0 t_START_2, .int 0 t_START_3, .int 0 t_START_4, .int 0 t_START_5]) (PySem.W.mg_of X G g_START) gl_START (by show 6 ≤ 1000; decide) rfl,
    ⟨ex_BadNumber, PySem.W.mg_of X G ec_BadNumber, ek_BadNumber, eb_BadNumber, et_BadNumber⟩,
    ⟨ex_BadRally, PySem.W.mg_of X G ec_BadRally, ek_BadRally, eb_BadRally, et_BadRally⟩,
    ⟨ex_BadRule, PySem.W.mg_of X G ec_BadRule, ek_BadRule, eb_BadRule, et_BadRule⟩,
    ⟨ex_NotFound, PySem.W.mg_of X G ec_NotFound, ek_NotFound, eb_NotFound, et_NotFound⟩,
    ⟨(all6 (PySem.W.exm_ref mS mD mT em_BadRule) (PySem.W.exm_ref mS mD mT em_BadRally) (PySem.W.exm_ref mS mD mT em_BadBoards) (PySem.W.exm_ref mS mD mT em_BadNumber) (PySem.W.exm_ref mS mD mT em_BadText) (PySem.W.exm_ref mS mD mT em_NotFound)), (all6 ⟨xhg_BadRule, xhk_BadRule, xhs_BadRule, xhd_BadRule, xha_BadRule, xn, xt, xhm_BadRule⟩ ⟨xhg_BadRally, xhk_BadRally, xhs_BadRally, xhd_BadRally, xha_BadRally, xn, xt, xhm_BadRally⟩ ⟨xhg_BadBoards, xhk_BadBoards, xhs_BadBoards, xhd_BadBoards, xha_BadBoards, xn, xt, xhm_BadBoards⟩ ⟨xhg_BadNumber, xhk_BadNumber, xhs_BadNumber, xhd_BadNumber, xha_BadNumber, xn, xt, xhm_BadNumber⟩ ⟨xhg_BadText, xhk_BadText, xhs_BadText, xhd_BadText, xha_BadText, xn, xt, xhm_BadText⟩ ⟨xhg_NotFound, xhk_NotFound, xhs_NotFound, xhd_NotFound, xha_NotFound, xn, xt, xhm_NotFound⟩), (all6 (all6 kk_BadRule_BadRule kk_BadRule_BadRally kk_BadRule_BadBoards kk_BadRule_BadNumber kk_BadRule_BadText kk_BadRule_NotFound) (all6 kk_BadRally_BadRule kk_BadRally_BadRally kk_BadRally_BadBoards kk_BadRally_BadNumber kk_BadRally_BadText kk_BadRally_NotFound) (all6 kk_BadBoards_BadRule kk_BadBoards_BadRally kk_BadBoards_BadBoards kk_BadBoards_BadNumber kk_BadBoards_BadText kk_BadBoards_NotFound) (all6 kk_BadNumber_BadRule kk_BadNumber_BadRally kk_BadNumber_BadBoards kk_BadNumber_BadNumber kk_BadNumber_BadText kk_BadNumber_NotFound) (all6 kk_BadText_BadRule kk_BadText_BadRally kk_BadText_BadBoards kk_BadText_BadNumber kk_BadText_BadText kk_BadText_NotFound) (all6 kk_NotFound_BadRule kk_NotFound_BadRally kk_NotFound_BadBoards kk_NotFound_BadNumber kk_NotFound_BadText kk_NotFound_NotFound)), (all6 kb_BadRule kb_BadRally kb_BadBoards kb_BadNumber kb_BadText kb_NotFound), (all6 kv_BadRule kv_BadRally kv_BadBoards kv_BadNumber kv_BadText kv_NotFound), PySem.W.mg_of X G ec_BadRule, PySem.W.mg_of X G ec_BadRally, PySem.W.mg_of X G ec_BadBoards, PySem.W.mg_of X G ec_BadNumber, PySem.W.mg_of X G ec_BadText, PySem.W.mg_of X G ec_NotFound, PySem.W.mg_of X G ec_MatchError⟩⟩
  exact ⟨PySem.W.fnOf "law" "law" (defArgs s_law) (defBody s_law) (defScope s_law) .none kV41 dc41 pm41 an41 cd41 ct41, fun s v => .of_eq rfl, fun base _ _ => ok_law T u_law (b_law T) hlaw (fun_mk (st := s_law) l41 c41 k41)⟩
end Mb
set_option maxHeartbeats 1000000
namespace Mb
open PySem L2
noncomputable section
theorem m_ended_eq (r : Ru) (s : Sta) : m_ended [.fz r.e, .fz s.e] = .ret (.bool (endedM r s)) := by
  simp -implicitDefEqProofs only [m_ended, u_ended, ap_runB, ap_sSeq, ap_sNil, ap_sIf, ap_sRet, ap_sRetN, ap_sSet, ap_sOwn, ap_sPar, ap_sAsg, ap_sDrop, ap_sFz, ap_sFor, ap_sApp, ap_sAugI, ap_sRaise, ap_sBreak, ap_vT, ap_v2, ap_vVar, ap_vBor, ap_vC, ap_vIf, ap_vAnd, ap_vOr, ap_vNot, ap_bAnd, ap_bOr, ap_bNot, ap_bYes, ap_vCall, ap_aNil, ap_aCons, ap_aDr, ap_aOwn, ap_vTup, ap_nLst, ap_nList, ap_vL, ap_vB, ap_vIsi, ap_vChain, ap_vIxV, ap_vLenV, ap_vSl, ap_oNone, ap_oSome, ap_wSeq, ap_wArg, ap_vMeth, ap_vRev, ap_nLc, ap_tgName, ap_nCall, ap_vCallB, ap_aBor, nd_int, nd_bool, nd_str, nd_list, nd_tup, nd_none, nd_r, nd_s, nd_Ro, ap_kVar, ap_kOf, ap_vInK, ap_vNiK, ap_vIxK, ap_sPutK, ap_vGetK, ap_vGet1, ap_vLenK, ap_wKeys, ap_kNil, ap_kOne, ap_vD, ap_sOwnK, ap_aOwnK, ap_nSort, ap_nSortK, ap_nSortS, ap_vFr, ap_vFk, ap_vAsk, ap_vMkM, ap_vMkF, ap_gVo, ap_aVo, ap_vEmp, ap_vAskP, ap_nListK, two_fz, noVs_1, bind_ret, bind_exc, ofO_some, fzs_nil, fzs_cons, setAll_nil, setAll_cons, asB_b, noOw_nil, noOw_cons, wipeE_nil, wipeE_cons, noExc_r, seqD_l, seqD_t, tgTup_ap, tgUnl_ap, ap_nLcX, ap_nSortV, ap_kPairs, tgCons_ap, tgNil_ap, List.cons_append, List.nil_append, List.replicate, List.set, List.getElem?_cons_zero, List.getElem?_cons_succ, Option.bind_some, Option.map_some, List.length_cons, List.length_nil, beq_self_eq_true, if_true, if_false, Bool.false_eq_true, Nat.reduceAdd, Nat.reduceSub, Nat.reduceBEq, Nat.zero_add, ↓reduceIte, reduceCtorEq, decide_true, decide_false, Bool.true_and, Bool.and_true, Bool.false_and, Bool.and_false, Bool.or_true, Bool.true_or, Bool.or_false, Bool.false_or, Bool.not_true, Bool.not_false, Bool.and_self, Int.reduceLE, Int.reduceLT, Int.reduceToNat, Int.reduceSub, Int.reduceAdd, Int.reduceNeg, Nat.reduceLT, Nat.reduceLeDiff, r2, s35, in2, endedM]
theorem m_wanted_eq (r : Ru) (s : Sta) : m_wanted [.fz r.e, .fz s.e] = .ret (.int (wantedM r s)) := by
  cases h1 : decide (r.d = .longer) <;> cases h2 : (s.g0 == r.g - 1 || s.g1 == r.g - 1) <;> simp -implicitDefEqProofs only [m_wanted, u_wanted, ap_runB, ap_sSeq, ap_sNil, ap_sIf, ap_sRet, ap_sRetN, ap_sSet, ap_sOwn, ap_sPar, ap_sAsg, ap_sDrop, ap_sFz, ap_sFor, ap_sApp, ap_sAugI, ap_sRaise, ap_sBreak, ap_vT, ap_v2, ap_vVar, ap_vBor, ap_vC, ap_vIf, ap_vAnd, ap_vOr, ap_vNot, ap_bAnd, ap_bOr, ap_bNot, ap_bYes, ap_vCall, ap_aNil, ap_aCons, ap_aDr, ap_aOwn, ap_vTup, ap_nLst, ap_nList, ap_vL, ap_vB, ap_vIsi, ap_vChain, ap_vIxV, ap_vLenV, ap_vSl, ap_oNone, ap_oSome, ap_wSeq, ap_wArg, ap_vMeth, ap_vRev, ap_nLc, ap_tgName, ap_nCall, ap_vCallB, ap_aBor, nd_int, nd_bool, nd_str, nd_list, nd_tup, nd_none, nd_r, nd_s, nd_Ro, ap_kVar, ap_kOf, ap_vInK, ap_vNiK, ap_vIxK, ap_sPutK, ap_vGetK, ap_vGet1, ap_vLenK, ap_wKeys, ap_kNil, ap_kOne, ap_vD, ap_sOwnK, ap_aOwnK, ap_nSort, ap_nSortK, ap_nSortS, ap_vFr, ap_vFk, ap_vAsk, ap_vMkM, ap_vMkF, ap_gVo, ap_aVo, ap_vEmp, ap_vAskP, ap_nListK, two_fz, noVs_1, bind_ret, bind_exc, ofO_some, fzs_nil, fzs_cons, setAll_nil, setAll_cons, asB_b, noOw_nil, noOw_cons, wipeE_nil, wipeE_cons, noExc_r, seqD_l, seqD_t, tgTup_ap, tgUnl_ap, ap_nLcX, ap_nSortV, ap_kPairs, tgCons_ap, tgNil_ap, List.cons_append, List.nil_append, List.replicate, List.set, List.getElem?_cons_zero, List.getElem?_cons_succ, Option.bind_some, Option.map_some, List.length_cons, List.length_nil, beq_self_eq_true, if_true, if_false, Bool.false_eq_true, Nat.reduceAdd, Nat.reduceSub, Nat.reduceBEq, Nat.zero_add, ↓reduceIte, reduceCtorEq, decide_true, decide_false, Bool.true_and, Bool.and_true, Bool.false_and, Bool.and_false, Bool.or_true, Bool.true_or, Bool.or_false, Bool.false_or, Bool.not_true, Bool.not_false, Bool.and_self, Int.reduceLE, Int.reduceLT, Int.reduceToNat, Int.reduceSub, Int.reduceAdd, Int.reduceNeg, Nat.reduceLT, Nat.reduceLeDiff, r0, r2, r3, s35, in2, dc_longer, sub_ii, wantedM, h1, h2, add_ii]
theorem m_wins_eq (r : Ru) (many own other : Int) : m_wins_game [.fz r.e, .fz (.int many), .fz (.int own), .fz (.int other)] = .ret (.bool (winsM r.l many own other)) := by
  obtain ⟨p, l, g, d, sv⟩ := r
  cases l <;> cases h3 : decide (many ≤ own) <;> cases h4 : decide (2 ≤ own - other) <;> cases h5 : decide (many < own) <;> simp -implicitDefEqProofs only [m_wins_game, u_wins_game, ap_runB, ap_sSeq, ap_sNil, ap_sIf, ap_sRet, ap_sRetN, ap_sSet, ap_sOwn, ap_sPar, ap_sAsg, ap_sDrop, ap_sFz, ap_sFor, ap_sApp, ap_sAugI, ap_sRaise, ap_sBreak, ap_vT, ap_v2, ap_vVar, ap_vBor, ap_vC, ap_vIf, ap_vAnd, ap_vOr, ap_vNot, ap_bAnd, ap_bOr, ap_bNot, ap_bYes, ap_vCall, ap_aNil, ap_aCons, ap_aDr, ap_aOwn, ap_vTup, ap_nLst, ap_nList, ap_vL, ap_vB, ap_vIsi, ap_vChain, ap_vIxV, ap_vLenV, ap_vSl, ap_oNone, ap_oSome, ap_wSeq, ap_wArg, ap_vMeth, ap_vRev, ap_nLc, ap_tgName, ap_nCall, ap_vCallB, ap_aBor, nd_int, nd_bool, nd_str, nd_list, nd_tup, nd_none, nd_r, nd_s, nd_Ro, ap_kVar, ap_kOf, ap_vInK, ap_vNiK, ap_vIxK, ap_sPutK, ap_vGetK, ap_vGet1, ap_vLenK, ap_wKeys, ap_kNil, ap_kOne, ap_vD, ap_sOwnK, ap_aOwnK, ap_nSort, ap_nSortK, ap_nSortS, ap_vFr, ap_vFk, ap_vAsk, ap_vMkM, ap_vMkF, ap_gVo, ap_aVo, ap_vEmp, ap_vAskP, ap_nListK, two_fz, noVs_1, bind_ret, bind_exc, ofO_some, fzs_nil, fzs_cons, setAll_nil, setAll_cons, asB_b, noOw_nil, noOw_cons, wipeE_nil, wipeE_cons, noExc_r, seqD_l, seqD_t, tgTup_ap, tgUnl_ap, ap_nLcX, ap_nSortV, ap_kPairs, tgCons_ap, tgNil_ap, List.cons_append, List.nil_append, List.replicate, List.set, List.getElem?_cons_zero, List.getElem?_cons_succ, Option.bind_some, Option.map_some, List.length_cons, List.length_nil, beq_self_eq_true, if_true, if_false, Bool.false_eq_true, Nat.reduceAdd, Nat.reduceSub, Nat.reduceBEq, Nat.zero_add, ↓reduceIte, reduceCtorEq, decide_true, decide_false, Bool.true_and, Bool.and_true, Bool.false_and, Bool.and_false, Bool.or_true, Bool.true_or, Bool.or_false, Bool.false_or, Bool.not_true, Bool.not_false, Bool.and_self, Int.reduceLE, Int.reduceLT, Int.reduceToNat, Int.reduceSub, Int.reduceAdd, Int.reduceNeg, Nat.reduceLT, Nat.reduceLeDiff, r1, ld_one, ld_cap, ge_ii, gt_ii, sub_ii, winsM, h3, h4, h5]
theorem m_maker_eq (r : Ru) (s : Sta) (b : Int) : m_maker_of [.fz r.e, .fz s.e, .fz (.int b)] = .ret (if makerM r s b then .int b else .none) := by
  cases h1 : endedM r s <;> cases h2 : decide (r.s = .only) <;> cases h3 : (b == s.sv) <;> simp -implicitDefEqProofs only [m_maker_of, u_maker_of, ap_runB, ap_sSeq, ap_sNil, ap_sIf, ap_sRet, ap_sRetN, ap_sSet, ap_sOwn, ap_sPar, ap_sAsg, ap_sDrop, ap_sFz, ap_sFor, ap_sApp, ap_sAugI, ap_sRaise, ap_sBreak, ap_vT, ap_v2, ap_vVar, ap_vBor, ap_vC, ap_vIf, ap_vAnd, ap_vOr, ap_vNot, ap_bAnd, ap_bOr, ap_bNot, ap_bYes, ap_vCall, ap_aNil, ap_aCons, ap_aDr, ap_aOwn, ap_vTup, ap_nLst, ap_nList, ap_vL, ap_vB, ap_vIsi, ap_vChain, ap_vIxV, ap_vLenV, ap_vSl, ap_oNone, ap_oSome, ap_wSeq, ap_wArg, ap_vMeth, ap_vRev, ap_nLc, ap_tgName, ap_nCall, ap_vCallB, ap_aBor, nd_int, nd_bool, nd_str, nd_list, nd_tup, nd_none, nd_r, nd_s, nd_Ro, ap_kVar, ap_kOf, ap_vInK, ap_vNiK, ap_vIxK, ap_sPutK, ap_vGetK, ap_vGet1, ap_vLenK, ap_wKeys, ap_kNil, ap_kOne, ap_vD, ap_sOwnK, ap_aOwnK, ap_nSort, ap_nSortK, ap_nSortS, ap_vFr, ap_vFk, ap_vAsk, ap_vMkM, ap_vMkF, ap_gVo, ap_aVo, ap_vEmp, ap_vAskP, ap_nListK, two_fz, noVs_1, bind_ret, bind_exc, ofO_some, fzs_nil, fzs_cons, setAll_nil, setAll_cons, asB_b, noOw_nil, noOw_cons, wipeE_nil, wipeE_cons, noExc_r, seqD_l, seqD_t, tgTup_ap, tgUnl_ap, ap_nLcX, ap_nSortV, ap_kPairs, tgCons_ap, tgNil_ap, List.cons_append, List.nil_append, List.replicate, List.set, List.getElem?_cons_zero, List.getElem?_cons_succ, Option.bind_some, Option.map_some, List.length_cons, List.length_nil, beq_self_eq_true, if_true, if_false, Bool.false_eq_true, Nat.reduceAdd, Nat.reduceSub, Nat.reduceBEq, Nat.zero_add, ↓reduceIte, reduceCtorEq, decide_true, decide_false, Bool.true_and, Bool.and_true, Bool.false_and, Bool.and_false, Bool.or_true, Bool.true_or, Bool.or_false, Bool.false_or, Bool.not_true, Bool.not_false, Bool.and_self, Int.reduceLE, Int.reduceLT, Int.reduceToNat, Int.reduceSub, Int.reduceAdd, Int.reduceNeg, Nat.reduceLT, Nat.reduceLeDiff, m_ended_eq, r4, s0, sv_only, ne_ii, makerM, h1, h2, h3]
theorem m_folded_eq (many a b : Int) : m_folded [.fz (.int many), .fz (.int a), .fz (.int b)] = .ret (.tuple [.int (foldM many a b).1, .int (foldM many a b).2]) := by
  have sm : small 2 = true := rfl
  cases h1 : decide (min a b < many - 1) with
  | true =>
    simp -implicitDefEqProofs only [m_folded, u_folded, ap_runB, ap_sSeq, ap_sNil, ap_sIf, ap_sRet, ap_sRetN, ap_sSet, ap_sOwn, ap_sPar, ap_sAsg, ap_sDrop, ap_sFz, ap_sFor, ap_sApp, ap_sAugI, ap_sRaise, ap_sBreak, ap_vT, ap_v2, ap_vVar, ap_vBor, ap_vC, ap_vIf, ap_vAnd, ap_vOr, ap_vNot, ap_bAnd, ap_bOr, ap_bNot, ap_bYes, ap_vCall, ap_aNil, ap_aCons, ap_aDr, ap_aOwn, ap_vTup, ap_nLst, ap_nList, ap_vL, ap_vB, ap_vIsi, ap_vChain, ap_vIxV, ap_vLenV, ap_vSl, ap_oNone, ap_oSome, ap_wSeq, ap_wArg, ap_vMeth, ap_vRev, ap_nLc, ap_tgName, ap_nCall, ap_vCallB, ap_aBor, nd_int, nd_bool, nd_str, nd_list, nd_tup, nd_none, nd_r, nd_s, nd_Ro, ap_kVar, ap_kOf, ap_vInK, ap_vNiK, ap_vIxK, ap_sPutK, ap_vGetK, ap_vGet1, ap_vLenK, ap_wKeys, ap_kNil, ap_kOne, ap_vD, ap_sOwnK, ap_aOwnK, ap_nSort, ap_nSortK, ap_nSortS, ap_vFr, ap_vFk, ap_vAsk, ap_vMkM, ap_vMkF, ap_gVo, ap_aVo, ap_vEmp, ap_vAskP, ap_nListK, two_fz, noVs_1, bind_ret, bind_exc, ofO_some, fzs_nil, fzs_cons, setAll_nil, setAll_cons, asB_b, noOw_nil, noOw_cons, wipeE_nil, wipeE_cons, noExc_r, seqD_l, seqD_t, tgTup_ap, tgUnl_ap, ap_nLcX, ap_nSortV, ap_kPairs, tgCons_ap, tgNil_ap, List.cons_append, List.nil_append, List.replicate, List.set, List.getElem?_cons_zero, List.getElem?_cons_succ, Option.bind_some, Option.map_some, List.length_cons, List.length_nil, beq_self_eq_true, if_true, if_false, Bool.false_eq_true, Nat.reduceAdd, Nat.reduceSub, Nat.reduceBEq, Nat.zero_add, ↓reduceIte, reduceCtorEq, decide_true, decide_false, Bool.true_and, Bool.and_true, Bool.false_and, Bool.and_false, Bool.or_true, Bool.true_or, Bool.or_false, Bool.false_or, Bool.not_true, Bool.not_false, Bool.and_self, Int.reduceLE, Int.reduceLT, Int.reduceToNat, Int.reduceSub, Int.reduceAdd, Int.reduceNeg, Nat.reduceLT, Nat.reduceLeDiff, min_ii, sub_ii, lt_ii, h1, sm, foldM, of_decide_eq_true h1]
  | false =>
    cases h2 : decide (b < a) <;> cases h3 : decide (a < b) <;> simp -implicitDefEqProofs only [m_folded, u_folded, ap_runB, ap_sSeq, ap_sNil, ap_sIf, ap_sRet, ap_sRetN, ap_sSet, ap_sOwn, ap_sPar, ap_sAsg, ap_sDrop, ap_sFz, ap_sFor, ap_sApp, ap_sAugI, ap_sRaise, ap_sBreak, ap_vT, ap_v2, ap_vVar, ap_vBor, ap_vC, ap_vIf, ap_vAnd, ap_vOr, ap_vNot, ap_bAnd, ap_bOr, ap_bNot, ap_bYes, ap_vCall, ap_aNil, ap_aCons, ap_aDr, ap_aOwn, ap_vTup, ap_nLst, ap_nList, ap_vL, ap_vB, ap_vIsi, ap_vChain, ap_vIxV, ap_vLenV, ap_vSl, ap_oNone, ap_oSome, ap_wSeq, ap_wArg, ap_vMeth, ap_vRev, ap_nLc, ap_tgName, ap_nCall, ap_vCallB, ap_aBor, nd_int, nd_bool, nd_str, nd_list, nd_tup, nd_none, nd_r, nd_s, nd_Ro, ap_kVar, ap_kOf, ap_vInK, ap_vNiK, ap_vIxK, ap_sPutK, ap_vGetK, ap_vGet1, ap_vLenK, ap_wKeys, ap_kNil, ap_kOne, ap_vD, ap_sOwnK, ap_aOwnK, ap_nSort, ap_nSortK, ap_nSortS, ap_vFr, ap_vFk, ap_vAsk, ap_vMkM, ap_vMkF, ap_gVo, ap_aVo, ap_vEmp, ap_vAskP, ap_nListK, two_fz, noVs_1, bind_ret, bind_exc, ofO_some, fzs_nil, fzs_cons, setAll_nil, setAll_cons, asB_b, noOw_nil, noOw_cons, wipeE_nil, wipeE_cons, noExc_r, seqD_l, seqD_t, tgTup_ap, tgUnl_ap, ap_nLcX, ap_nSortV, ap_kPairs, tgCons_ap, tgNil_ap, List.cons_append, List.nil_append, List.replicate, List.set, List.getElem?_cons_zero, List.getElem?_cons_succ, Option.bind_some, Option.map_some, List.length_cons, List.length_nil, beq_self_eq_true, if_true, if_false, Bool.false_eq_true, Nat.reduceAdd, Nat.reduceSub, Nat.reduceBEq, Nat.zero_add, ↓reduceIte, reduceCtorEq, decide_true, decide_false, Bool.true_and, Bool.and_true, Bool.false_and, Bool.and_false, Bool.or_true, Bool.true_or, Bool.or_false, Bool.false_or, Bool.not_true, Bool.not_false, Bool.and_self, Int.reduceLE, Int.reduceLT, Int.reduceToNat, Int.reduceSub, Int.reduceAdd, Int.reduceNeg, Nat.reduceLT, Nat.reduceLeDiff, min_ii, sub_ii, lt_ii, gt_ii, add_ii, h1, h2, h3, sm, foldM, of_decide_eq_false h1, decide_eq_true_eq, decide_eq_false_iff_not] <;> simp -implicitDefEqProofs only [decide_eq_true_eq, decide_eq_false_iff_not] at h2 h3 <;> simp -implicitDefEqProofs only [h2, h3, if_true, if_false]
theorem m_served_eq (r : Ru) (s : Sta) (b g0 g1 : Int) (over : Bool) : m_served [.fz r.e, .fz s.e, .fz (.int b), .fz (.list [.int g0, .int g1]), .fz (.bool over)] = .ret (.tuple [.int (servM r s b g0 g1 over).1, .int (servM r s b g0 g1 over).2]) := by
  have sm : small 2 = true := rfl
  obtain ⟨p, l, g, d, sv⟩ := r
  cases sv <;> cases over <;> cases h1 : (s.tn == 0) <;> simp -implicitDefEqProofs only [m_served, u_served, ap_runB, ap_sSeq, ap_sNil, ap_sIf, ap_sRet, ap_sRetN, ap_sSet, ap_sOwn, ap_sPar, ap_sAsg, ap_sDrop, ap_sFz, ap_sFor, ap_sApp, ap_sAugI, ap_sRaise, ap_sBreak, ap_vT, ap_v2, ap_vVar, ap_vBor, ap_vC, ap_vIf, ap_vAnd, ap_vOr, ap_vNot, ap_bAnd, ap_bOr, ap_bNot, ap_bYes, ap_vCall, ap_aNil, ap_aCons, ap_aDr, ap_aOwn, ap_vTup, ap_nLst, ap_nList, ap_vL, ap_vB, ap_vIsi, ap_vChain, ap_vIxV, ap_vLenV, ap_vSl, ap_oNone, ap_oSome, ap_wSeq, ap_wArg, ap_vMeth, ap_vRev, ap_nLc, ap_tgName, ap_nCall, ap_vCallB, ap_aBor, nd_int, nd_bool, nd_str, nd_list, nd_tup, nd_none, nd_r, nd_s, nd_Ro, ap_kVar, ap_kOf, ap_vInK, ap_vNiK, ap_vIxK, ap_sPutK, ap_vGetK, ap_vGet1, ap_vLenK, ap_wKeys, ap_kNil, ap_kOne, ap_vD, ap_sOwnK, ap_aOwnK, ap_nSort, ap_nSortK, ap_nSortS, ap_vFr, ap_vFk, ap_vAsk, ap_vMkM, ap_vMkF, ap_gVo, ap_aVo, ap_vEmp, ap_vAskP, ap_nListK, two_fz, noVs_1, bind_ret, bind_exc, ofO_some, fzs_nil, fzs_cons, setAll_nil, setAll_cons, asB_b, noOw_nil, noOw_cons, wipeE_nil, wipeE_cons, noExc_r, seqD_l, seqD_t, tgTup_ap, tgUnl_ap, ap_nLcX, ap_nSortV, ap_kPairs, tgCons_ap, tgNil_ap, List.cons_append, List.nil_append, List.replicate, List.set, List.getElem?_cons_zero, List.getElem?_cons_succ, Option.bind_some, Option.map_some, List.length_cons, List.length_nil, beq_self_eq_true, if_true, if_false, Bool.false_eq_true, Nat.reduceAdd, Nat.reduceSub, Nat.reduceBEq, Nat.zero_add, ↓reduceIte, reduceCtorEq, decide_true, decide_false, Bool.true_and, Bool.and_true, Bool.false_and, Bool.and_false, Bool.or_true, Bool.true_or, Bool.or_false, Bool.false_or, Bool.not_true, Bool.not_false, Bool.and_self, Int.reduceLE, Int.reduceLT, Int.reduceToNat, Int.reduceSub, Int.reduceAdd, Int.reduceNeg, Nat.reduceLT, Nat.reduceLeDiff, r4, s0, s5, sv_in, sv_games, sum2, mod2, eq_ii, sub_ii, h1, sm, servM]
theorem m_step_eq (r : Ru) (s : Sta) (b : Bool) : m_step [.fz r.e, .fz s.e, .fz (.int (rb b))] = .ret (stepM r s b).e := by
  cases h1 : endedM r s with
  | true =>
    simp -implicitDefEqProofs only [m_step, u_step, ap_runB, ap_sSeq, ap_sNil, ap_sIf, ap_sRet, ap_sRetN, ap_sSet, ap_sOwn, ap_sPar, ap_sAsg, ap_sDrop, ap_sFz, ap_sFor, ap_sApp, ap_sAugI, ap_sRaise, ap_sBreak, ap_vT, ap_v2, ap_vVar, ap_vBor, ap_vC, ap_vIf, ap_vAnd, ap_vOr, ap_vNot, ap_bAnd, ap_bOr, ap_bNot, ap_bYes, ap_vCall, ap_aNil, ap_aCons, ap_aDr, ap_aOwn, ap_vTup, ap_nLst, ap_nList, ap_vL, ap_vB, ap_vIsi, ap_vChain, ap_vIxV, ap_vLenV, ap_vSl, ap_oNone, ap_oSome, ap_wSeq, ap_wArg, ap_vMeth, ap_vRev, ap_nLc, ap_tgName, ap_nCall, ap_vCallB, ap_aBor, nd_int, nd_bool, nd_str, nd_list, nd_tup, nd_none, nd_r, nd_s, nd_Ro, ap_kVar, ap_kOf, ap_vInK, ap_vNiK, ap_vIxK, ap_sPutK, ap_vGetK, ap_vGet1, ap_vLenK, ap_wKeys, ap_kNil, ap_kOne, ap_vD, ap_sOwnK, ap_aOwnK, ap_nSort, ap_nSortK, ap_nSortS, ap_vFr, ap_vFk, ap_vAsk, ap_vMkM, ap_vMkF, ap_gVo, ap_aVo, ap_vEmp, ap_vAskP, ap_nListK, two_fz, noVs_1, bind_ret, bind_exc, ofO_some, fzs_nil, fzs_cons, setAll_nil, setAll_cons, asB_b, noOw_nil, noOw_cons, wipeE_nil, wipeE_cons, noExc_r, seqD_l, seqD_t, tgTup_ap, tgUnl_ap, ap_nLcX, ap_nSortV, ap_kPairs, tgCons_ap, tgNil_ap, List.cons_append, List.nil_append, List.replicate, List.set, List.getElem?_cons_zero, List.getElem?_cons_succ, Option.bind_some, Option.map_some, List.length_cons, List.length_nil, beq_self_eq_true, if_true, if_false, Bool.false_eq_true, Nat.reduceAdd, Nat.reduceSub, Nat.reduceBEq, Nat.zero_add, ↓reduceIte, reduceCtorEq, decide_true, decide_false, Bool.true_and, Bool.and_true, Bool.false_and, Bool.and_false, Bool.or_true, Bool.true_or, Bool.or_false, Bool.false_or, Bool.not_true, Bool.not_false, Bool.and_self, Int.reduceLE, Int.reduceLT, Int.reduceToNat, Int.reduceSub, Int.reduceAdd, Int.reduceNeg, Nat.reduceLT, Nat.reduceLeDiff, m_ended_eq, h1, stepM]
  | false =>
    cases h2 : makerM r s (rb b) with
    | false =>
      (simp -implicitDefEqProofs only [m_step, u_step, ap_runB, ap_sSeq, ap_sNil, ap_sIf, ap_sRet, ap_sRetN, ap_sSet, ap_sOwn, ap_sPar, ap_sAsg, ap_sDrop, ap_sFz, ap_sFor, ap_sApp, ap_sAugI, ap_sRaise, ap_sBreak, ap_vT, ap_v2, ap_vVar, ap_vBor, ap_vC, ap_vIf, ap_vAnd, ap_vOr, ap_vNot, ap_bAnd, ap_bOr, ap_bNot, ap_bYes, ap_vCall, ap_aNil, ap_aCons, ap_aDr, ap_aOwn, ap_vTup, ap_nLst, ap_nList, ap_vL, ap_vB, ap_vIsi, ap_vChain, ap_vIxV, ap_vLenV, ap_vSl, ap_oNone, ap_oSome, ap_wSeq, ap_wArg, ap_vMeth, ap_vRev, ap_nLc, ap_tgName, ap_nCall, ap_vCallB, ap_aBor, nd_int, nd_bool, nd_str, nd_list, nd_tup, nd_none, nd_r, nd_s, nd_Ro, ap_kVar, ap_kOf, ap_vInK, ap_vNiK, ap_vIxK, ap_sPutK, ap_vGetK, ap_vGet1, ap_vLenK, ap_wKeys, ap_kNil, ap_kOne, ap_vD, ap_sOwnK, ap_aOwnK, ap_nSort, ap_nSortK, ap_nSortS, ap_vFr, ap_vFk, ap_vAsk, ap_vMkM, ap_vMkF, ap_gVo, ap_aVo, ap_vEmp, ap_vAskP, ap_nListK, two_fz, noVs_1, bind_ret, bind_exc, ofO_some, fzs_nil, fzs_cons, setAll_nil, setAll_cons, asB_b, noOw_nil, noOw_cons, wipeE_nil, wipeE_cons, noExc_r, seqD_l, seqD_t, tgTup_ap, tgUnl_ap, ap_nLcX, ap_nSortV, ap_kPairs, tgCons_ap, tgNil_ap, List.cons_append, List.nil_append, List.replicate, List.set, List.getElem?_cons_zero, List.getElem?_cons_succ, Option.bind_some, Option.map_some, List.length_cons, List.length_nil, beq_self_eq_true, if_true, if_false, Bool.false_eq_true, Nat.reduceAdd, Nat.reduceSub, Nat.reduceBEq, Nat.zero_add, ↓reduceIte, reduceCtorEq, decide_true, decide_false, Bool.true_and, Bool.and_true, Bool.false_and, Bool.and_false, Bool.or_true, Bool.true_or, Bool.or_false, Bool.false_or, Bool.not_true, Bool.not_false, Bool.and_self, Int.reduceLE, Int.reduceLT, Int.reduceToNat, Int.reduceSub, Int.reduceAdd, Int.reduceNeg, Nat.reduceLT, Nat.reduceLeDiff, m_ended_eq, m_maker_eq, m_wanted_eq, s13, s35, isN_n, isN_i, m_served_eq, tup_l, sm1, sm2, tadd1, tadd2, tadd3, h1, h2, stepM]; rfl)
    | true =>
      cases b with
      | true =>
        have h2 : makerM r s 1 = true := h2
        cases h3 : winsM r.l (wantedM r s) (s.p1 + 1) s.p0 with
        | true =>
          (simp -implicitDefEqProofs only [m_step, u_step, ap_runB, ap_sSeq, ap_sNil, ap_sIf, ap_sRet, ap_sRetN, ap_sSet, ap_sOwn, ap_sPar, ap_sAsg, ap_sDrop, ap_sFz, ap_sFor, ap_sApp, ap_sAugI, ap_sRaise, ap_sBreak, ap_vT, ap_v2, ap_vVar, ap_vBor, ap_vC, ap_vIf, ap_vAnd, ap_vOr, ap_vNot, ap_bAnd, ap_bOr, ap_bNot, ap_bYes, ap_vCall, ap_aNil, ap_aCons, ap_aDr, ap_aOwn, ap_vTup, ap_nLst, ap_nList, ap_vL, ap_vB, ap_vIsi, ap_vChain, ap_vIxV, ap_vLenV, ap_vSl, ap_oNone, ap_oSome, ap_wSeq, ap_wArg, ap_vMeth, ap_vRev, ap_nLc, ap_tgName, ap_nCall, ap_vCallB, ap_aBor, nd_int, nd_bool, nd_str, nd_list, nd_tup, nd_none, nd_r, nd_s, nd_Ro, ap_kVar, ap_kOf, ap_vInK, ap_vNiK, ap_vIxK, ap_sPutK, ap_vGetK, ap_vGet1, ap_vLenK, ap_wKeys, ap_kNil, ap_kOne, ap_vD, ap_sOwnK, ap_aOwnK, ap_nSort, ap_nSortK, ap_nSortS, ap_vFr, ap_vFk, ap_vAsk, ap_vMkM, ap_vMkF, ap_gVo, ap_aVo, ap_vEmp, ap_vAskP, ap_nListK, two_fz, noVs_1, bind_ret, bind_exc, ofO_some, fzs_nil, fzs_cons, setAll_nil, setAll_cons, asB_b, noOw_nil, noOw_cons, wipeE_nil, wipeE_cons, noExc_r, seqD_l, seqD_t, tgTup_ap, tgUnl_ap, ap_nLcX, ap_nSortV, ap_kPairs, tgCons_ap, tgNil_ap, List.cons_append, List.nil_append, List.replicate, List.set, List.getElem?_cons_zero, List.getElem?_cons_succ, Option.bind_some, Option.map_some, List.length_cons, List.length_nil, beq_self_eq_true, if_true, if_false, Bool.false_eq_true, Nat.reduceAdd, Nat.reduceSub, Nat.reduceBEq, Nat.zero_add, ↓reduceIte, reduceCtorEq, decide_true, decide_false, Bool.true_and, Bool.and_true, Bool.false_and, Bool.and_false, Bool.or_true, Bool.true_or, Bool.or_false, Bool.false_or, Bool.not_true, Bool.not_false, Bool.and_self, Int.reduceLE, Int.reduceLT, Int.reduceToNat, Int.reduceSub, Int.reduceAdd, Int.reduceNeg, Nat.reduceLT, Nat.reduceLeDiff, m_ended_eq, m_maker_eq, m_wanted_eq, m_wins_eq, s13, s35, isN_n, isN_i, m_served_eq, tup_l, sm1, sm2, tadd1, tadd2, tadd3, ixl0, ixl1, sub_ii, rb_t, h1, h2, h3, stepM]; rfl)
        | false =>
          cases h4 : decide (r.l = .two) <;>
          (simp -implicitDefEqProofs only [m_step, u_step, ap_runB, ap_sSeq, ap_sNil, ap_sIf, ap_sRet, ap_sRetN, ap_sSet, ap_sOwn, ap_sPar, ap_sAsg, ap_sDrop, ap_sFz, ap_sFor, ap_sApp, ap_sAugI, ap_sRaise, ap_sBreak, ap_vT, ap_v2, ap_vVar, ap_vBor, ap_vC, ap_vIf, ap_vAnd, ap_vOr, ap_vNot, ap_bAnd, ap_bOr, ap_bNot, ap_bYes, ap_vCall, ap_aNil, ap_aCons, ap_aDr, ap_aOwn, ap_vTup, ap_nLst, ap_nList, ap_vL, ap_vB, ap_vIsi, ap_vChain, ap_vIxV, ap_vLenV, ap_vSl, ap_oNone, ap_oSome, ap_wSeq, ap_wArg, ap_vMeth, ap_vRev, ap_nLc, ap_tgName, ap_nCall, ap_vCallB, ap_aBor, nd_int, nd_bool, nd_str, nd_list, nd_tup, nd_none, nd_r, nd_s, nd_Ro, ap_kVar, ap_kOf, ap_vInK, ap_vNiK, ap_vIxK, ap_sPutK, ap_vGetK, ap_vGet1, ap_vLenK, ap_wKeys, ap_kNil, ap_kOne, ap_vD, ap_sOwnK, ap_aOwnK, ap_nSort, ap_nSortK, ap_nSortS, ap_vFr, ap_vFk, ap_vAsk, ap_vMkM, ap_vMkF, ap_gVo, ap_aVo, ap_vEmp, ap_vAskP, ap_nListK, two_fz, noVs_1, bind_ret, bind_exc, ofO_some, fzs_nil, fzs_cons, setAll_nil, setAll_cons, asB_b, noOw_nil, noOw_cons, wipeE_nil, wipeE_cons, noExc_r, seqD_l, seqD_t, tgTup_ap, tgUnl_ap, ap_nLcX, ap_nSortV, ap_kPairs, tgCons_ap, tgNil_ap, List.cons_append, List.nil_append, List.replicate, List.set, List.getElem?_cons_zero, List.getElem?_cons_succ, Option.bind_some, Option.map_some, List.length_cons, List.length_nil, beq_self_eq_true, if_true, if_false, Bool.false_eq_true, Nat.reduceAdd, Nat.reduceSub, Nat.reduceBEq, Nat.zero_add, ↓reduceIte, reduceCtorEq, decide_true, decide_false, Bool.true_and, Bool.and_true, Bool.false_and, Bool.and_false, Bool.or_true, Bool.true_or, Bool.or_false, Bool.false_or, Bool.not_true, Bool.not_false, Bool.and_self, Int.reduceLE, Int.reduceLT, Int.reduceToNat, Int.reduceSub, Int.reduceAdd, Int.reduceNeg, Nat.reduceLT, Nat.reduceLeDiff, m_ended_eq, m_maker_eq, m_wanted_eq, m_wins_eq, m_folded_eq, s13, s35, isN_n, isN_i, m_served_eq, tup_l, sm1, sm2, tadd1, tadd2, tadd3, ixl0, ixl1, sub_ii, rb_t, r1, ld_two, h1, h2, h3, h4, stepM]; rfl)
      | false =>
        have h2 : makerM r s 0 = true := h2
        cases h3 : winsM r.l (wantedM r s) (s.p0 + 1) s.p1 with
        | true =>
          (simp -implicitDefEqProofs only [m_step, u_step, ap_runB, ap_sSeq, ap_sNil, ap_sIf, ap_sRet, ap_sRetN, ap_sSet, ap_sOwn, ap_sPar, ap_sAsg, ap_sDrop, ap_sFz, ap_sFor, ap_sApp, ap_sAugI, ap_sRaise, ap_sBreak, ap_vT, ap_v2, ap_vVar, ap_vBor, ap_vC, ap_vIf, ap_vAnd, ap_vOr, ap_vNot, ap_bAnd, ap_bOr, ap_bNot, ap_bYes, ap_vCall, ap_aNil, ap_aCons, ap_aDr, ap_aOwn, ap_vTup, ap_nLst, ap_nList, ap_vL, ap_vB, ap_vIsi, ap_vChain, ap_vIxV, ap_vLenV, ap_vSl, ap_oNone, ap_oSome, ap_wSeq, ap_wArg, ap_vMeth, ap_vRev, ap_nLc, ap_tgName, ap_nCall, ap_vCallB, ap_aBor, nd_int, nd_bool, nd_str, nd_list, nd_tup, nd_none, nd_r, nd_s, nd_Ro, ap_kVar, ap_kOf, ap_vInK, ap_vNiK, ap_vIxK, ap_sPutK, ap_vGetK, ap_vGet1, ap_vLenK, ap_wKeys, ap_kNil, ap_kOne, ap_vD, ap_sOwnK, ap_aOwnK, ap_nSort, ap_nSortK, ap_nSortS, ap_vFr, ap_vFk, ap_vAsk, ap_vMkM, ap_vMkF, ap_gVo, ap_aVo, ap_vEmp, ap_vAskP, ap_nListK, two_fz, noVs_1, bind_ret, bind_exc, ofO_some, fzs_nil, fzs_cons, setAll_nil, setAll_cons, asB_b, noOw_nil, noOw_cons, wipeE_nil, wipeE_cons, noExc_r, seqD_l, seqD_t, tgTup_ap, tgUnl_ap, ap_nLcX, ap_nSortV, ap_kPairs, tgCons_ap, tgNil_ap, List.cons_append, List.nil_append, List.replicate, List.set, List.getElem?_cons_zero, List.getElem?_cons_succ, Option.bind_some, Option.map_some, List.length_cons, List.length_nil, beq_self_eq_true, if_true, if_false, Bool.false_eq_true, Nat.reduceAdd, Nat.reduceSub, Nat.reduceBEq, Nat.zero_add, ↓reduceIte, reduceCtorEq, decide_true, decide_false, Bool.true_and, Bool.and_true, Bool.false_and, Bool.and_false, Bool.or_true, Bool.true_or, Bool.or_false, Bool.false_or, Bool.not_true, Bool.not_false, Bool.and_self, Int.reduceLE, Int.reduceLT, Int.reduceToNat, Int.reduceSub, Int.reduceAdd, Int.reduceNeg, Nat.reduceLT, Nat.reduceLeDiff, m_ended_eq, m_maker_eq, m_wanted_eq, m_wins_eq, s13, s35, isN_n, isN_i, m_served_eq, tup_l, sm1, sm2, tadd1, tadd2, tadd3, ixl0, ixl1, sub_ii, rb_f, h1, h2, h3, stepM]; rfl)
        | false =>
          cases h4 : decide (r.l = .two) <;>
          (simp -implicitDefEqProofs only [m_step, u_step, ap_runB, ap_sSeq, ap_sNil, ap_sIf, ap_sRet, ap_sRetN, ap_sSet, ap_sOwn, ap_sPar, ap_sAsg, ap_sDrop, ap_sFz, ap_sFor, ap_sApp, ap_sAugI, ap_sRaise, ap_sBreak, ap_vT, ap_v2, ap_vVar, ap_vBor, ap_vC, ap_vIf, ap_vAnd, ap_vOr, ap_vNot, ap_bAnd, ap_bOr, ap_bNot, ap_bYes, ap_vCall, ap_aNil, ap_aCons, ap_aDr, ap_aOwn, ap_vTup, ap_nLst, ap_nList, ap_vL, ap_vB, ap_vIsi, ap_vChain, ap_vIxV, ap_vLenV, ap_vSl, ap_oNone, ap_oSome, ap_wSeq, ap_wArg, ap_vMeth, ap_vRev, ap_nLc, ap_tgName, ap_nCall, ap_vCallB, ap_aBor, nd_int, nd_bool, nd_str, nd_list, nd_tup, nd_none, nd_r, nd_s, nd_Ro, ap_kVar, ap_kOf, ap_vInK, ap_vNiK, ap_vIxK, ap_sPutK, ap_vGetK, ap_vGet1, ap_vLenK, ap_wKeys, ap_kNil, ap_kOne, ap_vD, ap_sOwnK, ap_aOwnK, ap_nSort, ap_nSortK, ap_nSortS, ap_vFr, ap_vFk, ap_vAsk, ap_vMkM, ap_vMkF, ap_gVo, ap_aVo, ap_vEmp, ap_vAskP, ap_nListK, two_fz, noVs_1, bind_ret, bind_exc, ofO_some, fzs_nil, fzs_cons, setAll_nil, setAll_cons, asB_b, noOw_nil, noOw_cons, wipeE_nil, wipeE_cons, noExc_r, seqD_l, seqD_t, tgTup_ap, tgUnl_ap, ap_nLcX, ap_nSortV, ap_kPairs, tgCons_ap, tgNil_ap, List.cons_append, List.nil_append, List.replicate, List.set, List.getElem?_cons_zero, List.getElem?_cons_succ, Option.bind_some, Option.map_some, List.length_cons, List.length_nil, beq_self_eq_true, if_true, if_false, Bool.false_eq_true, Nat.reduceAdd, Nat.reduceSub, Nat.reduceBEq, Nat.zero_add, ↓reduceIte, reduceCtorEq, decide_true, decide_false, Bool.true_and, Bool.and_true, Bool.false_and, Bool.and_false, Bool.or_true, Bool.true_or, Bool.or_false, Bool.false_or, Bool.not_true, Bool.not_false, Bool.and_self, Int.reduceLE, Int.reduceLT, Int.reduceToNat, Int.reduceSub, Int.reduceAdd, Int.reduceNeg, Nat.reduceLT, Nat.reduceLeDiff, m_ended_eq, m_maker_eq, m_wanted_eq, m_wins_eq, m_folded_eq, s13, s35, isN_n, isN_i, m_served_eq, tup_l, sm1, sm2, tadd1, tadd2, tadd3, ixl0, ixl1, sub_ii, rb_f, r1, ld_two, h1, h2, h3, h4, stepM]; rfl)
theorem m_is_int_eq (i lo hi : Int) : m_is_int [.fz (.int i), .fz (.int lo), .fz (.int hi)] = .ret (.bool (decide (lo ≤ i) && decide (i ≤ hi))) := by
  cases h1 : decide (lo ≤ i) <;> cases h2 : decide (i ≤ hi) <;> simp -implicitDefEqProofs only [m_is_int, u_is_int, ap_runB, ap_sSeq, ap_sNil, ap_sIf, ap_sRet, ap_sRetN, ap_sSet, ap_sOwn, ap_sPar, ap_sAsg, ap_sDrop, ap_sFz, ap_sFor, ap_sApp, ap_sAugI, ap_sRaise, ap_sBreak, ap_vT, ap_v2, ap_vVar, ap_vBor, ap_vC, ap_vIf, ap_vAnd, ap_vOr, ap_vNot, ap_bAnd, ap_bOr, ap_bNot, ap_bYes, ap_vCall, ap_aNil, ap_aCons, ap_aDr, ap_aOwn, ap_vTup, ap_nLst, ap_nList, ap_vL, ap_vB, ap_vIsi, ap_vChain, ap_vIxV, ap_vLenV, ap_vSl, ap_oNone, ap_oSome, ap_wSeq, ap_wArg, ap_vMeth, ap_vRev, ap_nLc, ap_tgName, ap_nCall, ap_vCallB, ap_aBor, nd_int, nd_bool, nd_str, nd_list, nd_tup, nd_none, nd_r, nd_s, nd_Ro, ap_kVar, ap_kOf, ap_vInK, ap_vNiK, ap_vIxK, ap_sPutK, ap_vGetK, ap_vGet1, ap_vLenK, ap_wKeys, ap_kNil, ap_kOne, ap_vD, ap_sOwnK, ap_aOwnK, ap_nSort, ap_nSortK, ap_nSortS, ap_vFr, ap_vFk, ap_vAsk, ap_vMkM, ap_vMkF, ap_gVo, ap_aVo, ap_vEmp, ap_vAskP, ap_nListK, two_fz, noVs_1, bind_ret, bind_exc, ofO_some, fzs_nil, fzs_cons, setAll_nil, setAll_cons, asB_b, noOw_nil, noOw_cons, wipeE_nil, wipeE_cons, noExc_r, seqD_l, seqD_t, tgTup_ap, tgUnl_ap, ap_nLcX, ap_nSortV, ap_kPairs, tgCons_ap, tgNil_ap, List.cons_append, List.nil_append, List.replicate, List.set, List.getElem?_cons_zero, List.getElem?_cons_succ, Option.bind_some, Option.map_some, List.length_cons, List.length_nil, beq_self_eq_true, if_true, if_false, Bool.false_eq_true, Nat.reduceAdd, Nat.reduceSub, Nat.reduceBEq, Nat.zero_add, ↓reduceIte, reduceCtorEq, decide_true, decide_false, Bool.true_and, Bool.and_true, Bool.false_and, Bool.and_false, Bool.or_true, Bool.true_or, Bool.or_false, Bool.false_or, Bool.not_true, Bool.not_false, Bool.and_self, Int.reduceLE, Int.reduceLT, Int.reduceToNat, Int.reduceSub, Int.reduceAdd, Int.reduceNeg, Nat.reduceLT, Nat.reduceLeDiff, isI_i, isB_i, le_ii, h1, h2]
theorem m_is_rally_eq (b : Bool) : m_is_rally [.fz (.int (rb b))] = .ret (.bool true) := by
  cases b <;> simp -implicitDefEqProofs only [m_is_rally, u_is_rally, ap_runB, ap_sSeq, ap_sNil, ap_sIf, ap_sRet, ap_sRetN, ap_sSet, ap_sOwn, ap_sPar, ap_sAsg, ap_sDrop, ap_sFz, ap_sFor, ap_sApp, ap_sAugI, ap_sRaise, ap_sBreak, ap_vT, ap_v2, ap_vVar, ap_vBor, ap_vC, ap_vIf, ap_vAnd, ap_vOr, ap_vNot, ap_bAnd, ap_bOr, ap_bNot, ap_bYes, ap_vCall, ap_aNil, ap_aCons, ap_aDr, ap_aOwn, ap_vTup, ap_nLst, ap_nList, ap_vL, ap_vB, ap_vIsi, ap_vChain, ap_vIxV, ap_vLenV, ap_vSl, ap_oNone, ap_oSome, ap_wSeq, ap_wArg, ap_vMeth, ap_vRev, ap_nLc, ap_tgName, ap_nCall, ap_vCallB, ap_aBor, nd_int, nd_bool, nd_str, nd_list, nd_tup, nd_none, nd_r, nd_s, nd_Ro, ap_kVar, ap_kOf, ap_vInK, ap_vNiK, ap_vIxK, ap_sPutK, ap_vGetK, ap_vGet1, ap_vLenK, ap_wKeys, ap_kNil, ap_kOne, ap_vD, ap_sOwnK, ap_aOwnK, ap_nSort, ap_nSortK, ap_nSortS, ap_vFr, ap_vFk, ap_vAsk, ap_vMkM, ap_vMkF, ap_gVo, ap_aVo, ap_vEmp, ap_vAskP, ap_nListK, two_fz, noVs_1, bind_ret, bind_exc, ofO_some, fzs_nil, fzs_cons, setAll_nil, setAll_cons, asB_b, noOw_nil, noOw_cons, wipeE_nil, wipeE_cons, noExc_r, seqD_l, seqD_t, tgTup_ap, tgUnl_ap, ap_nLcX, ap_nSortV, ap_kPairs, tgCons_ap, tgNil_ap, List.cons_append, List.nil_append, List.replicate, List.set, List.getElem?_cons_zero, List.getElem?_cons_succ, Option.bind_some, Option.map_some, List.length_cons, List.length_nil, beq_self_eq_true, if_true, if_false, Bool.false_eq_true, Nat.reduceAdd, Nat.reduceSub, Nat.reduceBEq, Nat.zero_add, ↓reduceIte, reduceCtorEq, decide_true, decide_false, Bool.true_and, Bool.and_true, Bool.false_and, Bool.and_false, Bool.or_true, Bool.true_or, Bool.or_false, Bool.false_or, Bool.not_true, Bool.not_false, Bool.and_self, Int.reduceLE, Int.reduceLT, Int.reduceToNat, Int.reduceSub, Int.reduceAdd, Int.reduceNeg, Nat.reduceLT, Nat.reduceLeDiff, m_is_int_eq, rb_t, rb_f]
theorem m_is_row_eq (bs : List Bool) (h : bs.length ≤ 60) : m_is_row [.fz (Ro bs)] = .ret (.bool true) := by
  have e1 : lcRun (tgName 1) bYes (vCall 1 m_is_rally (aCons (vVar 1) aNil)) [.fz (Ro bs), .un] (bs.map fun b => .int (rb b)) = .ret (bs.map fun _ => .bool true) :=
    lc_enc (fun b => .int (rb b)) (fun _ => .bool true) fun b _ => by simp -implicitDefEqProofs only [ap_runB, ap_sSeq, ap_sNil, ap_sIf, ap_sRet, ap_sRetN, ap_sSet, ap_sOwn, ap_sPar, ap_sAsg, ap_sDrop, ap_sFz, ap_sFor, ap_sApp, ap_sAugI, ap_sRaise, ap_sBreak, ap_vT, ap_v2, ap_vVar, ap_vBor, ap_vC, ap_vIf, ap_vAnd, ap_vOr, ap_vNot, ap_bAnd, ap_bOr, ap_bNot, ap_bYes, ap_vCall, ap_aNil, ap_aCons, ap_aDr, ap_aOwn, ap_vTup, ap_nLst, ap_nList, ap_vL, ap_vB, ap_vIsi, ap_vChain, ap_vIxV, ap_vLenV, ap_vSl, ap_oNone, ap_oSome, ap_wSeq, ap_wArg, ap_vMeth, ap_vRev, ap_nLc, ap_tgName, ap_nCall, ap_vCallB, ap_aBor, nd_int, nd_bool, nd_str, nd_list, nd_tup, nd_none, nd_r, nd_s, nd_Ro, ap_kVar, ap_kOf, ap_vInK, ap_vNiK, ap_vIxK, ap_sPutK, ap_vGetK, ap_vGet1, ap_vLenK, ap_wKeys, ap_kNil, ap_kOne, ap_vD, ap_sOwnK, ap_aOwnK, ap_nSort, ap_nSortK, ap_nSortS, ap_vFr, ap_vFk, ap_vAsk, ap_vMkM, ap_vMkF, ap_gVo, ap_aVo, ap_vEmp, ap_vAskP, ap_nListK, two_fz, noVs_1, bind_ret, bind_exc, ofO_some, fzs_nil, fzs_cons, setAll_nil, setAll_cons, asB_b, noOw_nil, noOw_cons, wipeE_nil, wipeE_cons, noExc_r, seqD_l, seqD_t, tgTup_ap, tgUnl_ap, ap_nLcX, ap_nSortV, ap_kPairs, tgCons_ap, tgNil_ap, List.cons_append, List.nil_append, List.replicate, List.set, List.getElem?_cons_zero, List.getElem?_cons_succ, Option.bind_some, Option.map_some, List.length_cons, List.length_nil, beq_self_eq_true, if_true, if_false, Bool.false_eq_true, Nat.reduceAdd, Nat.reduceSub, Nat.reduceBEq, Nat.zero_add, ↓reduceIte, reduceCtorEq, decide_true, decide_false, Bool.true_and, Bool.and_true, Bool.false_and, Bool.and_false, Bool.or_true, Bool.true_or, Bool.or_false, Bool.false_or, Bool.not_true, Bool.not_false, Bool.and_self, Int.reduceLE, Int.reduceLT, Int.reduceToNat, Int.reduceSub, Int.reduceAdd, Int.reduceNeg, Nat.reduceLT, Nat.reduceLeDiff, m_is_rally_eq]
  have e2 : decide ((bs.length : Int) ≤ 60) = true := decide_eq_true (by omega)
  have e3 : small bs.length = true := small_of (by omega)
  have e4 : allD [.list (bs.map fun _ => PyData.bool true)] = some (.bool true) := by
    show (asBools (bs.map fun _ => PyData.bool true)).map (fun bs => PyData.bool (bs.all id)) = _
    rw [asBools_map (fun _ => true) bs]
    show some (PyData.bool _) = _
    simp
  have e5 : noOw [.fz (Ro bs), .un] [1] = true := rfl
  have e6 : wipeE [.fz (Ro bs), .un] [1] = [.fz (Ro bs), .un] := rfl
  have e7 : itD (Ro bs) = some (bs.map fun b => .int (rb b)) := rfl
  have e8 : isList (Ro bs) = true := rfl
  have e9 : fnLen [Ro bs] = some (.int (bs.length : Nat)) := by show some (PyData.int _) = _; rw [List.length_map]
  simp -implicitDefEqProofs only [m_is_row, u_is_row, ap_runB, ap_sSeq, ap_sNil, ap_sIf, ap_sRet, ap_sRetN, ap_sSet, ap_sOwn, ap_sPar, ap_sAsg, ap_sDrop, ap_sFz, ap_sFor, ap_sApp, ap_sAugI, ap_sRaise, ap_sBreak, ap_vT, ap_v2, ap_vVar, ap_vBor, ap_vC, ap_vIf, ap_vAnd, ap_vOr, ap_vNot, ap_bAnd, ap_bOr, ap_bNot, ap_bYes, ap_vCall, ap_aNil, ap_aCons, ap_aDr, ap_aOwn, ap_vTup, ap_nLst, ap_nList, ap_vL, ap_vB, ap_vIsi, ap_vChain, ap_vIxV, ap_vLenV, ap_vSl, ap_oNone, ap_oSome, ap_wSeq, ap_wArg, ap_vMeth, ap_vRev, ap_nLc, ap_tgName, ap_nCall, ap_vCallB, ap_aBor, nd_int, nd_bool, nd_str, nd_list, nd_tup, nd_none, nd_r, nd_s, nd_Ro, ap_kVar, ap_kOf, ap_vInK, ap_vNiK, ap_vIxK, ap_sPutK, ap_vGetK, ap_vGet1, ap_vLenK, ap_wKeys, ap_kNil, ap_kOne, ap_vD, ap_sOwnK, ap_aOwnK, ap_nSort, ap_nSortK, ap_nSortS, ap_vFr, ap_vFk, ap_vAsk, ap_vMkM, ap_vMkF, ap_gVo, ap_aVo, ap_vEmp, ap_vAskP, ap_nListK, two_fz, noVs_1, bind_ret, bind_exc, ofO_some, fzs_nil, fzs_cons, setAll_nil, setAll_cons, asB_b, noOw_nil, noOw_cons, wipeE_nil, wipeE_cons, noExc_r, seqD_l, seqD_t, tgTup_ap, tgUnl_ap, ap_nLcX, ap_nSortV, ap_kPairs, tgCons_ap, tgNil_ap, List.cons_append, List.nil_append, List.replicate, List.set, List.getElem?_cons_zero, List.getElem?_cons_succ, Option.bind_some, Option.map_some, List.length_cons, List.length_nil, beq_self_eq_true, if_true, if_false, Bool.false_eq_true, Nat.reduceAdd, Nat.reduceSub, Nat.reduceBEq, Nat.zero_add, ↓reduceIte, reduceCtorEq, decide_true, decide_false, Bool.true_and, Bool.and_true, Bool.false_and, Bool.and_false, Bool.or_true, Bool.true_or, Bool.or_false, Bool.false_or, Bool.not_true, Bool.not_false, Bool.and_self, Int.reduceLE, Int.reduceLT, Int.reduceToNat, Int.reduceSub, Int.reduceAdd, Int.reduceNeg, Nat.reduceLT, Nat.reduceLeDiff, le_ii, e2, e3, e7, e8, e9, List.length_map, e1, e4]
theorem m_check_row_eq (bs : List Bool) (h : bs.length ≤ 60) : m_check_row [.fz (Ro bs)] = .ret .none := by
  simp -implicitDefEqProofs only [m_check_row, u_check_row, ap_runB, ap_sSeq, ap_sNil, ap_sIf, ap_sRet, ap_sRetN, ap_sSet, ap_sOwn, ap_sPar, ap_sAsg, ap_sDrop, ap_sFz, ap_sFor, ap_sApp, ap_sAugI, ap_sRaise, ap_sBreak, ap_vT, ap_v2, ap_vVar, ap_vBor, ap_vC, ap_vIf, ap_vAnd, ap_vOr, ap_vNot, ap_bAnd, ap_bOr, ap_bNot, ap_bYes, ap_vCall, ap_aNil, ap_aCons, ap_aDr, ap_aOwn, ap_vTup, ap_nLst, ap_nList, ap_vL, ap_vB, ap_vIsi, ap_vChain, ap_vIxV, ap_vLenV, ap_vSl, ap_oNone, ap_oSome, ap_wSeq, ap_wArg, ap_vMeth, ap_vRev, ap_nLc, ap_tgName, ap_nCall, ap_vCallB, ap_aBor, nd_int, nd_bool, nd_str, nd_list, nd_tup, nd_none, nd_r, nd_s, nd_Ro, ap_kVar, ap_kOf, ap_vInK, ap_vNiK, ap_vIxK, ap_sPutK, ap_vGetK, ap_vGet1, ap_vLenK, ap_wKeys, ap_kNil, ap_kOne, ap_vD, ap_sOwnK, ap_aOwnK, ap_nSort, ap_nSortK, ap_nSortS, ap_vFr, ap_vFk, ap_vAsk, ap_vMkM, ap_vMkF, ap_gVo, ap_aVo, ap_vEmp, ap_vAskP, ap_nListK, two_fz, noVs_1, bind_ret, bind_exc, ofO_some, fzs_nil, fzs_cons, setAll_nil, setAll_cons, asB_b, noOw_nil, noOw_cons, wipeE_nil, wipeE_cons, noExc_r, seqD_l, seqD_t, tgTup_ap, tgUnl_ap, ap_nLcX, ap_nSortV, ap_kPairs, tgCons_ap, tgNil_ap, List.cons_append, List.nil_append, List.replicate, List.set, List.getElem?_cons_zero, List.getElem?_cons_succ, Option.bind_some, Option.map_some, List.length_cons, List.length_nil, beq_self_eq_true, if_true, if_false, Bool.false_eq_true, Nat.reduceAdd, Nat.reduceSub, Nat.reduceBEq, Nat.zero_add, ↓reduceIte, reduceCtorEq, decide_true, decide_false, Bool.true_and, Bool.and_true, Bool.false_and, Bool.and_false, Bool.or_true, Bool.true_or, Bool.or_false, Bool.false_or, Bool.not_true, Bool.not_false, Bool.and_self, Int.reduceLE, Int.reduceLT, Int.reduceToNat, Int.reduceSub, Int.reduceAdd, Int.reduceNeg, Nat.reduceLT, Nat.reduceLeDiff, m_is_row_eq bs h]
theorem m_is_word_eq1 (l : Ld) : m_is_word [.fz (.str l.s), .fz (.tuple [.str "one", .str "two", .str "cap"])] = .ret (.bool true) := by
  simp -implicitDefEqProofs only [m_is_word, u_is_word, ap_runB, ap_sSeq, ap_sNil, ap_sIf, ap_sRet, ap_sRetN, ap_sSet, ap_sOwn, ap_sPar, ap_sAsg, ap_sDrop, ap_sFz, ap_sFor, ap_sApp, ap_sAugI, ap_sRaise, ap_sBreak, ap_vT, ap_v2, ap_vVar, ap_vBor, ap_vC, ap_vIf, ap_vAnd, ap_vOr, ap_vNot, ap_bAnd, ap_bOr, ap_bNot, ap_bYes, ap_vCall, ap_aNil, ap_aCons, ap_aDr, ap_aOwn, ap_vTup, ap_nLst, ap_nList, ap_vL, ap_vB, ap_vIsi, ap_vChain, ap_vIxV, ap_vLenV, ap_vSl, ap_oNone, ap_oSome, ap_wSeq, ap_wArg, ap_vMeth, ap_vRev, ap_nLc, ap_tgName, ap_nCall, ap_vCallB, ap_aBor, nd_int, nd_bool, nd_str, nd_list, nd_tup, nd_none, nd_r, nd_s, nd_Ro, ap_kVar, ap_kOf, ap_vInK, ap_vNiK, ap_vIxK, ap_sPutK, ap_vGetK, ap_vGet1, ap_vLenK, ap_wKeys, ap_kNil, ap_kOne, ap_vD, ap_sOwnK, ap_aOwnK, ap_nSort, ap_nSortK, ap_nSortS, ap_vFr, ap_vFk, ap_vAsk, ap_vMkM, ap_vMkF, ap_gVo, ap_aVo, ap_vEmp, ap_vAskP, ap_nListK, two_fz, noVs_1, bind_ret, bind_exc, ofO_some, fzs_nil, fzs_cons, setAll_nil, setAll_cons, asB_b, noOw_nil, noOw_cons, wipeE_nil, wipeE_cons, noExc_r, seqD_l, seqD_t, tgTup_ap, tgUnl_ap, ap_nLcX, ap_nSortV, ap_kPairs, tgCons_ap, tgNil_ap, List.cons_append, List.nil_append, List.replicate, List.set, List.getElem?_cons_zero, List.getElem?_cons_succ, Option.bind_some, Option.map_some, List.length_cons, List.length_nil, beq_self_eq_true, if_true, if_false, Bool.false_eq_true, Nat.reduceAdd, Nat.reduceSub, Nat.reduceBEq, Nat.zero_add, ↓reduceIte, reduceCtorEq, decide_true, decide_false, Bool.true_and, Bool.and_true, Bool.false_and, Bool.and_false, Bool.or_true, Bool.true_or, Bool.or_false, Bool.false_or, Bool.not_true, Bool.not_false, Bool.and_self, Int.reduceLE, Int.reduceLT, Int.reduceToNat, Int.reduceSub, Int.reduceAdd, Int.reduceNeg, Nat.reduceLT, Nat.reduceLeDiff, isS_s, ld_in]
theorem m_is_word_eq2 (l : Dc) : m_is_word [.fz (.str l.s), .fz (.tuple [.str "same", .str "longer"])] = .ret (.bool true) := by
  simp -implicitDefEqProofs only [m_is_word, u_is_word, ap_runB, ap_sSeq, ap_sNil, ap_sIf, ap_sRet, ap_sRetN, ap_sSet, ap_sOwn, ap_sPar, ap_sAsg, ap_sDrop, ap_sFz, ap_sFor, ap_sApp, ap_sAugI, ap_sRaise, ap_sBreak, ap_vT, ap_v2, ap_vVar, ap_vBor, ap_vC, ap_vIf, ap_vAnd, ap_vOr, ap_vNot, ap_bAnd, ap_bOr, ap_bNot, ap_bYes, ap_vCall, ap_aNil, ap_aCons, ap_aDr, ap_aOwn, ap_vTup, ap_nLst, ap_nList, ap_vL, ap_vB, ap_vIsi, ap_vChain, ap_vIxV, ap_vLenV, ap_vSl, ap_oNone, ap_oSome, ap_wSeq, ap_wArg, ap_vMeth, ap_vRev, ap_nLc, ap_tgName, ap_nCall, ap_vCallB, ap_aBor, nd_int, nd_bool, nd_str, nd_list, nd_tup, nd_none, nd_r, nd_s, nd_Ro, ap_kVar, ap_kOf, ap_vInK, ap_vNiK, ap_vIxK, ap_sPutK, ap_vGetK, ap_vGet1, ap_vLenK, ap_wKeys, ap_kNil, ap_kOne, ap_vD, ap_sOwnK, ap_aOwnK, ap_nSort, ap_nSortK, ap_nSortS, ap_vFr, ap_vFk, ap_vAsk, ap_vMkM, ap_vMkF, ap_gVo, ap_aVo, ap_vEmp, ap_vAskP, ap_nListK, two_fz, noVs_1, bind_ret, bind_exc, ofO_some, fzs_nil, fzs_cons, setAll_nil, setAll_cons, asB_b, noOw_nil, noOw_cons, wipeE_nil, wipeE_cons, noExc_r, seqD_l, seqD_t, tgTup_ap, tgUnl_ap, ap_nLcX, ap_nSortV, ap_kPairs, tgCons_ap, tgNil_ap, List.cons_append, List.nil_append, List.replicate, List.set, List.getElem?_cons_zero, List.getElem?_cons_succ, Option.bind_some, Option.map_some, List.length_cons, List.length_nil, beq_self_eq_true, if_true, if_false, Bool.false_eq_true, Nat.reduceAdd, Nat.reduceSub, Nat.reduceBEq, Nat.zero_add, ↓reduceIte, reduceCtorEq, decide_true, decide_false, Bool.true_and, Bool.and_true, Bool.false_and, Bool.and_false, Bool.or_true, Bool.true_or, Bool.or_false, Bool.false_or, Bool.not_true, Bool.not_false, Bool.and_self, Int.reduceLE, Int.reduceLT, Int.reduceToNat, Int.reduceSub, Int.reduceAdd, Int.reduceNeg, Nat.reduceLT, Nat.reduceLeDiff, isS_s, dc_in]
theorem m_is_word_eq3 (l : Sv) : m_is_word [.fz (.str l.s), .fz (.tuple [.str "games", .str "twos", .str "winner", .str "only"])] = .ret (.bool true) := by
  simp -implicitDefEqProofs only [m_is_word, u_is_word, ap_runB, ap_sSeq, ap_sNil, ap_sIf, ap_sRet, ap_sRetN, ap_sSet, ap_sOwn, ap_sPar, ap_sAsg, ap_sDrop, ap_sFz, ap_sFor, ap_sApp, ap_sAugI, ap_sRaise, ap_sBreak, ap_vT, ap_v2, ap_vVar, ap_vBor, ap_vC, ap_vIf, ap_vAnd, ap_vOr, ap_vNot, ap_bAnd, ap_bOr, ap_bNot, ap_bYes, ap_vCall, ap_aNil, ap_aCons, ap_aDr, ap_aOwn, ap_vTup, ap_nLst, ap_nList, ap_vL, ap_vB, ap_vIsi, ap_vChain, ap_vIxV, ap_vLenV, ap_vSl, ap_oNone, ap_oSome, ap_wSeq, ap_wArg, ap_vMeth, ap_vRev, ap_nLc, ap_tgName, ap_nCall, ap_vCallB, ap_aBor, nd_int, nd_bool, nd_str, nd_list, nd_tup, nd_none, nd_r, nd_s, nd_Ro, ap_kVar, ap_kOf, ap_vInK, ap_vNiK, ap_vIxK, ap_sPutK, ap_vGetK, ap_vGet1, ap_vLenK, ap_wKeys, ap_kNil, ap_kOne, ap_vD, ap_sOwnK, ap_aOwnK, ap_nSort, ap_nSortK, ap_nSortS, ap_vFr, ap_vFk, ap_vAsk, ap_vMkM, ap_vMkF, ap_gVo, ap_aVo, ap_vEmp, ap_vAskP, ap_nListK, two_fz, noVs_1, bind_ret, bind_exc, ofO_some, fzs_nil, fzs_cons, setAll_nil, setAll_cons, asB_b, noOw_nil, noOw_cons, wipeE_nil, wipeE_cons, noExc_r, seqD_l, seqD_t, tgTup_ap, tgUnl_ap, ap_nLcX, ap_nSortV, ap_kPairs, tgCons_ap, tgNil_ap, List.cons_append, List.nil_append, List.replicate, List.set, List.getElem?_cons_zero, List.getElem?_cons_succ, Option.bind_some, Option.map_some, List.length_cons, List.length_nil, beq_self_eq_true, if_true, if_false, Bool.false_eq_true, Nat.reduceAdd, Nat.reduceSub, Nat.reduceBEq, Nat.zero_add, ↓reduceIte, reduceCtorEq, decide_true, decide_false, Bool.true_and, Bool.and_true, Bool.false_and, Bool.and_false, Bool.or_true, Bool.true_or, Bool.or_false, Bool.false_or, Bool.not_true, Bool.not_false, Bool.and_self, Int.reduceLE, Int.reduceLT, Int.reduceToNat, Int.reduceSub, Int.reduceAdd, Int.reduceNeg, Nat.reduceLT, Nat.reduceLeDiff, isS_s, sv_inA]
theorem m_is_rule_eq (r : Ru) (h : r.ok) : m_is_rule [.fz r.e] = .ret (.bool true) := by
  have e1 : dNe (.int 5) (.int 5) = some (.bool false) := rfl
  have e2 : decide (2 ≤ r.p) = true := decide_eq_true h.1
  have e3 : decide (r.p ≤ 4) = true := decide_eq_true h.2.1
  have e4 : decide (1 ≤ r.g) = true := decide_eq_true h.2.2.1
  have e5 : decide (r.g ≤ 3) = true := decide_eq_true h.2.2.2
  simp -implicitDefEqProofs only [m_is_rule, u_is_rule, ap_runB, ap_sSeq, ap_sNil, ap_sIf, ap_sRet, ap_sRetN, ap_sSet, ap_sOwn, ap_sPar, ap_sAsg, ap_sDrop, ap_sFz, ap_sFor, ap_sApp, ap_sAugI, ap_sRaise, ap_sBreak, ap_vT, ap_v2, ap_vVar, ap_vBor, ap_vC, ap_vIf, ap_vAnd, ap_vOr, ap_vNot, ap_bAnd, ap_bOr, ap_bNot, ap_bYes, ap_vCall, ap_aNil, ap_aCons, ap_aDr, ap_aOwn, ap_vTup, ap_nLst, ap_nList, ap_vL, ap_vB, ap_vIsi, ap_vChain, ap_vIxV, ap_vLenV, ap_vSl, ap_oNone, ap_oSome, ap_wSeq, ap_wArg, ap_vMeth, ap_vRev, ap_nLc, ap_tgName, ap_nCall, ap_vCallB, ap_aBor, nd_int, nd_bool, nd_str, nd_list, nd_tup, nd_none, nd_r, nd_s, nd_Ro, ap_kVar, ap_kOf, ap_vInK, ap_vNiK, ap_vIxK, ap_sPutK, ap_vGetK, ap_vGet1, ap_vLenK, ap_wKeys, ap_kNil, ap_kOne, ap_vD, ap_sOwnK, ap_aOwnK, ap_nSort, ap_nSortK, ap_nSortS, ap_vFr, ap_vFk, ap_vAsk, ap_vMkM, ap_vMkF, ap_gVo, ap_aVo, ap_vEmp, ap_vAskP, ap_nListK, two_fz, noVs_1, bind_ret, bind_exc, ofO_some, fzs_nil, fzs_cons, setAll_nil, setAll_cons, asB_b, noOw_nil, noOw_cons, wipeE_nil, wipeE_cons, noExc_r, seqD_l, seqD_t, tgTup_ap, tgUnl_ap, ap_nLcX, ap_nSortV, ap_kPairs, tgCons_ap, tgNil_ap, List.cons_append, List.nil_append, List.replicate, List.set, List.getElem?_cons_zero, List.getElem?_cons_succ, Option.bind_some, Option.map_some, List.length_cons, List.length_nil, beq_self_eq_true, if_true, if_false, Bool.false_eq_true, Nat.reduceAdd, Nat.reduceSub, Nat.reduceBEq, Nat.zero_add, ↓reduceIte, reduceCtorEq, decide_true, decide_false, Bool.true_and, Bool.and_true, Bool.false_and, Bool.and_false, Bool.or_true, Bool.true_or, Bool.or_false, Bool.false_or, Bool.not_true, Bool.not_false, Bool.and_self, Int.reduceLE, Int.reduceLT, Int.reduceToNat, Int.reduceSub, Int.reduceAdd, Int.reduceNeg, Nat.reduceLT, Nat.reduceLeDiff, isT_r, len_r, e1, r0, r1, r2, r3, r4, m_is_int_eq, m_is_word_eq1, m_is_word_eq2, m_is_word_eq3, e2, e3, e4, e5]
theorem m_check_rule_eq (r : Ru) (h : r.ok) : m_check_rule [.fz r.e] = .ret .none := by
  simp -implicitDefEqProofs only [m_check_rule, u_check_rule, ap_runB, ap_sSeq, ap_sNil, ap_sIf, ap_sRet, ap_sRetN, ap_sSet, ap_sOwn, ap_sPar, ap_sAsg, ap_sDrop, ap_sFz, ap_sFor, ap_sApp, ap_sAugI, ap_sRaise, ap_sBreak, ap_vT, ap_v2, ap_vVar, ap_vBor, ap_vC, ap_vIf, ap_vAnd, ap_vOr, ap_vNot, ap_bAnd, ap_bOr, ap_bNot, ap_bYes, ap_vCall, ap_aNil, ap_aCons, ap_aDr, ap_aOwn, ap_vTup, ap_nLst, ap_nList, ap_vL, ap_vB, ap_vIsi, ap_vChain, ap_vIxV, ap_vLenV, ap_vSl, ap_oNone, ap_oSome, ap_wSeq, ap_wArg, ap_vMeth, ap_vRev, ap_nLc, ap_tgName, ap_nCall, ap_vCallB, ap_aBor, nd_int, nd_bool, nd_str, nd_list, nd_tup, nd_none, nd_r, nd_s, nd_Ro, ap_kVar, ap_kOf, ap_vInK, ap_vNiK, ap_vIxK, ap_sPutK, ap_vGetK, ap_vGet1, ap_vLenK, ap_wKeys, ap_kNil, ap_kOne, ap_vD, ap_sOwnK, ap_aOwnK, ap_nSort, ap_nSortK, ap_nSortS, ap_vFr, ap_vFk, ap_vAsk, ap_vMkM, ap_vMkF, ap_gVo, ap_aVo, ap_vEmp, ap_vAskP, ap_nListK, two_fz, noVs_1, bind_ret, bind_exc, ofO_some, fzs_nil, fzs_cons, setAll_nil, setAll_cons, asB_b, noOw_nil, noOw_cons, wipeE_nil, wipeE_cons, noExc_r, seqD_l, seqD_t, tgTup_ap, tgUnl_ap, ap_nLcX, ap_nSortV, ap_kPairs, tgCons_ap, tgNil_ap, List.cons_append, List.nil_append, List.replicate, List.set, List.getElem?_cons_zero, List.getElem?_cons_succ, Option.bind_some, Option.map_some, List.length_cons, List.length_nil, beq_self_eq_true, if_true, if_false, Bool.false_eq_true, Nat.reduceAdd, Nat.reduceSub, Nat.reduceBEq, Nat.zero_add, ↓reduceIte, reduceCtorEq, decide_true, decide_false, Bool.true_and, Bool.and_true, Bool.false_and, Bool.and_false, Bool.or_true, Bool.true_or, Bool.or_false, Bool.false_or, Bool.not_true, Bool.not_false, Bool.and_self, Int.reduceLE, Int.reduceLT, Int.reduceToNat, Int.reduceSub, Int.reduceAdd, Int.reduceNeg, Nat.reduceLT, Nat.reduceLeDiff, m_is_rule_eq r h]
theorem states_loop (r : Ru) (W : Ent) : ∀ (bs : List Bool) (acc : List D) (s : Sta) (x : Ent), acc.length + bs.length ≤ 1000 →
    ∃ x', sForL (tgName 3) (sApp 2 (vCall 3 m_step (aCons (vVar 0) (aCons (vIxV 2 (vC (.int (-1)))) (aCons (vVar 3) aNil))))) (bs.map fun b => .int (rb b)) [.fz r.e, W, .ow (acc ++ [s.e]), x] = .ret (.nx [.fz r.e, W, .ow (acc ++ [s.e] ++ (runM r s bs).map Sta.e), x'])
  | [], acc, s, x, _ => ⟨x, by simp only [List.map_nil, sForL, runM, List.append_nil]⟩
  | b :: bs, acc, s, x, h => by
    obtain ⟨x', e⟩ := states_loop r W bs (acc ++ [s.e]) (stepM r s b) (.fz (.int (rb b))) (by rw [List.length_append, List.length_singleton]; rw [List.length_cons] at h; omega)
    refine ⟨x', ?_⟩
    have e3 : small ((acc ++ [s.e]).length) = true := small_of (by rw [List.length_append, List.length_singleton]; omega)
    simp -implicitDefEqProofs only [List.map_cons, sForL, ap_runB, ap_sSeq, ap_sNil, ap_sIf, ap_sRet, ap_sRetN, ap_sSet, ap_sOwn, ap_sPar, ap_sAsg, ap_sDrop, ap_sFz, ap_sFor, ap_sApp, ap_sAugI, ap_sRaise, ap_sBreak, ap_vT, ap_v2, ap_vVar, ap_vBor, ap_vC, ap_vIf, ap_vAnd, ap_vOr, ap_vNot, ap_bAnd, ap_bOr, ap_bNot, ap_bYes, ap_vCall, ap_aNil, ap_aCons, ap_aDr, ap_aOwn, ap_vTup, ap_nLst, ap_nList, ap_vL, ap_vB, ap_vIsi, ap_vChain, ap_vIxV, ap_vLenV, ap_vSl, ap_oNone, ap_oSome, ap_wSeq, ap_wArg, ap_vMeth, ap_vRev, ap_nLc, ap_tgName, ap_nCall, ap_vCallB, ap_aBor, nd_int, nd_bool, nd_str, nd_list, nd_tup, nd_none, nd_r, nd_s, nd_Ro, ap_kVar, ap_kOf, ap_vInK, ap_vNiK, ap_vIxK, ap_sPutK, ap_vGetK, ap_vGet1, ap_vLenK, ap_wKeys, ap_kNil, ap_kOne, ap_vD, ap_sOwnK, ap_aOwnK, ap_nSort, ap_nSortK, ap_nSortS, ap_vFr, ap_vFk, ap_vAsk, ap_vMkM, ap_vMkF, ap_gVo, ap_aVo, ap_vEmp, ap_vAskP, ap_nListK, two_fz, noVs_1, bind_ret, bind_exc, ofO_some, fzs_nil, fzs_cons, setAll_nil, setAll_cons, asB_b, noOw_nil, noOw_cons, wipeE_nil, wipeE_cons, noExc_r, seqD_l, seqD_t, tgTup_ap, tgUnl_ap, ap_nLcX, ap_nSortV, ap_kPairs, tgCons_ap, tgNil_ap, List.cons_append, List.nil_append, List.replicate, List.set, List.getElem?_cons_zero, List.getElem?_cons_succ, Option.bind_some, Option.map_some, List.length_cons, List.length_nil, beq_self_eq_true, if_true, if_false, Bool.false_eq_true, Nat.reduceAdd, Nat.reduceSub, Nat.reduceBEq, Nat.zero_add, ↓reduceIte, reduceCtorEq, decide_true, decide_false, Bool.true_and, Bool.and_true, Bool.false_and, Bool.and_false, Bool.or_true, Bool.true_or, Bool.or_false, Bool.false_or, Bool.not_true, Bool.not_false, Bool.and_self, Int.reduceLE, Int.reduceLT, Int.reduceToNat, Int.reduceSub, Int.reduceAdd, Int.reduceNeg, Nat.reduceLT, Nat.reduceLeDiff, atI_lastD, m_step_eq, e3]
    rw [e]
    simp only [runM, List.map_cons, List.append_assoc, List.cons_append, List.nil_append]
theorem m_states_of_eq (r : Ru) (bs : List Bool) (h : bs.length ≤ 900) : m_states_of [.fz r.e, .fz (Ro bs)] = .ret (Rs r bs) := by
  obtain ⟨x', e⟩ := states_loop r (.fz (Ro bs)) bs [] .start .un (by simpa using Nat.le_trans h (by decide))
  have e7 : itD (Ro bs) = some (bs.map fun b => .int (rb b)) := rfl
  have e8 : (PyData.tuple [.int 0, .int 0, .int 0, .int 0, .int 0, .int 0]) = Sta.start.e := rfl
  simp only [List.nil_append] at e
  simp -implicitDefEqProofs only [m_states_of, u_states_of, ap_runB, ap_sSeq, ap_sNil, ap_sIf, ap_sRet, ap_sRetN, ap_sSet, ap_sOwn, ap_sPar, ap_sAsg, ap_sDrop, ap_sFz, ap_sFor, ap_sApp, ap_sAugI, ap_sRaise, ap_sBreak, ap_vT, ap_v2, ap_vVar, ap_vBor, ap_vC, ap_vIf, ap_vAnd, ap_vOr, ap_vNot, ap_bAnd, ap_bOr, ap_bNot, ap_bYes, ap_vCall, ap_aNil, ap_aCons, ap_aDr, ap_aOwn, ap_vTup, ap_nLst, ap_nList, ap_vL, ap_vB, ap_vIsi, ap_vChain, ap_vIxV, ap_vLenV, ap_vSl, ap_oNone, ap_oSome, ap_wSeq, ap_wArg, ap_vMeth, ap_vRev, ap_nLc, ap_tgName, ap_nCall, ap_vCallB, ap_aBor, nd_int, nd_bool, nd_str, nd_list, nd_tup, nd_none, nd_r, nd_s, nd_Ro, ap_kVar, ap_kOf, ap_vInK, ap_vNiK, ap_vIxK, ap_sPutK, ap_vGetK, ap_vGet1, ap_vLenK, ap_wKeys, ap_kNil, ap_kOne, ap_vD, ap_sOwnK, ap_aOwnK, ap_nSort, ap_nSortK, ap_nSortS, ap_vFr, ap_vFk, ap_vAsk, ap_vMkM, ap_vMkF, ap_gVo, ap_aVo, ap_vEmp, ap_vAskP, ap_nListK, two_fz, noVs_1, bind_ret, bind_exc, ofO_some, fzs_nil, fzs_cons, setAll_nil, setAll_cons, asB_b, noOw_nil, noOw_cons, wipeE_nil, wipeE_cons, noExc_r, seqD_l, seqD_t, tgTup_ap, tgUnl_ap, ap_nLcX, ap_nSortV, ap_kPairs, tgCons_ap, tgNil_ap, List.cons_append, List.nil_append, List.replicate, List.set, List.getElem?_cons_zero, List.getElem?_cons_succ, Option.bind_some, Option.map_some, List.length_cons, List.length_nil, beq_self_eq_true, if_true, if_false, Bool.false_eq_true, Nat.reduceAdd, Nat.reduceSub, Nat.reduceBEq, Nat.zero_add, ↓reduceIte, reduceCtorEq, decide_true, decide_false, Bool.true_and, Bool.and_true, Bool.false_and, Bool.and_false, Bool.or_true, Bool.true_or, Bool.or_false, Bool.false_or, Bool.not_true, Bool.not_false, Bool.and_self, Int.reduceLE, Int.reduceLT, Int.reduceToNat, Int.reduceSub, Int.reduceAdd, Int.reduceNeg, Nat.reduceLT, Nat.reduceLeDiff, sm1, e7, e8, e]
  rfl
theorem Rs_last (r : Ru) (bs : List Bool) : dIx (Rs r bs) (.int (-1)) = some (afterM r .start bs).e := by
  have e := runM_last r bs .start
  have e2 : stsM r bs = (stsM r bs).dropLast ++ [afterM r .start bs] := by
    rw [← e]
    exact (List.dropLast_concat_getLast (l := stsM r bs) (List.cons_ne_nil _ _)).symm
  unfold Rs
  rw [e2, List.map_append]
  exact atI_lastD _ _
theorem draw_eq {n : Int} (h1 : 0 < n) (h2 : n < 1073741824) : mDraw [.dr, .fz (.int n)] = .draw n.toNat fun r => .ret (.int (r : Nat)) := by
  show (if decide (0 < n) && decide (n < 1073741824) then Tr.draw n.toNat (fun r => Tr.ret (PyData.int (r : Nat))) else Tr.bad) = _
  rw [decide_eq_true h1, decide_eq_true h2]; rfl
theorem pick_all {cs : List D} {P : D → Prop} {E : Nat → Prop} (h0 : 0 < cs.length) (h1 : cs.length < 1000000) (h : ∀ d ∈ cs, P d) : (m_law_pick [.dr, .fz (.list cs)]).all P E := by
  simp -implicitDefEqProofs only [m_law_pick, u_law_pick, ap_runB, ap_sSeq, ap_sNil, ap_sIf, ap_sRet, ap_sRetN, ap_sSet, ap_sOwn, ap_sPar, ap_sAsg, ap_sDrop, ap_sFz, ap_sFor, ap_sApp, ap_sAugI, ap_sRaise, ap_sBreak, ap_vT, ap_v2, ap_vVar, ap_vBor, ap_vC, ap_vIf, ap_vAnd, ap_vOr, ap_vNot, ap_bAnd, ap_bOr, ap_bNot, ap_bYes, ap_vCall, ap_aNil, ap_aCons, ap_aDr, ap_aOwn, ap_vTup, ap_nLst, ap_nList, ap_vL, ap_vB, ap_vIsi, ap_vChain, ap_vIxV, ap_vLenV, ap_vSl, ap_oNone, ap_oSome, ap_wSeq, ap_wArg, ap_vMeth, ap_vRev, ap_nLc, ap_tgName, ap_nCall, ap_vCallB, ap_aBor, nd_int, nd_bool, nd_str, nd_list, nd_tup, nd_none, nd_r, nd_s, nd_Ro, ap_kVar, ap_kOf, ap_vInK, ap_vNiK, ap_vIxK, ap_sPutK, ap_vGetK, ap_vGet1, ap_vLenK, ap_wKeys, ap_kNil, ap_kOne, ap_vD, ap_sOwnK, ap_aOwnK, ap_nSort, ap_nSortK, ap_nSortS, ap_vFr, ap_vFk, ap_vAsk, ap_vMkM, ap_vMkF, ap_gVo, ap_aVo, ap_vEmp, ap_vAskP, ap_nListK, two_fz, noVs_1, bind_ret, bind_exc, ofO_some, fzs_nil, fzs_cons, setAll_nil, setAll_cons, asB_b, noOw_nil, noOw_cons, wipeE_nil, wipeE_cons, noExc_r, seqD_l, seqD_t, tgTup_ap, tgUnl_ap, ap_nLcX, ap_nSortV, ap_kPairs, tgCons_ap, tgNil_ap, List.cons_append, List.nil_append, List.replicate, List.set, List.getElem?_cons_zero, List.getElem?_cons_succ, Option.bind_some, Option.map_some, List.length_cons, List.length_nil, beq_self_eq_true, if_true, if_false, Bool.false_eq_true, Nat.reduceAdd, Nat.reduceSub, Nat.reduceBEq, Nat.zero_add, ↓reduceIte, reduceCtorEq, decide_true, decide_false, Bool.true_and, Bool.and_true, Bool.false_and, Bool.and_false, Bool.or_true, Bool.true_or, Bool.or_false, Bool.false_or, Bool.not_true, Bool.not_false, Bool.and_self, Int.reduceLE, Int.reduceLT, Int.reduceToNat, Int.reduceSub, Int.reduceAdd, Int.reduceNeg, Nat.reduceLT, Nat.reduceLeDiff, len_l, draw_eq (show (0 : Int) < (cs.length : Nat) by omega) (show ((cs.length : Nat) : Int) < 1073741824 by omega)]
  intro k hk
  have hk : k < cs.length := by simpa using hk
  dsimp only
  simp -implicitDefEqProofs only [ap_runB, ap_sSeq, ap_sNil, ap_sIf, ap_sRet, ap_sRetN, ap_sSet, ap_sOwn, ap_sPar, ap_sAsg, ap_sDrop, ap_sFz, ap_sFor, ap_sApp, ap_sAugI, ap_sRaise, ap_sBreak, ap_vT, ap_v2, ap_vVar, ap_vBor, ap_vC, ap_vIf, ap_vAnd, ap_vOr, ap_vNot, ap_bAnd, ap_bOr, ap_bNot, ap_bYes, ap_vCall, ap_aNil, ap_aCons, ap_aDr, ap_aOwn, ap_vTup, ap_nLst, ap_nList, ap_vL, ap_vB, ap_vIsi, ap_vChain, ap_vIxV, ap_vLenV, ap_vSl, ap_oNone, ap_oSome, ap_wSeq, ap_wArg, ap_vMeth, ap_vRev, ap_nLc, ap_tgName, ap_nCall, ap_vCallB, ap_aBor, nd_int, nd_bool, nd_str, nd_list, nd_tup, nd_none, nd_r, nd_s, nd_Ro, ap_kVar, ap_kOf, ap_vInK, ap_vNiK, ap_vIxK, ap_sPutK, ap_vGetK, ap_vGet1, ap_vLenK, ap_wKeys, ap_kNil, ap_kOne, ap_vD, ap_sOwnK, ap_aOwnK, ap_nSort, ap_nSortK, ap_nSortS, ap_vFr, ap_vFk, ap_vAsk, ap_vMkM, ap_vMkF, ap_gVo, ap_aVo, ap_vEmp, ap_vAskP, ap_nListK, two_fz, noVs_1, bind_ret, bind_exc, ofO_some, fzs_nil, fzs_cons, setAll_nil, setAll_cons, asB_b, noOw_nil, noOw_cons, wipeE_nil, wipeE_cons, noExc_r, seqD_l, seqD_t, tgTup_ap, tgUnl_ap, ap_nLcX, ap_nSortV, ap_kPairs, tgCons_ap, tgNil_ap, List.cons_append, List.nil_append, List.replicate, List.set, List.getElem?_cons_zero, List.getElem?_cons_succ, Option.bind_some, Option.map_some, List.length_cons, List.length_nil, beq_self_eq_true, if_true, if_false, Bool.false_eq_true, Nat.reduceAdd, Nat.reduceSub, Nat.reduceBEq, Nat.zero_add, ↓reduceIte, reduceCtorEq, decide_true, decide_false, Bool.true_and, Bool.and_true, Bool.false_and, Bool.and_false, Bool.or_true, Bool.true_or, Bool.or_false, Bool.false_or, Bool.not_true, Bool.not_false, Bool.and_self, Int.reduceLE, Int.reduceLT, Int.reduceToNat, Int.reduceSub, Int.reduceAdd, Int.reduceNeg, Nat.reduceLT, Nat.reduceLeDiff, dIx_nat (List.getElem?_eq_getElem hk)]
  exact h _ (List.getElem_mem hk)
theorem draw_all {n : Int} {P : D → Prop} {E : Nat → Prop} (h1 : 0 < n) (h2 : n < 1073741824) (h : ∀ k : Int, 0 ≤ k → k < n → P (.int k)) : (mDraw [.dr, .fz (.int n)]).all P E := by
  rw [draw_eq h1 h2]
  intro k hk
  exact h _ (by omega) (by omega)
theorem law_rule_all {P : D → Prop} {E : Nat → Prop} (h : ∀ r : Ru, r.ok → P r.e) : (m_law_rule [.dr]).all P E := by
  have sm5 : small 5 = true := rfl
  have sm3 : small 3 = true := rfl
  have sm4 : small 4 = true := rfl
  simp -implicitDefEqProofs only [m_law_rule, u_law_rule, ap_runB, ap_sSeq, ap_sNil, ap_sIf, ap_sRet, ap_sRetN, ap_sSet, ap_sOwn, ap_sPar, ap_sAsg, ap_sDrop, ap_sFz, ap_sFor, ap_sApp, ap_sAugI, ap_sRaise, ap_sBreak, ap_vT, ap_v2, ap_vVar, ap_vBor, ap_vC, ap_vIf, ap_vAnd, ap_vOr, ap_vNot, ap_bAnd, ap_bOr, ap_bNot, ap_bYes, ap_vCall, ap_aNil, ap_aCons, ap_aDr, ap_aOwn, ap_vTup, ap_nLst, ap_nList, ap_vL, ap_vB, ap_vIsi, ap_vChain, ap_vIxV, ap_vLenV, ap_vSl, ap_oNone, ap_oSome, ap_wSeq, ap_wArg, ap_vMeth, ap_vRev, ap_nLc, ap_tgName, ap_nCall, ap_vCallB, ap_aBor, nd_int, nd_bool, nd_str, nd_list, nd_tup, nd_none, nd_r, nd_s, nd_Ro, ap_kVar, ap_kOf, ap_vInK, ap_vNiK, ap_vIxK, ap_sPutK, ap_vGetK, ap_vGet1, ap_vLenK, ap_wKeys, ap_kNil, ap_kOne, ap_vD, ap_sOwnK, ap_aOwnK, ap_nSort, ap_nSortK, ap_nSortS, ap_vFr, ap_vFk, ap_vAsk, ap_vMkM, ap_vMkF, ap_gVo, ap_aVo, ap_vEmp, ap_vAskP, ap_nListK, two_fz, noVs_1, bind_ret, bind_exc, ofO_some, fzs_nil, fzs_cons, setAll_nil, setAll_cons, asB_b, noOw_nil, noOw_cons, wipeE_nil, wipeE_cons, noExc_r, seqD_l, seqD_t, tgTup_ap, tgUnl_ap, ap_nLcX, ap_nSortV, ap_kPairs, tgCons_ap, tgNil_ap, List.cons_append, List.nil_append, List.replicate, List.set, List.getElem?_cons_zero, List.getElem?_cons_succ, Option.bind_some, Option.map_some, List.length_cons, List.length_nil, beq_self_eq_true, if_true, if_false, Bool.false_eq_true, Nat.reduceAdd, Nat.reduceSub, Nat.reduceBEq, Nat.zero_add, ↓reduceIte, reduceCtorEq, decide_true, decide_false, Bool.true_and, Bool.and_true, Bool.false_and, Bool.and_false, Bool.or_true, Bool.true_or, Bool.or_false, Bool.false_or, Bool.not_true, Bool.not_false, Bool.and_self, Int.reduceLE, Int.reduceLT, Int.reduceToNat, Int.reduceSub, Int.reduceAdd, Int.reduceNeg, Nat.reduceLT, Nat.reduceLeDiff, sm2, sm3, sm4, sm5]
  repeat with_reducible refine Tr.bind_all ?_
  refine pick_all (by decide) (by decide) fun d1 h1 => ?_
  repeat with_reducible refine Tr.bind_all ?_
  refine pick_all (by decide) (by decide) fun d2 h2 => ?_
  simp -implicitDefEqProofs only [ap_runB, ap_sSeq, ap_sNil, ap_sIf, ap_sRet, ap_sRetN, ap_sSet, ap_sOwn, ap_sPar, ap_sAsg, ap_sDrop, ap_sFz, ap_sFor, ap_sApp, ap_sAugI, ap_sRaise, ap_sBreak, ap_vT, ap_v2, ap_vVar, ap_vBor, ap_vC, ap_vIf, ap_vAnd, ap_vOr, ap_vNot, ap_bAnd, ap_bOr, ap_bNot, ap_bYes, ap_vCall, ap_aNil, ap_aCons, ap_aDr, ap_aOwn, ap_vTup, ap_nLst, ap_nList, ap_vL, ap_vB, ap_vIsi, ap_vChain, ap_vIxV, ap_vLenV, ap_vSl, ap_oNone, ap_oSome, ap_wSeq, ap_wArg, ap_vMeth, ap_vRev, ap_nLc, ap_tgName, ap_nCall, ap_vCallB, ap_aBor, nd_int, nd_bool, nd_str, nd_list, nd_tup, nd_none, nd_r, nd_s, nd_Ro, ap_kVar, ap_kOf, ap_vInK, ap_vNiK, ap_vIxK, ap_sPutK, ap_vGetK, ap_vGet1, ap_vLenK, ap_wKeys, ap_kNil, ap_kOne, ap_vD, ap_sOwnK, ap_aOwnK, ap_nSort, ap_nSortK, ap_nSortS, ap_vFr, ap_vFk, ap_vAsk, ap_vMkM, ap_vMkF, ap_gVo, ap_aVo, ap_vEmp, ap_vAskP, ap_nListK, two_fz, noVs_1, bind_ret, bind_exc, ofO_some, fzs_nil, fzs_cons, setAll_nil, setAll_cons, asB_b, noOw_nil, noOw_cons, wipeE_nil, wipeE_cons, noExc_r, seqD_l, seqD_t, tgTup_ap, tgUnl_ap, ap_nLcX, ap_nSortV, ap_kPairs, tgCons_ap, tgNil_ap, List.cons_append, List.nil_append, List.replicate, List.set, List.getElem?_cons_zero, List.getElem?_cons_succ, Option.bind_some, Option.map_some, List.length_cons, List.length_nil, beq_self_eq_true, if_true, if_false, Bool.false_eq_true, Nat.reduceAdd, Nat.reduceSub, Nat.reduceBEq, Nat.zero_add, ↓reduceIte, reduceCtorEq, decide_true, decide_false, Bool.true_and, Bool.and_true, Bool.false_and, Bool.and_false, Bool.or_true, Bool.true_or, Bool.or_false, Bool.false_or, Bool.not_true, Bool.not_false, Bool.and_self, Int.reduceLE, Int.reduceLT, Int.reduceToNat, Int.reduceSub, Int.reduceAdd, Int.reduceNeg, Nat.reduceLT, Nat.reduceLeDiff, sm2, sm3, sm4, sm5, Tr.all]
  repeat with_reducible refine Tr.bind_all ?_
  refine draw_all (by decide) (by decide) fun k1 a1 b1 => ?_
  simp -implicitDefEqProofs only [ap_runB, ap_sSeq, ap_sNil, ap_sIf, ap_sRet, ap_sRetN, ap_sSet, ap_sOwn, ap_sPar, ap_sAsg, ap_sDrop, ap_sFz, ap_sFor, ap_sApp, ap_sAugI, ap_sRaise, ap_sBreak, ap_vT, ap_v2, ap_vVar, ap_vBor, ap_vC, ap_vIf, ap_vAnd, ap_vOr, ap_vNot, ap_bAnd, ap_bOr, ap_bNot, ap_bYes, ap_vCall, ap_aNil, ap_aCons, ap_aDr, ap_aOwn, ap_vTup, ap_nLst, ap_nList, ap_vL, ap_vB, ap_vIsi, ap_vChain, ap_vIxV, ap_vLenV, ap_vSl, ap_oNone, ap_oSome, ap_wSeq, ap_wArg, ap_vMeth, ap_vRev, ap_nLc, ap_tgName, ap_nCall, ap_vCallB, ap_aBor, nd_int, nd_bool, nd_str, nd_list, nd_tup, nd_none, nd_r, nd_s, nd_Ro, ap_kVar, ap_kOf, ap_vInK, ap_vNiK, ap_vIxK, ap_sPutK, ap_vGetK, ap_vGet1, ap_vLenK, ap_wKeys, ap_kNil, ap_kOne, ap_vD, ap_sOwnK, ap_aOwnK, ap_nSort, ap_nSortK, ap_nSortS, ap_vFr, ap_vFk, ap_vAsk, ap_vMkM, ap_vMkF, ap_gVo, ap_aVo, ap_vEmp, ap_vAskP, ap_nListK, two_fz, noVs_1, bind_ret, bind_exc, ofO_some, fzs_nil, fzs_cons, setAll_nil, setAll_cons, asB_b, noOw_nil, noOw_cons, wipeE_nil, wipeE_cons, noExc_r, seqD_l, seqD_t, tgTup_ap, tgUnl_ap, ap_nLcX, ap_nSortV, ap_kPairs, tgCons_ap, tgNil_ap, List.cons_append, List.nil_append, List.replicate, List.set, List.getElem?_cons_zero, List.getElem?_cons_succ, Option.bind_some, Option.map_some, List.length_cons, List.length_nil, beq_self_eq_true, if_true, if_false, Bool.false_eq_true, Nat.reduceAdd, Nat.reduceSub, Nat.reduceBEq, Nat.zero_add, ↓reduceIte, reduceCtorEq, decide_true, decide_false, Bool.true_and, Bool.and_true, Bool.false_and, Bool.and_false, Bool.or_true, Bool.true_or, Bool.or_false, Bool.false_or, Bool.not_true, Bool.not_false, Bool.and_self, Int.reduceLE, Int.reduceLT, Int.reduceToNat, Int.reduceSub, Int.reduceAdd, Int.reduceNeg, Nat.reduceLT, Nat.reduceLeDiff, add_ii, sm2, sm3, sm4, sm5, Tr.all]
  repeat with_reducible refine Tr.bind_all ?_
  refine draw_all (by decide) (by decide) fun k2 a2 b2 => ?_
  simp -implicitDefEqProofs only [ap_runB, ap_sSeq, ap_sNil, ap_sIf, ap_sRet, ap_sRetN, ap_sSet, ap_sOwn, ap_sPar, ap_sAsg, ap_sDrop, ap_sFz, ap_sFor, ap_sApp, ap_sAugI, ap_sRaise, ap_sBreak, ap_vT, ap_v2, ap_vVar, ap_vBor, ap_vC, ap_vIf, ap_vAnd, ap_vOr, ap_vNot, ap_bAnd, ap_bOr, ap_bNot, ap_bYes, ap_vCall, ap_aNil, ap_aCons, ap_aDr, ap_aOwn, ap_vTup, ap_nLst, ap_nList, ap_vL, ap_vB, ap_vIsi, ap_vChain, ap_vIxV, ap_vLenV, ap_vSl, ap_oNone, ap_oSome, ap_wSeq, ap_wArg, ap_vMeth, ap_vRev, ap_nLc, ap_tgName, ap_nCall, ap_vCallB, ap_aBor, nd_int, nd_bool, nd_str, nd_list, nd_tup, nd_none, nd_r, nd_s, nd_Ro, ap_kVar, ap_kOf, ap_vInK, ap_vNiK, ap_vIxK, ap_sPutK, ap_vGetK, ap_vGet1, ap_vLenK, ap_wKeys, ap_kNil, ap_kOne, ap_vD, ap_sOwnK, ap_aOwnK, ap_nSort, ap_nSortK, ap_nSortS, ap_vFr, ap_vFk, ap_vAsk, ap_vMkM, ap_vMkF, ap_gVo, ap_aVo, ap_vEmp, ap_vAskP, ap_nListK, two_fz, noVs_1, bind_ret, bind_exc, ofO_some, fzs_nil, fzs_cons, setAll_nil, setAll_cons, asB_b, noOw_nil, noOw_cons, wipeE_nil, wipeE_cons, noExc_r, seqD_l, seqD_t, tgTup_ap, tgUnl_ap, ap_nLcX, ap_nSortV, ap_kPairs, tgCons_ap, tgNil_ap, List.cons_append, List.nil_append, List.replicate, List.set, List.getElem?_cons_zero, List.getElem?_cons_succ, Option.bind_some, Option.map_some, List.length_cons, List.length_nil, beq_self_eq_true, if_true, if_false, Bool.false_eq_true, Nat.reduceAdd, Nat.reduceSub, Nat.reduceBEq, Nat.zero_add, ↓reduceIte, reduceCtorEq, decide_true, decide_false, Bool.true_and, Bool.and_true, Bool.false_and, Bool.and_false, Bool.or_true, Bool.true_or, Bool.or_false, Bool.false_or, Bool.not_true, Bool.not_false, Bool.and_self, Int.reduceLE, Int.reduceLT, Int.reduceToNat, Int.reduceSub, Int.reduceAdd, Int.reduceNeg, Nat.reduceLT, Nat.reduceLeDiff, add_ii, sm2, sm3, sm4, sm5, Tr.all]
  repeat with_reducible refine Tr.bind_all ?_
  refine pick_all (by decide) (by decide) fun d3 h3 => ?_
  simp -implicitDefEqProofs only [ap_runB, ap_sSeq, ap_sNil, ap_sIf, ap_sRet, ap_sRetN, ap_sSet, ap_sOwn, ap_sPar, ap_sAsg, ap_sDrop, ap_sFz, ap_sFor, ap_sApp, ap_sAugI, ap_sRaise, ap_sBreak, ap_vT, ap_v2, ap_vVar, ap_vBor, ap_vC, ap_vIf, ap_vAnd, ap_vOr, ap_vNot, ap_bAnd, ap_bOr, ap_bNot, ap_bYes, ap_vCall, ap_aNil, ap_aCons, ap_aDr, ap_aOwn, ap_vTup, ap_nLst, ap_nList, ap_vL, ap_vB, ap_vIsi, ap_vChain, ap_vIxV, ap_vLenV, ap_vSl, ap_oNone, ap_oSome, ap_wSeq, ap_wArg, ap_vMeth, ap_vRev, ap_nLc, ap_tgName, ap_nCall, ap_vCallB, ap_aBor, nd_int, nd_bool, nd_str, nd_list, nd_tup, nd_none, nd_r, nd_s, nd_Ro, ap_kVar, ap_kOf, ap_vInK, ap_vNiK, ap_vIxK, ap_sPutK, ap_vGetK, ap_vGet1, ap_vLenK, ap_wKeys, ap_kNil, ap_kOne, ap_vD, ap_sOwnK, ap_aOwnK, ap_nSort, ap_nSortK, ap_nSortS, ap_vFr, ap_vFk, ap_vAsk, ap_vMkM, ap_vMkF, ap_gVo, ap_aVo, ap_vEmp, ap_vAskP, ap_nListK, two_fz, noVs_1, bind_ret, bind_exc, ofO_some, fzs_nil, fzs_cons, setAll_nil, setAll_cons, asB_b, noOw_nil, noOw_cons, wipeE_nil, wipeE_cons, noExc_r, seqD_l, seqD_t, tgTup_ap, tgUnl_ap, ap_nLcX, ap_nSortV, ap_kPairs, tgCons_ap, tgNil_ap, List.cons_append, List.nil_append, List.replicate, List.set, List.getElem?_cons_zero, List.getElem?_cons_succ, Option.bind_some, Option.map_some, List.length_cons, List.length_nil, beq_self_eq_true, if_true, if_false, Bool.false_eq_true, Nat.reduceAdd, Nat.reduceSub, Nat.reduceBEq, Nat.zero_add, ↓reduceIte, reduceCtorEq, decide_true, decide_false, Bool.true_and, Bool.and_true, Bool.false_and, Bool.and_false, Bool.or_true, Bool.true_or, Bool.or_false, Bool.false_or, Bool.not_true, Bool.not_false, Bool.and_self, Int.reduceLE, Int.reduceLT, Int.reduceToNat, Int.reduceSub, Int.reduceAdd, Int.reduceNeg, Nat.reduceLT, Nat.reduceLeDiff, sm5, Tr.all]
  obtain ⟨l, rfl⟩ : ∃ l : Ld, d1 = .str l.s := by
    simp only [List.mem_cons, List.not_mem_nil, or_false] at h1
    rcases h1 with rfl | rfl | rfl
    · exact ⟨.one, rfl⟩
    · exact ⟨.two, rfl⟩
    · exact ⟨.cap, rfl⟩
  obtain ⟨s, rfl⟩ : ∃ l : Sv, d2 = .str l.s := by
    simp only [List.mem_cons, List.not_mem_nil, or_false] at h2
    rcases h2 with rfl | rfl | rfl | rfl
    · exact ⟨.games, rfl⟩
    · exact ⟨.twos, rfl⟩
    · exact ⟨.winner, rfl⟩
    · exact ⟨.only, rfl⟩
  obtain ⟨d, rfl⟩ : ∃ l : Dc, d3 = .str l.s := by
    simp only [List.mem_cons, List.not_mem_nil, or_false] at h3
    rcases h3 with rfl | rfl
    · exact ⟨.same, rfl⟩
    · exact ⟨.longer, rfl⟩
  exact h ⟨2 + k1, l, 1 + k2, d, s⟩ ⟨by show 2 ≤ 2 + k1; omega, by show 2 + k1 ≤ 4; omega, by show 1 ≤ 1 + k2; omega, by show 1 + k2 ≤ 3; omega⟩
theorem Ro_ix (bs : List Bool) (k : Nat) (h : k < bs.length) : dIx (Ro bs) (.int (k : Nat)) = some (.int (rb bs[k])) := by
  refine dIx_nat ?_
  rw [List.getElem?_map, List.getElem?_eq_getElem h]; rfl
theorem okR_nat {n : Nat} (h : n ≤ 1000000) : okR ((n : Nat) : Int) = true := by
  unfold okR
  rw [Bool.and_eq_true]
  exact ⟨decide_eq_true (by omega), decide_eq_true (by omega)⟩
theorem rng1_nat {n : Nat} (h : n ≤ 1000) : rng1 [.int ((n : Nat) : Int)] = some (rangeD 0 n) := by
  have e : rng1 [.int ((n : Nat) : Int)] = if okR ((n : Nat) : Int) then some (rangeD 0 (((n : Nat) : Int)).toNat) else none := rfl
  rw [e, okR_nat (by omega), Int.toNat_natCast]
  rfl
theorem ev_range1 {a : Envt → Tr D} {env : Envt} {x : D} {l : List D} (h1 : a env = .ret x) (h : rng1 [x] = some l) : wArg rng1 (aCons a aNil) env = .ret l := by
  generalize rng1 = rr at h ⊢
  simp -implicitDefEqProofs only [ap_runB, ap_sSeq, ap_sNil, ap_sIf, ap_sRet, ap_sRetN, ap_sSet, ap_sOwn, ap_sPar, ap_sAsg, ap_sDrop, ap_sFz, ap_sFor, ap_sApp, ap_sAugI, ap_sRaise, ap_sBreak, ap_vT, ap_v2, ap_vVar, ap_vBor, ap_vC, ap_vIf, ap_vAnd, ap_vOr, ap_vNot, ap_bAnd, ap_bOr, ap_bNot, ap_bYes, ap_vCall, ap_aNil, ap_aCons, ap_aDr, ap_aOwn, ap_vTup, ap_nLst, ap_nList, ap_vL, ap_vB, ap_vIsi, ap_vChain, ap_vIxV, ap_vLenV, ap_vSl, ap_oNone, ap_oSome, ap_wSeq, ap_wArg, ap_vMeth, ap_vRev, ap_nLc, ap_tgName, ap_nCall, ap_vCallB, ap_aBor, nd_int, nd_bool, nd_str, nd_list, nd_tup, nd_none, nd_r, nd_s, nd_Ro, ap_kVar, ap_kOf, ap_vInK, ap_vNiK, ap_vIxK, ap_sPutK, ap_vGetK, ap_vGet1, ap_vLenK, ap_wKeys, ap_kNil, ap_kOne, ap_vD, ap_sOwnK, ap_aOwnK, ap_nSort, ap_nSortK, ap_nSortS, ap_vFr, ap_vFk, ap_vAsk, ap_vMkM, ap_vMkF, ap_gVo, ap_aVo, ap_vEmp, ap_vAskP, ap_nListK, two_fz, noVs_1, bind_ret, bind_exc, ofO_some, fzs_nil, fzs_cons, setAll_nil, setAll_cons, asB_b, noOw_nil, noOw_cons, wipeE_nil, wipeE_cons, noExc_r, seqD_l, seqD_t, tgTup_ap, tgUnl_ap, ap_nLcX, ap_nSortV, ap_kPairs, tgCons_ap, tgNil_ap, List.cons_append, List.nil_append, List.replicate, List.set, List.getElem?_cons_zero, List.getElem?_cons_succ, Option.bind_some, Option.map_some, List.length_cons, List.length_nil, beq_self_eq_true, if_true, if_false, Bool.false_eq_true, Nat.reduceAdd, Nat.reduceSub, Nat.reduceBEq, Nat.zero_add, ↓reduceIte, reduceCtorEq, decide_true, decide_false, Bool.true_and, Bool.and_true, Bool.false_and, Bool.and_false, Bool.or_true, Bool.true_or, Bool.or_false, Bool.false_or, Bool.not_true, Bool.not_false, Bool.and_self, Int.reduceLE, Int.reduceLT, Int.reduceToNat, Int.reduceSub, Int.reduceAdd, Int.reduceNeg, Nat.reduceLT, Nat.reduceLeDiff, h1, h]
theorem ev_len {a : Envt → Tr D} {env : Envt} {x y : D} (h1 : a env = .ret x) (h : fnLen [x] = some y) : vB fnLen (aCons a aNil) env = .ret y := by
  generalize fnLen = rr at h ⊢
  simp -implicitDefEqProofs only [ap_runB, ap_sSeq, ap_sNil, ap_sIf, ap_sRet, ap_sRetN, ap_sSet, ap_sOwn, ap_sPar, ap_sAsg, ap_sDrop, ap_sFz, ap_sFor, ap_sApp, ap_sAugI, ap_sRaise, ap_sBreak, ap_vT, ap_v2, ap_vVar, ap_vBor, ap_vC, ap_vIf, ap_vAnd, ap_vOr, ap_vNot, ap_bAnd, ap_bOr, ap_bNot, ap_bYes, ap_vCall, ap_aNil, ap_aCons, ap_aDr, ap_aOwn, ap_vTup, ap_nLst, ap_nList, ap_vL, ap_vB, ap_vIsi, ap_vChain, ap_vIxV, ap_vLenV, ap_vSl, ap_oNone, ap_oSome, ap_wSeq, ap_wArg, ap_vMeth, ap_vRev, ap_nLc, ap_tgName, ap_nCall, ap_vCallB, ap_aBor, nd_int, nd_bool, nd_str, nd_list, nd_tup, nd_none, nd_r, nd_s, nd_Ro, ap_kVar, ap_kOf, ap_vInK, ap_vNiK, ap_vIxK, ap_sPutK, ap_vGetK, ap_vGet1, ap_vLenK, ap_wKeys, ap_kNil, ap_kOne, ap_vD, ap_sOwnK, ap_aOwnK, ap_nSort, ap_nSortK, ap_nSortS, ap_vFr, ap_vFk, ap_vAsk, ap_vMkM, ap_vMkF, ap_gVo, ap_aVo, ap_vEmp, ap_vAskP, ap_nListK, two_fz, noVs_1, bind_ret, bind_exc, ofO_some, fzs_nil, fzs_cons, setAll_nil, setAll_cons, asB_b, noOw_nil, noOw_cons, wipeE_nil, wipeE_cons, noExc_r, seqD_l, seqD_t, tgTup_ap, tgUnl_ap, ap_nLcX, ap_nSortV, ap_kPairs, tgCons_ap, tgNil_ap, List.cons_append, List.nil_append, List.replicate, List.set, List.getElem?_cons_zero, List.getElem?_cons_succ, Option.bind_some, Option.map_some, List.length_cons, List.length_nil, beq_self_eq_true, if_true, if_false, Bool.false_eq_true, Nat.reduceAdd, Nat.reduceSub, Nat.reduceBEq, Nat.zero_add, ↓reduceIte, reduceCtorEq, decide_true, decide_false, Bool.true_and, Bool.and_true, Bool.false_and, Bool.and_false, Bool.or_true, Bool.true_or, Bool.or_false, Bool.false_or, Bool.not_true, Bool.not_false, Bool.and_self, Int.reduceLE, Int.reduceLT, Int.reduceToNat, Int.reduceSub, Int.reduceAdd, Int.reduceNeg, Nat.reduceLT, Nat.reduceLeDiff, h1, h]
theorem in2l (i a b : Int) : dIn (.int i) (.list [.int a, .int b]) = some (.bool (a == i || b == i)) := by
  have := in2 i a b
  exact this
theorem ni2l (i a b : Int) : dNotIn (.int i) (.list [.int a, .int b]) = some (.bool (!(a == i || b == i))) := by
  have h := in2l i a b
  show (match dIn (.int i) (.list [.int a, .int b]) with | some (.bool b) => some (PyData.bool (!b)) | _ => none) = _
  rw [h]
theorem minl_ii (a b : Int) : fnMin [.list [.int a, .int b]] = some (.int (min a b)) := by
  show some (PyData.int (if b < a then b else a)) = _
  rw [Int.min_def]
  split <;> split <;> first | rfl | (congr 2; omega)
theorem ld_twoN (l : Ld) : dNe (.str l.s) (.str "two") = some (.bool (!(l = .two))) := by cases l <;> rfl
theorem m_law_wanted_eq (r : Ru) (g0 g1 : Int) : m_law_wanted [.fz r.e, .fz (.list [.int g0, .int g1])] = .ret (.int (wantG r g0 g1)) := by
  cases h1 : decide (r.d = .longer) <;> cases h2 : (g0 == r.g - 1 || g1 == r.g - 1) <;> simp -implicitDefEqProofs only [m_law_wanted, u_law_wanted, ap_runB, ap_sSeq, ap_sNil, ap_sIf, ap_sRet, ap_sRetN, ap_sSet, ap_sOwn, ap_sPar, ap_sAsg, ap_sDrop, ap_sFz, ap_sFor, ap_sApp, ap_sAugI, ap_sRaise, ap_sBreak, ap_vT, ap_v2, ap_vVar, ap_vBor, ap_vC, ap_vIf, ap_vAnd, ap_vOr, ap_vNot, ap_bAnd, ap_bOr, ap_bNot, ap_bYes, ap_vCall, ap_aNil, ap_aCons, ap_aDr, ap_aOwn, ap_vTup, ap_nLst, ap_nList, ap_vL, ap_vB, ap_vIsi, ap_vChain, ap_vIxV, ap_vLenV, ap_vSl, ap_oNone, ap_oSome, ap_wSeq, ap_wArg, ap_vMeth, ap_vRev, ap_nLc, ap_tgName, ap_nCall, ap_vCallB, ap_aBor, nd_int, nd_bool, nd_str, nd_list, nd_tup, nd_none, nd_r, nd_s, nd_Ro, ap_kVar, ap_kOf, ap_vInK, ap_vNiK, ap_vIxK, ap_sPutK, ap_vGetK, ap_vGet1, ap_vLenK, ap_wKeys, ap_kNil, ap_kOne, ap_vD, ap_sOwnK, ap_aOwnK, ap_nSort, ap_nSortK, ap_nSortS, ap_vFr, ap_vFk, ap_vAsk, ap_vMkM, ap_vMkF, ap_gVo, ap_aVo, ap_vEmp, ap_vAskP, ap_nListK, two_fz, noVs_1, bind_ret, bind_exc, ofO_some, fzs_nil, fzs_cons, setAll_nil, setAll_cons, asB_b, noOw_nil, noOw_cons, wipeE_nil, wipeE_cons, noExc_r, seqD_l, seqD_t, tgTup_ap, tgUnl_ap, ap_nLcX, ap_nSortV, ap_kPairs, tgCons_ap, tgNil_ap, List.cons_append, List.nil_append, List.replicate, List.set, List.getElem?_cons_zero, List.getElem?_cons_succ, Option.bind_some, Option.map_some, List.length_cons, List.length_nil, beq_self_eq_true, if_true, if_false, Bool.false_eq_true, Nat.reduceAdd, Nat.reduceSub, Nat.reduceBEq, Nat.zero_add, ↓reduceIte, reduceCtorEq, decide_true, decide_false, Bool.true_and, Bool.and_true, Bool.false_and, Bool.and_false, Bool.or_true, Bool.true_or, Bool.or_false, Bool.false_or, Bool.not_true, Bool.not_false, Bool.and_self, Int.reduceLE, Int.reduceLT, Int.reduceToNat, Int.reduceSub, Int.reduceAdd, Int.reduceNeg, Nat.reduceLT, Nat.reduceLeDiff, r0, r2, r3, in2l, dc_longer, sub_ii, wantG, h1, h2, add_ii]
theorem m_law_won_eq (r : Ru) (many own other : Int) : m_law_won [.fz r.e, .fz (.int many), .fz (.int own), .fz (.int other)] = .ret (.bool (wonL r.l many own other)) := by
  obtain ⟨p, l, g, d, sv⟩ := r
  cases l <;> cases h3 : decide (many ≤ own) <;> cases h4 : decide (other + 2 ≤ own) <;> cases h5 : (own == many + 1) <;> simp -implicitDefEqProofs only [m_law_won, u_law_won, ap_runB, ap_sSeq, ap_sNil, ap_sIf, ap_sRet, ap_sRetN, ap_sSet, ap_sOwn, ap_sPar, ap_sAsg, ap_sDrop, ap_sFz, ap_sFor, ap_sApp, ap_sAugI, ap_sRaise, ap_sBreak, ap_vT, ap_v2, ap_vVar, ap_vBor, ap_vC, ap_vIf, ap_vAnd, ap_vOr, ap_vNot, ap_bAnd, ap_bOr, ap_bNot, ap_bYes, ap_vCall, ap_aNil, ap_aCons, ap_aDr, ap_aOwn, ap_vTup, ap_nLst, ap_nList, ap_vL, ap_vB, ap_vIsi, ap_vChain, ap_vIxV, ap_vLenV, ap_vSl, ap_oNone, ap_oSome, ap_wSeq, ap_wArg, ap_vMeth, ap_vRev, ap_nLc, ap_tgName, ap_nCall, ap_vCallB, ap_aBor, nd_int, nd_bool, nd_str, nd_list, nd_tup, nd_none, nd_r, nd_s, nd_Ro, ap_kVar, ap_kOf, ap_vInK, ap_vNiK, ap_vIxK, ap_sPutK, ap_vGetK, ap_vGet1, ap_vLenK, ap_wKeys, ap_kNil, ap_kOne, ap_vD, ap_sOwnK, ap_aOwnK, ap_nSort, ap_nSortK, ap_nSortS, ap_vFr, ap_vFk, ap_vAsk, ap_vMkM, ap_vMkF, ap_gVo, ap_aVo, ap_vEmp, ap_vAskP, ap_nListK, two_fz, noVs_1, bind_ret, bind_exc, ofO_some, fzs_nil, fzs_cons, setAll_nil, setAll_cons, asB_b, noOw_nil, noOw_cons, wipeE_nil, wipeE_cons, noExc_r, seqD_l, seqD_t, tgTup_ap, tgUnl_ap, ap_nLcX, ap_nSortV, ap_kPairs, tgCons_ap, tgNil_ap, List.cons_append, List.nil_append, List.replicate, List.set, List.getElem?_cons_zero, List.getElem?_cons_succ, Option.bind_some, Option.map_some, List.length_cons, List.length_nil, beq_self_eq_true, if_true, if_false, Bool.false_eq_true, Nat.reduceAdd, Nat.reduceSub, Nat.reduceBEq, Nat.zero_add, ↓reduceIte, reduceCtorEq, decide_true, decide_false, Bool.true_and, Bool.and_true, Bool.false_and, Bool.and_false, Bool.or_true, Bool.true_or, Bool.or_false, Bool.false_or, Bool.not_true, Bool.not_false, Bool.and_self, Int.reduceLE, Int.reduceLT, Int.reduceToNat, Int.reduceSub, Int.reduceAdd, Int.reduceNeg, Nat.reduceLT, Nat.reduceLeDiff, r1, ld_one, ld_cap, ge_ii, eq_ii, add_ii, wonL, h3, h4, h5]
theorem m_law_folded_eq (r : Ru) (many a b : Int) : m_law_folded [.fz r.e, .fz (.int many), .fz (.list [.int a, .int b])] = .ret (.tuple [.int (foldL r.l many a b).1, .int (foldL r.l many a b).2]) := by
  cases h0 : decide (r.l = .two) with
  | false => simp -implicitDefEqProofs only [m_law_folded, u_law_folded, ap_runB, ap_sSeq, ap_sNil, ap_sIf, ap_sRet, ap_sRetN, ap_sSet, ap_sOwn, ap_sPar, ap_sAsg, ap_sDrop, ap_sFz, ap_sFor, ap_sApp, ap_sAugI, ap_sRaise, ap_sBreak, ap_vT, ap_v2, ap_vVar, ap_vBor, ap_vC, ap_vIf, ap_vAnd, ap_vOr, ap_vNot, ap_bAnd, ap_bOr, ap_bNot, ap_bYes, ap_vCall, ap_aNil, ap_aCons, ap_aDr, ap_aOwn, ap_vTup, ap_nLst, ap_nList, ap_vL, ap_vB, ap_vIsi, ap_vChain, ap_vIxV, ap_vLenV, ap_vSl, ap_oNone, ap_oSome, ap_wSeq, ap_wArg, ap_vMeth, ap_vRev, ap_nLc, ap_tgName, ap_nCall, ap_vCallB, ap_aBor, nd_int, nd_bool, nd_str, nd_list, nd_tup, nd_none, nd_r, nd_s, nd_Ro, ap_kVar, ap_kOf, ap_vInK, ap_vNiK, ap_vIxK, ap_sPutK, ap_vGetK, ap_vGet1, ap_vLenK, ap_wKeys, ap_kNil, ap_kOne, ap_vD, ap_sOwnK, ap_aOwnK, ap_nSort, ap_nSortK, ap_nSortS, ap_vFr, ap_vFk, ap_vAsk, ap_vMkM, ap_vMkF, ap_gVo, ap_aVo, ap_vEmp, ap_vAskP, ap_nListK, two_fz, noVs_1, bind_ret, bind_exc, ofO_some, fzs_nil, fzs_cons, setAll_nil, setAll_cons, asB_b, noOw_nil, noOw_cons, wipeE_nil, wipeE_cons, noExc_r, seqD_l, seqD_t, tgTup_ap, tgUnl_ap, ap_nLcX, ap_nSortV, ap_kPairs, tgCons_ap, tgNil_ap, List.cons_append, List.nil_append, List.replicate, List.set, List.getElem?_cons_zero, List.getElem?_cons_succ, Option.bind_some, Option.map_some, List.length_cons, List.length_nil, beq_self_eq_true, if_true, if_false, Bool.false_eq_true, Nat.reduceAdd, Nat.reduceSub, Nat.reduceBEq, Nat.zero_add, ↓reduceIte, reduceCtorEq, decide_true, decide_false, Bool.true_and, Bool.and_true, Bool.false_and, Bool.and_false, Bool.or_true, Bool.true_or, Bool.or_false, Bool.false_or, Bool.not_true, Bool.not_false, Bool.and_self, Int.reduceLE, Int.reduceLT, Int.reduceToNat, Int.reduceSub, Int.reduceAdd, Int.reduceNeg, Nat.reduceLT, Nat.reduceLeDiff, r1, ld_twoN, foldL, h0, tup_l]
  | true =>
    cases h1 : decide (min a b < many - 1) with
    | true => simp -implicitDefEqProofs only [m_law_folded, u_law_folded, ap_runB, ap_sSeq, ap_sNil, ap_sIf, ap_sRet, ap_sRetN, ap_sSet, ap_sOwn, ap_sPar, ap_sAsg, ap_sDrop, ap_sFz, ap_sFor, ap_sApp, ap_sAugI, ap_sRaise, ap_sBreak, ap_vT, ap_v2, ap_vVar, ap_vBor, ap_vC, ap_vIf, ap_vAnd, ap_vOr, ap_vNot, ap_bAnd, ap_bOr, ap_bNot, ap_bYes, ap_vCall, ap_aNil, ap_aCons, ap_aDr, ap_aOwn, ap_vTup, ap_nLst, ap_nList, ap_vL, ap_vB, ap_vIsi, ap_vChain, ap_vIxV, ap_vLenV, ap_vSl, ap_oNone, ap_oSome, ap_wSeq, ap_wArg, ap_vMeth, ap_vRev, ap_nLc, ap_tgName, ap_nCall, ap_vCallB, ap_aBor, nd_int, nd_bool, nd_str, nd_list, nd_tup, nd_none, nd_r, nd_s, nd_Ro, ap_kVar, ap_kOf, ap_vInK, ap_vNiK, ap_vIxK, ap_sPutK, ap_vGetK, ap_vGet1, ap_vLenK, ap_wKeys, ap_kNil, ap_kOne, ap_vD, ap_sOwnK, ap_aOwnK, ap_nSort, ap_nSortK, ap_nSortS, ap_vFr, ap_vFk, ap_vAsk, ap_vMkM, ap_vMkF, ap_gVo, ap_aVo, ap_vEmp, ap_vAskP, ap_nListK, two_fz, noVs_1, bind_ret, bind_exc, ofO_some, fzs_nil, fzs_cons, setAll_nil, setAll_cons, asB_b, noOw_nil, noOw_cons, wipeE_nil, wipeE_cons, noExc_r, seqD_l, seqD_t, tgTup_ap, tgUnl_ap, ap_nLcX, ap_nSortV, ap_kPairs, tgCons_ap, tgNil_ap, List.cons_append, List.nil_append, List.replicate, List.set, List.getElem?_cons_zero, List.getElem?_cons_succ, Option.bind_some, Option.map_some, List.length_cons, List.length_nil, beq_self_eq_true, if_true, if_false, Bool.false_eq_true, Nat.reduceAdd, Nat.reduceSub, Nat.reduceBEq, Nat.zero_add, ↓reduceIte, reduceCtorEq, decide_true, decide_false, Bool.true_and, Bool.and_true, Bool.false_and, Bool.and_false, Bool.or_true, Bool.true_or, Bool.or_false, Bool.false_or, Bool.not_true, Bool.not_false, Bool.and_self, Int.reduceLE, Int.reduceLT, Int.reduceToNat, Int.reduceSub, Int.reduceAdd, Int.reduceNeg, Nat.reduceLT, Nat.reduceLeDiff, r1, ld_twoN, foldL, h0, h1, minl_ii, sub_ii, lt_ii, tup_l]
    | false =>
      cases h2 : decide (0 < a - b) <;> cases h3 : decide (a - b < 0) <;> simp -implicitDefEqProofs only [m_law_folded, u_law_folded, ap_runB, ap_sSeq, ap_sNil, ap_sIf, ap_sRet, ap_sRetN, ap_sSet, ap_sOwn, ap_sPar, ap_sAsg, ap_sDrop, ap_sFz, ap_sFor, ap_sApp, ap_sAugI, ap_sRaise, ap_sBreak, ap_vT, ap_v2, ap_vVar, ap_vBor, ap_vC, ap_vIf, ap_vAnd, ap_vOr, ap_vNot, ap_bAnd, ap_bOr, ap_bNot, ap_bYes, ap_vCall, ap_aNil, ap_aCons, ap_aDr, ap_aOwn, ap_vTup, ap_nLst, ap_nList, ap_vL, ap_vB, ap_vIsi, ap_vChain, ap_vIxV, ap_vLenV, ap_vSl, ap_oNone, ap_oSome, ap_wSeq, ap_wArg, ap_vMeth, ap_vRev, ap_nLc, ap_tgName, ap_nCall, ap_vCallB, ap_aBor, nd_int, nd_bool, nd_str, nd_list, nd_tup, nd_none, nd_r, nd_s, nd_Ro, ap_kVar, ap_kOf, ap_vInK, ap_vNiK, ap_vIxK, ap_sPutK, ap_vGetK, ap_vGet1, ap_vLenK, ap_wKeys, ap_kNil, ap_kOne, ap_vD, ap_sOwnK, ap_aOwnK, ap_nSort, ap_nSortK, ap_nSortS, ap_vFr, ap_vFk, ap_vAsk, ap_vMkM, ap_vMkF, ap_gVo, ap_aVo, ap_vEmp, ap_vAskP, ap_nListK, two_fz, noVs_1, bind_ret, bind_exc, ofO_some, fzs_nil, fzs_cons, setAll_nil, setAll_cons, asB_b, noOw_nil, noOw_cons, wipeE_nil, wipeE_cons, noExc_r, seqD_l, seqD_t, tgTup_ap, tgUnl_ap, ap_nLcX, ap_nSortV, ap_kPairs, tgCons_ap, tgNil_ap, List.cons_append, List.nil_append, List.replicate, List.set, List.getElem?_cons_zero, List.getElem?_cons_succ, Option.bind_some, Option.map_some, List.length_cons, List.length_nil, beq_self_eq_true, if_true, if_false, Bool.false_eq_true, Nat.reduceAdd, Nat.reduceSub, Nat.reduceBEq, Nat.zero_add, ↓reduceIte, reduceCtorEq, decide_true, decide_false, Bool.true_and, Bool.and_true, Bool.false_and, Bool.and_false, Bool.or_true, Bool.true_or, Bool.or_false, Bool.false_or, Bool.not_true, Bool.not_false, Bool.and_self, Int.reduceLE, Int.reduceLT, Int.reduceToNat, Int.reduceSub, Int.reduceAdd, Int.reduceNeg, Nat.reduceLT, Nat.reduceLeDiff, r1, ld_twoN, foldL, h0, h1, minl_ii, sub_ii, lt_ii, gt_ii, add_ii, ixl0, ixl1, sm2, h2, h3, of_decide_eq_true, of_decide_eq_false] <;> simp_all
def enD : Option Int → D
  | none => .none
  | some k => .int k
theorem lcRun_nil (gd : Tgt) (t : Envt → Tr Bool) (f : Envt → Tr D) (env : Envt) : lcRun gd t f env [] = .ret [] := rfl
theorem lcRun_cons (gd : Tgt) (t : Envt → Tr Bool) (f : Envt → Tr D) (env : Envt) (x : D) (xs : List D) : lcRun gd t f env (x :: xs) = (ofO (gd x env)).bind fun env1 => (t env1).bind fun b => if b then (f env1).bind fun y => (lcRun gd t f env xs).bind fun ys => .ret (y :: ys) else lcRun gd t f env xs := rfl
theorem it_t (ds : List D) : itD (.tuple ds) = some ds := rfl
theorem it_l (ds : List D) : itD (.list ds) = some ds := rfl
theorem rb_eq0 (b : Bool) : dEq (.int 0) (.int (rb b)) = some (.bool (!b)) := by cases b <;> rfl
theorem rb_eq1 (b : Bool) : dEq (.int 1) (.int (rb b)) = some (.bool b) := by cases b <;> rfl
def addS (c k : Nat) (j : Nat) : Envt → Tr (List D) := nLc [k] (wSeq (vTup (aCons (vC (.int 0)) (aCons (vC (.int 1)) (aNil))))) (tgName k) (bYes) (v2 dAdd (v2 dIx (vVar c) (vVar k)) (vIf (vT (v2 dEq (vVar k) (vVar j))) (vC (.int 1)) (vC (.int 0))))
theorem addS_eq (c k j : Nat) (env : Envt) (x y : Int) (b : Bool) (hc : env[c]? = some (.fz (.list [.int x, .int y]))) (hj : env[j]? = some (.fz (.int (rb b)))) (hk : env[k]? = some .un) (h1 : c ≠ k) (h2 : j ≠ k) : addS c k j env = .ret [.int (x + i0 b), .int (y + i1 b)] := by
  have kl : k < env.length := (List.getElem?_eq_some_iff.mp hk).1
  have hw : wipeE env [k] = env.set k .un := rfl
  have hn : noOw env [k] = true := by
    rw [noOw_cons, hk]; rfl
  have sm : small 2 = true := rfl
  have g1 : ∀ d, ((env.set k .un).set k (.fz d))[c]? = some (.fz (.list [.int x, .int y])) := fun d => by rw [List.getElem?_set_ne (Ne.symm h1), List.getElem?_set_ne (Ne.symm h1), hc]
  have g2 : ∀ d, ((env.set k .un).set k (.fz d))[j]? = some (.fz (.int (rb b))) := fun d => by rw [List.getElem?_set_ne (Ne.symm h2), List.getElem?_set_ne (Ne.symm h2), hj]
  have g3 : ∀ d, ((env.set k .un).set k (.fz d))[k]? = some (.fz d) := fun d => List.getElem?_set_self (by simpa using kl)
  unfold addS
  cases b <;> simp only [ap_nLc, ap_wSeq, ap_vTup, ap_aCons, ap_aNil, ap_vC, bind_ret, fzs_cons, fzs_nil, Option.map_some, Option.bind_some, List.length_cons, List.length_nil, Nat.zero_add, Nat.reduceAdd, sm, if_true, ofO_some, it_t, hn, hw, Bool.and_self, lcRun_cons, lcRun_nil, ap_tgName, ap_bYes, ap_v2, ap_vVar, ap_vIf, ap_vT, g1, g2, g3, ixl0, ixl1, rb_eq0, rb_eq1, asB_b, Bool.not_false, Bool.not_true, Bool.false_eq_true, if_false, add_ii, noExc_r, i0, i1]
def alongB : Stm :=
  sSeq (sSet 10 (v2 dIx (vVar 1) (vVar 9)))
  (sIf (vT (v2 dNotIn (v2 dIx (vVar 0) (vC (.int 2))) (vVar 3)))
  (sSeq (sPar [11, 12] (aCons (vCall 2 m_law_wanted (aCons (vVar 0) (aCons (vVar 3) (aNil)))) (aCons (vC (.bool false)) (aNil))))
  (sSeq (sIf (bOr (vT (v2 dNe (v2 dIx (vVar 0) (vC (.int 4))) (vC (.str "only")))) (vT (v2 dEq (vVar 10) (vVar 4))))
  (sSeq (sSet 2 (vL (nLc [14] (wSeq (vTup (aCons (vC (.int 0)) (aCons (vC (.int 1)) (aNil))))) (tgName 14) (bYes) (v2 dAdd (v2 dIx (vVar 2) (vVar 14)) (vIf (vT (v2 dEq (vVar 14) (vVar 10))) (vC (.int 1)) (vC (.int 0)))))))
  (sSeq (sSet 6 (vL (nLc [14] (wSeq (vTup (aCons (vC (.int 0)) (aCons (vC (.int 1)) (aNil))))) (tgName 14) (bYes) (v2 dAdd (v2 dIx (vVar 6) (vVar 14)) (vIf (vT (v2 dEq (vVar 14) (vVar 10))) (vC (.int 1)) (vC (.int 0)))))))
  (sSet 12 (vCall 4 m_law_won (aCons (vVar 0) (aCons (vVar 11) (aCons (v2 dIx (vVar 2) (vVar 10)) (aCons (v2 dIx (vVar 2) (v2 dSub (vC (.int 1)) (vVar 10))) (aNil)))))))))
  (sNil))
  (sSeq (sIf (vT (vVar 12))
  (sSeq (sSet 3 (vL (nLc [14] (wSeq (vTup (aCons (vC (.int 0)) (aCons (vC (.int 1)) (aNil))))) (tgName 14) (bYes) (v2 dAdd (v2 dIx (vVar 3) (vVar 14)) (vIf (vT (v2 dEq (vVar 14) (vVar 10))) (vC (.int 1)) (vC (.int 0)))))))
  (sSeq (sPar [2, 11] (aCons (vL (nLst (aCons (vC (.int 0)) (aCons (vC (.int 0)) (aNil))))) (aCons (vC (.int 9)) (aNil))))
  (sSet 8 (vIf (vT (v2 dIn (v2 dIx (vVar 0) (vC (.int 2))) (vVar 3))) (v2 dAdd (vVar 9) (vC (.int 1))) (vC .none)))))
  (sNil))
  (sSeq (sIf (vT (v2 dIn (v2 dIx (vVar 0) (vC (.int 4))) (vTup (aCons (vC (.str "winner")) (aCons (vC (.str "only")) (aNil))))))
  (sSet 4 (vVar 10))
  (sIf (bOr (vT (v2 dEq (v2 dIx (vVar 0) (vC (.int 4))) (vC (.str "games")))) (vT (vVar 12)))
  (sPar [4, 5] (aCons (v2 dMod (v2 dAdd (v2 dIx (vVar 3) (vC (.int 0))) (v2 dIx (vVar 3) (vC (.int 1)))) (vC (.int 2))) (aCons (vC (.int 0)) (aNil))))
  (sPar [4, 5] (aCons (vIf (vT (v2 dEq (vVar 5) (vC (.int 0)))) (vVar 4) (v2 dSub (vC (.int 1)) (vVar 4))) (aCons (v2 dSub (vC (.int 1)) (vVar 5)) (aNil))))))
  (sSeq (sSet 13 (vCall 3 m_law_folded (aCons (vVar 0) (aCons (vVar 11) (aCons (vVar 2) (aNil))))))
  (sApp 7 (vTup (aCons (vVar 4) (aCons (v2 dIx (vVar 13) (vC (.int 0))) (aCons (v2 dIx (vVar 13) (vC (.int 1))) (aCons (v2 dIx (vVar 3) (vC (.int 0))) (aCons (v2 dIx (vVar 3) (vC (.int 1))) (aCons (vVar 5) (aNil))))))))))))))
  (sApp 7 (vIxV 7 (vC (.int (-1))))))
def alongIni : Stm := sPar [2, 3, 4, 5, 6] (aCons (vL (nLst (aCons (vC (.int 0)) (aCons (vC (.int 0)) (aNil))))) (aCons (vL (nLst (aCons (vC (.int 0)) (aCons (vC (.int 0)) (aNil))))) (aCons (vC (.int 0)) (aCons (vC (.int 0)) (aCons (vL (nLst (aCons (vC (.int 0)) (aCons (vC (.int 0)) (aNil))))) (aNil))))))
theorem along_split : u_law_along = sSeq alongIni
  (sSeq (sPar [7, 8] (aOwn (nLst (aCons (vTup (aCons (vC (.int 0)) (aCons (vC (.int 0)) (aCons (vC (.int 0)) (aCons (vC (.int 0)) (aCons (vC (.int 0)) (aCons (vC (.int 0)) (aNil)))))))) (aNil))) (aCons (vC .none) (aNil))))
  (sSeq (sFor (wArg rng1 (aCons (vB fnLen (aCons (vVar 1) (aNil))) (aNil))) (tgName 9) alongB)
  (sFz 7 (sRet (vTup (aCons (vVar 7) (aCons (vB fnTuple (aCons (vVar 6) (aNil))) (aCons (vVar 8) (aNil)))))))))  := rfl
/-- the state of the loop -/
def envA (r : Ru) (bs : List Bool) (x : Al) (sts : List D) (e9 e10 e11 e12 e13 : Ent) : Envt := [.fz r.e, .fz (Ro bs), .fz (.list [.int x.a, .int x.b]), .fz (.list [.int x.g0, .int x.g1]), .fz (.int x.sv), .fz (.int x.tn), .fz (.list [.int x.m0, .int x.m1]), .ow sts, .fz (enD x.en), e9, e10, e11, e12, e13, .un]
theorem eval_own_ {i : Nat} {f : Envt → Tr D} {env : Envt} (d : D) (e' : Envt) (h : f env = .ret d) (h2 : env.set i (.fz d) = e') : sSet i f env = .ret (.nx e') := by rw [ap_sSet, h, ← h2]; rfl
theorem pt_eval (r : Ru) (bs : List Bool) (x : Al) (sts : List D) (k : Int) (b : Bool) (e13 : Ent) (u : Stm)
    (hu : u = (sIf (bOr (vT (v2 dNe (v2 dIx (vVar 0) (vC (.int 4))) (vC (.str "only")))) (vT (v2 dEq (vVar 10) (vVar 4))))
  (sSeq (sSet 2 (vL (addS 2 14 10)))
  (sSeq (sSet 6 (vL (addS 6 14 10)))
  (sSet 12 (vCall 4 m_law_won (aCons (vVar 0) (aCons (vVar 11) (aCons (v2 dIx (vVar 2) (vVar 10)) (aCons (v2 dIx (vVar 2) (v2 dSub (vC (.int 1)) (vVar 10))) (aNil)))))))))
  (sNil))) : u (envA r bs x sts (.fz (.int k)) (.fz (.int (rb b))) (.fz (.int (wantG r x.g0 x.g1))) (.fz (.bool false)) e13) =
    .ret (.nx (envA r bs (x.pt r b) sts (.fz (.int k)) (.fz (.int (rb b))) (.fz (.int (wantG r x.g0 x.g1))) (.fz (.bool (x.over r b))) e13)) := by
  subst hu
  have eo : dEq (.int (rb b)) (.int x.sv) = some (.bool (rb b == x.sv)) := eq_ii _ _
  cases hm : x.mk? r b with
  | false =>
    have pt : x.pt r b = x := by unfold Al.pt; rw [hm]; rfl
    have ov : x.over r b = false := by unfold Al.over; rw [hm]; rfl
    rw [pt, ov]
    unfold Al.mk? at hm
    rw [Bool.or_eq_false_iff] at hm
    refine eval_ifF ?_ rfl
    have h1 : dNe (.str r.s.s) (.str "only") = some (.bool false) := by rw [sv_onlyN, hm.1]
    simp -implicitDefEqProofs only [envA, ap_runB, ap_sSeq, ap_sNil, ap_sIf, ap_sRet, ap_sRetN, ap_sSet, ap_sOwn, ap_sPar, ap_sAsg, ap_sDrop, ap_sFz, ap_sFor, ap_sApp, ap_sAugI, ap_sRaise, ap_sBreak, ap_vT, ap_v2, ap_vVar, ap_vBor, ap_vC, ap_vIf, ap_vAnd, ap_vOr, ap_vNot, ap_bAnd, ap_bOr, ap_bNot, ap_bYes, ap_vCall, ap_aNil, ap_aCons, ap_aDr, ap_aOwn, ap_vTup, ap_nLst, ap_nList, ap_vL, ap_vB, ap_vIsi, ap_vChain, ap_vIxV, ap_vLenV, ap_vSl, ap_oNone, ap_oSome, ap_wSeq, ap_wArg, ap_vMeth, ap_vRev, ap_nLc, ap_tgName, ap_nCall, ap_vCallB, ap_aBor, nd_int, nd_bool, nd_str, nd_list, nd_tup, nd_none, nd_r, nd_s, nd_Ro, ap_kVar, ap_kOf, ap_vInK, ap_vNiK, ap_vIxK, ap_sPutK, ap_vGetK, ap_vGet1, ap_vLenK, ap_wKeys, ap_kNil, ap_kOne, ap_vD, ap_sOwnK, ap_aOwnK, ap_nSort, ap_nSortK, ap_nSortS, ap_vFr, ap_vFk, ap_vAsk, ap_vMkM, ap_vMkF, ap_gVo, ap_aVo, ap_vEmp, ap_vAskP, ap_nListK, two_fz, noVs_1, bind_ret, bind_exc, ofO_some, fzs_nil, fzs_cons, setAll_nil, setAll_cons, asB_b, noOw_nil, noOw_cons, wipeE_nil, wipeE_cons, noExc_r, seqD_l, seqD_t, tgTup_ap, tgUnl_ap, ap_nLcX, ap_nSortV, ap_kPairs, tgCons_ap, tgNil_ap, List.cons_append, List.nil_append, List.replicate, List.set, List.getElem?_cons_zero, List.getElem?_cons_succ, Option.bind_some, Option.map_some, List.length_cons, List.length_nil, beq_self_eq_true, if_true, if_false, Bool.false_eq_true, Nat.reduceAdd, Nat.reduceSub, Nat.reduceBEq, Nat.zero_add, ↓reduceIte, reduceCtorEq, decide_true, decide_false, Bool.true_and, Bool.and_true, Bool.false_and, Bool.and_false, Bool.or_true, Bool.true_or, Bool.or_false, Bool.false_or, Bool.not_true, Bool.not_false, Bool.and_self, Int.reduceLE, Int.reduceLT, Int.reduceToNat, Int.reduceSub, Int.reduceAdd, Int.reduceNeg, Nat.reduceLT, Nat.reduceLeDiff, r4, h1, eo, hm.2]
  | true =>
    have pt : x.pt r b = { x with a := x.a + i0 b, b := x.b + i1 b, m0 := x.m0 + i0 b, m1 := x.m1 + i1 b } := by unfold Al.pt; rw [hm]; rfl
    have ov : x.over r b = (if b then wonL r.l (wantG r x.g0 x.g1) (x.b + 1) x.a else wonL r.l (wantG r x.g0 x.g1) (x.a + 1) x.b) := by unfold Al.over; rw [hm]; rfl
    rw [pt, ov]
    refine eval_ifT ?_ ?_
    · unfold Al.mk? at hm
      cases h0 : decide (r.s = .only) with
      | false =>
        have h1 : dNe (.str r.s.s) (.str "only") = some (.bool true) := by rw [sv_onlyN, h0]; rfl
        simp -implicitDefEqProofs only [envA, ap_runB, ap_sSeq, ap_sNil, ap_sIf, ap_sRet, ap_sRetN, ap_sSet, ap_sOwn, ap_sPar, ap_sAsg, ap_sDrop, ap_sFz, ap_sFor, ap_sApp, ap_sAugI, ap_sRaise, ap_sBreak, ap_vT, ap_v2, ap_vVar, ap_vBor, ap_vC, ap_vIf, ap_vAnd, ap_vOr, ap_vNot, ap_bAnd, ap_bOr, ap_bNot, ap_bYes, ap_vCall, ap_aNil, ap_aCons, ap_aDr, ap_aOwn, ap_vTup, ap_nLst, ap_nList, ap_vL, ap_vB, ap_vIsi, ap_vChain, ap_vIxV, ap_vLenV, ap_vSl, ap_oNone, ap_oSome, ap_wSeq, ap_wArg, ap_vMeth, ap_vRev, ap_nLc, ap_tgName, ap_nCall, ap_vCallB, ap_aBor, nd_int, nd_bool, nd_str, nd_list, nd_tup, nd_none, nd_r, nd_s, nd_Ro, ap_kVar, ap_kOf, ap_vInK, ap_vNiK, ap_vIxK, ap_sPutK, ap_vGetK, ap_vGet1, ap_vLenK, ap_wKeys, ap_kNil, ap_kOne, ap_vD, ap_sOwnK, ap_aOwnK, ap_nSort, ap_nSortK, ap_nSortS, ap_vFr, ap_vFk, ap_vAsk, ap_vMkM, ap_vMkF, ap_gVo, ap_aVo, ap_vEmp, ap_vAskP, ap_nListK, two_fz, noVs_1, bind_ret, bind_exc, ofO_some, fzs_nil, fzs_cons, setAll_nil, setAll_cons, asB_b, noOw_nil, noOw_cons, wipeE_nil, wipeE_cons, noExc_r, seqD_l, seqD_t, tgTup_ap, tgUnl_ap, ap_nLcX, ap_nSortV, ap_kPairs, tgCons_ap, tgNil_ap, List.cons_append, List.nil_append, List.replicate, List.set, List.getElem?_cons_zero, List.getElem?_cons_succ, Option.bind_some, Option.map_some, List.length_cons, List.length_nil, beq_self_eq_true, if_true, if_false, Bool.false_eq_true, Nat.reduceAdd, Nat.reduceSub, Nat.reduceBEq, Nat.zero_add, ↓reduceIte, reduceCtorEq, decide_true, decide_false, Bool.true_and, Bool.and_true, Bool.false_and, Bool.and_false, Bool.or_true, Bool.true_or, Bool.or_false, Bool.false_or, Bool.not_true, Bool.not_false, Bool.and_self, Int.reduceLE, Int.reduceLT, Int.reduceToNat, Int.reduceSub, Int.reduceAdd, Int.reduceNeg, Nat.reduceLT, Nat.reduceLeDiff, r4, h1]
      | true =>
        rw [h0] at hm
        have h1 : dNe (.str r.s.s) (.str "only") = some (.bool false) := by rw [sv_onlyN, h0]; rfl
        have h2 : (rb b == x.sv) = true := hm
        simp -implicitDefEqProofs only [envA, ap_runB, ap_sSeq, ap_sNil, ap_sIf, ap_sRet, ap_sRetN, ap_sSet, ap_sOwn, ap_sPar, ap_sAsg, ap_sDrop, ap_sFz, ap_sFor, ap_sApp, ap_sAugI, ap_sRaise, ap_sBreak, ap_vT, ap_v2, ap_vVar, ap_vBor, ap_vC, ap_vIf, ap_vAnd, ap_vOr, ap_vNot, ap_bAnd, ap_bOr, ap_bNot, ap_bYes, ap_vCall, ap_aNil, ap_aCons, ap_aDr, ap_aOwn, ap_vTup, ap_nLst, ap_nList, ap_vL, ap_vB, ap_vIsi, ap_vChain, ap_vIxV, ap_vLenV, ap_vSl, ap_oNone, ap_oSome, ap_wSeq, ap_wArg, ap_vMeth, ap_vRev, ap_nLc, ap_tgName, ap_nCall, ap_vCallB, ap_aBor, nd_int, nd_bool, nd_str, nd_list, nd_tup, nd_none, nd_r, nd_s, nd_Ro, ap_kVar, ap_kOf, ap_vInK, ap_vNiK, ap_vIxK, ap_sPutK, ap_vGetK, ap_vGet1, ap_vLenK, ap_wKeys, ap_kNil, ap_kOne, ap_vD, ap_sOwnK, ap_aOwnK, ap_nSort, ap_nSortK, ap_nSortS, ap_vFr, ap_vFk, ap_vAsk, ap_vMkM, ap_vMkF, ap_gVo, ap_aVo, ap_vEmp, ap_vAskP, ap_nListK, two_fz, noVs_1, bind_ret, bind_exc, ofO_some, fzs_nil, fzs_cons, setAll_nil, setAll_cons, asB_b, noOw_nil, noOw_cons, wipeE_nil, wipeE_cons, noExc_r, seqD_l, seqD_t, tgTup_ap, tgUnl_ap, ap_nLcX, ap_nSortV, ap_kPairs, tgCons_ap, tgNil_ap, List.cons_append, List.nil_append, List.replicate, List.set, List.getElem?_cons_zero, List.getElem?_cons_succ, Option.bind_some, Option.map_some, List.length_cons, List.length_nil, beq_self_eq_true, if_true, if_false, Bool.false_eq_true, Nat.reduceAdd, Nat.reduceSub, Nat.reduceBEq, Nat.zero_add, ↓reduceIte, reduceCtorEq, decide_true, decide_false, Bool.true_and, Bool.and_true, Bool.false_and, Bool.and_false, Bool.or_true, Bool.true_or, Bool.or_false, Bool.false_or, Bool.not_true, Bool.not_false, Bool.and_self, Int.reduceLE, Int.reduceLT, Int.reduceToNat, Int.reduceSub, Int.reduceAdd, Int.reduceNeg, Nat.reduceLT, Nat.reduceLeDiff, r4, h1, eo, h2]
    · refine eval_seq (envA r bs { x with a := x.a + i0 b, b := x.b + i1 b } sts (.fz (.int k)) (.fz (.int (rb b))) (.fz (.int (wantG r x.g0 x.g1))) (.fz (.bool false)) e13) (eval_own_ _ _ (by rw [ap_vL, addS_eq 2 14 10 _ x.a x.b b rfl rfl rfl (by decide) (by decide)]; rfl) rfl) ?_
      refine eval_seq (envA r bs { x with a := x.a + i0 b, b := x.b + i1 b, m0 := x.m0 + i0 b, m1 := x.m1 + i1 b } sts (.fz (.int k)) (.fz (.int (rb b))) (.fz (.int (wantG r x.g0 x.g1))) (.fz (.bool false)) e13) (eval_own_ _ _ (by rw [ap_vL, addS_eq 6 14 10 _ x.m0 x.m1 b rfl rfl rfl (by decide) (by decide)]; rfl) rfl) ?_
      have o0 : dIx (.list [.int (x.a + 1), .int x.b]) (.int 0) = some (.int (x.a + 1)) := rfl
      cases b <;> simp -implicitDefEqProofs only [envA, ap_runB, ap_sSeq, ap_sNil, ap_sIf, ap_sRet, ap_sRetN, ap_sSet, ap_sOwn, ap_sPar, ap_sAsg, ap_sDrop, ap_sFz, ap_sFor, ap_sApp, ap_sAugI, ap_sRaise, ap_sBreak, ap_vT, ap_v2, ap_vVar, ap_vBor, ap_vC, ap_vIf, ap_vAnd, ap_vOr, ap_vNot, ap_bAnd, ap_bOr, ap_bNot, ap_bYes, ap_vCall, ap_aNil, ap_aCons, ap_aDr, ap_aOwn, ap_vTup, ap_nLst, ap_nList, ap_vL, ap_vB, ap_vIsi, ap_vChain, ap_vIxV, ap_vLenV, ap_vSl, ap_oNone, ap_oSome, ap_wSeq, ap_wArg, ap_vMeth, ap_vRev, ap_nLc, ap_tgName, ap_nCall, ap_vCallB, ap_aBor, nd_int, nd_bool, nd_str, nd_list, nd_tup, nd_none, nd_r, nd_s, nd_Ro, ap_kVar, ap_kOf, ap_vInK, ap_vNiK, ap_vIxK, ap_sPutK, ap_vGetK, ap_vGet1, ap_vLenK, ap_wKeys, ap_kNil, ap_kOne, ap_vD, ap_sOwnK, ap_aOwnK, ap_nSort, ap_nSortK, ap_nSortS, ap_vFr, ap_vFk, ap_vAsk, ap_vMkM, ap_vMkF, ap_gVo, ap_aVo, ap_vEmp, ap_vAskP, ap_nListK, two_fz, noVs_1, bind_ret, bind_exc, ofO_some, fzs_nil, fzs_cons, setAll_nil, setAll_cons, asB_b, noOw_nil, noOw_cons, wipeE_nil, wipeE_cons, noExc_r, seqD_l, seqD_t, tgTup_ap, tgUnl_ap, ap_nLcX, ap_nSortV, ap_kPairs, tgCons_ap, tgNil_ap, List.cons_append, List.nil_append, List.replicate, List.set, List.getElem?_cons_zero, List.getElem?_cons_succ, Option.bind_some, Option.map_some, List.length_cons, List.length_nil, beq_self_eq_true, if_true, if_false, Bool.false_eq_true, Nat.reduceAdd, Nat.reduceSub, Nat.reduceBEq, Nat.zero_add, ↓reduceIte, reduceCtorEq, decide_true, decide_false, Bool.true_and, Bool.and_true, Bool.false_and, Bool.and_false, Bool.or_true, Bool.true_or, Bool.or_false, Bool.false_or, Bool.not_true, Bool.not_false, Bool.and_self, Int.reduceLE, Int.reduceLT, Int.reduceToNat, Int.reduceSub, Int.reduceAdd, Int.reduceNeg, Nat.reduceLT, Nat.reduceLeDiff, rb_t, rb_f, ixl0, ixl1, i0, i1, sub_ii, Int.sub_self, Int.sub_zero, m_law_won_eq, Int.add_zero]
theorem gm_eval (r : Ru) (bs : List Bool) (x : Al) (sts : List D) (k many : Int) (b ov : Bool) (e13 : Ent) (u : Stm)
    (hu : u = (sIf (vT (vVar 12))
  (sSeq (sSet 3 (vL (addS 3 14 10)))
  (sSeq (sPar [2, 11] (aCons (vL (nLst (aCons (vC (.int 0)) (aCons (vC (.int 0)) (aNil))))) (aCons (vC (.int 9)) (aNil))))
  (sSet 8 (vIf (vT (v2 dIn (v2 dIx (vVar 0) (vC (.int 2))) (vVar 3))) (v2 dAdd (vVar 9) (vC (.int 1))) (vC .none)))))
  (sNil))) : u (envA r bs x sts (.fz (.int k)) (.fz (.int (rb b))) (.fz (.int many)) (.fz (.bool ov)) e13) =
    .ret (.nx (envA r bs (x.gm r b ov k) sts (.fz (.int k)) (.fz (.int (rb b))) (.fz (.int (if ov then 9 else many))) (.fz (.bool ov)) e13)) := by
  subst hu
  cases ov with
  | false => exact eval_ifF rfl rfl
  | true =>
    refine eval_ifT rfl ?_
    refine eval_seq (envA r bs { x with g0 := x.g0 + i0 b, g1 := x.g1 + i1 b } sts (.fz (.int k)) (.fz (.int (rb b))) (.fz (.int many)) (.fz (.bool true)) e13) (eval_own_ _ _ (by rw [ap_vL, addS_eq 3 14 10 _ x.g0 x.g1 b rfl rfl rfl (by decide) (by decide)]; rfl) rfl) ?_
    refine eval_seq (envA r bs { x with a := 0, b := 0, g0 := x.g0 + i0 b, g1 := x.g1 + i1 b } sts (.fz (.int k)) (.fz (.int (rb b))) (.fz (.int 9)) (.fz (.bool true)) e13) rfl ?_
    cases h : (x.g0 + i0 b == r.g || x.g1 + i1 b == r.g) <;> simp -implicitDefEqProofs only [envA, ap_runB, ap_sSeq, ap_sNil, ap_sIf, ap_sRet, ap_sRetN, ap_sSet, ap_sOwn, ap_sPar, ap_sAsg, ap_sDrop, ap_sFz, ap_sFor, ap_sApp, ap_sAugI, ap_sRaise, ap_sBreak, ap_vT, ap_v2, ap_vVar, ap_vBor, ap_vC, ap_vIf, ap_vAnd, ap_vOr, ap_vNot, ap_bAnd, ap_bOr, ap_bNot, ap_bYes, ap_vCall, ap_aNil, ap_aCons, ap_aDr, ap_aOwn, ap_vTup, ap_nLst, ap_nList, ap_vL, ap_vB, ap_vIsi, ap_vChain, ap_vIxV, ap_vLenV, ap_vSl, ap_oNone, ap_oSome, ap_wSeq, ap_wArg, ap_vMeth, ap_vRev, ap_nLc, ap_tgName, ap_nCall, ap_vCallB, ap_aBor, nd_int, nd_bool, nd_str, nd_list, nd_tup, nd_none, nd_r, nd_s, nd_Ro, ap_kVar, ap_kOf, ap_vInK, ap_vNiK, ap_vIxK, ap_sPutK, ap_vGetK, ap_vGet1, ap_vLenK, ap_wKeys, ap_kNil, ap_kOne, ap_vD, ap_sOwnK, ap_aOwnK, ap_nSort, ap_nSortK, ap_nSortS, ap_vFr, ap_vFk, ap_vAsk, ap_vMkM, ap_vMkF, ap_gVo, ap_aVo, ap_vEmp, ap_vAskP, ap_nListK, two_fz, noVs_1, bind_ret, bind_exc, ofO_some, fzs_nil, fzs_cons, setAll_nil, setAll_cons, asB_b, noOw_nil, noOw_cons, wipeE_nil, wipeE_cons, noExc_r, seqD_l, seqD_t, tgTup_ap, tgUnl_ap, ap_nLcX, ap_nSortV, ap_kPairs, tgCons_ap, tgNil_ap, List.cons_append, List.nil_append, List.replicate, List.set, List.getElem?_cons_zero, List.getElem?_cons_succ, Option.bind_some, Option.map_some, List.length_cons, List.length_nil, beq_self_eq_true, if_true, if_false, Bool.false_eq_true, Nat.reduceAdd, Nat.reduceSub, Nat.reduceBEq, Nat.zero_add, ↓reduceIte, reduceCtorEq, decide_true, decide_false, Bool.true_and, Bool.and_true, Bool.false_and, Bool.and_false, Bool.or_true, Bool.true_or, Bool.or_false, Bool.false_or, Bool.not_true, Bool.not_false, Bool.and_self, Int.reduceLE, Int.reduceLT, Int.reduceToNat, Int.reduceSub, Int.reduceAdd, Int.reduceNeg, Nat.reduceLT, Nat.reduceLeDiff, r2, in2l, h, add_ii, Al.gm, enD]
theorem srv_eval (r : Ru) (bs : List Bool) (x : Al) (sts : List D) (k many : Int) (b ov : Bool) (e13 : Ent) (u : Stm)
    (hu : u = (sIf (vT (v2 dIn (v2 dIx (vVar 0) (vC (.int 4))) (vTup (aCons (vC (.str "winner")) (aCons (vC (.str "only")) (aNil))))))
  (sSet 4 (vVar 10))
  (sIf (bOr (vT (v2 dEq (v2 dIx (vVar 0) (vC (.int 4))) (vC (.str "games")))) (vT (vVar 12)))
  (sPar [4, 5] (aCons (v2 dMod (v2 dAdd (v2 dIx (vVar 3) (vC (.int 0))) (v2 dIx (vVar 3) (vC (.int 1)))) (vC (.int 2))) (aCons (vC (.int 0)) (aNil))))
  (sPar [4, 5] (aCons (vIf (vT (v2 dEq (vVar 5) (vC (.int 0)))) (vVar 4) (v2 dSub (vC (.int 1)) (vVar 4))) (aCons (v2 dSub (vC (.int 1)) (vVar 5)) (aNil))))))) : u (envA r bs x sts (.fz (.int k)) (.fz (.int (rb b))) (.fz (.int many)) (.fz (.bool ov)) e13) =
    .ret (.nx (envA r bs (x.srv r b ov) sts (.fz (.int k)) (.fz (.int (rb b))) (.fz (.int many)) (.fz (.bool ov)) e13)) := by
  subst hu
  have sm : small 2 = true := rfl
  cases c1 : (decide (r.s = .winner) || decide (r.s = .only)) with
  | true => simp -implicitDefEqProofs only [envA, ap_runB, ap_sSeq, ap_sNil, ap_sIf, ap_sRet, ap_sRetN, ap_sSet, ap_sOwn, ap_sPar, ap_sAsg, ap_sDrop, ap_sFz, ap_sFor, ap_sApp, ap_sAugI, ap_sRaise, ap_sBreak, ap_vT, ap_v2, ap_vVar, ap_vBor, ap_vC, ap_vIf, ap_vAnd, ap_vOr, ap_vNot, ap_bAnd, ap_bOr, ap_bNot, ap_bYes, ap_vCall, ap_aNil, ap_aCons, ap_aDr, ap_aOwn, ap_vTup, ap_nLst, ap_nList, ap_vL, ap_vB, ap_vIsi, ap_vChain, ap_vIxV, ap_vLenV, ap_vSl, ap_oNone, ap_oSome, ap_wSeq, ap_wArg, ap_vMeth, ap_vRev, ap_nLc, ap_tgName, ap_nCall, ap_vCallB, ap_aBor, nd_int, nd_bool, nd_str, nd_list, nd_tup, nd_none, nd_r, nd_s, nd_Ro, ap_kVar, ap_kOf, ap_vInK, ap_vNiK, ap_vIxK, ap_sPutK, ap_vGetK, ap_vGet1, ap_vLenK, ap_wKeys, ap_kNil, ap_kOne, ap_vD, ap_sOwnK, ap_aOwnK, ap_nSort, ap_nSortK, ap_nSortS, ap_vFr, ap_vFk, ap_vAsk, ap_vMkM, ap_vMkF, ap_gVo, ap_aVo, ap_vEmp, ap_vAskP, ap_nListK, two_fz, noVs_1, bind_ret, bind_exc, ofO_some, fzs_nil, fzs_cons, setAll_nil, setAll_cons, asB_b, noOw_nil, noOw_cons, wipeE_nil, wipeE_cons, noExc_r, seqD_l, seqD_t, tgTup_ap, tgUnl_ap, ap_nLcX, ap_nSortV, ap_kPairs, tgCons_ap, tgNil_ap, List.cons_append, List.nil_append, List.replicate, List.set, List.getElem?_cons_zero, List.getElem?_cons_succ, Option.bind_some, Option.map_some, List.length_cons, List.length_nil, beq_self_eq_true, if_true, if_false, Bool.false_eq_true, Nat.reduceAdd, Nat.reduceSub, Nat.reduceBEq, Nat.zero_add, ↓reduceIte, reduceCtorEq, decide_true, decide_false, Bool.true_and, Bool.and_true, Bool.false_and, Bool.and_false, Bool.or_true, Bool.true_or, Bool.or_false, Bool.false_or, Bool.not_true, Bool.not_false, Bool.and_self, Int.reduceLE, Int.reduceLT, Int.reduceToNat, Int.reduceSub, Int.reduceAdd, Int.reduceNeg, Nat.reduceLT, Nat.reduceLeDiff, r4, sm, sv_in, c1, Al.srv]
  | false =>
    cases c2 : (decide (r.s = .games) || ov) with
    | true =>
      cases h : decide (r.s = .games) with
      | true => simp -implicitDefEqProofs only [envA, ap_runB, ap_sSeq, ap_sNil, ap_sIf, ap_sRet, ap_sRetN, ap_sSet, ap_sOwn, ap_sPar, ap_sAsg, ap_sDrop, ap_sFz, ap_sFor, ap_sApp, ap_sAugI, ap_sRaise, ap_sBreak, ap_vT, ap_v2, ap_vVar, ap_vBor, ap_vC, ap_vIf, ap_vAnd, ap_vOr, ap_vNot, ap_bAnd, ap_bOr, ap_bNot, ap_bYes, ap_vCall, ap_aNil, ap_aCons, ap_aDr, ap_aOwn, ap_vTup, ap_nLst, ap_nList, ap_vL, ap_vB, ap_vIsi, ap_vChain, ap_vIxV, ap_vLenV, ap_vSl, ap_oNone, ap_oSome, ap_wSeq, ap_wArg, ap_vMeth, ap_vRev, ap_nLc, ap_tgName, ap_nCall, ap_vCallB, ap_aBor, nd_int, nd_bool, nd_str, nd_list, nd_tup, nd_none, nd_r, nd_s, nd_Ro, ap_kVar, ap_kOf, ap_vInK, ap_vNiK, ap_vIxK, ap_sPutK, ap_vGetK, ap_vGet1, ap_vLenK, ap_wKeys, ap_kNil, ap_kOne, ap_vD, ap_sOwnK, ap_aOwnK, ap_nSort, ap_nSortK, ap_nSortS, ap_vFr, ap_vFk, ap_vAsk, ap_vMkM, ap_vMkF, ap_gVo, ap_aVo, ap_vEmp, ap_vAskP, ap_nListK, two_fz, noVs_1, bind_ret, bind_exc, ofO_some, fzs_nil, fzs_cons, setAll_nil, setAll_cons, asB_b, noOw_nil, noOw_cons, wipeE_nil, wipeE_cons, noExc_r, seqD_l, seqD_t, tgTup_ap, tgUnl_ap, ap_nLcX, ap_nSortV, ap_kPairs, tgCons_ap, tgNil_ap, List.cons_append, List.nil_append, List.replicate, List.set, List.getElem?_cons_zero, List.getElem?_cons_succ, Option.bind_some, Option.map_some, List.length_cons, List.length_nil, beq_self_eq_true, if_true, if_false, Bool.false_eq_true, Nat.reduceAdd, Nat.reduceSub, Nat.reduceBEq, Nat.zero_add, ↓reduceIte, reduceCtorEq, decide_true, decide_false, Bool.true_and, Bool.and_true, Bool.false_and, Bool.and_false, Bool.or_true, Bool.true_or, Bool.or_false, Bool.false_or, Bool.not_true, Bool.not_false, Bool.and_self, Int.reduceLE, Int.reduceLT, Int.reduceToNat, Int.reduceSub, Int.reduceAdd, Int.reduceNeg, Nat.reduceLT, Nat.reduceLeDiff, r4, sm, sv_in, c1, sv_games, h, ixl0, ixl1, add_ii, mod2, Al.srv]
      | false =>
        rw [h] at c2
        have c3 : ov = true := c2
        simp -implicitDefEqProofs only [envA, ap_runB, ap_sSeq, ap_sNil, ap_sIf, ap_sRet, ap_sRetN, ap_sSet, ap_sOwn, ap_sPar, ap_sAsg, ap_sDrop, ap_sFz, ap_sFor, ap_sApp, ap_sAugI, ap_sRaise, ap_sBreak, ap_vT, ap_v2, ap_vVar, ap_vBor, ap_vC, ap_vIf, ap_vAnd, ap_vOr, ap_vNot, ap_bAnd, ap_bOr, ap_bNot, ap_bYes, ap_vCall, ap_aNil, ap_aCons, ap_aDr, ap_aOwn, ap_vTup, ap_nLst, ap_nList, ap_vL, ap_vB, ap_vIsi, ap_vChain, ap_vIxV, ap_vLenV, ap_vSl, ap_oNone, ap_oSome, ap_wSeq, ap_wArg, ap_vMeth, ap_vRev, ap_nLc, ap_tgName, ap_nCall, ap_vCallB, ap_aBor, nd_int, nd_bool, nd_str, nd_list, nd_tup, nd_none, nd_r, nd_s, nd_Ro, ap_kVar, ap_kOf, ap_vInK, ap_vNiK, ap_vIxK, ap_sPutK, ap_vGetK, ap_vGet1, ap_vLenK, ap_wKeys, ap_kNil, ap_kOne, ap_vD, ap_sOwnK, ap_aOwnK, ap_nSort, ap_nSortK, ap_nSortS, ap_vFr, ap_vFk, ap_vAsk, ap_vMkM, ap_vMkF, ap_gVo, ap_aVo, ap_vEmp, ap_vAskP, ap_nListK, two_fz, noVs_1, bind_ret, bind_exc, ofO_some, fzs_nil, fzs_cons, setAll_nil, setAll_cons, asB_b, noOw_nil, noOw_cons, wipeE_nil, wipeE_cons, noExc_r, seqD_l, seqD_t, tgTup_ap, tgUnl_ap, ap_nLcX, ap_nSortV, ap_kPairs, tgCons_ap, tgNil_ap, List.cons_append, List.nil_append, List.replicate, List.set, List.getElem?_cons_zero, List.getElem?_cons_succ, Option.bind_some, Option.map_some, List.length_cons, List.length_nil, beq_self_eq_true, if_true, if_false, Bool.false_eq_true, Nat.reduceAdd, Nat.reduceSub, Nat.reduceBEq, Nat.zero_add, ↓reduceIte, reduceCtorEq, decide_true, decide_false, Bool.true_and, Bool.and_true, Bool.false_and, Bool.and_false, Bool.or_true, Bool.true_or, Bool.or_false, Bool.false_or, Bool.not_true, Bool.not_false, Bool.and_self, Int.reduceLE, Int.reduceLT, Int.reduceToNat, Int.reduceSub, Int.reduceAdd, Int.reduceNeg, Nat.reduceLT, Nat.reduceLeDiff, r4, sm, sv_in, c1, sv_games, h, c3, ixl0, ixl1, add_ii, mod2, Al.srv]
    | false =>
      rw [Bool.or_eq_false_iff] at c2
      cases ht : (x.tn == 0) <;> simp -implicitDefEqProofs only [envA, ap_runB, ap_sSeq, ap_sNil, ap_sIf, ap_sRet, ap_sRetN, ap_sSet, ap_sOwn, ap_sPar, ap_sAsg, ap_sDrop, ap_sFz, ap_sFor, ap_sApp, ap_sAugI, ap_sRaise, ap_sBreak, ap_vT, ap_v2, ap_vVar, ap_vBor, ap_vC, ap_vIf, ap_vAnd, ap_vOr, ap_vNot, ap_bAnd, ap_bOr, ap_bNot, ap_bYes, ap_vCall, ap_aNil, ap_aCons, ap_aDr, ap_aOwn, ap_vTup, ap_nLst, ap_nList, ap_vL, ap_vB, ap_vIsi, ap_vChain, ap_vIxV, ap_vLenV, ap_vSl, ap_oNone, ap_oSome, ap_wSeq, ap_wArg, ap_vMeth, ap_vRev, ap_nLc, ap_tgName, ap_nCall, ap_vCallB, ap_aBor, nd_int, nd_bool, nd_str, nd_list, nd_tup, nd_none, nd_r, nd_s, nd_Ro, ap_kVar, ap_kOf, ap_vInK, ap_vNiK, ap_vIxK, ap_sPutK, ap_vGetK, ap_vGet1, ap_vLenK, ap_wKeys, ap_kNil, ap_kOne, ap_vD, ap_sOwnK, ap_aOwnK, ap_nSort, ap_nSortK, ap_nSortS, ap_vFr, ap_vFk, ap_vAsk, ap_vMkM, ap_vMkF, ap_gVo, ap_aVo, ap_vEmp, ap_vAskP, ap_nListK, two_fz, noVs_1, bind_ret, bind_exc, ofO_some, fzs_nil, fzs_cons, setAll_nil, setAll_cons, asB_b, noOw_nil, noOw_cons, wipeE_nil, wipeE_cons, noExc_r, seqD_l, seqD_t, tgTup_ap, tgUnl_ap, ap_nLcX, ap_nSortV, ap_kPairs, tgCons_ap, tgNil_ap, List.cons_append, List.nil_append, List.replicate, List.set, List.getElem?_cons_zero, List.getElem?_cons_succ, Option.bind_some, Option.map_some, List.length_cons, List.length_nil, beq_self_eq_true, if_true, if_false, Bool.false_eq_true, Nat.reduceAdd, Nat.reduceSub, Nat.reduceBEq, Nat.zero_add, ↓reduceIte, reduceCtorEq, decide_true, decide_false, Bool.true_and, Bool.and_true, Bool.false_and, Bool.and_false, Bool.or_true, Bool.true_or, Bool.or_false, Bool.false_or, Bool.not_true, Bool.not_false, Bool.and_self, Int.reduceLE, Int.reduceLT, Int.reduceToNat, Int.reduceSub, Int.reduceAdd, Int.reduceNeg, Nat.reduceLT, Nat.reduceLeDiff, r4, sm, sv_in, c1, sv_games, c2.1, c2.2, eq_ii, ht, sub_ii, Al.srv]
theorem along_body (r : Ru) (bs : List Bool) (x : Al) (sts : List Sta) (k : Nat) (hk : k < bs.length) (hs : sts.length ≤ 1000) (he : (x.g0 == r.g || x.g1 == r.g) = false) (e9 e10 e11 e12 e13 : Ent) :
    ∃ e11' e12' e13', alongB (envA r bs x (sts.map Sta.e) (.fz (.int (k : Nat))) e10 e11 e12 e13) = .ret (.nx (envA r bs (x.go r bs[k] (k : Nat)) ((sts ++ [x.app r bs[k] (k : Nat)]).map Sta.e) (.fz (.int (k : Nat))) (.fz (.int (rb bs[k]))) e11' e12' e13')) := by
  have e1 := Ro_ix bs k hk
  generalize hb : bs[k] = b at e1
  refine ⟨.fz (.int (if x.over r b then 9 else wantG r x.g0 x.g1)), .fz (.bool (x.over r b)), .fz (.tuple [.int (foldL r.l (if x.over r b then 9 else wantG r x.g0 x.g1) (x.go r b (k : Nat)).a (x.go r b (k : Nat)).b).1, .int (foldL r.l (if x.over r b then 9 else wantG r x.g0 x.g1) (x.go r b (k : Nat)).a (x.go r b (k : Nat)).b).2]), ?_⟩
  unfold alongB
  refine eval_seq (envA r bs x (sts.map Sta.e) (.fz (.int (k : Nat))) (.fz (.int (rb b))) e11 e12 e13) (eval_own_ _ _ (by simp -implicitDefEqProofs only [envA, ap_runB, ap_sSeq, ap_sNil, ap_sIf, ap_sRet, ap_sRetN, ap_sSet, ap_sOwn, ap_sPar, ap_sAsg, ap_sDrop, ap_sFz, ap_sFor, ap_sApp, ap_sAugI, ap_sRaise, ap_sBreak, ap_vT, ap_v2, ap_vVar, ap_vBor, ap_vC, ap_vIf, ap_vAnd, ap_vOr, ap_vNot, ap_bAnd, ap_bOr, ap_bNot, ap_bYes, ap_vCall, ap_aNil, ap_aCons, ap_aDr, ap_aOwn, ap_vTup, ap_nLst, ap_nList, ap_vL, ap_vB, ap_vIsi, ap_vChain, ap_vIxV, ap_vLenV, ap_vSl, ap_oNone, ap_oSome, ap_wSeq, ap_wArg, ap_vMeth, ap_vRev, ap_nLc, ap_tgName, ap_nCall, ap_vCallB, ap_aBor, nd_int, nd_bool, nd_str, nd_list, nd_tup, nd_none, nd_r, nd_s, nd_Ro, ap_kVar, ap_kOf, ap_vInK, ap_vNiK, ap_vIxK, ap_sPutK, ap_vGetK, ap_vGet1, ap_vLenK, ap_wKeys, ap_kNil, ap_kOne, ap_vD, ap_sOwnK, ap_aOwnK, ap_nSort, ap_nSortK, ap_nSortS, ap_vFr, ap_vFk, ap_vAsk, ap_vMkM, ap_vMkF, ap_gVo, ap_aVo, ap_vEmp, ap_vAskP, ap_nListK, two_fz, noVs_1, bind_ret, bind_exc, ofO_some, fzs_nil, fzs_cons, setAll_nil, setAll_cons, asB_b, noOw_nil, noOw_cons, wipeE_nil, wipeE_cons, noExc_r, seqD_l, seqD_t, tgTup_ap, tgUnl_ap, ap_nLcX, ap_nSortV, ap_kPairs, tgCons_ap, tgNil_ap, List.cons_append, List.nil_append, List.replicate, List.set, List.getElem?_cons_zero, List.getElem?_cons_succ, Option.bind_some, Option.map_some, List.length_cons, List.length_nil, beq_self_eq_true, if_true, if_false, Bool.false_eq_true, Nat.reduceAdd, Nat.reduceSub, Nat.reduceBEq, Nat.zero_add, ↓reduceIte, reduceCtorEq, decide_true, decide_false, Bool.true_and, Bool.and_true, Bool.false_and, Bool.and_false, Bool.or_true, Bool.true_or, Bool.or_false, Bool.false_or, Bool.not_true, Bool.not_false, Bool.and_self, Int.reduceLE, Int.reduceLT, Int.reduceToNat, Int.reduceSub, Int.reduceAdd, Int.reduceNeg, Nat.reduceLT, Nat.reduceLeDiff, e1]) rfl) ?_
  refine eval_ifT (by simp -implicitDefEqProofs only [envA, ap_runB, ap_sSeq, ap_sNil, ap_sIf, ap_sRet, ap_sRetN, ap_sSet, ap_sOwn, ap_sPar, ap_sAsg, ap_sDrop, ap_sFz, ap_sFor, ap_sApp, ap_sAugI, ap_sRaise, ap_sBreak, ap_vT, ap_v2, ap_vVar, ap_vBor, ap_vC, ap_vIf, ap_vAnd, ap_vOr, ap_vNot, ap_bAnd, ap_bOr, ap_bNot, ap_bYes, ap_vCall, ap_aNil, ap_aCons, ap_aDr, ap_aOwn, ap_vTup, ap_nLst, ap_nList, ap_vL, ap_vB, ap_vIsi, ap_vChain, ap_vIxV, ap_vLenV, ap_vSl, ap_oNone, ap_oSome, ap_wSeq, ap_wArg, ap_vMeth, ap_vRev, ap_nLc, ap_tgName, ap_nCall, ap_vCallB, ap_aBor, nd_int, nd_bool, nd_str, nd_list, nd_tup, nd_none, nd_r, nd_s, nd_Ro, ap_kVar, ap_kOf, ap_vInK, ap_vNiK, ap_vIxK, ap_sPutK, ap_vGetK, ap_vGet1, ap_vLenK, ap_wKeys, ap_kNil, ap_kOne, ap_vD, ap_sOwnK, ap_aOwnK, ap_nSort, ap_nSortK, ap_nSortS, ap_vFr, ap_vFk, ap_vAsk, ap_vMkM, ap_vMkF, ap_gVo, ap_aVo, ap_vEmp, ap_vAskP, ap_nListK, two_fz, noVs_1, bind_ret, bind_exc, ofO_some, fzs_nil, fzs_cons, setAll_nil, setAll_cons, asB_b, noOw_nil, noOw_cons, wipeE_nil, wipeE_cons, noExc_r, seqD_l, seqD_t, tgTup_ap, tgUnl_ap, ap_nLcX, ap_nSortV, ap_kPairs, tgCons_ap, tgNil_ap, List.cons_append, List.nil_append, List.replicate, List.set, List.getElem?_cons_zero, List.getElem?_cons_succ, Option.bind_some, Option.map_some, List.length_cons, List.length_nil, beq_self_eq_true, if_true, if_false, Bool.false_eq_true, Nat.reduceAdd, Nat.reduceSub, Nat.reduceBEq, Nat.zero_add, ↓reduceIte, reduceCtorEq, decide_true, decide_false, Bool.true_and, Bool.and_true, Bool.false_and, Bool.and_false, Bool.or_true, Bool.true_or, Bool.or_false, Bool.false_or, Bool.not_true, Bool.not_false, Bool.and_self, Int.reduceLE, Int.reduceLT, Int.reduceToNat, Int.reduceSub, Int.reduceAdd, Int.reduceNeg, Nat.reduceLT, Nat.reduceLeDiff, r2, ni2l, he]) ?_
  refine eval_seq (envA r bs x (sts.map Sta.e) (.fz (.int (k : Nat))) (.fz (.int (rb b))) (.fz (.int (wantG r x.g0 x.g1))) (.fz (.bool false)) e13) (by simp -implicitDefEqProofs only [envA, ap_runB, ap_sSeq, ap_sNil, ap_sIf, ap_sRet, ap_sRetN, ap_sSet, ap_sOwn, ap_sPar, ap_sAsg, ap_sDrop, ap_sFz, ap_sFor, ap_sApp, ap_sAugI, ap_sRaise, ap_sBreak, ap_vT, ap_v2, ap_vVar, ap_vBor, ap_vC, ap_vIf, ap_vAnd, ap_vOr, ap_vNot, ap_bAnd, ap_bOr, ap_bNot, ap_bYes, ap_vCall, ap_aNil, ap_aCons, ap_aDr, ap_aOwn, ap_vTup, ap_nLst, ap_nList, ap_vL, ap_vB, ap_vIsi, ap_vChain, ap_vIxV, ap_vLenV, ap_vSl, ap_oNone, ap_oSome, ap_wSeq, ap_wArg, ap_vMeth, ap_vRev, ap_nLc, ap_tgName, ap_nCall, ap_vCallB, ap_aBor, nd_int, nd_bool, nd_str, nd_list, nd_tup, nd_none, nd_r, nd_s, nd_Ro, ap_kVar, ap_kOf, ap_vInK, ap_vNiK, ap_vIxK, ap_sPutK, ap_vGetK, ap_vGet1, ap_vLenK, ap_wKeys, ap_kNil, ap_kOne, ap_vD, ap_sOwnK, ap_aOwnK, ap_nSort, ap_nSortK, ap_nSortS, ap_vFr, ap_vFk, ap_vAsk, ap_vMkM, ap_vMkF, ap_gVo, ap_aVo, ap_vEmp, ap_vAskP, ap_nListK, two_fz, noVs_1, bind_ret, bind_exc, ofO_some, fzs_nil, fzs_cons, setAll_nil, setAll_cons, asB_b, noOw_nil, noOw_cons, wipeE_nil, wipeE_cons, noExc_r, seqD_l, seqD_t, tgTup_ap, tgUnl_ap, ap_nLcX, ap_nSortV, ap_kPairs, tgCons_ap, tgNil_ap, List.cons_append, List.nil_append, List.replicate, List.set, List.getElem?_cons_zero, List.getElem?_cons_succ, Option.bind_some, Option.map_some, List.length_cons, List.length_nil, beq_self_eq_true, if_true, if_false, Bool.false_eq_true, Nat.reduceAdd, Nat.reduceSub, Nat.reduceBEq, Nat.zero_add, ↓reduceIte, reduceCtorEq, decide_true, decide_false, Bool.true_and, Bool.and_true, Bool.false_and, Bool.and_false, Bool.or_true, Bool.true_or, Bool.or_false, Bool.false_or, Bool.not_true, Bool.not_false, Bool.and_self, Int.reduceLE, Int.reduceLT, Int.reduceToNat, Int.reduceSub, Int.reduceAdd, Int.reduceNeg, Nat.reduceLT, Nat.reduceLeDiff, m_law_wanted_eq]) ?_
  refine eval_seq _ (pt_eval r bs x (sts.map Sta.e) k b e13 _ rfl) ?_
  refine eval_seq _ (gm_eval r bs (x.pt r b) (sts.map Sta.e) k (wantG r x.g0 x.g1) b (x.over r b) e13 _ rfl) ?_
  refine eval_seq _ (srv_eval r bs ((x.pt r b).gm r b (x.over r b) k) (sts.map Sta.e) k (if x.over r b then 9 else wantG r x.g0 x.g1) b (x.over r b) e13 _ rfl) ?_
  have sl : small (sts.map Sta.e).length = true := small_of (by rw [List.length_map]; omega)
  have gx0 : ∀ a b : Int, dIx (.tuple [.int a, .int b]) (.int 0) = some (.int a) := fun _ _ => rfl
  have gx1 : ∀ a b : Int, dIx (.tuple [.int a, .int b]) (.int 1) = some (.int b) := fun _ _ => rfl
  have sm6 : small 6 = true := rfl
  simp -implicitDefEqProofs only [envA, ap_runB, ap_sSeq, ap_sNil, ap_sIf, ap_sRet, ap_sRetN, ap_sSet, ap_sOwn, ap_sPar, ap_sAsg, ap_sDrop, ap_sFz, ap_sFor, ap_sApp, ap_sAugI, ap_sRaise, ap_sBreak, ap_vT, ap_v2, ap_vVar, ap_vBor, ap_vC, ap_vIf, ap_vAnd, ap_vOr, ap_vNot, ap_bAnd, ap_bOr, ap_bNot, ap_bYes, ap_vCall, ap_aNil, ap_aCons, ap_aDr, ap_aOwn, ap_vTup, ap_nLst, ap_nList, ap_vL, ap_vB, ap_vIsi, ap_vChain, ap_vIxV, ap_vLenV, ap_vSl, ap_oNone, ap_oSome, ap_wSeq, ap_wArg, ap_vMeth, ap_vRev, ap_nLc, ap_tgName, ap_nCall, ap_vCallB, ap_aBor, nd_int, nd_bool, nd_str, nd_list, nd_tup, nd_none, nd_r, nd_s, nd_Ro, ap_kVar, ap_kOf, ap_vInK, ap_vNiK, ap_vIxK, ap_sPutK, ap_vGetK, ap_vGet1, ap_vLenK, ap_wKeys, ap_kNil, ap_kOne, ap_vD, ap_sOwnK, ap_aOwnK, ap_nSort, ap_nSortK, ap_nSortS, ap_vFr, ap_vFk, ap_vAsk, ap_vMkM, ap_vMkF, ap_gVo, ap_aVo, ap_vEmp, ap_vAskP, ap_nListK, two_fz, noVs_1, bind_ret, bind_exc, ofO_some, fzs_nil, fzs_cons, setAll_nil, setAll_cons, asB_b, noOw_nil, noOw_cons, wipeE_nil, wipeE_cons, noExc_r, seqD_l, seqD_t, tgTup_ap, tgUnl_ap, ap_nLcX, ap_nSortV, ap_kPairs, tgCons_ap, tgNil_ap, List.cons_append, List.nil_append, List.replicate, List.set, List.getElem?_cons_zero, List.getElem?_cons_succ, Option.bind_some, Option.map_some, List.length_cons, List.length_nil, beq_self_eq_true, if_true, if_false, Bool.false_eq_true, Nat.reduceAdd, Nat.reduceSub, Nat.reduceBEq, Nat.zero_add, ↓reduceIte, reduceCtorEq, decide_true, decide_false, Bool.true_and, Bool.and_true, Bool.false_and, Bool.and_false, Bool.or_true, Bool.true_or, Bool.or_false, Bool.false_or, Bool.not_true, Bool.not_false, Bool.and_self, Int.reduceLE, Int.reduceLT, Int.reduceToNat, Int.reduceSub, Int.reduceAdd, Int.reduceNeg, Nat.reduceLT, Nat.reduceLeDiff, m_law_folded_eq, gx0, gx1, ixl0, ixl1, sl, sm6, List.map_append, List.map_cons, List.map_nil, Al.go, Al.app, Al.st, Sta.e]
theorem for_ix {i : Nat} {u : Stm} (I : Nat → Envt → Prop) : ∀ {ds : List D} (k0 : Nat), (∀ (k : Nat) (hk : k < ds.length) env, I (k0 + k) env → ∃ env', u (env.set i (.fz ds[k])) = .ret (.nx env') ∧ I (k0 + k + 1) env') → ∀ env, I k0 env → ∃ env', sForL (tgName i) u ds env = .ret (.nx env') ∧ I (k0 + ds.length) env'
  | [], _, _, env, h => ⟨env, rfl, h⟩
  | d :: ds, k0, hu, env, h => by
    obtain ⟨e1, h1, h2⟩ := hu 0 (Nat.zero_lt_succ _) env h
    obtain ⟨e2, h3, h4⟩ := for_ix I (ds := ds) (k0 + 1) (fun k hk env he => by
      have := hu (k + 1) (Nat.succ_lt_succ hk) env (by rw [show k0 + (k + 1) = k0 + 1 + k by omega]; exact he)
      rw [show k0 + (k + 1) + 1 = k0 + 1 + k + 1 by omega] at this
      exact this) e1 h2
    refine ⟨e2, ?_, by rw [List.length_cons, show k0 + (ds.length + 1) = k0 + 1 + ds.length by omega]; exact h4⟩
    show (match tgName i d env with | some env1 => (u env1).bind _ | none => .bad) = _
    show (u (env.set i (.fz d))).bind _ = _
    have h1 : u (env.set i (.fz d)) = .ret (.nx e1) := h1
    rw [h1]
    exact h3
theorem rangeD_get (lo : Int) (n k : Nat) (h : k < (rangeD lo n).length) : (rangeD lo n)[k] = .int (lo + (k : Nat)) := by
  simp [rangeD]
theorem rangeD_len (lo : Int) (n : Nat) : (rangeD lo n).length = n := by simp [rangeD]
theorem for_rg {i : Nat} {u : Stm} (I : Nat → Envt → Prop) (lo n : Nat) (hu : ∀ k, k < n → ∀ env, I k env → ∃ env', u (env.set i (.fz (.int ((lo + k : Nat) : Int)))) = .ret (.nx env') ∧ I (k + 1) env') (env : Envt) (h : I 0 env) : ∃ env', sForL (tgName i) u (rangeD lo n) env = .ret (.nx env') ∧ I n env' := by
  have := for_ix (i := i) (u := u) I (ds := rangeD lo n) 0 (fun k hk env he => by
    rw [rangeD_get]
    rw [rangeD_len] at hk
    rw [Nat.zero_add] at he ⊢
    have := hu k hk env he
    rw [show ((lo + k : Nat) : Int) = (lo : Int) + (k : Nat) by omega] at this
    exact this) env h
  rw [Nat.zero_add, rangeD_len] at this
  exact this
/-- where the match ended, as the law's own scorer tells it behind k rallies -/
def EnI (r : Ru) (bs : List Bool) (k : Nat) (en : Option Int) : Prop := (en = none ∧ endedM r (afterM r .start (bs.take k)) = false) ∨ ∃ n : Nat, en = some (n : Int) ∧ 1 ≤ n ∧ n ≤ k ∧ endedM r (afterM r .start (bs.take n)) = true ∧ ∀ m, m < n → endedM r (afterM r .start (bs.take m)) = false
structure AlK (r : Ru) (bs : List Bool) (k : Nat) (x : Al) : Prop where
  i : AlI r x
  s : x.st r (wantG r x.g0 x.g1) = afterM r .start (bs.take k)
  m0 : x.m0 = cK r .start (bs.take k) 0
  m1 : x.m1 = cK r .start (bs.take k) 1
  e : EnI r bs k x.en
theorem cK_snoc (r : Ru) : ∀ (bs : List Bool) (s : Sta) (b : Bool) (k : Int), cK r s (bs ++ [b]) k = cK r s bs k + (if makerM r (afterM r s bs) (rb b) && (rb b == k) then 1 else 0)
  | [], s, b, k => by rw [List.nil_append, cK_cons, cK_nil, cK_nil]; rfl
  | c :: bs, s, b, k => by
    rw [List.cons_append, cK_cons, cK_cons, cK_snoc r bs]
    show _ = _ + _ + (if makerM r (afterM r (stepM r s c) bs) (rb b) && (rb b == k) then 1 else 0)
    omega
theorem take_snoc {bs : List Bool} {k : Nat} (h : k < bs.length) : bs.take (k + 1) = bs.take k ++ [bs[k]] := by
  rw [List.take_succ, List.getElem?_eq_getElem h]; rfl
theorem sts_snoc (r : Ru) {bs : List Bool} {k : Nat} (h : k < bs.length) : stsM r (bs.take (k + 1)) = stsM r (bs.take k) ++ [afterM r .start (bs.take (k + 1))] := by
  apply List.ext_getElem?
  intro j
  have l1 : (bs.take k).length = k := by rw [List.length_take]; omega
  have l2 : (bs.take (k + 1)).length = k + 1 := by rw [List.length_take]; omega
  by_cases hj : j ≤ k
  · rw [List.getElem?_append_left (by rw [sts_length, l1]; omega)]
    unfold stsM
    rw [stsM_get r _ .start j (by rw [l2]; omega), stsM_get r _ .start j (by rw [l1]; exact hj), List.take_take, List.take_take]
    rw [show min j (k + 1) = j by omega, show min j k = j by omega]
  · by_cases hj2 : j = k + 1
    · subst hj2
      rw [List.getElem?_append_right (by rw [sts_length, l1]; omega), sts_length, l1, Nat.sub_self]
      unfold stsM
      rw [stsM_get r _ .start (k + 1) (by rw [l2]; omega), List.take_take, Nat.min_self]
      rfl
    · rw [List.getElem?_eq_none (by rw [sts_length, l2]; omega), List.getElem?_eq_none (by rw [List.length_append, sts_length, l1]; simp; omega)]
theorem alk_start {r : Ru} (hr : r.ok) (bs : List Bool) : AlK r bs 0 .start := by
  have h0 : endedM r .start = false := by
    have := hr.2.2.1
    simp [endedM, Sta.start]; omega
  refine ⟨al_start hr, ?_, rfl, rfl, .inl ⟨rfl, h0⟩⟩
  show Al.st r .start _ = Sta.start
  unfold Al.st Al.start
  rw [fold00 _ (want_ge hr _ _).1]; rfl
theorem gm_en (r : Ru) (x : Al) (b : Bool) (k : Int) : (x.go r b k).en = if x.over r b then (if x.g0 + i0 b == r.g || x.g1 + i1 b == r.g then some (k + 1) else none) else x.en := by
  unfold Al.go
  rw [(srv_keeps r _ b _).2.2.2.2.2.2]
  have pg : (x.pt r b).g0 = x.g0 ∧ (x.pt r b).g1 = x.g1 ∧ (x.pt r b).en = x.en := by unfold Al.pt; split <;> exact ⟨rfl, rfl, rfl⟩
  unfold Al.gm
  cases x.over r b
  · exact pg.2.2
  · simp only [if_true]; rw [pg.1, pg.2.1]
theorem go_g (r : Ru) (x : Al) (b : Bool) (k : Int) : (x.go r b k).g0 = (if x.over r b then x.g0 + i0 b else x.g0) ∧ (x.go r b k).g1 = (if x.over r b then x.g1 + i1 b else x.g1) := by
  unfold Al.go
  obtain ⟨_, _, q3, q4, _⟩ := srv_keeps r ((x.pt r b).gm r b (x.over r b) k) b (x.over r b)
  rw [q3, q4]
  have pg : (x.pt r b).g0 = x.g0 ∧ (x.pt r b).g1 = x.g1 := by unfold Al.pt; split <;> exact ⟨rfl, rfl⟩
  unfold Al.gm
  cases x.over r b
  · exact pg
  · simp only [if_true]; rw [pg.1, pg.2]; exact ⟨rfl, rfl⟩
theorem alk_go {r : Ru} (hr : r.ok) {bs : List Bool} {k : Nat} (hk : k < bs.length) {x : Al} (h : AlK r bs k x) (he : (x.g0 == r.g || x.g1 == r.g) = false) :
    AlK r bs (k + 1) (x.go r bs[k] (k : Nat)) ∧ x.app r bs[k] (k : Nat) = afterM r .start (bs.take (k + 1)) := by
  have he' : endedM r (x.st r (wantG r x.g0 x.g1)) = false := he
  obtain ⟨a1, a2, a3, a4, a5⟩ := al_go hr h.i he' bs[k] (k : Nat)
  have st := after_take r .start bs k hk
  rw [h.s] at a2 a3 he'
  rw [← st] at a2 a3
  have mk := maker_al (r := r) (x := x) (m := wantG r x.g0 x.g1) he bs[k]
  rw [h.s] at mk
  have eg : endedM r (afterM r .start (bs.take (k + 1))) = ((x.go r bs[k] (k : Nat)).g0 == r.g || (x.go r bs[k] (k : Nat)).g1 == r.g) := by rw [← a3]; rfl
  obtain ⟨g0, g1⟩ := go_g r x bs[k] (k : Nat)
  refine ⟨⟨a1, a3, ?_, ?_, ?_⟩, a2⟩
  · rw [a4, h.m0, take_snoc hk, cK_snoc, mk]
    cases x.mk? r bs[k] <;> cases bs[k] <;> rfl
  · rw [a5, h.m1, take_snoc hk, cK_snoc, mk]
    cases x.mk? r bs[k] <;> cases bs[k] <;> rfl
  · rcases h.e with ⟨e1, e2⟩ | ⟨n, _, n1, n2, n3, n4⟩
    · rw [gm_en]
      cases ho : x.over r bs[k] with
      | false =>
        refine .inl ⟨e1, ?_⟩
        rw [eg, g0, g1, ho]; exact he
      | true =>
        rw [ho] at g0 g1
        simp only [if_true] at g0 g1 ⊢
        rw [g0, g1] at eg
        cases hx : (x.g0 + i0 bs[k] == r.g || x.g1 + i1 bs[k] == r.g) with
        | false => exact .inl ⟨rfl, eg.trans hx⟩
        | true =>
          refine .inr ⟨k + 1, ?_, by omega, Nat.le_refl _, eg.trans hx, fun m hm => ?_⟩
          · show some ((k : Int) + 1) = _
            congr 1
          · by_cases hmk : m = k
            · rw [hmk]; exact he'
            · exact Bool.eq_false_iff.mpr fun q => by
                -- once ended, ended at k as well
                have : ∀ j, m ≤ j → j ≤ k → afterM r .start (bs.take j) = afterM r .start (bs.take m) := by
                  intro j
                  induction j with
                  | zero => intro h1 _; rw [show m = 0 by omega]
                  | succ j ih =>
                    intro h1 h2
                    by_cases hj : m = j + 1
                    · rw [hj]
                    · have e := ih (by omega) (by omega)
                      rw [after_take r .start bs j (by omega), e, ended_step q]
                rw [this k (by omega) (Nat.le_refl _), q] at he'
                cases he'
    · exfalso
      have : ∀ j, n ≤ j → j ≤ k → afterM r .start (bs.take j) = afterM r .start (bs.take n) := by
        intro j
        induction j with
        | zero => intro h1 _; rw [show n = 0 by omega]
        | succ j ih =>
          intro h1 h2
          by_cases hj : n = j + 1
          · rw [hj]
          · have e := ih (by omega) (by omega)
            rw [after_take r .start bs j (by omega), e, ended_step n3]
      rw [this k n2 (Nat.le_refl _), n3] at he'
      cases he'
theorem alk_end {r : Ru} {bs : List Bool} {k : Nat} (hk : k < bs.length) {x : Al} (h : AlK r bs k x) (he : (x.g0 == r.g || x.g1 == r.g) = true) : AlK r bs (k + 1) x ∧ afterM r .start (bs.take (k + 1)) = afterM r .start (bs.take k) := by
  have he' : endedM r (x.st r (wantG r x.g0 x.g1)) = true := he
  rw [h.s] at he'
  have st := after_take r .start bs k hk
  rw [ended_step he'] at st
  have mk : makerM r (afterM r .start (bs.take k)) (rb bs[k]) = false := by unfold makerM; rw [he']; rfl
  refine ⟨⟨h.i, by rw [st]; exact h.s, ?_, ?_, ?_⟩, st⟩
  · rw [h.m0, take_snoc hk, cK_snoc, mk]; simp
  · rw [h.m1, take_snoc hk, cK_snoc, mk]; simp
  · rcases h.e with ⟨e1, e2⟩ | ⟨n, q, n1, n2, n3, n4⟩
    · rw [e2] at he'; cases he'
    · exact .inr ⟨n, q, n1, by omega, n3, n4⟩
theorem along_loop {r : Ru} (hr : r.ok) (bs : List Bool) (hb : bs.length ≤ 60) (e9 e10 e11 e12 e13 : Ent) :
    ∃ x e9 e10 e11 e12 e13, AlK r bs bs.length x ∧ sForL (tgName 9) alongB (rangeD 0 bs.length) (envA r bs .start [Sta.start.e] .un .un .un .un .un) = .ret (.nx (envA r bs x ((stsM r bs).map Sta.e) e9 e10 e11 e12 e13)) := by
  obtain ⟨env', h1, x, e9, e10, e11, e12, e13, rfl, h2⟩ := for_rg (i := 9) (u := alongB) (fun k env => ∃ x e9 e10 e11 e12 e13, env = envA r bs x ((stsM r (bs.take k)).map Sta.e) e9 e10 e11 e12 e13 ∧ AlK r bs k x) 0 bs.length (fun k hk env hI => by
    obtain ⟨x, e9, e10, e11, e12, e13, rfl, h⟩ := hI
    rw [Nat.zero_add]
    have sl : (stsM r (bs.take k)).length ≤ 1000 := by rw [sts_length, List.length_take]; omega
    cases he : (x.g0 == r.g || x.g1 == r.g) with
    | false =>
      obtain ⟨h2, h3⟩ := alk_go hr hk h he
      obtain ⟨e11', e12', e13', h1⟩ := along_body r bs x (stsM r (bs.take k)) k hk sl he (.fz (.int (k : Nat))) e10 e11 e12 e13
      refine ⟨_, h1, _, .fz (.int (k : Nat)), .fz (.int (rb bs[k])), e11', e12', e13', ?_, h2⟩
      rw [h3, ← sts_snoc r hk]
    | true =>
      obtain ⟨h2, h3⟩ := alk_end hk h he
      have e1 := Ro_ix bs k hk
      have e2 := Rs_last r (bs.take k)
      refine ⟨envA r bs x ((stsM r (bs.take (k + 1))).map Sta.e) (.fz (.int (k : Nat))) (.fz (.int (rb bs[k]))) e11 e12 e13, ?_, _, _, _, _, _, _, rfl, h2⟩
      unfold alongB
      have e2 : dIx (.list ((stsM r (bs.take k)).map Sta.e)) (.int (-1)) = some (afterM r .start (bs.take k)).e := e2
      refine eval_seq (envA r bs x ((stsM r (bs.take k)).map Sta.e) (.fz (.int (k : Nat))) (.fz (.int (rb bs[k]))) e11 e12 e13) (eval_own_ _ _ (by simp -implicitDefEqProofs only [envA, ap_runB, ap_sSeq, ap_sNil, ap_sIf, ap_sRet, ap_sRetN, ap_sSet, ap_sOwn, ap_sPar, ap_sAsg, ap_sDrop, ap_sFz, ap_sFor, ap_sApp, ap_sAugI, ap_sRaise, ap_sBreak, ap_vT, ap_v2, ap_vVar, ap_vBor, ap_vC, ap_vIf, ap_vAnd, ap_vOr, ap_vNot, ap_bAnd, ap_bOr, ap_bNot, ap_bYes, ap_vCall, ap_aNil, ap_aCons, ap_aDr, ap_aOwn, ap_vTup, ap_nLst, ap_nList, ap_vL, ap_vB, ap_vIsi, ap_vChain, ap_vIxV, ap_vLenV, ap_vSl, ap_oNone, ap_oSome, ap_wSeq, ap_wArg, ap_vMeth, ap_vRev, ap_nLc, ap_tgName, ap_nCall, ap_vCallB, ap_aBor, nd_int, nd_bool, nd_str, nd_list, nd_tup, nd_none, nd_r, nd_s, nd_Ro, ap_kVar, ap_kOf, ap_vInK, ap_vNiK, ap_vIxK, ap_sPutK, ap_vGetK, ap_vGet1, ap_vLenK, ap_wKeys, ap_kNil, ap_kOne, ap_vD, ap_sOwnK, ap_aOwnK, ap_nSort, ap_nSortK, ap_nSortS, ap_vFr, ap_vFk, ap_vAsk, ap_vMkM, ap_vMkF, ap_gVo, ap_aVo, ap_vEmp, ap_vAskP, ap_nListK, two_fz, noVs_1, bind_ret, bind_exc, ofO_some, fzs_nil, fzs_cons, setAll_nil, setAll_cons, asB_b, noOw_nil, noOw_cons, wipeE_nil, wipeE_cons, noExc_r, seqD_l, seqD_t, tgTup_ap, tgUnl_ap, ap_nLcX, ap_nSortV, ap_kPairs, tgCons_ap, tgNil_ap, List.cons_append, List.nil_append, List.replicate, List.set, List.getElem?_cons_zero, List.getElem?_cons_succ, Option.bind_some, Option.map_some, List.length_cons, List.length_nil, beq_self_eq_true, if_true, if_false, Bool.false_eq_true, Nat.reduceAdd, Nat.reduceSub, Nat.reduceBEq, Nat.zero_add, ↓reduceIte, reduceCtorEq, decide_true, decide_false, Bool.true_and, Bool.and_true, Bool.false_and, Bool.and_false, Bool.or_true, Bool.true_or, Bool.or_false, Bool.false_or, Bool.not_true, Bool.not_false, Bool.and_self, Int.reduceLE, Int.reduceLT, Int.reduceToNat, Int.reduceSub, Int.reduceAdd, Int.reduceNeg, Nat.reduceLT, Nat.reduceLeDiff, e1]) rfl) ?_
      refine eval_ifF (by simp -implicitDefEqProofs only [envA, ap_runB, ap_sSeq, ap_sNil, ap_sIf, ap_sRet, ap_sRetN, ap_sSet, ap_sOwn, ap_sPar, ap_sAsg, ap_sDrop, ap_sFz, ap_sFor, ap_sApp, ap_sAugI, ap_sRaise, ap_sBreak, ap_vT, ap_v2, ap_vVar, ap_vBor, ap_vC, ap_vIf, ap_vAnd, ap_vOr, ap_vNot, ap_bAnd, ap_bOr, ap_bNot, ap_bYes, ap_vCall, ap_aNil, ap_aCons, ap_aDr, ap_aOwn, ap_vTup, ap_nLst, ap_nList, ap_vL, ap_vB, ap_vIsi, ap_vChain, ap_vIxV, ap_vLenV, ap_vSl, ap_oNone, ap_oSome, ap_wSeq, ap_wArg, ap_vMeth, ap_vRev, ap_nLc, ap_tgName, ap_nCall, ap_vCallB, ap_aBor, nd_int, nd_bool, nd_str, nd_list, nd_tup, nd_none, nd_r, nd_s, nd_Ro, ap_kVar, ap_kOf, ap_vInK, ap_vNiK, ap_vIxK, ap_sPutK, ap_vGetK, ap_vGet1, ap_vLenK, ap_wKeys, ap_kNil, ap_kOne, ap_vD, ap_sOwnK, ap_aOwnK, ap_nSort, ap_nSortK, ap_nSortS, ap_vFr, ap_vFk, ap_vAsk, ap_vMkM, ap_vMkF, ap_gVo, ap_aVo, ap_vEmp, ap_vAskP, ap_nListK, two_fz, noVs_1, bind_ret, bind_exc, ofO_some, fzs_nil, fzs_cons, setAll_nil, setAll_cons, asB_b, noOw_nil, noOw_cons, wipeE_nil, wipeE_cons, noExc_r, seqD_l, seqD_t, tgTup_ap, tgUnl_ap, ap_nLcX, ap_nSortV, ap_kPairs, tgCons_ap, tgNil_ap, List.cons_append, List.nil_append, List.replicate, List.set, List.getElem?_cons_zero, List.getElem?_cons_succ, Option.bind_some, Option.map_some, List.length_cons, List.length_nil, beq_self_eq_true, if_true, if_false, Bool.false_eq_true, Nat.reduceAdd, Nat.reduceSub, Nat.reduceBEq, Nat.zero_add, ↓reduceIte, reduceCtorEq, decide_true, decide_false, Bool.true_and, Bool.and_true, Bool.false_and, Bool.and_false, Bool.or_true, Bool.true_or, Bool.or_false, Bool.false_or, Bool.not_true, Bool.not_false, Bool.and_self, Int.reduceLE, Int.reduceLT, Int.reduceToNat, Int.reduceSub, Int.reduceAdd, Int.reduceNeg, Nat.reduceLT, Nat.reduceLeDiff, r2, ni2l, he]) ?_
      have sm : small ((stsM r (bs.take k)).map Sta.e).length = true := small_of (by rw [List.length_map]; omega)
      simp -implicitDefEqProofs only [envA, ap_runB, ap_sSeq, ap_sNil, ap_sIf, ap_sRet, ap_sRetN, ap_sSet, ap_sOwn, ap_sPar, ap_sAsg, ap_sDrop, ap_sFz, ap_sFor, ap_sApp, ap_sAugI, ap_sRaise, ap_sBreak, ap_vT, ap_v2, ap_vVar, ap_vBor, ap_vC, ap_vIf, ap_vAnd, ap_vOr, ap_vNot, ap_bAnd, ap_bOr, ap_bNot, ap_bYes, ap_vCall, ap_aNil, ap_aCons, ap_aDr, ap_aOwn, ap_vTup, ap_nLst, ap_nList, ap_vL, ap_vB, ap_vIsi, ap_vChain, ap_vIxV, ap_vLenV, ap_vSl, ap_oNone, ap_oSome, ap_wSeq, ap_wArg, ap_vMeth, ap_vRev, ap_nLc, ap_tgName, ap_nCall, ap_vCallB, ap_aBor, nd_int, nd_bool, nd_str, nd_list, nd_tup, nd_none, nd_r, nd_s, nd_Ro, ap_kVar, ap_kOf, ap_vInK, ap_vNiK, ap_vIxK, ap_sPutK, ap_vGetK, ap_vGet1, ap_vLenK, ap_wKeys, ap_kNil, ap_kOne, ap_vD, ap_sOwnK, ap_aOwnK, ap_nSort, ap_nSortK, ap_nSortS, ap_vFr, ap_vFk, ap_vAsk, ap_vMkM, ap_vMkF, ap_gVo, ap_aVo, ap_vEmp, ap_vAskP, ap_nListK, two_fz, noVs_1, bind_ret, bind_exc, ofO_some, fzs_nil, fzs_cons, setAll_nil, setAll_cons, asB_b, noOw_nil, noOw_cons, wipeE_nil, wipeE_cons, noExc_r, seqD_l, seqD_t, tgTup_ap, tgUnl_ap, ap_nLcX, ap_nSortV, ap_kPairs, tgCons_ap, tgNil_ap, List.cons_append, List.nil_append, List.replicate, List.set, List.getElem?_cons_zero, List.getElem?_cons_succ, Option.bind_some, Option.map_some, List.length_cons, List.length_nil, beq_self_eq_true, if_true, if_false, Bool.false_eq_true, Nat.reduceAdd, Nat.reduceSub, Nat.reduceBEq, Nat.zero_add, ↓reduceIte, reduceCtorEq, decide_true, decide_false, Bool.true_and, Bool.and_true, Bool.false_and, Bool.and_false, Bool.or_true, Bool.true_or, Bool.or_false, Bool.false_or, Bool.not_true, Bool.not_false, Bool.and_self, Int.reduceLE, Int.reduceLT, Int.reduceToNat, Int.reduceSub, Int.reduceAdd, Int.reduceNeg, Nat.reduceLT, Nat.reduceLeDiff, e2, sm]
      rw [sts_snoc r hk, List.map_append, h3]
      rfl) (envA r bs .start [Sta.start.e] .un .un .un .un .un) ⟨.start, _, _, _, _, _, rfl, alk_start hr bs⟩
  rw [List.take_length] at h1
  exact ⟨x, e9, e10, e11, e12, e13, h2, h1⟩
theorem m_law_along_eq {r : Ru} (hr : r.ok) (bs : List Bool) (hb : bs.length ≤ 60) : ∃ en, EnI r bs bs.length en ∧ m_law_along [.fz r.e, .fz (Ro bs)] = .ret (.tuple [Rs r bs, .tuple [.int (cK r .start bs 0), .int (cK r .start bs 1)], enD en]) := by
  obtain ⟨x, e9, e10, e11, e12, e13, h, lp⟩ := along_loop hr bs hb .un .un .un .un .un
  refine ⟨x.en, h.e, ?_⟩
  have m0 := h.m0
  have m1 := h.m1
  rw [List.take_length] at m0 m1
  rw [← m0, ← m1]
  unfold m_law_along
  rw [along_split]
  have sm3 : small 3 = true := rfl
  have rg := rng1_nat (n := bs.length) (by omega)
  refine eval_run (eval_seq [.fz r.e, .fz (Ro bs), .fz (.list [.int 0, .int 0]), .fz (.list [.int 0, .int 0]), .fz (.int 0), .fz (.int 0), .fz (.list [.int 0, .int 0]), .un, .un, .un, .un, .un, .un, .un, .un] rfl
    (eval_seq (envA r bs .start [Sta.start.e] .un .un .un .un .un) rfl (eval_seq _ (eval_for _ (ev_range1 (ev_len rfl (Ro_len bs)) rg) lp) ?_)))
  simp -implicitDefEqProofs only [envA, ap_runB, ap_sSeq, ap_sNil, ap_sIf, ap_sRet, ap_sRetN, ap_sSet, ap_sOwn, ap_sPar, ap_sAsg, ap_sDrop, ap_sFz, ap_sFor, ap_sApp, ap_sAugI, ap_sRaise, ap_sBreak, ap_vT, ap_v2, ap_vVar, ap_vBor, ap_vC, ap_vIf, ap_vAnd, ap_vOr, ap_vNot, ap_bAnd, ap_bOr, ap_bNot, ap_bYes, ap_vCall, ap_aNil, ap_aCons, ap_aDr, ap_aOwn, ap_vTup, ap_nLst, ap_nList, ap_vL, ap_vB, ap_vIsi, ap_vChain, ap_vIxV, ap_vLenV, ap_vSl, ap_oNone, ap_oSome, ap_wSeq, ap_wArg, ap_vMeth, ap_vRev, ap_nLc, ap_tgName, ap_nCall, ap_vCallB, ap_aBor, nd_int, nd_bool, nd_str, nd_list, nd_tup, nd_none, nd_r, nd_s, nd_Ro, ap_kVar, ap_kOf, ap_vInK, ap_vNiK, ap_vIxK, ap_sPutK, ap_vGetK, ap_vGet1, ap_vLenK, ap_wKeys, ap_kNil, ap_kOne, ap_vD, ap_sOwnK, ap_aOwnK, ap_nSort, ap_nSortK, ap_nSortS, ap_vFr, ap_vFk, ap_vAsk, ap_vMkM, ap_vMkF, ap_gVo, ap_aVo, ap_vEmp, ap_vAskP, ap_nListK, two_fz, noVs_1, bind_ret, bind_exc, ofO_some, fzs_nil, fzs_cons, setAll_nil, setAll_cons, asB_b, noOw_nil, noOw_cons, wipeE_nil, wipeE_cons, noExc_r, seqD_l, seqD_t, tgTup_ap, tgUnl_ap, ap_nLcX, ap_nSortV, ap_kPairs, tgCons_ap, tgNil_ap, List.cons_append, List.nil_append, List.replicate, List.set, List.getElem?_cons_zero, List.getElem?_cons_succ, Option.bind_some, Option.map_some, List.length_cons, List.length_nil, beq_self_eq_true, if_true, if_false, Bool.false_eq_true, Nat.reduceAdd, Nat.reduceSub, Nat.reduceBEq, Nat.zero_add, ↓reduceIte, reduceCtorEq, decide_true, decide_false, Bool.true_and, Bool.and_true, Bool.false_and, Bool.and_false, Bool.or_true, Bool.true_or, Bool.or_false, Bool.false_or, Bool.not_true, Bool.not_false, Bool.and_self, Int.reduceLE, Int.reduceLT, Int.reduceToNat, Int.reduceSub, Int.reduceAdd, Int.reduceNeg, Nat.reduceLT, Nat.reduceLeDiff, tup_l, sm3]
  rfl
def envS (r : Ru) (s : Sta) (b : Bool) (x : Al) (many : Ent) (ov : Bool) (e9 : Ent) : Envt := [.fz r.e, .fz s.e, .fz (.int (rb b)), .fz (.list [.int x.a, .int x.b]), .fz (.list [.int x.g0, .int x.g1]), .fz (.int x.sv), .fz (.int x.tn), .fz (.bool ov), many, e9, .un]
theorem spt_eval (r : Ru) (s : Sta) (x : Al) (b : Bool) (u : Stm)
    (hu : u = (sIf (bOr (vT (v2 dNe (v2 dIx (vVar 0) (vC (.int 4))) (vC (.str "only")))) (vT (v2 dEq (vVar 2) (vVar 5))))
  (sSeq (sSet 3 (vL (addS 3 10 2)))
  (sSet 7 (vCall 4 m_law_won (aCons (vVar 0) (aCons (vVar 8) (aCons (v2 dIx (vVar 3) (vVar 2)) (aCons (v2 dIx (vVar 3) (v2 dSub (vC (.int 1)) (vVar 2))) (aNil))))))))
  (sNil))) : u (envS r s b x (.fz (.int (wantG r x.g0 x.g1))) false .un) =
    .ret (.nx (envS r s b (x.pt r b) (.fz (.int (wantG r x.g0 x.g1))) (x.over r b) .un)) := by
  subst hu
  have eo : dEq (.int (rb b)) (.int x.sv) = some (.bool (rb b == x.sv)) := eq_ii _ _
  cases hm : x.mk? r b with
  | false =>
    have pt : x.pt r b = x := by unfold Al.pt; rw [hm]; rfl
    have ov : x.over r b = false := by unfold Al.over; rw [hm]; rfl
    rw [pt, ov]
    unfold Al.mk? at hm
    rw [Bool.or_eq_false_iff] at hm
    refine eval_ifF ?_ rfl
    have h1 : dNe (.str r.s.s) (.str "only") = some (.bool false) := by rw [sv_onlyN, hm.1]
    simp -implicitDefEqProofs only [envS, ap_runB, ap_sSeq, ap_sNil, ap_sIf, ap_sRet, ap_sRetN, ap_sSet, ap_sOwn, ap_sPar, ap_sAsg, ap_sDrop, ap_sFz, ap_sFor, ap_sApp, ap_sAugI, ap_sRaise, ap_sBreak, ap_vT, ap_v2, ap_vVar, ap_vBor, ap_vC, ap_vIf, ap_vAnd, ap_vOr, ap_vNot, ap_bAnd, ap_bOr, ap_bNot, ap_bYes, ap_vCall, ap_aNil, ap_aCons, ap_aDr, ap_aOwn, ap_vTup, ap_nLst, ap_nList, ap_vL, ap_vB, ap_vIsi, ap_vChain, ap_vIxV, ap_vLenV, ap_vSl, ap_oNone, ap_oSome, ap_wSeq, ap_wArg, ap_vMeth, ap_vRev, ap_nLc, ap_tgName, ap_nCall, ap_vCallB, ap_aBor, nd_int, nd_bool, nd_str, nd_list, nd_tup, nd_none, nd_r, nd_s, nd_Ro, ap_kVar, ap_kOf, ap_vInK, ap_vNiK, ap_vIxK, ap_sPutK, ap_vGetK, ap_vGet1, ap_vLenK, ap_wKeys, ap_kNil, ap_kOne, ap_vD, ap_sOwnK, ap_aOwnK, ap_nSort, ap_nSortK, ap_nSortS, ap_vFr, ap_vFk, ap_vAsk, ap_vMkM, ap_vMkF, ap_gVo, ap_aVo, ap_vEmp, ap_vAskP, ap_nListK, two_fz, noVs_1, bind_ret, bind_exc, ofO_some, fzs_nil, fzs_cons, setAll_nil, setAll_cons, asB_b, noOw_nil, noOw_cons, wipeE_nil, wipeE_cons, noExc_r, seqD_l, seqD_t, tgTup_ap, tgUnl_ap, ap_nLcX, ap_nSortV, ap_kPairs, tgCons_ap, tgNil_ap, List.cons_append, List.nil_append, List.replicate, List.set, List.getElem?_cons_zero, List.getElem?_cons_succ, Option.bind_some, Option.map_some, List.length_cons, List.length_nil, beq_self_eq_true, if_true, if_false, Bool.false_eq_true, Nat.reduceAdd, Nat.reduceSub, Nat.reduceBEq, Nat.zero_add, ↓reduceIte, reduceCtorEq, decide_true, decide_false, Bool.true_and, Bool.and_true, Bool.false_and, Bool.and_false, Bool.or_true, Bool.true_or, Bool.or_false, Bool.false_or, Bool.not_true, Bool.not_false, Bool.and_self, Int.reduceLE, Int.reduceLT, Int.reduceToNat, Int.reduceSub, Int.reduceAdd, Int.reduceNeg, Nat.reduceLT, Nat.reduceLeDiff, r4, h1, eo, hm.2]
  | true =>
    have pt : x.pt r b = { x with a := x.a + i0 b, b := x.b + i1 b, m0 := x.m0 + i0 b, m1 := x.m1 + i1 b } := by unfold Al.pt; rw [hm]; rfl
    have ov : x.over r b = (if b then wonL r.l (wantG r x.g0 x.g1) (x.b + 1) x.a else wonL r.l (wantG r x.g0 x.g1) (x.a + 1) x.b) := by unfold Al.over; rw [hm]; rfl
    rw [pt, ov]
    refine eval_ifT ?_ ?_
    · unfold Al.mk? at hm
      cases h0 : decide (r.s = .only) with
      | false =>
        have h1 : dNe (.str r.s.s) (.str "only") = some (.bool true) := by rw [sv_onlyN, h0]; rfl
        simp -implicitDefEqProofs only [envS, ap_runB, ap_sSeq, ap_sNil, ap_sIf, ap_sRet, ap_sRetN, ap_sSet, ap_sOwn, ap_sPar, ap_sAsg, ap_sDrop, ap_sFz, ap_sFor, ap_sApp, ap_sAugI, ap_sRaise, ap_sBreak, ap_vT, ap_v2, ap_vVar, ap_vBor, ap_vC, ap_vIf, ap_vAnd, ap_vOr, ap_vNot, ap_bAnd, ap_bOr, ap_bNot, ap_bYes, ap_vCall, ap_aNil, ap_aCons, ap_aDr, ap_aOwn, ap_vTup, ap_nLst, ap_nList, ap_vL, ap_vB, ap_vIsi, ap_vChain, ap_vIxV, ap_vLenV, ap_vSl, ap_oNone, ap_oSome, ap_wSeq, ap_wArg, ap_vMeth, ap_vRev, ap_nLc, ap_tgName, ap_nCall, ap_vCallB, ap_aBor, nd_int, nd_bool, nd_str, nd_list, nd_tup, nd_none, nd_r, nd_s, nd_Ro, ap_kVar, ap_kOf, ap_vInK, ap_vNiK, ap_vIxK, ap_sPutK, ap_vGetK, ap_vGet1, ap_vLenK, ap_wKeys, ap_kNil, ap_kOne, ap_vD, ap_sOwnK, ap_aOwnK, ap_nSort, ap_nSortK, ap_nSortS, ap_vFr, ap_vFk, ap_vAsk, ap_vMkM, ap_vMkF, ap_gVo, ap_aVo, ap_vEmp, ap_vAskP, ap_nListK, two_fz, noVs_1, bind_ret, bind_exc, ofO_some, fzs_nil, fzs_cons, setAll_nil, setAll_cons, asB_b, noOw_nil, noOw_cons, wipeE_nil, wipeE_cons, noExc_r, seqD_l, seqD_t, tgTup_ap, tgUnl_ap, ap_nLcX, ap_nSortV, ap_kPairs, tgCons_ap, tgNil_ap, List.cons_append, List.nil_append, List.replicate, List.set, List.getElem?_cons_zero, List.getElem?_cons_succ, Option.bind_some, Option.map_some, List.length_cons, List.length_nil, beq_self_eq_true, if_true, if_false, Bool.false_eq_true, Nat.reduceAdd, Nat.reduceSub, Nat.reduceBEq, Nat.zero_add, ↓reduceIte, reduceCtorEq, decide_true, decide_false, Bool.true_and, Bool.and_true, Bool.false_and, Bool.and_false, Bool.or_true, Bool.true_or, Bool.or_false, Bool.false_or, Bool.not_true, Bool.not_false, Bool.and_self, Int.reduceLE, Int.reduceLT, Int.reduceToNat, Int.reduceSub, Int.reduceAdd, Int.reduceNeg, Nat.reduceLT, Nat.reduceLeDiff, r4, h1]
      | true =>
        rw [h0] at hm
        have h1 : dNe (.str r.s.s) (.str "only") = some (.bool false) := by rw [sv_onlyN, h0]; rfl
        have h2 : (rb b == x.sv) = true := hm
        simp -implicitDefEqProofs only [envS, ap_runB, ap_sSeq, ap_sNil, ap_sIf, ap_sRet, ap_sRetN, ap_sSet, ap_sOwn, ap_sPar, ap_sAsg, ap_sDrop, ap_sFz, ap_sFor, ap_sApp, ap_sAugI, ap_sRaise, ap_sBreak, ap_vT, ap_v2, ap_vVar, ap_vBor, ap_vC, ap_vIf, ap_vAnd, ap_vOr, ap_vNot, ap_bAnd, ap_bOr, ap_bNot, ap_bYes, ap_vCall, ap_aNil, ap_aCons, ap_aDr, ap_aOwn, ap_vTup, ap_nLst, ap_nList, ap_vL, ap_vB, ap_vIsi, ap_vChain, ap_vIxV, ap_vLenV, ap_vSl, ap_oNone, ap_oSome, ap_wSeq, ap_wArg, ap_vMeth, ap_vRev, ap_nLc, ap_tgName, ap_nCall, ap_vCallB, ap_aBor, nd_int, nd_bool, nd_str, nd_list, nd_tup, nd_none, nd_r, nd_s, nd_Ro, ap_kVar, ap_kOf, ap_vInK, ap_vNiK, ap_vIxK, ap_sPutK, ap_vGetK, ap_vGet1, ap_vLenK, ap_wKeys, ap_kNil, ap_kOne, ap_vD, ap_sOwnK, ap_aOwnK, ap_nSort, ap_nSortK, ap_nSortS, ap_vFr, ap_vFk, ap_vAsk, ap_vMkM, ap_vMkF, ap_gVo, ap_aVo, ap_vEmp, ap_vAskP, ap_nListK, two_fz, noVs_1, bind_ret, bind_exc, ofO_some, fzs_nil, fzs_cons, setAll_nil, setAll_cons, asB_b, noOw_nil, noOw_cons, wipeE_nil, wipeE_cons, noExc_r, seqD_l, seqD_t, tgTup_ap, tgUnl_ap, ap_nLcX, ap_nSortV, ap_kPairs, tgCons_ap, tgNil_ap, List.cons_append, List.nil_append, List.replicate, List.set, List.getElem?_cons_zero, List.getElem?_cons_succ, Option.bind_some, Option.map_some, List.length_cons, List.length_nil, beq_self_eq_true, if_true, if_false, Bool.false_eq_true, Nat.reduceAdd, Nat.reduceSub, Nat.reduceBEq, Nat.zero_add, ↓reduceIte, reduceCtorEq, decide_true, decide_false, Bool.true_and, Bool.and_true, Bool.false_and, Bool.and_false, Bool.or_true, Bool.true_or, Bool.or_false, Bool.false_or, Bool.not_true, Bool.not_false, Bool.and_self, Int.reduceLE, Int.reduceLT, Int.reduceToNat, Int.reduceSub, Int.reduceAdd, Int.reduceNeg, Nat.reduceLT, Nat.reduceLeDiff, r4, h1, eo, h2]
    · refine eval_seq (envS r s b { x with a := x.a + i0 b, b := x.b + i1 b } (.fz (.int (wantG r x.g0 x.g1))) false .un) (eval_own_ _ _ (by rw [ap_vL, addS_eq 3 10 2 _ x.a x.b b rfl rfl rfl (by decide) (by decide)]; rfl) rfl) ?_
      cases b <;> simp -implicitDefEqProofs only [envS, ap_runB, ap_sSeq, ap_sNil, ap_sIf, ap_sRet, ap_sRetN, ap_sSet, ap_sOwn, ap_sPar, ap_sAsg, ap_sDrop, ap_sFz, ap_sFor, ap_sApp, ap_sAugI, ap_sRaise, ap_sBreak, ap_vT, ap_v2, ap_vVar, ap_vBor, ap_vC, ap_vIf, ap_vAnd, ap_vOr, ap_vNot, ap_bAnd, ap_bOr, ap_bNot, ap_bYes, ap_vCall, ap_aNil, ap_aCons, ap_aDr, ap_aOwn, ap_vTup, ap_nLst, ap_nList, ap_vL, ap_vB, ap_vIsi, ap_vChain, ap_vIxV, ap_vLenV, ap_vSl, ap_oNone, ap_oSome, ap_wSeq, ap_wArg, ap_vMeth, ap_vRev, ap_nLc, ap_tgName, ap_nCall, ap_vCallB, ap_aBor, nd_int, nd_bool, nd_str, nd_list, nd_tup, nd_none, nd_r, nd_s, nd_Ro, ap_kVar, ap_kOf, ap_vInK, ap_vNiK, ap_vIxK, ap_sPutK, ap_vGetK, ap_vGet1, ap_vLenK, ap_wKeys, ap_kNil, ap_kOne, ap_vD, ap_sOwnK, ap_aOwnK, ap_nSort, ap_nSortK, ap_nSortS, ap_vFr, ap_vFk, ap_vAsk, ap_vMkM, ap_vMkF, ap_gVo, ap_aVo, ap_vEmp, ap_vAskP, ap_nListK, two_fz, noVs_1, bind_ret, bind_exc, ofO_some, fzs_nil, fzs_cons, setAll_nil, setAll_cons, asB_b, noOw_nil, noOw_cons, wipeE_nil, wipeE_cons, noExc_r, seqD_l, seqD_t, tgTup_ap, tgUnl_ap, ap_nLcX, ap_nSortV, ap_kPairs, tgCons_ap, tgNil_ap, List.cons_append, List.nil_append, List.replicate, List.set, List.getElem?_cons_zero, List.getElem?_cons_succ, Option.bind_some, Option.map_some, List.length_cons, List.length_nil, beq_self_eq_true, if_true, if_false, Bool.false_eq_true, Nat.reduceAdd, Nat.reduceSub, Nat.reduceBEq, Nat.zero_add, ↓reduceIte, reduceCtorEq, decide_true, decide_false, Bool.true_and, Bool.and_true, Bool.false_and, Bool.and_false, Bool.or_true, Bool.true_or, Bool.or_false, Bool.false_or, Bool.not_true, Bool.not_false, Bool.and_self, Int.reduceLE, Int.reduceLT, Int.reduceToNat, Int.reduceSub, Int.reduceAdd, Int.reduceNeg, Nat.reduceLT, Nat.reduceLeDiff, rb_t, rb_f, ixl0, ixl1, i0, i1, sub_ii, Int.sub_self, Int.sub_zero, m_law_won_eq, Int.add_zero]
theorem sgm_eval (r : Ru) (s : Sta) (x : Al) (b ov : Bool) (many : Int) (u : Stm)
    (hu : u = (sIf (vT (vVar 7))
  (sPar [4, 3, 8] (aCons (vL (addS 4 10 2)) (aCons (vL (nLst (aCons (vC (.int 0)) (aCons (vC (.int 0)) (aNil))))) (aCons (vC (.int 9)) (aNil)))))
  (sNil))) : u (envS r s b x (.fz (.int many)) ov .un) =
    .ret (.nx (envS r s b (x.gm r b ov 0) (.fz (.int (if ov then 9 else many))) ov .un)) := by
  subst hu
  cases ov with
  | false => exact eval_ifF rfl rfl
  | true =>
    refine eval_ifT rfl ?_
    have e := addS_eq 4 10 2 (envS r s b x (.fz (.int many)) true .un) x.g0 x.g1 b rfl rfl rfl (by decide) (by decide)
    rw [ap_sPar, ap_aCons, ap_vL, e]
    simp -implicitDefEqProofs only [envS, ap_runB, ap_sSeq, ap_sNil, ap_sIf, ap_sRet, ap_sRetN, ap_sSet, ap_sOwn, ap_sPar, ap_sAsg, ap_sDrop, ap_sFz, ap_sFor, ap_sApp, ap_sAugI, ap_sRaise, ap_sBreak, ap_vT, ap_v2, ap_vVar, ap_vBor, ap_vC, ap_vIf, ap_vAnd, ap_vOr, ap_vNot, ap_bAnd, ap_bOr, ap_bNot, ap_bYes, ap_vCall, ap_aNil, ap_aCons, ap_aDr, ap_aOwn, ap_vTup, ap_nLst, ap_nList, ap_vL, ap_vB, ap_vIsi, ap_vChain, ap_vIxV, ap_vLenV, ap_vSl, ap_oNone, ap_oSome, ap_wSeq, ap_wArg, ap_vMeth, ap_vRev, ap_nLc, ap_tgName, ap_nCall, ap_vCallB, ap_aBor, nd_int, nd_bool, nd_str, nd_list, nd_tup, nd_none, nd_r, nd_s, nd_Ro, ap_kVar, ap_kOf, ap_vInK, ap_vNiK, ap_vIxK, ap_sPutK, ap_vGetK, ap_vGet1, ap_vLenK, ap_wKeys, ap_kNil, ap_kOne, ap_vD, ap_sOwnK, ap_aOwnK, ap_nSort, ap_nSortK, ap_nSortS, ap_vFr, ap_vFk, ap_vAsk, ap_vMkM, ap_vMkF, ap_gVo, ap_aVo, ap_vEmp, ap_vAskP, ap_nListK, two_fz, noVs_1, bind_ret, bind_exc, ofO_some, fzs_nil, fzs_cons, setAll_nil, setAll_cons, asB_b, noOw_nil, noOw_cons, wipeE_nil, wipeE_cons, noExc_r, seqD_l, seqD_t, tgTup_ap, tgUnl_ap, ap_nLcX, ap_nSortV, ap_kPairs, tgCons_ap, tgNil_ap, List.cons_append, List.nil_append, List.replicate, List.set, List.getElem?_cons_zero, List.getElem?_cons_succ, Option.bind_some, Option.map_some, List.length_cons, List.length_nil, beq_self_eq_true, if_true, if_false, Bool.false_eq_true, Nat.reduceAdd, Nat.reduceSub, Nat.reduceBEq, Nat.zero_add, ↓reduceIte, reduceCtorEq, decide_true, decide_false, Bool.true_and, Bool.and_true, Bool.false_and, Bool.and_false, Bool.or_true, Bool.true_or, Bool.or_false, Bool.false_or, Bool.not_true, Bool.not_false, Bool.and_self, Int.reduceLE, Int.reduceLT, Int.reduceToNat, Int.reduceSub, Int.reduceAdd, Int.reduceNeg, Nat.reduceLT, Nat.reduceLeDiff, sm2, Al.gm]
theorem ssrv_eval (r : Ru) (s : Sta) (x : Al) (b ov : Bool) (many : Int) (u : Stm)
    (hu : u = (sIf (vT (v2 dIn (v2 dIx (vVar 0) (vC (.int 4))) (vTup (aCons (vC (.str "winner")) (aCons (vC (.str "only")) (aNil))))))
  (sSet 5 (vVar 2))
  (sIf (bOr (vT (v2 dEq (v2 dIx (vVar 0) (vC (.int 4))) (vC (.str "games")))) (vT (vVar 7)))
  (sPar [5, 6] (aCons (v2 dMod (v2 dAdd (v2 dIx (vVar 4) (vC (.int 0))) (v2 dIx (vVar 4) (vC (.int 1)))) (vC (.int 2))) (aCons (vC (.int 0)) (aNil))))
  (sPar [5, 6] (aCons (vIf (vT (v2 dEq (vVar 6) (vC (.int 0)))) (vVar 5) (v2 dSub (vC (.int 1)) (vVar 5))) (aCons (v2 dSub (vC (.int 1)) (vVar 6)) (aNil))))))) : u (envS r s b x (.fz (.int many)) ov .un) =
    .ret (.nx (envS r s b (x.srv r b ov) (.fz (.int many)) ov .un)) := by
  subst hu
  have sm : small 2 = true := rfl
  cases c1 : (decide (r.s = .winner) || decide (r.s = .only)) with
  | true => simp -implicitDefEqProofs only [envS, ap_runB, ap_sSeq, ap_sNil, ap_sIf, ap_sRet, ap_sRetN, ap_sSet, ap_sOwn, ap_sPar, ap_sAsg, ap_sDrop, ap_sFz, ap_sFor, ap_sApp, ap_sAugI, ap_sRaise, ap_sBreak, ap_vT, ap_v2, ap_vVar, ap_vBor, ap_vC, ap_vIf, ap_vAnd, ap_vOr, ap_vNot, ap_bAnd, ap_bOr, ap_bNot, ap_bYes, ap_vCall, ap_aNil, ap_aCons, ap_aDr, ap_aOwn, ap_vTup, ap_nLst, ap_nList, ap_vL, ap_vB, ap_vIsi, ap_vChain, ap_vIxV, ap_vLenV, ap_vSl, ap_oNone, ap_oSome, ap_wSeq, ap_wArg, ap_vMeth, ap_vRev, ap_nLc, ap_tgName, ap_nCall, ap_vCallB, ap_aBor, nd_int, nd_bool, nd_str, nd_list, nd_tup, nd_none, nd_r, nd_s, nd_Ro, ap_kVar, ap_kOf, ap_vInK, ap_vNiK, ap_vIxK, ap_sPutK, ap_vGetK, ap_vGet1, ap_vLenK, ap_wKeys, ap_kNil, ap_kOne, ap_vD, ap_sOwnK, ap_aOwnK, ap_nSort, ap_nSortK, ap_nSortS, ap_vFr, ap_vFk, ap_vAsk, ap_vMkM, ap_vMkF, ap_gVo, ap_aVo, ap_vEmp, ap_vAskP, ap_nListK, two_fz, noVs_1, bind_ret, bind_exc, ofO_some, fzs_nil, fzs_cons, setAll_nil, setAll_cons, asB_b, noOw_nil, noOw_cons, wipeE_nil, wipeE_cons, noExc_r, seqD_l, seqD_t, tgTup_ap, tgUnl_ap, ap_nLcX, ap_nSortV, ap_kPairs, tgCons_ap, tgNil_ap, List.cons_append, List.nil_append, List.replicate, List.set, List.getElem?_cons_zero, List.getElem?_cons_succ, Option.bind_some, Option.map_some, List.length_cons, List.length_nil, beq_self_eq_true, if_true, if_false, Bool.false_eq_true, Nat.reduceAdd, Nat.reduceSub, Nat.reduceBEq, Nat.zero_add, ↓reduceIte, reduceCtorEq, decide_true, decide_false, Bool.true_and, Bool.and_true, Bool.false_and, Bool.and_false, Bool.or_true, Bool.true_or, Bool.or_false, Bool.false_or, Bool.not_true, Bool.not_false, Bool.and_self, Int.reduceLE, Int.reduceLT, Int.reduceToNat, Int.reduceSub, Int.reduceAdd, Int.reduceNeg, Nat.reduceLT, Nat.reduceLeDiff, r4, sm, sv_in, c1, Al.srv]
  | false =>
    cases c2 : (decide (r.s = .games) || ov) with
    | true =>
      cases h : decide (r.s = .games) with
      | true => simp -implicitDefEqProofs only [envS, ap_runB, ap_sSeq, ap_sNil, ap_sIf, ap_sRet, ap_sRetN, ap_sSet, ap_sOwn, ap_sPar, ap_sAsg, ap_sDrop, ap_sFz, ap_sFor, ap_sApp, ap_sAugI, ap_sRaise, ap_sBreak, ap_vT, ap_v2, ap_vVar, ap_vBor, ap_vC, ap_vIf, ap_vAnd, ap_vOr, ap_vNot, ap_bAnd, ap_bOr, ap_bNot, ap_bYes, ap_vCall, ap_aNil, ap_aCons, ap_aDr, ap_aOwn, ap_vTup, ap_nLst, ap_nList, ap_vL, ap_vB, ap_vIsi, ap_vChain, ap_vIxV, ap_vLenV, ap_vSl, ap_oNone, ap_oSome, ap_wSeq, ap_wArg, ap_vMeth, ap_vRev, ap_nLc, ap_tgName, ap_nCall, ap_vCallB, ap_aBor, nd_int, nd_bool, nd_str, nd_list, nd_tup, nd_none, nd_r, nd_s, nd_Ro, ap_kVar, ap_kOf, ap_vInK, ap_vNiK, ap_vIxK, ap_sPutK, ap_vGetK, ap_vGet1, ap_vLenK, ap_wKeys, ap_kNil, ap_kOne, ap_vD, ap_sOwnK, ap_aOwnK, ap_nSort, ap_nSortK, ap_nSortS, ap_vFr, ap_vFk, ap_vAsk, ap_vMkM, ap_vMkF, ap_gVo, ap_aVo, ap_vEmp, ap_vAskP, ap_nListK, two_fz, noVs_1, bind_ret, bind_exc, ofO_some, fzs_nil, fzs_cons, setAll_nil, setAll_cons, asB_b, noOw_nil, noOw_cons, wipeE_nil, wipeE_cons, noExc_r, seqD_l, seqD_t, tgTup_ap, tgUnl_ap, ap_nLcX, ap_nSortV, ap_kPairs, tgCons_ap, tgNil_ap, List.cons_append, List.nil_append, List.replicate, List.set, List.getElem?_cons_zero, List.getElem?_cons_succ, Option.bind_some, Option.map_some, List.length_cons, List.length_nil, beq_self_eq_true, if_true, if_false, Bool.false_eq_true, Nat.reduceAdd, Nat.reduceSub, Nat.reduceBEq, Nat.zero_add, ↓reduceIte, reduceCtorEq, decide_true, decide_false, Bool.true_and, Bool.and_true, Bool.false_and, Bool.and_false, Bool.or_true, Bool.true_or, Bool.or_false, Bool.false_or, Bool.not_true, Bool.not_false, Bool.and_self, Int.reduceLE, Int.reduceLT, Int.reduceToNat, Int.reduceSub, Int.reduceAdd, Int.reduceNeg, Nat.reduceLT, Nat.reduceLeDiff, r4, sm, sv_in, c1, sv_games, h, ixl0, ixl1, add_ii, mod2, Al.srv]
      | false =>
        rw [h] at c2
        have c3 : ov = true := c2
        simp -implicitDefEqProofs only [envS, ap_runB, ap_sSeq, ap_sNil, ap_sIf, ap_sRet, ap_sRetN, ap_sSet, ap_sOwn, ap_sPar, ap_sAsg, ap_sDrop, ap_sFz, ap_sFor, ap_sApp, ap_sAugI, ap_sRaise, ap_sBreak, ap_vT, ap_v2, ap_vVar, ap_vBor, ap_vC, ap_vIf, ap_vAnd, ap_vOr, ap_vNot, ap_bAnd, ap_bOr, ap_bNot, ap_bYes, ap_vCall, ap_aNil, ap_aCons, ap_aDr, ap_aOwn, ap_vTup, ap_nLst, ap_nList, ap_vL, ap_vB, ap_vIsi, ap_vChain, ap_vIxV, ap_vLenV, ap_vSl, ap_oNone, ap_oSome, ap_wSeq, ap_wArg, ap_vMeth, ap_vRev, ap_nLc, ap_tgName, ap_nCall, ap_vCallB, ap_aBor, nd_int, nd_bool, nd_str, nd_list, nd_tup, nd_none, nd_r, nd_s, nd_Ro, ap_kVar, ap_kOf, ap_vInK, ap_vNiK, ap_vIxK, ap_sPutK, ap_vGetK, ap_vGet1, ap_vLenK, ap_wKeys, ap_kNil, ap_kOne, ap_vD, ap_sOwnK, ap_aOwnK, ap_nSort, ap_nSortK, ap_nSortS, ap_vFr, ap_vFk, ap_vAsk, ap_vMkM, ap_vMkF, ap_gVo, ap_aVo, ap_vEmp, ap_vAskP, ap_nListK, two_fz, noVs_1, bind_ret, bind_exc, ofO_some, fzs_nil, fzs_cons, setAll_nil, setAll_cons, asB_b, noOw_nil, noOw_cons, wipeE_nil, wipeE_cons, noExc_r, seqD_l, seqD_t, tgTup_ap, tgUnl_ap, ap_nLcX, ap_nSortV, ap_kPairs, tgCons_ap, tgNil_ap, List.cons_append, List.nil_append, List.replicate, List.set, List.getElem?_cons_zero, List.getElem?_cons_succ, Option.bind_some, Option.map_some, List.length_cons, List.length_nil, beq_self_eq_true, if_true, if_false, Bool.false_eq_true, Nat.reduceAdd, Nat.reduceSub, Nat.reduceBEq, Nat.zero_add, ↓reduceIte, reduceCtorEq, decide_true, decide_false, Bool.true_and, Bool.and_true, Bool.false_and, Bool.and_false, Bool.or_true, Bool.true_or, Bool.or_false, Bool.false_or, Bool.not_true, Bool.not_false, Bool.and_self, Int.reduceLE, Int.reduceLT, Int.reduceToNat, Int.reduceSub, Int.reduceAdd, Int.reduceNeg, Nat.reduceLT, Nat.reduceLeDiff, r4, sm, sv_in, c1, sv_games, h, c3, ixl0, ixl1, add_ii, mod2, Al.srv]
    | false =>
      rw [Bool.or_eq_false_iff] at c2
      cases ht : (x.tn == 0) <;> simp -implicitDefEqProofs only [envS, ap_runB, ap_sSeq, ap_sNil, ap_sIf, ap_sRet, ap_sRetN, ap_sSet, ap_sOwn, ap_sPar, ap_sAsg, ap_sDrop, ap_sFz, ap_sFor, ap_sApp, ap_sAugI, ap_sRaise, ap_sBreak, ap_vT, ap_v2, ap_vVar, ap_vBor, ap_vC, ap_vIf, ap_vAnd, ap_vOr, ap_vNot, ap_bAnd, ap_bOr, ap_bNot, ap_bYes, ap_vCall, ap_aNil, ap_aCons, ap_aDr, ap_aOwn, ap_vTup, ap_nLst, ap_nList, ap_vL, ap_vB, ap_vIsi, ap_vChain, ap_vIxV, ap_vLenV, ap_vSl, ap_oNone, ap_oSome, ap_wSeq, ap_wArg, ap_vMeth, ap_vRev, ap_nLc, ap_tgName, ap_nCall, ap_vCallB, ap_aBor, nd_int, nd_bool, nd_str, nd_list, nd_tup, nd_none, nd_r, nd_s, nd_Ro, ap_kVar, ap_kOf, ap_vInK, ap_vNiK, ap_vIxK, ap_sPutK, ap_vGetK, ap_vGet1, ap_vLenK, ap_wKeys, ap_kNil, ap_kOne, ap_vD, ap_sOwnK, ap_aOwnK, ap_nSort, ap_nSortK, ap_nSortS, ap_vFr, ap_vFk, ap_vAsk, ap_vMkM, ap_vMkF, ap_gVo, ap_aVo, ap_vEmp, ap_vAskP, ap_nListK, two_fz, noVs_1, bind_ret, bind_exc, ofO_some, fzs_nil, fzs_cons, setAll_nil, setAll_cons, asB_b, noOw_nil, noOw_cons, wipeE_nil, wipeE_cons, noExc_r, seqD_l, seqD_t, tgTup_ap, tgUnl_ap, ap_nLcX, ap_nSortV, ap_kPairs, tgCons_ap, tgNil_ap, List.cons_append, List.nil_append, List.replicate, List.set, List.getElem?_cons_zero, List.getElem?_cons_succ, Option.bind_some, Option.map_some, List.length_cons, List.length_nil, beq_self_eq_true, if_true, if_false, Bool.false_eq_true, Nat.reduceAdd, Nat.reduceSub, Nat.reduceBEq, Nat.zero_add, ↓reduceIte, reduceCtorEq, decide_true, decide_false, Bool.true_and, Bool.and_true, Bool.false_and, Bool.and_false, Bool.or_true, Bool.true_or, Bool.or_false, Bool.false_or, Bool.not_true, Bool.not_false, Bool.and_self, Int.reduceLE, Int.reduceLT, Int.reduceToNat, Int.reduceSub, Int.reduceAdd, Int.reduceNeg, Nat.reduceLT, Nat.reduceLeDiff, r4, sm, sv_in, c1, sv_games, c2.1, c2.2, eq_ii, ht, sub_ii, Al.srv]
theorem m_law_step_eq {r : Ru} (hr : r.ok) {s : Sta} (h : StI r s) (b : Bool) : m_law_step [.fz r.e, .fz s.e, .fz (.int (rb b))] = .ret (stepM r s b).e := by
  cases he : endedM r s with
  | true =>
    have e1 : (s.g0 == r.g || s.g1 == r.g) = true := he
    simp -implicitDefEqProofs only [m_law_step, u_law_step, ap_runB, ap_sSeq, ap_sNil, ap_sIf, ap_sRet, ap_sRetN, ap_sSet, ap_sOwn, ap_sPar, ap_sAsg, ap_sDrop, ap_sFz, ap_sFor, ap_sApp, ap_sAugI, ap_sRaise, ap_sBreak, ap_vT, ap_v2, ap_vVar, ap_vBor, ap_vC, ap_vIf, ap_vAnd, ap_vOr, ap_vNot, ap_bAnd, ap_bOr, ap_bNot, ap_bYes, ap_vCall, ap_aNil, ap_aCons, ap_aDr, ap_aOwn, ap_vTup, ap_nLst, ap_nList, ap_vL, ap_vB, ap_vIsi, ap_vChain, ap_vIxV, ap_vLenV, ap_vSl, ap_oNone, ap_oSome, ap_wSeq, ap_wArg, ap_vMeth, ap_vRev, ap_nLc, ap_tgName, ap_nCall, ap_vCallB, ap_aBor, nd_int, nd_bool, nd_str, nd_list, nd_tup, nd_none, nd_r, nd_s, nd_Ro, ap_kVar, ap_kOf, ap_vInK, ap_vNiK, ap_vIxK, ap_sPutK, ap_vGetK, ap_vGet1, ap_vLenK, ap_wKeys, ap_kNil, ap_kOne, ap_vD, ap_sOwnK, ap_aOwnK, ap_nSort, ap_nSortK, ap_nSortS, ap_vFr, ap_vFk, ap_vAsk, ap_vMkM, ap_vMkF, ap_gVo, ap_aVo, ap_vEmp, ap_vAskP, ap_nListK, two_fz, noVs_1, bind_ret, bind_exc, ofO_some, fzs_nil, fzs_cons, setAll_nil, setAll_cons, asB_b, noOw_nil, noOw_cons, wipeE_nil, wipeE_cons, noExc_r, seqD_l, seqD_t, tgTup_ap, tgUnl_ap, ap_nLcX, ap_nSortV, ap_kPairs, tgCons_ap, tgNil_ap, List.cons_append, List.nil_append, List.replicate, List.set, List.getElem?_cons_zero, List.getElem?_cons_succ, Option.bind_some, Option.map_some, List.length_cons, List.length_nil, beq_self_eq_true, if_true, if_false, Bool.false_eq_true, Nat.reduceAdd, Nat.reduceSub, Nat.reduceBEq, Nat.zero_add, ↓reduceIte, reduceCtorEq, decide_true, decide_false, Bool.true_and, Bool.and_true, Bool.false_and, Bool.and_false, Bool.or_true, Bool.true_or, Bool.or_false, Bool.false_or, Bool.not_true, Bool.not_false, Bool.and_self, Int.reduceLE, Int.reduceLT, Int.reduceToNat, Int.reduceSub, Int.reduceAdd, Int.reduceNeg, Nat.reduceLT, Nat.reduceLeDiff, r2, s35, in2, e1, ended_step he]
  | false =>
    rw [← app_step hr h he b]
    have e1 : (s.g0 == r.g || s.g1 == r.g) = false := he
    have sm6 : small 6 = true := rfl
    have gx0 : ∀ a b : Int, dIx (.tuple [.int a, .int b]) (.int 0) = some (.int a) := fun _ _ => rfl
    have gx1 : ∀ a b : Int, dIx (.tuple [.int a, .int b]) (.int 1) = some (.int b) := fun _ _ => rfl
    unfold m_law_step u_law_step
    refine eval_run (eval_seq [.fz r.e, .fz s.e, .fz (.int (rb b)), .un, .un, .un, .un, .un, .un, .un, .un] (eval_ifF (by simp -implicitDefEqProofs only [ap_runB, ap_sSeq, ap_sNil, ap_sIf, ap_sRet, ap_sRetN, ap_sSet, ap_sOwn, ap_sPar, ap_sAsg, ap_sDrop, ap_sFz, ap_sFor, ap_sApp, ap_sAugI, ap_sRaise, ap_sBreak, ap_vT, ap_v2, ap_vVar, ap_vBor, ap_vC, ap_vIf, ap_vAnd, ap_vOr, ap_vNot, ap_bAnd, ap_bOr, ap_bNot, ap_bYes, ap_vCall, ap_aNil, ap_aCons, ap_aDr, ap_aOwn, ap_vTup, ap_nLst, ap_nList, ap_vL, ap_vB, ap_vIsi, ap_vChain, ap_vIxV, ap_vLenV, ap_vSl, ap_oNone, ap_oSome, ap_wSeq, ap_wArg, ap_vMeth, ap_vRev, ap_nLc, ap_tgName, ap_nCall, ap_vCallB, ap_aBor, nd_int, nd_bool, nd_str, nd_list, nd_tup, nd_none, nd_r, nd_s, nd_Ro, ap_kVar, ap_kOf, ap_vInK, ap_vNiK, ap_vIxK, ap_sPutK, ap_vGetK, ap_vGet1, ap_vLenK, ap_wKeys, ap_kNil, ap_kOne, ap_vD, ap_sOwnK, ap_aOwnK, ap_nSort, ap_nSortK, ap_nSortS, ap_vFr, ap_vFk, ap_vAsk, ap_vMkM, ap_vMkF, ap_gVo, ap_aVo, ap_vEmp, ap_vAskP, ap_nListK, two_fz, noVs_1, bind_ret, bind_exc, ofO_some, fzs_nil, fzs_cons, setAll_nil, setAll_cons, asB_b, noOw_nil, noOw_cons, wipeE_nil, wipeE_cons, noExc_r, seqD_l, seqD_t, tgTup_ap, tgUnl_ap, ap_nLcX, ap_nSortV, ap_kPairs, tgCons_ap, tgNil_ap, List.cons_append, List.nil_append, List.replicate, List.set, List.getElem?_cons_zero, List.getElem?_cons_succ, Option.bind_some, Option.map_some, List.length_cons, List.length_nil, beq_self_eq_true, if_true, if_false, Bool.false_eq_true, Nat.reduceAdd, Nat.reduceSub, Nat.reduceBEq, Nat.zero_add, ↓reduceIte, reduceCtorEq, decide_true, decide_false, Bool.true_and, Bool.and_true, Bool.false_and, Bool.and_false, Bool.or_true, Bool.true_or, Bool.or_false, Bool.false_or, Bool.not_true, Bool.not_false, Bool.and_self, Int.reduceLE, Int.reduceLT, Int.reduceToNat, Int.reduceSub, Int.reduceAdd, Int.reduceNeg, Nat.reduceLT, Nat.reduceLeDiff, r2, s35, in2, e1]) rfl) ?_)
    refine eval_seq (envS r s b (alOf s) .un false .un) (by simp -implicitDefEqProofs only [ap_runB, ap_sSeq, ap_sNil, ap_sIf, ap_sRet, ap_sRetN, ap_sSet, ap_sOwn, ap_sPar, ap_sAsg, ap_sDrop, ap_sFz, ap_sFor, ap_sApp, ap_sAugI, ap_sRaise, ap_sBreak, ap_vT, ap_v2, ap_vVar, ap_vBor, ap_vC, ap_vIf, ap_vAnd, ap_vOr, ap_vNot, ap_bAnd, ap_bOr, ap_bNot, ap_bYes, ap_vCall, ap_aNil, ap_aCons, ap_aDr, ap_aOwn, ap_vTup, ap_nLst, ap_nList, ap_vL, ap_vB, ap_vIsi, ap_vChain, ap_vIxV, ap_vLenV, ap_vSl, ap_oNone, ap_oSome, ap_wSeq, ap_wArg, ap_vMeth, ap_vRev, ap_nLc, ap_tgName, ap_nCall, ap_vCallB, ap_aBor, nd_int, nd_bool, nd_str, nd_list, nd_tup, nd_none, nd_r, nd_s, nd_Ro, ap_kVar, ap_kOf, ap_vInK, ap_vNiK, ap_vIxK, ap_sPutK, ap_vGetK, ap_vGet1, ap_vLenK, ap_wKeys, ap_kNil, ap_kOne, ap_vD, ap_sOwnK, ap_aOwnK, ap_nSort, ap_nSortK, ap_nSortS, ap_vFr, ap_vFk, ap_vAsk, ap_vMkM, ap_vMkF, ap_gVo, ap_aVo, ap_vEmp, ap_vAskP, ap_nListK, two_fz, noVs_1, bind_ret, bind_exc, ofO_some, fzs_nil, fzs_cons, setAll_nil, setAll_cons, asB_b, noOw_nil, noOw_cons, wipeE_nil, wipeE_cons, noExc_r, seqD_l, seqD_t, tgTup_ap, tgUnl_ap, ap_nLcX, ap_nSortV, ap_kPairs, tgCons_ap, tgNil_ap, List.cons_append, List.nil_append, List.replicate, List.set, List.getElem?_cons_zero, List.getElem?_cons_succ, Option.bind_some, Option.map_some, List.length_cons, List.length_nil, beq_self_eq_true, if_true, if_false, Bool.false_eq_true, Nat.reduceAdd, Nat.reduceSub, Nat.reduceBEq, Nat.zero_add, ↓reduceIte, reduceCtorEq, decide_true, decide_false, Bool.true_and, Bool.and_true, Bool.false_and, Bool.and_false, Bool.or_true, Bool.true_or, Bool.or_false, Bool.false_or, Bool.not_true, Bool.not_false, Bool.and_self, Int.reduceLE, Int.reduceLT, Int.reduceToNat, Int.reduceSub, Int.reduceAdd, Int.reduceNeg, Nat.reduceLT, Nat.reduceLeDiff, s13, s35, s0, s5, envS, alOf]) ?_
    refine eval_seq (envS r s b (alOf s) (.fz (.int (wantG r (alOf s).g0 (alOf s).g1))) false .un) (by simp -implicitDefEqProofs only [envS, ap_runB, ap_sSeq, ap_sNil, ap_sIf, ap_sRet, ap_sRetN, ap_sSet, ap_sOwn, ap_sPar, ap_sAsg, ap_sDrop, ap_sFz, ap_sFor, ap_sApp, ap_sAugI, ap_sRaise, ap_sBreak, ap_vT, ap_v2, ap_vVar, ap_vBor, ap_vC, ap_vIf, ap_vAnd, ap_vOr, ap_vNot, ap_bAnd, ap_bOr, ap_bNot, ap_bYes, ap_vCall, ap_aNil, ap_aCons, ap_aDr, ap_aOwn, ap_vTup, ap_nLst, ap_nList, ap_vL, ap_vB, ap_vIsi, ap_vChain, ap_vIxV, ap_vLenV, ap_vSl, ap_oNone, ap_oSome, ap_wSeq, ap_wArg, ap_vMeth, ap_vRev, ap_nLc, ap_tgName, ap_nCall, ap_vCallB, ap_aBor, nd_int, nd_bool, nd_str, nd_list, nd_tup, nd_none, nd_r, nd_s, nd_Ro, ap_kVar, ap_kOf, ap_vInK, ap_vNiK, ap_vIxK, ap_sPutK, ap_vGetK, ap_vGet1, ap_vLenK, ap_wKeys, ap_kNil, ap_kOne, ap_vD, ap_sOwnK, ap_aOwnK, ap_nSort, ap_nSortK, ap_nSortS, ap_vFr, ap_vFk, ap_vAsk, ap_vMkM, ap_vMkF, ap_gVo, ap_aVo, ap_vEmp, ap_vAskP, ap_nListK, two_fz, noVs_1, bind_ret, bind_exc, ofO_some, fzs_nil, fzs_cons, setAll_nil, setAll_cons, asB_b, noOw_nil, noOw_cons, wipeE_nil, wipeE_cons, noExc_r, seqD_l, seqD_t, tgTup_ap, tgUnl_ap, ap_nLcX, ap_nSortV, ap_kPairs, tgCons_ap, tgNil_ap, List.cons_append, List.nil_append, List.replicate, List.set, List.getElem?_cons_zero, List.getElem?_cons_succ, Option.bind_some, Option.map_some, List.length_cons, List.length_nil, beq_self_eq_true, if_true, if_false, Bool.false_eq_true, Nat.reduceAdd, Nat.reduceSub, Nat.reduceBEq, Nat.zero_add, ↓reduceIte, reduceCtorEq, decide_true, decide_false, Bool.true_and, Bool.and_true, Bool.false_and, Bool.and_false, Bool.or_true, Bool.true_or, Bool.or_false, Bool.false_or, Bool.not_true, Bool.not_false, Bool.and_self, Int.reduceLE, Int.reduceLT, Int.reduceToNat, Int.reduceSub, Int.reduceAdd, Int.reduceNeg, Nat.reduceLT, Nat.reduceLeDiff, m_law_wanted_eq]) ?_
    refine eval_seq _ (spt_eval r s (alOf s) b _ rfl) ?_
    refine eval_seq _ (sgm_eval r s ((alOf s).pt r b) b ((alOf s).over r b) (wantG r (alOf s).g0 (alOf s).g1) _ rfl) ?_
    refine eval_seq _ (ssrv_eval r s (((alOf s).pt r b).gm r b ((alOf s).over r b) 0) b ((alOf s).over r b) (if (alOf s).over r b then 9 else wantG r (alOf s).g0 (alOf s).g1) _ rfl) ?_
    simp -implicitDefEqProofs only [envS, ap_runB, ap_sSeq, ap_sNil, ap_sIf, ap_sRet, ap_sRetN, ap_sSet, ap_sOwn, ap_sPar, ap_sAsg, ap_sDrop, ap_sFz, ap_sFor, ap_sApp, ap_sAugI, ap_sRaise, ap_sBreak, ap_vT, ap_v2, ap_vVar, ap_vBor, ap_vC, ap_vIf, ap_vAnd, ap_vOr, ap_vNot, ap_bAnd, ap_bOr, ap_bNot, ap_bYes, ap_vCall, ap_aNil, ap_aCons, ap_aDr, ap_aOwn, ap_vTup, ap_nLst, ap_nList, ap_vL, ap_vB, ap_vIsi, ap_vChain, ap_vIxV, ap_vLenV, ap_vSl, ap_oNone, ap_oSome, ap_wSeq, ap_wArg, ap_vMeth, ap_vRev, ap_nLc, ap_tgName, ap_nCall, ap_vCallB, ap_aBor, nd_int, nd_bool, nd_str, nd_list, nd_tup, nd_none, nd_r, nd_s, nd_Ro, ap_kVar, ap_kOf, ap_vInK, ap_vNiK, ap_vIxK, ap_sPutK, ap_vGetK, ap_vGet1, ap_vLenK, ap_wKeys, ap_kNil, ap_kOne, ap_vD, ap_sOwnK, ap_aOwnK, ap_nSort, ap_nSortK, ap_nSortS, ap_vFr, ap_vFk, ap_vAsk, ap_vMkM, ap_vMkF, ap_gVo, ap_aVo, ap_vEmp, ap_vAskP, ap_nListK, two_fz, noVs_1, bind_ret, bind_exc, ofO_some, fzs_nil, fzs_cons, setAll_nil, setAll_cons, asB_b, noOw_nil, noOw_cons, wipeE_nil, wipeE_cons, noExc_r, seqD_l, seqD_t, tgTup_ap, tgUnl_ap, ap_nLcX, ap_nSortV, ap_kPairs, tgCons_ap, tgNil_ap, List.cons_append, List.nil_append, List.replicate, List.set, List.getElem?_cons_zero, List.getElem?_cons_succ, Option.bind_some, Option.map_some, List.length_cons, List.length_nil, beq_self_eq_true, if_true, if_false, Bool.false_eq_true, Nat.reduceAdd, Nat.reduceSub, Nat.reduceBEq, Nat.zero_add, ↓reduceIte, reduceCtorEq, decide_true, decide_false, Bool.true_and, Bool.and_true, Bool.false_and, Bool.and_false, Bool.or_true, Bool.true_or, Bool.or_false, Bool.false_or, Bool.not_true, Bool.not_false, Bool.and_self, Int.reduceLE, Int.reduceLT, Int.reduceToNat, Int.reduceSub, Int.reduceAdd, Int.reduceNeg, Nat.reduceLT, Nat.reduceLeDiff, m_law_folded_eq, gx0, gx1, ixl0, ixl1, sm6, Al.go, Al.app, Al.st, Sta.e]
theorem m_board_of_eq (s : Sta) (k : Int) : m_board_of [.fz s.e, .fz (.int k)] = .ret (brdM k s) := by
  cases h1 : (k == 2) <;> cases h2 : (k == 0) <;> simp -implicitDefEqProofs only [m_board_of, u_board_of, ap_runB, ap_sSeq, ap_sNil, ap_sIf, ap_sRet, ap_sRetN, ap_sSet, ap_sOwn, ap_sPar, ap_sAsg, ap_sDrop, ap_sFz, ap_sFor, ap_sApp, ap_sAugI, ap_sRaise, ap_sBreak, ap_vT, ap_v2, ap_vVar, ap_vBor, ap_vC, ap_vIf, ap_vAnd, ap_vOr, ap_vNot, ap_bAnd, ap_bOr, ap_bNot, ap_bYes, ap_vCall, ap_aNil, ap_aCons, ap_aDr, ap_aOwn, ap_vTup, ap_nLst, ap_nList, ap_vL, ap_vB, ap_vIsi, ap_vChain, ap_vIxV, ap_vLenV, ap_vSl, ap_oNone, ap_oSome, ap_wSeq, ap_wArg, ap_vMeth, ap_vRev, ap_nLc, ap_tgName, ap_nCall, ap_vCallB, ap_aBor, nd_int, nd_bool, nd_str, nd_list, nd_tup, nd_none, nd_r, nd_s, nd_Ro, ap_kVar, ap_kOf, ap_vInK, ap_vNiK, ap_vIxK, ap_sPutK, ap_vGetK, ap_vGet1, ap_vLenK, ap_wKeys, ap_kNil, ap_kOne, ap_vD, ap_sOwnK, ap_aOwnK, ap_nSort, ap_nSortK, ap_nSortS, ap_vFr, ap_vFk, ap_vAsk, ap_vMkM, ap_vMkF, ap_gVo, ap_aVo, ap_vEmp, ap_vAskP, ap_nListK, two_fz, noVs_1, bind_ret, bind_exc, ofO_some, fzs_nil, fzs_cons, setAll_nil, setAll_cons, asB_b, noOw_nil, noOw_cons, wipeE_nil, wipeE_cons, noExc_r, seqD_l, seqD_t, tgTup_ap, tgUnl_ap, ap_nLcX, ap_nSortV, ap_kPairs, tgCons_ap, tgNil_ap, List.cons_append, List.nil_append, List.replicate, List.set, List.getElem?_cons_zero, List.getElem?_cons_succ, Option.bind_some, Option.map_some, List.length_cons, List.length_nil, beq_self_eq_true, if_true, if_false, Bool.false_eq_true, Nat.reduceAdd, Nat.reduceSub, Nat.reduceBEq, Nat.zero_add, ↓reduceIte, reduceCtorEq, decide_true, decide_false, Bool.true_and, Bool.and_true, Bool.false_and, Bool.and_false, Bool.or_true, Bool.true_or, Bool.or_false, Bool.false_or, Bool.not_true, Bool.not_false, Bool.and_self, Int.reduceLE, Int.reduceLT, Int.reduceToNat, Int.reduceSub, Int.reduceAdd, Int.reduceNeg, Nat.reduceLT, Nat.reduceLeDiff, s35, s05, s0, eq_ii, h1, h2, brdM]
theorem m_shown_eq (r : Ru) (bs : List Bool) (k : Int) (h : bs.length ≤ 900) : m_shown [.fz r.e, .fz (Ro bs), .fz (.int k)] = .ret (Bds r bs k) := by
  have e1 : lcRun (tgName 3) bYes (vCall 2 m_board_of (aCons (vVar 3) (aCons (vVar 2) aNil))) [.fz r.e, .fz (Ro bs), .fz (.int k), .un] ((runM r .start bs).map Sta.e) = .ret ((runM r .start bs).map (brdM k)) :=
    lc_enc Sta.e (brdM k) fun s _ => by simp -implicitDefEqProofs only [ap_runB, ap_sSeq, ap_sNil, ap_sIf, ap_sRet, ap_sRetN, ap_sSet, ap_sOwn, ap_sPar, ap_sAsg, ap_sDrop, ap_sFz, ap_sFor, ap_sApp, ap_sAugI, ap_sRaise, ap_sBreak, ap_vT, ap_v2, ap_vVar, ap_vBor, ap_vC, ap_vIf, ap_vAnd, ap_vOr, ap_vNot, ap_bAnd, ap_bOr, ap_bNot, ap_bYes, ap_vCall, ap_aNil, ap_aCons, ap_aDr, ap_aOwn, ap_vTup, ap_nLst, ap_nList, ap_vL, ap_vB, ap_vIsi, ap_vChain, ap_vIxV, ap_vLenV, ap_vSl, ap_oNone, ap_oSome, ap_wSeq, ap_wArg, ap_vMeth, ap_vRev, ap_nLc, ap_tgName, ap_nCall, ap_vCallB, ap_aBor, nd_int, nd_bool, nd_str, nd_list, nd_tup, nd_none, nd_r, nd_s, nd_Ro, ap_kVar, ap_kOf, ap_vInK, ap_vNiK, ap_vIxK, ap_sPutK, ap_vGetK, ap_vGet1, ap_vLenK, ap_wKeys, ap_kNil, ap_kOne, ap_vD, ap_sOwnK, ap_aOwnK, ap_nSort, ap_nSortK, ap_nSortS, ap_vFr, ap_vFk, ap_vAsk, ap_vMkM, ap_vMkF, ap_gVo, ap_aVo, ap_vEmp, ap_vAskP, ap_nListK, two_fz, noVs_1, bind_ret, bind_exc, ofO_some, fzs_nil, fzs_cons, setAll_nil, setAll_cons, asB_b, noOw_nil, noOw_cons, wipeE_nil, wipeE_cons, noExc_r, seqD_l, seqD_t, tgTup_ap, tgUnl_ap, ap_nLcX, ap_nSortV, ap_kPairs, tgCons_ap, tgNil_ap, List.cons_append, List.nil_append, List.replicate, List.set, List.getElem?_cons_zero, List.getElem?_cons_succ, Option.bind_some, Option.map_some, List.length_cons, List.length_nil, beq_self_eq_true, if_true, if_false, Bool.false_eq_true, Nat.reduceAdd, Nat.reduceSub, Nat.reduceBEq, Nat.zero_add, ↓reduceIte, reduceCtorEq, decide_true, decide_false, Bool.true_and, Bool.and_true, Bool.false_and, Bool.and_false, Bool.or_true, Bool.true_or, Bool.or_false, Bool.false_or, Bool.not_true, Bool.not_false, Bool.and_self, Int.reduceLE, Int.reduceLT, Int.reduceToNat, Int.reduceSub, Int.reduceAdd, Int.reduceNeg, Nat.reduceLT, Nat.reduceLeDiff, m_board_of_eq]
  have e3 : small (runM r .start bs).length = true := small_of (by rw [runM_length]; omega)
  simp -implicitDefEqProofs only [m_shown, u_shown, ap_runB, ap_sSeq, ap_sNil, ap_sIf, ap_sRet, ap_sRetN, ap_sSet, ap_sOwn, ap_sPar, ap_sAsg, ap_sDrop, ap_sFz, ap_sFor, ap_sApp, ap_sAugI, ap_sRaise, ap_sBreak, ap_vT, ap_v2, ap_vVar, ap_vBor, ap_vC, ap_vIf, ap_vAnd, ap_vOr, ap_vNot, ap_bAnd, ap_bOr, ap_bNot, ap_bYes, ap_vCall, ap_aNil, ap_aCons, ap_aDr, ap_aOwn, ap_vTup, ap_nLst, ap_nList, ap_vL, ap_vB, ap_vIsi, ap_vChain, ap_vIxV, ap_vLenV, ap_vSl, ap_oNone, ap_oSome, ap_wSeq, ap_wArg, ap_vMeth, ap_vRev, ap_nLc, ap_tgName, ap_nCall, ap_vCallB, ap_aBor, nd_int, nd_bool, nd_str, nd_list, nd_tup, nd_none, nd_r, nd_s, nd_Ro, ap_kVar, ap_kOf, ap_vInK, ap_vNiK, ap_vIxK, ap_sPutK, ap_vGetK, ap_vGet1, ap_vLenK, ap_wKeys, ap_kNil, ap_kOne, ap_vD, ap_sOwnK, ap_aOwnK, ap_nSort, ap_nSortK, ap_nSortS, ap_vFr, ap_vFk, ap_vAsk, ap_vMkM, ap_vMkF, ap_gVo, ap_aVo, ap_vEmp, ap_vAskP, ap_nListK, two_fz, noVs_1, bind_ret, bind_exc, ofO_some, fzs_nil, fzs_cons, setAll_nil, setAll_cons, asB_b, noOw_nil, noOw_cons, wipeE_nil, wipeE_cons, noExc_r, seqD_l, seqD_t, tgTup_ap, tgUnl_ap, ap_nLcX, ap_nSortV, ap_kPairs, tgCons_ap, tgNil_ap, List.cons_append, List.nil_append, List.replicate, List.set, List.getElem?_cons_zero, List.getElem?_cons_succ, Option.bind_some, Option.map_some, List.length_cons, List.length_nil, beq_self_eq_true, if_true, if_false, Bool.false_eq_true, Nat.reduceAdd, Nat.reduceSub, Nat.reduceBEq, Nat.zero_add, ↓reduceIte, reduceCtorEq, decide_true, decide_false, Bool.true_and, Bool.and_true, Bool.false_and, Bool.and_false, Bool.or_true, Bool.true_or, Bool.or_false, Bool.false_or, Bool.not_true, Bool.not_false, Bool.and_self, Int.reduceLE, Int.reduceLT, Int.reduceToNat, Int.reduceSub, Int.reduceAdd, Int.reduceNeg, Nat.reduceLT, Nat.reduceLeDiff, m_states_of_eq r bs h, Rs_tail, it_l, List.length_map, e3, e1]
  rfl
theorem m_check_sight_eq (k : Int) (h0 : 0 ≤ k) (h1 : k ≤ 2) : m_check_sight [.fz (.int k)] = .ret .none := by
  simp -implicitDefEqProofs only [m_check_sight, u_check_sight, m_check_number, u_check_number, ap_runB, ap_sSeq, ap_sNil, ap_sIf, ap_sRet, ap_sRetN, ap_sSet, ap_sOwn, ap_sPar, ap_sAsg, ap_sDrop, ap_sFz, ap_sFor, ap_sApp, ap_sAugI, ap_sRaise, ap_sBreak, ap_vT, ap_v2, ap_vVar, ap_vBor, ap_vC, ap_vIf, ap_vAnd, ap_vOr, ap_vNot, ap_bAnd, ap_bOr, ap_bNot, ap_bYes, ap_vCall, ap_aNil, ap_aCons, ap_aDr, ap_aOwn, ap_vTup, ap_nLst, ap_nList, ap_vL, ap_vB, ap_vIsi, ap_vChain, ap_vIxV, ap_vLenV, ap_vSl, ap_oNone, ap_oSome, ap_wSeq, ap_wArg, ap_vMeth, ap_vRev, ap_nLc, ap_tgName, ap_nCall, ap_vCallB, ap_aBor, nd_int, nd_bool, nd_str, nd_list, nd_tup, nd_none, nd_r, nd_s, nd_Ro, ap_kVar, ap_kOf, ap_vInK, ap_vNiK, ap_vIxK, ap_sPutK, ap_vGetK, ap_vGet1, ap_vLenK, ap_wKeys, ap_kNil, ap_kOne, ap_vD, ap_sOwnK, ap_aOwnK, ap_nSort, ap_nSortK, ap_nSortS, ap_vFr, ap_vFk, ap_vAsk, ap_vMkM, ap_vMkF, ap_gVo, ap_aVo, ap_vEmp, ap_vAskP, ap_nListK, two_fz, noVs_1, bind_ret, bind_exc, ofO_some, fzs_nil, fzs_cons, setAll_nil, setAll_cons, asB_b, noOw_nil, noOw_cons, wipeE_nil, wipeE_cons, noExc_r, seqD_l, seqD_t, tgTup_ap, tgUnl_ap, ap_nLcX, ap_nSortV, ap_kPairs, tgCons_ap, tgNil_ap, List.cons_append, List.nil_append, List.replicate, List.set, List.getElem?_cons_zero, List.getElem?_cons_succ, Option.bind_some, Option.map_some, List.length_cons, List.length_nil, beq_self_eq_true, if_true, if_false, Bool.false_eq_true, Nat.reduceAdd, Nat.reduceSub, Nat.reduceBEq, Nat.zero_add, ↓reduceIte, reduceCtorEq, decide_true, decide_false, Bool.true_and, Bool.and_true, Bool.false_and, Bool.and_false, Bool.or_true, Bool.true_or, Bool.or_false, Bool.false_or, Bool.not_true, Bool.not_false, Bool.and_self, Int.reduceLE, Int.reduceLT, Int.reduceToNat, Int.reduceSub, Int.reduceAdd, Int.reduceNeg, Nat.reduceLT, Nat.reduceLeDiff, m_is_int_eq, decide_eq_true h0, decide_eq_true h1]
theorem m_law_board_eq (s : Sta) (k : Int) (h0 : 0 ≤ k) (h1 : k ≤ 2) : m_law_board [.fz s.e, .fz (.int k)] = .ret (brdM k s) := by
  have : k = 0 ∨ k = 1 ∨ k = 2 := by omega
  rcases this with rfl | rfl | rfl <;> rfl
theorem m_boards_of_eq (r : Ru) (bs : List Bool) (k : Int) (hr : r.ok) (h : bs.length ≤ 60) (h0 : 0 ≤ k) (h1 : k ≤ 2) : m_boards_of [.fz r.e, .fz (Ro bs), .fz (.int k)] = .ret (Bds r bs k) := by
  simp -implicitDefEqProofs only [m_boards_of, u_boards_of, ap_runB, ap_sSeq, ap_sNil, ap_sIf, ap_sRet, ap_sRetN, ap_sSet, ap_sOwn, ap_sPar, ap_sAsg, ap_sDrop, ap_sFz, ap_sFor, ap_sApp, ap_sAugI, ap_sRaise, ap_sBreak, ap_vT, ap_v2, ap_vVar, ap_vBor, ap_vC, ap_vIf, ap_vAnd, ap_vOr, ap_vNot, ap_bAnd, ap_bOr, ap_bNot, ap_bYes, ap_vCall, ap_aNil, ap_aCons, ap_aDr, ap_aOwn, ap_vTup, ap_nLst, ap_nList, ap_vL, ap_vB, ap_vIsi, ap_vChain, ap_vIxV, ap_vLenV, ap_vSl, ap_oNone, ap_oSome, ap_wSeq, ap_wArg, ap_vMeth, ap_vRev, ap_nLc, ap_tgName, ap_nCall, ap_vCallB, ap_aBor, nd_int, nd_bool, nd_str, nd_list, nd_tup, nd_none, nd_r, nd_s, nd_Ro, ap_kVar, ap_kOf, ap_vInK, ap_vNiK, ap_vIxK, ap_sPutK, ap_vGetK, ap_vGet1, ap_vLenK, ap_wKeys, ap_kNil, ap_kOne, ap_vD, ap_sOwnK, ap_aOwnK, ap_nSort, ap_nSortK, ap_nSortS, ap_vFr, ap_vFk, ap_vAsk, ap_vMkM, ap_vMkF, ap_gVo, ap_aVo, ap_vEmp, ap_vAskP, ap_nListK, two_fz, noVs_1, bind_ret, bind_exc, ofO_some, fzs_nil, fzs_cons, setAll_nil, setAll_cons, asB_b, noOw_nil, noOw_cons, wipeE_nil, wipeE_cons, noExc_r, seqD_l, seqD_t, tgTup_ap, tgUnl_ap, ap_nLcX, ap_nSortV, ap_kPairs, tgCons_ap, tgNil_ap, List.cons_append, List.nil_append, List.replicate, List.set, List.getElem?_cons_zero, List.getElem?_cons_succ, Option.bind_some, Option.map_some, List.length_cons, List.length_nil, beq_self_eq_true, if_true, if_false, Bool.false_eq_true, Nat.reduceAdd, Nat.reduceSub, Nat.reduceBEq, Nat.zero_add, ↓reduceIte, reduceCtorEq, decide_true, decide_false, Bool.true_and, Bool.and_true, Bool.false_and, Bool.and_false, Bool.or_true, Bool.true_or, Bool.or_false, Bool.false_or, Bool.not_true, Bool.not_false, Bool.and_self, Int.reduceLE, Int.reduceLT, Int.reduceToNat, Int.reduceSub, Int.reduceAdd, Int.reduceNeg, Nat.reduceLT, Nat.reduceLeDiff, m_check_rule_eq r hr, m_check_row_eq bs h, m_check_sight_eq k h0 h1, m_shown_eq r bs k (Nat.le_trans h (by decide))]
theorem m_law_error_eq (c : Nat) (h : c < 6) : m_law_error [.ex c] = .ret (.str (["rule", "rally", "boards", "number", "text", "none"][c]'h)) := by
  have : c = 0 ∨ c = 1 ∨ c = 2 ∨ c = 3 ∨ c = 4 ∨ c = 5 := by omega
  rcases this with rfl | rfl | rfl | rfl | rfl | rfl <;> rfl
theorem pick_ok {cs : List D} {P : D → Prop} {E : Nat → Prop} (h0 : 0 < cs.length) (h1 : cs.length < 1000000) (h : ∀ d ∈ cs, P d) : (m_law_pick [.dr, .fz (.list cs)]).ok P E := ⟨pick_all h0 h1 h⟩
theorem law_rule_ok {P : D → Prop} {E : Nat → Prop} (h : ∀ r : Ru, r.ok → P r.e) : (m_law_rule [.dr]).ok P E := ⟨law_rule_all h⟩
theorem m_law_states_eq {r : Ru} (hr : r.ok) (bs : List Bool) (h : bs.length ≤ 60) : m_law_states [.fz r.e, .fz (Ro bs)] = .ret (Rs r bs) := by
  obtain ⟨en, _, al⟩ := m_law_along_eq hr bs h
  have x0 : ∀ a b : D, dIx (.tuple [Rs r bs, a, b]) (.int 0) = some (Rs r bs) := fun _ _ => rfl
  unfold m_law_states u_law_states
  generalize m_law_along = m at al ⊢
  simp -implicitDefEqProofs only [ap_runB, ap_sSeq, ap_sNil, ap_sIf, ap_sRet, ap_sRetN, ap_sSet, ap_sOwn, ap_sPar, ap_sAsg, ap_sDrop, ap_sFz, ap_sFor, ap_sApp, ap_sAugI, ap_sRaise, ap_sBreak, ap_vT, ap_v2, ap_vVar, ap_vBor, ap_vC, ap_vIf, ap_vAnd, ap_vOr, ap_vNot, ap_bAnd, ap_bOr, ap_bNot, ap_bYes, ap_vCall, ap_aNil, ap_aCons, ap_aDr, ap_aOwn, ap_vTup, ap_nLst, ap_nList, ap_vL, ap_vB, ap_vIsi, ap_vChain, ap_vIxV, ap_vLenV, ap_vSl, ap_oNone, ap_oSome, ap_wSeq, ap_wArg, ap_vMeth, ap_vRev, ap_nLc, ap_tgName, ap_nCall, ap_vCallB, ap_aBor, nd_int, nd_bool, nd_str, nd_list, nd_tup, nd_none, nd_r, nd_s, nd_Ro, ap_kVar, ap_kOf, ap_vInK, ap_vNiK, ap_vIxK, ap_sPutK, ap_vGetK, ap_vGet1, ap_vLenK, ap_wKeys, ap_kNil, ap_kOne, ap_vD, ap_sOwnK, ap_aOwnK, ap_nSort, ap_nSortK, ap_nSortS, ap_vFr, ap_vFk, ap_vAsk, ap_vMkM, ap_vMkF, ap_gVo, ap_aVo, ap_vEmp, ap_vAskP, ap_nListK, two_fz, noVs_1, bind_ret, bind_exc, ofO_some, fzs_nil, fzs_cons, setAll_nil, setAll_cons, asB_b, noOw_nil, noOw_cons, wipeE_nil, wipeE_cons, noExc_r, seqD_l, seqD_t, tgTup_ap, tgUnl_ap, ap_nLcX, ap_nSortV, ap_kPairs, tgCons_ap, tgNil_ap, List.cons_append, List.nil_append, List.replicate, List.set, List.getElem?_cons_zero, List.getElem?_cons_succ, Option.bind_some, Option.map_some, List.length_cons, List.length_nil, beq_self_eq_true, if_true, if_false, Bool.false_eq_true, Nat.reduceAdd, Nat.reduceSub, Nat.reduceBEq, Nat.zero_add, ↓reduceIte, reduceCtorEq, decide_true, decide_false, Bool.true_and, Bool.and_true, Bool.false_and, Bool.and_false, Bool.or_true, Bool.true_or, Bool.or_false, Bool.false_or, Bool.not_true, Bool.not_false, Bool.and_self, Int.reduceLE, Int.reduceLT, Int.reduceToNat, Int.reduceSub, Int.reduceAdd, Int.reduceNeg, Nat.reduceLT, Nat.reduceLeDiff, al, x0]
end
end Mb
set_option maxHeartbeats 1000000
namespace Mb
open PySem L2
noncomputable section
def tF (R : D) (k : Int) (ln st : List D) : List (Str × Fld) := [("rule", .fz R), ("sight", .fz (.int k)), ("line", .ow ln), ("states", .ow st)]
section
variable (R : D) (k : Int) (ln st : List D)
theorem tf_rule : fldAt "rule" (tF R k ln st) = some (.fz R) := by kernel_rfl
theorem tf_sight : fldAt "sight" (tF R k ln st) = some (.fz (.int k)) := by kernel_rfl
theorem tf_line : fldAt "line" (tF R k ln st) = some (.ow ln) := by kernel_rfl
theorem tf_states : fldAt "states" (tF R k ln st) = some (.ow st) := by kernel_rfl
theorem tn_play : fldAt "play" (tF R k ln st) = none := by kernel_rfl
theorem tn_undo : fldAt "undo" (tF R k ln st) = none := by kernel_rfl
theorem tn_state : fldAt "state" (tF R k ln st) = none := by kernel_rfl
theorem tn_rallies : fldAt "rallies" (tF R k ln st) = none := by kernel_rfl
theorem tn_boards : fldAt "boards" (tF R k ln st) = none := by kernel_rfl
theorem ts_line (l' : List D) : setFld "line" (.ow l') (tF R k ln st) = tF R k l' st := by kernel_rfl
theorem ts_states (s' : List D) : setFld "states" (.ow s') (tF R k ln st) = tF R k ln s' := by kernel_rfl
end
theorem tE {e : Ent} {fs : List (Str × Fld)} {r : List Ent} {nm : Str} (h : objE e = some (80, fs)) : fldE 0 80 nm (e :: r) = fldAt nm fs := by
  unfold fldE
  show (match objE e with
    | some (c', fs) => if c' == 80 then fldAt nm fs else none
    | none => none) = _
  rw [h]; rfl
theorem tV {e : Ent} {fs : List (Str × Fld)} {r : List Ent} {nm : Str} {d : D} (h : objE e = some (80, fs)) (hf : fldAt nm fs = some (.fz d)) : vFld 0 80 nm (e :: r) = .ret d := by
  unfold vFld
  rw [tE h, hf]
theorem tL {e : Ent} {fs : List (Str × Fld)} {r : List Ent} {nm : Str} {ds : List D} (h : objE e = some (80, fs)) (hf : fldAt nm fs = some (.ow ds)) : vFldL 0 80 nm (e :: r) = .ret (.list ds) := by
  unfold vFldL
  rw [tE h, hf]
theorem tIx {e : Ent} {fs : List (Str × Fld)} {r : List Ent} {nm : Str} {ds : List D} {g : Envt → Tr D} {y d : D} (h : objE e = some (80, fs)) (hf : fldAt nm fs = some (.ow ds)) (hg : g (e :: r) = .ret y) (hd : dIx (.list ds) y = some d) : vIxF 0 80 nm g (e :: r) = .ret d := by
  unfold vIxF
  rw [tE h, hf]
  show (g (e :: r)).bind _ = _
  rw [hg]
  show ofO (dIx (.list ds) y) = _
  rw [hd]; rfl
theorem m_Table___len___eq (R : D) (k : Int) (ln st : List D) : m_Table___len__ [.bo 80 (tF R k ln st)] = .ret (.int (ln.length : Nat)) := by
  have h : vLenI (vFldL 0 80 "line") [.bo 80 (tF R k ln st)] = .ret (.int (ln.length : Nat)) := by
    unfold vLenI
    rw [tL rfl (tf_line R k ln st)]; rfl
  unfold m_Table___len__ u_Table___len__
  generalize tF R k ln st = G at h ⊢
  simp -implicitDefEqProofs only [ap_runB, ap_sSeq, ap_sNil, ap_sIf, ap_sRet, ap_sRetN, ap_sSet, ap_sOwn, ap_sPar, ap_sAsg, ap_sDrop, ap_sFz, ap_sFor, ap_sApp, ap_sAugI, ap_sRaise, ap_sBreak, ap_vT, ap_v2, ap_vVar, ap_vBor, ap_vC, ap_vIf, ap_vAnd, ap_vOr, ap_vNot, ap_bAnd, ap_bOr, ap_bNot, ap_bYes, ap_vCall, ap_aNil, ap_aCons, ap_aDr, ap_aOwn, ap_vTup, ap_nLst, ap_nList, ap_vL, ap_vB, ap_vIsi, ap_vChain, ap_vIxV, ap_vLenV, ap_vSl, ap_oNone, ap_oSome, ap_wSeq, ap_wArg, ap_vMeth, ap_vRev, ap_nLc, ap_tgName, ap_nCall, ap_vCallB, ap_aBor, nd_int, nd_bool, nd_str, nd_list, nd_tup, nd_none, nd_r, nd_s, nd_Ro, ap_kVar, ap_kOf, ap_vInK, ap_vNiK, ap_vIxK, ap_sPutK, ap_vGetK, ap_vGet1, ap_vLenK, ap_wKeys, ap_kNil, ap_kOne, ap_vD, ap_sOwnK, ap_aOwnK, ap_nSort, ap_nSortK, ap_nSortS, ap_vFr, ap_vFk, ap_vAsk, ap_vMkM, ap_vMkF, ap_gVo, ap_aVo, ap_vEmp, ap_vAskP, ap_nListK, two_fz, noVs_1, bind_ret, bind_exc, ofO_some, fzs_nil, fzs_cons, setAll_nil, setAll_cons, asB_b, noOw_nil, noOw_cons, wipeE_nil, wipeE_cons, noExc_r, seqD_l, seqD_t, tgTup_ap, tgUnl_ap, ap_nLcX, ap_nSortV, ap_kPairs, tgCons_ap, tgNil_ap, List.cons_append, List.nil_append, List.replicate, List.set, List.getElem?_cons_zero, List.getElem?_cons_succ, Option.bind_some, Option.map_some, List.length_cons, List.length_nil, beq_self_eq_true, if_true, if_false, Bool.false_eq_true, Nat.reduceAdd, Nat.reduceSub, Nat.reduceBEq, Nat.zero_add, ↓reduceIte, reduceCtorEq, decide_true, decide_false, Bool.true_and, Bool.and_true, Bool.false_and, Bool.and_false, Bool.or_true, Bool.true_or, Bool.or_false, Bool.false_or, Bool.not_true, Bool.not_false, Bool.and_self, Int.reduceLE, Int.reduceLT, Int.reduceToNat, Int.reduceSub, Int.reduceAdd, Int.reduceNeg, Nat.reduceLT, Nat.reduceLeDiff, h]
theorem m_Table_state_eq {R : D} {k : Int} {ln st : List D} {d : D} (hd : dIx (.list st) (.int (-1)) = some d) : m_Table_state [.bo 80 (tF R k ln st)] = .ret d := by
  have h : vIxF 0 80 "states" (vC (.int (-1))) [.bo 80 (tF R k ln st)] = .ret d := tIx rfl (tf_states R k ln st) rfl hd
  unfold m_Table_state u_Table_state
  generalize tF R k ln st = G at h ⊢
  simp -implicitDefEqProofs only [ap_runB, ap_sSeq, ap_sNil, ap_sIf, ap_sRet, ap_sRetN, ap_sSet, ap_sOwn, ap_sPar, ap_sAsg, ap_sDrop, ap_sFz, ap_sFor, ap_sApp, ap_sAugI, ap_sRaise, ap_sBreak, ap_vT, ap_v2, ap_vVar, ap_vBor, ap_vC, ap_vIf, ap_vAnd, ap_vOr, ap_vNot, ap_bAnd, ap_bOr, ap_bNot, ap_bYes, ap_vCall, ap_aNil, ap_aCons, ap_aDr, ap_aOwn, ap_vTup, ap_nLst, ap_nList, ap_vL, ap_vB, ap_vIsi, ap_vChain, ap_vIxV, ap_vLenV, ap_vSl, ap_oNone, ap_oSome, ap_wSeq, ap_wArg, ap_vMeth, ap_vRev, ap_nLc, ap_tgName, ap_nCall, ap_vCallB, ap_aBor, nd_int, nd_bool, nd_str, nd_list, nd_tup, nd_none, nd_r, nd_s, nd_Ro, ap_kVar, ap_kOf, ap_vInK, ap_vNiK, ap_vIxK, ap_sPutK, ap_vGetK, ap_vGet1, ap_vLenK, ap_wKeys, ap_kNil, ap_kOne, ap_vD, ap_sOwnK, ap_aOwnK, ap_nSort, ap_nSortK, ap_nSortS, ap_vFr, ap_vFk, ap_vAsk, ap_vMkM, ap_vMkF, ap_gVo, ap_aVo, ap_vEmp, ap_vAskP, ap_nListK, two_fz, noVs_1, bind_ret, bind_exc, ofO_some, fzs_nil, fzs_cons, setAll_nil, setAll_cons, asB_b, noOw_nil, noOw_cons, wipeE_nil, wipeE_cons, noExc_r, seqD_l, seqD_t, tgTup_ap, tgUnl_ap, ap_nLcX, ap_nSortV, ap_kPairs, tgCons_ap, tgNil_ap, List.cons_append, List.nil_append, List.replicate, List.set, List.getElem?_cons_zero, List.getElem?_cons_succ, Option.bind_some, Option.map_some, List.length_cons, List.length_nil, beq_self_eq_true, if_true, if_false, Bool.false_eq_true, Nat.reduceAdd, Nat.reduceSub, Nat.reduceBEq, Nat.zero_add, ↓reduceIte, reduceCtorEq, decide_true, decide_false, Bool.true_and, Bool.and_true, Bool.false_and, Bool.and_false, Bool.or_true, Bool.true_or, Bool.or_false, Bool.false_or, Bool.not_true, Bool.not_false, Bool.and_self, Int.reduceLE, Int.reduceLT, Int.reduceToNat, Int.reduceSub, Int.reduceAdd, Int.reduceNeg, Nat.reduceLT, Nat.reduceLeDiff, h]
theorem m_Table_rallies_eq (R : D) (k : Int) (ln st : List D) : m_Table_rallies [.bo 80 (tF R k ln st)] = .ret (.list ln) := by
  have h : nListF 0 80 "line" [.bo 80 (tF R k ln st)] = .ret ln := by
    unfold nListF
    rw [tE rfl, tf_line]
  unfold m_Table_rallies u_Table_rallies
  generalize tF R k ln st = G at h ⊢
  simp -implicitDefEqProofs only [ap_runB, ap_sSeq, ap_sNil, ap_sIf, ap_sRet, ap_sRetN, ap_sSet, ap_sOwn, ap_sPar, ap_sAsg, ap_sDrop, ap_sFz, ap_sFor, ap_sApp, ap_sAugI, ap_sRaise, ap_sBreak, ap_vT, ap_v2, ap_vVar, ap_vBor, ap_vC, ap_vIf, ap_vAnd, ap_vOr, ap_vNot, ap_bAnd, ap_bOr, ap_bNot, ap_bYes, ap_vCall, ap_aNil, ap_aCons, ap_aDr, ap_aOwn, ap_vTup, ap_nLst, ap_nList, ap_vL, ap_vB, ap_vIsi, ap_vChain, ap_vIxV, ap_vLenV, ap_vSl, ap_oNone, ap_oSome, ap_wSeq, ap_wArg, ap_vMeth, ap_vRev, ap_nLc, ap_tgName, ap_nCall, ap_vCallB, ap_aBor, nd_int, nd_bool, nd_str, nd_list, nd_tup, nd_none, nd_r, nd_s, nd_Ro, ap_kVar, ap_kOf, ap_vInK, ap_vNiK, ap_vIxK, ap_sPutK, ap_vGetK, ap_vGet1, ap_vLenK, ap_wKeys, ap_kNil, ap_kOne, ap_vD, ap_sOwnK, ap_aOwnK, ap_nSort, ap_nSortK, ap_nSortS, ap_vFr, ap_vFk, ap_vAsk, ap_vMkM, ap_vMkF, ap_gVo, ap_aVo, ap_vEmp, ap_vAskP, ap_nListK, two_fz, noVs_1, bind_ret, bind_exc, ofO_some, fzs_nil, fzs_cons, setAll_nil, setAll_cons, asB_b, noOw_nil, noOw_cons, wipeE_nil, wipeE_cons, noExc_r, seqD_l, seqD_t, tgTup_ap, tgUnl_ap, ap_nLcX, ap_nSortV, ap_kPairs, tgCons_ap, tgNil_ap, List.cons_append, List.nil_append, List.replicate, List.set, List.getElem?_cons_zero, List.getElem?_cons_succ, Option.bind_some, Option.map_some, List.length_cons, List.length_nil, beq_self_eq_true, if_true, if_false, Bool.false_eq_true, Nat.reduceAdd, Nat.reduceSub, Nat.reduceBEq, Nat.zero_add, ↓reduceIte, reduceCtorEq, decide_true, decide_false, Bool.true_and, Bool.and_true, Bool.false_and, Bool.and_false, Bool.or_true, Bool.true_or, Bool.or_false, Bool.false_or, Bool.not_true, Bool.not_false, Bool.and_self, Int.reduceLE, Int.reduceLT, Int.reduceToNat, Int.reduceSub, Int.reduceAdd, Int.reduceNeg, Nat.reduceLT, Nat.reduceLeDiff, h]
theorem m_Table_boards_eq (R : D) {k : Int} (ln : List D) (s : D) (ss : List Sta) (hl : ss.length ≤ 1000) : m_Table_boards [.bo 80 (tF R k ln (s :: ss.map Sta.e))] = .ret (.list (ss.map (brdM k))) := by
  have sl : vSlF 0 80 "states" (oSome (vC (.int 1))) (oNone) [.bo 80 (tF R k ln (s :: ss.map Sta.e)), .un] = .ret (.list (ss.map Sta.e)) := by
    unfold vSlF
    rw [tE rfl, tf_states]
    show ofO (dSl (.list (s :: ss.map Sta.e)) (some 1) none) = _
    have : dSl (.list (s :: ss.map Sta.e)) (some 1) none = some (.list (ss.map Sta.e)) := by
      show some (PyData.list (cutD _ (some ((1 : Nat) : Int)) none)) = _
      rw [cut_from]; rfl
    rw [this]; rfl
  have sg : ∀ e1 : Ent, vFld 0 80 "sight" [.bo 80 (tF R k ln (s :: ss.map Sta.e)), e1] = .ret (.int k) := fun e1 => tV rfl (tf_sight ..)
  generalize tF R k ln (s :: ss.map Sta.e) = G at sl sg ⊢
  have run : lcRun (tgName 1) bYes (vCall 2 m_board_of (aCons (vVar 1) (aCons (vFld 0 80 "sight") (aNil)))) [.bo 80 G, .un] (ss.map Sta.e) = .ret (ss.map (brdM k)) :=
    lc_enc Sta.e (brdM k) fun x _ => by simp -implicitDefEqProofs only [ap_runB, ap_sSeq, ap_sNil, ap_sIf, ap_sRet, ap_sRetN, ap_sSet, ap_sOwn, ap_sPar, ap_sAsg, ap_sDrop, ap_sFz, ap_sFor, ap_sApp, ap_sAugI, ap_sRaise, ap_sBreak, ap_vT, ap_v2, ap_vVar, ap_vBor, ap_vC, ap_vIf, ap_vAnd, ap_vOr, ap_vNot, ap_bAnd, ap_bOr, ap_bNot, ap_bYes, ap_vCall, ap_aNil, ap_aCons, ap_aDr, ap_aOwn, ap_vTup, ap_nLst, ap_nList, ap_vL, ap_vB, ap_vIsi, ap_vChain, ap_vIxV, ap_vLenV, ap_vSl, ap_oNone, ap_oSome, ap_wSeq, ap_wArg, ap_vMeth, ap_vRev, ap_nLc, ap_tgName, ap_nCall, ap_vCallB, ap_aBor, nd_int, nd_bool, nd_str, nd_list, nd_tup, nd_none, nd_r, nd_s, nd_Ro, ap_kVar, ap_kOf, ap_vInK, ap_vNiK, ap_vIxK, ap_sPutK, ap_vGetK, ap_vGet1, ap_vLenK, ap_wKeys, ap_kNil, ap_kOne, ap_vD, ap_sOwnK, ap_aOwnK, ap_nSort, ap_nSortK, ap_nSortS, ap_vFr, ap_vFk, ap_vAsk, ap_vMkM, ap_vMkF, ap_gVo, ap_aVo, ap_vEmp, ap_vAskP, ap_nListK, two_fz, noVs_1, bind_ret, bind_exc, ofO_some, fzs_nil, fzs_cons, setAll_nil, setAll_cons, asB_b, noOw_nil, noOw_cons, wipeE_nil, wipeE_cons, noExc_r, seqD_l, seqD_t, tgTup_ap, tgUnl_ap, ap_nLcX, ap_nSortV, ap_kPairs, tgCons_ap, tgNil_ap, List.cons_append, List.nil_append, List.replicate, List.set, List.getElem?_cons_zero, List.getElem?_cons_succ, Option.bind_some, Option.map_some, List.length_cons, List.length_nil, beq_self_eq_true, if_true, if_false, Bool.false_eq_true, Nat.reduceAdd, Nat.reduceSub, Nat.reduceBEq, Nat.zero_add, ↓reduceIte, reduceCtorEq, decide_true, decide_false, Bool.true_and, Bool.and_true, Bool.false_and, Bool.and_false, Bool.or_true, Bool.true_or, Bool.or_false, Bool.false_or, Bool.not_true, Bool.not_false, Bool.and_self, Int.reduceLE, Int.reduceLT, Int.reduceToNat, Int.reduceSub, Int.reduceAdd, Int.reduceNeg, Nat.reduceLT, Nat.reduceLeDiff, sg, m_board_of_eq]
  have sm : small ss.length = true := small_of (by omega)
  unfold m_Table_boards u_Table_boards
  simp -implicitDefEqProofs only [ap_runB, ap_sSeq, ap_sNil, ap_sIf, ap_sRet, ap_sRetN, ap_sSet, ap_sOwn, ap_sPar, ap_sAsg, ap_sDrop, ap_sFz, ap_sFor, ap_sApp, ap_sAugI, ap_sRaise, ap_sBreak, ap_vT, ap_v2, ap_vVar, ap_vBor, ap_vC, ap_vIf, ap_vAnd, ap_vOr, ap_vNot, ap_bAnd, ap_bOr, ap_bNot, ap_bYes, ap_vCall, ap_aNil, ap_aCons, ap_aDr, ap_aOwn, ap_vTup, ap_nLst, ap_nList, ap_vL, ap_vB, ap_vIsi, ap_vChain, ap_vIxV, ap_vLenV, ap_vSl, ap_oNone, ap_oSome, ap_wSeq, ap_wArg, ap_vMeth, ap_vRev, ap_nLc, ap_tgName, ap_nCall, ap_vCallB, ap_aBor, nd_int, nd_bool, nd_str, nd_list, nd_tup, nd_none, nd_r, nd_s, nd_Ro, ap_kVar, ap_kOf, ap_vInK, ap_vNiK, ap_vIxK, ap_sPutK, ap_vGetK, ap_vGet1, ap_vLenK, ap_wKeys, ap_kNil, ap_kOne, ap_vD, ap_sOwnK, ap_aOwnK, ap_nSort, ap_nSortK, ap_nSortS, ap_vFr, ap_vFk, ap_vAsk, ap_vMkM, ap_vMkF, ap_gVo, ap_aVo, ap_vEmp, ap_vAskP, ap_nListK, two_fz, noVs_1, bind_ret, bind_exc, ofO_some, fzs_nil, fzs_cons, setAll_nil, setAll_cons, asB_b, noOw_nil, noOw_cons, wipeE_nil, wipeE_cons, noExc_r, seqD_l, seqD_t, tgTup_ap, tgUnl_ap, ap_nLcX, ap_nSortV, ap_kPairs, tgCons_ap, tgNil_ap, List.cons_append, List.nil_append, List.replicate, List.set, List.getElem?_cons_zero, List.getElem?_cons_succ, Option.bind_some, Option.map_some, List.length_cons, List.length_nil, beq_self_eq_true, if_true, if_false, Bool.false_eq_true, Nat.reduceAdd, Nat.reduceSub, Nat.reduceBEq, Nat.zero_add, ↓reduceIte, reduceCtorEq, decide_true, decide_false, Bool.true_and, Bool.and_true, Bool.false_and, Bool.and_false, Bool.or_true, Bool.true_or, Bool.or_false, Bool.false_or, Bool.not_true, Bool.not_false, Bool.and_self, Int.reduceLE, Int.reduceLT, Int.reduceToNat, Int.reduceSub, Int.reduceAdd, Int.reduceNeg, Nat.reduceLT, Nat.reduceLeDiff, sl, it_l, List.length_map, sm, run]
theorem eval_lSeq {u : Stm} {g : Envt → Tr (D × List (Str × Fld))} {env : Envt} {o : Tr (D × List (Str × Fld))} (env' : Envt) (h1 : u env = .ret (.nx env')) (h2 : g env' = o) : lSeq u g env = o := by
  unfold lSeq
  rw [h1]; exact h2
theorem exc_lSeq {u : Stm} {g : Envt → Tr (D × List (Str × Fld))} {env : Envt} {c : Nat} (h1 : u env = .exc c) : lSeq u g env = .exc c := by
  unfold lSeq
  rw [h1]; rfl
theorem eval_oSeq' {u : Stm} {g : Envt → Tr (D × Envt)} {env : Envt} {o : Tr (D × Envt)} (env' : Envt) (h1 : u env = .ret (.nx env')) (h2 : g env' = o) : oSeq u g env = o := by
  unfold oSeq
  rw [h1]; exact h2
theorem tk_ok {g : Envt → Tr (D × Envt)} {fs fs' : List (Str × Fld)} {r r' : List Ent} {d : D} (hl : loneE 0 (.bo 80 fs :: r) = true) (h : g (.om 80 fs :: r) = .ret (d, .om 80 fs' :: r')) : lTake 80 g (.bo 80 fs :: r) = .ret (d, fs') := by
  have h1 : lTake 80 g (.bo 80 fs :: r) = if ((80 : Nat) == 80) && loneE 0 (.bo 80 fs :: r) then (noExc (g (.om 80 fs :: r))).bind fun r => match r.2[(0 : Nat)]? with
    | some (.om c'' fs') => if c'' == 80 then .ret (r.1, fs') else .bad
    | _ => .bad else .bad := rfl
  rw [h1, hl, h]; rfl
theorem own80 (fs : List (Str × Fld)) (r : List Ent) : ownC 0 80 (.om 80 fs :: r) = some (.om 80 fs, fs) := rfl
theorem app_om {nm : Str} {f : Envt → Tr D} {fs : List (Str × Fld)} {r : List Ent} {ds : List D} {d : D} (hd : fldAt nm fs = some (.ow ds)) (hf : f (.om 80 fs :: r) = .ret d) (hl : ds.length ≤ 1000) : sAppF 0 80 nm f (.om 80 fs :: r) = .ret (.nx (.om 80 (setFld nm (.ow (ds ++ [d])) fs) :: r)) := by
  unfold sAppF
  rw [own80]
  show (match fldAt nm fs with
    | some (.ow ds) => (f (.om 80 fs :: r)).bind fun d => if small ds.length then Tr.ret (Out.nx (.om 80 (setFld nm (.ow (ds ++ [d])) fs) :: r)) else .bad
    | _ => .bad) = _
  rw [hd, hf]
  show (if small ds.length then Tr.ret (Out.nx (.om 80 (setFld nm (.ow (ds ++ [d])) fs) :: r)) else .bad) = _
  rw [small_of (by omega)]; rfl
theorem pop_om {nm : Str} {fs : List (Str × Fld)} {r : List Ent} {ds : List D} {d : D} (hd : fldAt nm fs = some (.ow (ds ++ [d]))) : yPopF 0 80 nm (.om 80 fs :: r) = .ret (d, .om 80 (setFld nm (.ow ds) fs) :: r) := by
  unfold yPopF
  rw [own80]
  show (match fldAt nm fs with
    | some (.ow ds) => match ds[ds.length - 1]? with
      | some d => Tr.ret (d, (.om 80 (setFld nm (.ow ds.dropLast) fs) :: r : Envt))
      | none => .bad
    | _ => .bad) = _
  rw [hd]
  have e1 : (ds ++ [d])[(ds ++ [d]).length - 1]? = some d := by simp
  show (match (ds ++ [d])[(ds ++ [d]).length - 1]? with
      | some x => Tr.ret (x, (.om 80 (setFld nm (.ow (ds ++ [d]).dropLast) fs) :: r : Envt))
      | none => .bad) = _
  rw [e1, List.dropLast_concat]
def plC : Stm := (sIf (vT (v2 dEq (vLenI (vFldL 0 80 "line")) (vC (.int 200))))
  (sRaise 3)
  (sNil))
theorem pl_split : u_Table_play = lSeq (sDrop (vCall 1 m_check_rally (aCons (vVar 1) (aNil)))) (lSeq plC (lTake 80 (oSeq (sAppF 0 80 "states" (vCall 3 m_step (aCons (vFld 0 80 "rule") (aCons (vIxF 0 80 "states" (vC (.int (-1)))) (aCons (vVar 1) (aNil))))))
  (oSeq (sAppF 0 80 "line" (vVar 1))
  (oRet (vCall 2 m_board_of (aCons (vIxF 0 80 "states" (vC (.int (-1)))) (aCons (vFld 0 80 "sight") (aNil))))))))) := rfl
theorem pl_c (R : D) (k : Int) (ln st : List D) (d : D) : plC [.bo 80 (tF R k ln st), .fz d] = if ln.length = 200 then .exc 3 else .ret (.nx [.bo 80 (tF R k ln st), .fz d]) := by
  have h : vLenI (vFldL 0 80 "line") [.bo 80 (tF R k ln st), .fz d] = .ret (.int (ln.length : Nat)) := by
    unfold vLenI
    rw [tL rfl (tf_line R k ln st)]; rfl
  have e : dEq (.int (ln.length : Nat)) (.int 200) = some (.bool (decide (ln.length = 200))) := by
    rw [eq_ii]
    congr 2
    rw [Bool.eq_iff_iff]
    simp only [beq_iff_eq, decide_eq_true_eq]
    omega
  unfold plC
  generalize tF R k ln st = G at h ⊢
  generalize ln.length = n at h e ⊢
  by_cases q : n = 200
  · rw [decide_eq_true q] at e
    rw [if_pos q]
    simp -implicitDefEqProofs only [ap_runB, ap_sSeq, ap_sNil, ap_sIf, ap_sRet, ap_sRetN, ap_sSet, ap_sOwn, ap_sPar, ap_sAsg, ap_sDrop, ap_sFz, ap_sFor, ap_sApp, ap_sAugI, ap_sRaise, ap_sBreak, ap_vT, ap_v2, ap_vVar, ap_vBor, ap_vC, ap_vIf, ap_vAnd, ap_vOr, ap_vNot, ap_bAnd, ap_bOr, ap_bNot, ap_bYes, ap_vCall, ap_aNil, ap_aCons, ap_aDr, ap_aOwn, ap_vTup, ap_nLst, ap_nList, ap_vL, ap_vB, ap_vIsi, ap_vChain, ap_vIxV, ap_vLenV, ap_vSl, ap_oNone, ap_oSome, ap_wSeq, ap_wArg, ap_vMeth, ap_vRev, ap_nLc, ap_tgName, ap_nCall, ap_vCallB, ap_aBor, nd_int, nd_bool, nd_str, nd_list, nd_tup, nd_none, nd_r, nd_s, nd_Ro, ap_kVar, ap_kOf, ap_vInK, ap_vNiK, ap_vIxK, ap_sPutK, ap_vGetK, ap_vGet1, ap_vLenK, ap_wKeys, ap_kNil, ap_kOne, ap_vD, ap_sOwnK, ap_aOwnK, ap_nSort, ap_nSortK, ap_nSortS, ap_vFr, ap_vFk, ap_vAsk, ap_vMkM, ap_vMkF, ap_gVo, ap_aVo, ap_vEmp, ap_vAskP, ap_nListK, two_fz, noVs_1, bind_ret, bind_exc, ofO_some, fzs_nil, fzs_cons, setAll_nil, setAll_cons, asB_b, noOw_nil, noOw_cons, wipeE_nil, wipeE_cons, noExc_r, seqD_l, seqD_t, tgTup_ap, tgUnl_ap, ap_nLcX, ap_nSortV, ap_kPairs, tgCons_ap, tgNil_ap, List.cons_append, List.nil_append, List.replicate, List.set, List.getElem?_cons_zero, List.getElem?_cons_succ, Option.bind_some, Option.map_some, List.length_cons, List.length_nil, beq_self_eq_true, if_true, if_false, Bool.false_eq_true, Nat.reduceAdd, Nat.reduceSub, Nat.reduceBEq, Nat.zero_add, ↓reduceIte, reduceCtorEq, decide_true, decide_false, Bool.true_and, Bool.and_true, Bool.false_and, Bool.and_false, Bool.or_true, Bool.true_or, Bool.or_false, Bool.false_or, Bool.not_true, Bool.not_false, Bool.and_self, Int.reduceLE, Int.reduceLT, Int.reduceToNat, Int.reduceSub, Int.reduceAdd, Int.reduceNeg, Nat.reduceLT, Nat.reduceLeDiff, h, e]
  · rw [decide_eq_false q] at e
    rw [if_neg q]
    simp -implicitDefEqProofs only [ap_runB, ap_sSeq, ap_sNil, ap_sIf, ap_sRet, ap_sRetN, ap_sSet, ap_sOwn, ap_sPar, ap_sAsg, ap_sDrop, ap_sFz, ap_sFor, ap_sApp, ap_sAugI, ap_sRaise, ap_sBreak, ap_vT, ap_v2, ap_vVar, ap_vBor, ap_vC, ap_vIf, ap_vAnd, ap_vOr, ap_vNot, ap_bAnd, ap_bOr, ap_bNot, ap_bYes, ap_vCall, ap_aNil, ap_aCons, ap_aDr, ap_aOwn, ap_vTup, ap_nLst, ap_nList, ap_vL, ap_vB, ap_vIsi, ap_vChain, ap_vIxV, ap_vLenV, ap_vSl, ap_oNone, ap_oSome, ap_wSeq, ap_wArg, ap_vMeth, ap_vRev, ap_nLc, ap_tgName, ap_nCall, ap_vCallB, ap_aBor, nd_int, nd_bool, nd_str, nd_list, nd_tup, nd_none, nd_r, nd_s, nd_Ro, ap_kVar, ap_kOf, ap_vInK, ap_vNiK, ap_vIxK, ap_sPutK, ap_vGetK, ap_vGet1, ap_vLenK, ap_wKeys, ap_kNil, ap_kOne, ap_vD, ap_sOwnK, ap_aOwnK, ap_nSort, ap_nSortK, ap_nSortS, ap_vFr, ap_vFk, ap_vAsk, ap_vMkM, ap_vMkF, ap_gVo, ap_aVo, ap_vEmp, ap_vAskP, ap_nListK, two_fz, noVs_1, bind_ret, bind_exc, ofO_some, fzs_nil, fzs_cons, setAll_nil, setAll_cons, asB_b, noOw_nil, noOw_cons, wipeE_nil, wipeE_cons, noExc_r, seqD_l, seqD_t, tgTup_ap, tgUnl_ap, ap_nLcX, ap_nSortV, ap_kPairs, tgCons_ap, tgNil_ap, List.cons_append, List.nil_append, List.replicate, List.set, List.getElem?_cons_zero, List.getElem?_cons_succ, Option.bind_some, Option.map_some, List.length_cons, List.length_nil, beq_self_eq_true, if_true, if_false, Bool.false_eq_true, Nat.reduceAdd, Nat.reduceSub, Nat.reduceBEq, Nat.zero_add, ↓reduceIte, reduceCtorEq, decide_true, decide_false, Bool.true_and, Bool.and_true, Bool.false_and, Bool.and_false, Bool.or_true, Bool.true_or, Bool.or_false, Bool.false_or, Bool.not_true, Bool.not_false, Bool.and_self, Int.reduceLE, Int.reduceLT, Int.reduceToNat, Int.reduceSub, Int.reduceAdd, Int.reduceNeg, Nat.reduceLT, Nat.reduceLeDiff, h, e]
theorem last_ix (ds : List D) (d : D) : dIx (.list (ds ++ [d])) (.int (-1)) = some d := atI_lastD ..
theorem m_Table_play_eq {R : D} {k : Int} {ln st : List D} {d s s' b : D} (hc : m_check_rally [.fz d] = .ret .none) (hl : ln.length < 200) (ht : st.length ≤ 1000) (hx : dIx (.list st) (.int (-1)) = some s) (hs : m_step [.fz R, .fz s, .fz d] = .ret s') (hb : m_board_of [.fz s', .fz (.int k)] = .ret b) :
    m_Table_play [.bo 80 (tF R k ln st), .fz d] = .ret (b, tF R k (ln ++ [d]) (st ++ [s'])) := by
  show u_Table_play [.bo 80 (tF R k ln st), .fz d] = _
  rw [pl_split]
  refine eval_lSeq [.bo 80 (tF R k ln st), .fz d] (by
    generalize tF R k ln st = G
    generalize m_check_rally = m at hc ⊢
    simp -implicitDefEqProofs only [ap_runB, ap_sSeq, ap_sNil, ap_sIf, ap_sRet, ap_sRetN, ap_sSet, ap_sOwn, ap_sPar, ap_sAsg, ap_sDrop, ap_sFz, ap_sFor, ap_sApp, ap_sAugI, ap_sRaise, ap_sBreak, ap_vT, ap_v2, ap_vVar, ap_vBor, ap_vC, ap_vIf, ap_vAnd, ap_vOr, ap_vNot, ap_bAnd, ap_bOr, ap_bNot, ap_bYes, ap_vCall, ap_aNil, ap_aCons, ap_aDr, ap_aOwn, ap_vTup, ap_nLst, ap_nList, ap_vL, ap_vB, ap_vIsi, ap_vChain, ap_vIxV, ap_vLenV, ap_vSl, ap_oNone, ap_oSome, ap_wSeq, ap_wArg, ap_vMeth, ap_vRev, ap_nLc, ap_tgName, ap_nCall, ap_vCallB, ap_aBor, nd_int, nd_bool, nd_str, nd_list, nd_tup, nd_none, nd_r, nd_s, nd_Ro, ap_kVar, ap_kOf, ap_vInK, ap_vNiK, ap_vIxK, ap_sPutK, ap_vGetK, ap_vGet1, ap_vLenK, ap_wKeys, ap_kNil, ap_kOne, ap_vD, ap_sOwnK, ap_aOwnK, ap_nSort, ap_nSortK, ap_nSortS, ap_vFr, ap_vFk, ap_vAsk, ap_vMkM, ap_vMkF, ap_gVo, ap_aVo, ap_vEmp, ap_vAskP, ap_nListK, two_fz, noVs_1, bind_ret, bind_exc, ofO_some, fzs_nil, fzs_cons, setAll_nil, setAll_cons, asB_b, noOw_nil, noOw_cons, wipeE_nil, wipeE_cons, noExc_r, seqD_l, seqD_t, tgTup_ap, tgUnl_ap, ap_nLcX, ap_nSortV, ap_kPairs, tgCons_ap, tgNil_ap, List.cons_append, List.nil_append, List.replicate, List.set, List.getElem?_cons_zero, List.getElem?_cons_succ, Option.bind_some, Option.map_some, List.length_cons, List.length_nil, beq_self_eq_true, if_true, if_false, Bool.false_eq_true, Nat.reduceAdd, Nat.reduceSub, Nat.reduceBEq, Nat.zero_add, ↓reduceIte, reduceCtorEq, decide_true, decide_false, Bool.true_and, Bool.and_true, Bool.false_and, Bool.and_false, Bool.or_true, Bool.true_or, Bool.or_false, Bool.false_or, Bool.not_true, Bool.not_false, Bool.and_self, Int.reduceLE, Int.reduceLT, Int.reduceToNat, Int.reduceSub, Int.reduceAdd, Int.reduceNeg, Nat.reduceLT, Nat.reduceLeDiff, hc]) (eval_lSeq [.bo 80 (tF R k ln st), .fz d] (by rw [pl_c, if_neg (by omega)]) ?_)
  refine tk_ok (r' := [.fz d]) rfl (eval_oSeq' [.om 80 (tF R k ln (st ++ [s'])), .fz d] ?_ (eval_oSeq' [.om 80 (tF R k (ln ++ [d]) (st ++ [s'])), .fz d] ?_ ?_))
  · rw [← ts_states R k ln st (st ++ [s'])]
    refine app_om (tf_states R k ln st) ?_ ht
    have v1 : vFld 0 80 "rule" [.om 80 (tF R k ln st), .fz d] = .ret R := tV rfl (tf_rule ..)
    have v2 : vIxF 0 80 "states" (vC (.int (-1))) [.om 80 (tF R k ln st), .fz d] = .ret s := tIx rfl (tf_states ..) rfl hx
    generalize tF R k ln st = G at v1 v2 ⊢
    generalize m_step = m at hs ⊢
    simp -implicitDefEqProofs only [ap_runB, ap_sSeq, ap_sNil, ap_sIf, ap_sRet, ap_sRetN, ap_sSet, ap_sOwn, ap_sPar, ap_sAsg, ap_sDrop, ap_sFz, ap_sFor, ap_sApp, ap_sAugI, ap_sRaise, ap_sBreak, ap_vT, ap_v2, ap_vVar, ap_vBor, ap_vC, ap_vIf, ap_vAnd, ap_vOr, ap_vNot, ap_bAnd, ap_bOr, ap_bNot, ap_bYes, ap_vCall, ap_aNil, ap_aCons, ap_aDr, ap_aOwn, ap_vTup, ap_nLst, ap_nList, ap_vL, ap_vB, ap_vIsi, ap_vChain, ap_vIxV, ap_vLenV, ap_vSl, ap_oNone, ap_oSome, ap_wSeq, ap_wArg, ap_vMeth, ap_vRev, ap_nLc, ap_tgName, ap_nCall, ap_vCallB, ap_aBor, nd_int, nd_bool, nd_str, nd_list, nd_tup, nd_none, nd_r, nd_s, nd_Ro, ap_kVar, ap_kOf, ap_vInK, ap_vNiK, ap_vIxK, ap_sPutK, ap_vGetK, ap_vGet1, ap_vLenK, ap_wKeys, ap_kNil, ap_kOne, ap_vD, ap_sOwnK, ap_aOwnK, ap_nSort, ap_nSortK, ap_nSortS, ap_vFr, ap_vFk, ap_vAsk, ap_vMkM, ap_vMkF, ap_gVo, ap_aVo, ap_vEmp, ap_vAskP, ap_nListK, two_fz, noVs_1, bind_ret, bind_exc, ofO_some, fzs_nil, fzs_cons, setAll_nil, setAll_cons, asB_b, noOw_nil, noOw_cons, wipeE_nil, wipeE_cons, noExc_r, seqD_l, seqD_t, tgTup_ap, tgUnl_ap, ap_nLcX, ap_nSortV, ap_kPairs, tgCons_ap, tgNil_ap, List.cons_append, List.nil_append, List.replicate, List.set, List.getElem?_cons_zero, List.getElem?_cons_succ, Option.bind_some, Option.map_some, List.length_cons, List.length_nil, beq_self_eq_true, if_true, if_false, Bool.false_eq_true, Nat.reduceAdd, Nat.reduceSub, Nat.reduceBEq, Nat.zero_add, ↓reduceIte, reduceCtorEq, decide_true, decide_false, Bool.true_and, Bool.and_true, Bool.false_and, Bool.and_false, Bool.or_true, Bool.true_or, Bool.or_false, Bool.false_or, Bool.not_true, Bool.not_false, Bool.and_self, Int.reduceLE, Int.reduceLT, Int.reduceToNat, Int.reduceSub, Int.reduceAdd, Int.reduceNeg, Nat.reduceLT, Nat.reduceLeDiff, v1, v2, hs]
  · rw [← ts_line R k ln (st ++ [s']) (ln ++ [d])]
    exact app_om (tf_line R k ln _) rfl (by omega)
  · have v1 : vFld 0 80 "sight" [.om 80 (tF R k (ln ++ [d]) (st ++ [s'])), .fz d] = .ret (.int k) := tV rfl (tf_sight ..)
    have v2 : vIxF 0 80 "states" (vC (.int (-1))) [.om 80 (tF R k (ln ++ [d]) (st ++ [s'])), .fz d] = .ret s' := tIx rfl (tf_states ..) rfl (last_ix ..)
    unfold oRet
    generalize tF R k (ln ++ [d]) (st ++ [s']) = G at v1 v2 ⊢
    generalize m_board_of = m at hb ⊢
    simp -implicitDefEqProofs only [ap_runB, ap_sSeq, ap_sNil, ap_sIf, ap_sRet, ap_sRetN, ap_sSet, ap_sOwn, ap_sPar, ap_sAsg, ap_sDrop, ap_sFz, ap_sFor, ap_sApp, ap_sAugI, ap_sRaise, ap_sBreak, ap_vT, ap_v2, ap_vVar, ap_vBor, ap_vC, ap_vIf, ap_vAnd, ap_vOr, ap_vNot, ap_bAnd, ap_bOr, ap_bNot, ap_bYes, ap_vCall, ap_aNil, ap_aCons, ap_aDr, ap_aOwn, ap_vTup, ap_nLst, ap_nList, ap_vL, ap_vB, ap_vIsi, ap_vChain, ap_vIxV, ap_vLenV, ap_vSl, ap_oNone, ap_oSome, ap_wSeq, ap_wArg, ap_vMeth, ap_vRev, ap_nLc, ap_tgName, ap_nCall, ap_vCallB, ap_aBor, nd_int, nd_bool, nd_str, nd_list, nd_tup, nd_none, nd_r, nd_s, nd_Ro, ap_kVar, ap_kOf, ap_vInK, ap_vNiK, ap_vIxK, ap_sPutK, ap_vGetK, ap_vGet1, ap_vLenK, ap_wKeys, ap_kNil, ap_kOne, ap_vD, ap_sOwnK, ap_aOwnK, ap_nSort, ap_nSortK, ap_nSortS, ap_vFr, ap_vFk, ap_vAsk, ap_vMkM, ap_vMkF, ap_gVo, ap_aVo, ap_vEmp, ap_vAskP, ap_nListK, two_fz, noVs_1, bind_ret, bind_exc, ofO_some, fzs_nil, fzs_cons, setAll_nil, setAll_cons, asB_b, noOw_nil, noOw_cons, wipeE_nil, wipeE_cons, noExc_r, seqD_l, seqD_t, tgTup_ap, tgUnl_ap, ap_nLcX, ap_nSortV, ap_kPairs, tgCons_ap, tgNil_ap, List.cons_append, List.nil_append, List.replicate, List.set, List.getElem?_cons_zero, List.getElem?_cons_succ, Option.bind_some, Option.map_some, List.length_cons, List.length_nil, beq_self_eq_true, if_true, if_false, Bool.false_eq_true, Nat.reduceAdd, Nat.reduceSub, Nat.reduceBEq, Nat.zero_add, ↓reduceIte, reduceCtorEq, decide_true, decide_false, Bool.true_and, Bool.and_true, Bool.false_and, Bool.and_false, Bool.or_true, Bool.true_or, Bool.or_false, Bool.false_or, Bool.not_true, Bool.not_false, Bool.and_self, Int.reduceLE, Int.reduceLT, Int.reduceToNat, Int.reduceSub, Int.reduceAdd, Int.reduceNeg, Nat.reduceLT, Nat.reduceLeDiff, v1, v2, hb]
theorem m_Table_play_eqB {R : D} {k : Int} {ln st : List D} {d : D} {c : Nat} (hc : m_check_rally [.fz d] = .exc c) : m_Table_play [.bo 80 (tF R k ln st), .fz d] = .exc c := by
  show u_Table_play [.bo 80 (tF R k ln st), .fz d] = _
  rw [pl_split]
  refine exc_lSeq ?_
  generalize tF R k ln st = G
  generalize m_check_rally = m at hc ⊢
  simp -implicitDefEqProofs only [ap_runB, ap_sSeq, ap_sNil, ap_sIf, ap_sRet, ap_sRetN, ap_sSet, ap_sOwn, ap_sPar, ap_sAsg, ap_sDrop, ap_sFz, ap_sFor, ap_sApp, ap_sAugI, ap_sRaise, ap_sBreak, ap_vT, ap_v2, ap_vVar, ap_vBor, ap_vC, ap_vIf, ap_vAnd, ap_vOr, ap_vNot, ap_bAnd, ap_bOr, ap_bNot, ap_bYes, ap_vCall, ap_aNil, ap_aCons, ap_aDr, ap_aOwn, ap_vTup, ap_nLst, ap_nList, ap_vL, ap_vB, ap_vIsi, ap_vChain, ap_vIxV, ap_vLenV, ap_vSl, ap_oNone, ap_oSome, ap_wSeq, ap_wArg, ap_vMeth, ap_vRev, ap_nLc, ap_tgName, ap_nCall, ap_vCallB, ap_aBor, nd_int, nd_bool, nd_str, nd_list, nd_tup, nd_none, nd_r, nd_s, nd_Ro, ap_kVar, ap_kOf, ap_vInK, ap_vNiK, ap_vIxK, ap_sPutK, ap_vGetK, ap_vGet1, ap_vLenK, ap_wKeys, ap_kNil, ap_kOne, ap_vD, ap_sOwnK, ap_aOwnK, ap_nSort, ap_nSortK, ap_nSortS, ap_vFr, ap_vFk, ap_vAsk, ap_vMkM, ap_vMkF, ap_gVo, ap_aVo, ap_vEmp, ap_vAskP, ap_nListK, two_fz, noVs_1, bind_ret, bind_exc, ofO_some, fzs_nil, fzs_cons, setAll_nil, setAll_cons, asB_b, noOw_nil, noOw_cons, wipeE_nil, wipeE_cons, noExc_r, seqD_l, seqD_t, tgTup_ap, tgUnl_ap, ap_nLcX, ap_nSortV, ap_kPairs, tgCons_ap, tgNil_ap, List.cons_append, List.nil_append, List.replicate, List.set, List.getElem?_cons_zero, List.getElem?_cons_succ, Option.bind_some, Option.map_some, List.length_cons, List.length_nil, beq_self_eq_true, if_true, if_false, Bool.false_eq_true, Nat.reduceAdd, Nat.reduceSub, Nat.reduceBEq, Nat.zero_add, ↓reduceIte, reduceCtorEq, decide_true, decide_false, Bool.true_and, Bool.and_true, Bool.false_and, Bool.and_false, Bool.or_true, Bool.true_or, Bool.or_false, Bool.false_or, Bool.not_true, Bool.not_false, Bool.and_self, Int.reduceLE, Int.reduceLT, Int.reduceToNat, Int.reduceSub, Int.reduceAdd, Int.reduceNeg, Nat.reduceLT, Nat.reduceLeDiff, hc]
theorem play_full {R : D} {k : Int} {ln st : List D} {d : D} (hc : m_check_rally [.fz d] = .ret .none) (hl : ln.length = 200) : m_Table_play [.bo 80 (tF R k ln st), .fz d] = .exc 3 := by
  show u_Table_play [.bo 80 (tF R k ln st), .fz d] = _
  rw [pl_split]
  refine eval_lSeq [.bo 80 (tF R k ln st), .fz d] (by
    generalize tF R k ln st = G
    generalize m_check_rally = m at hc ⊢
    simp -implicitDefEqProofs only [ap_runB, ap_sSeq, ap_sNil, ap_sIf, ap_sRet, ap_sRetN, ap_sSet, ap_sOwn, ap_sPar, ap_sAsg, ap_sDrop, ap_sFz, ap_sFor, ap_sApp, ap_sAugI, ap_sRaise, ap_sBreak, ap_vT, ap_v2, ap_vVar, ap_vBor, ap_vC, ap_vIf, ap_vAnd, ap_vOr, ap_vNot, ap_bAnd, ap_bOr, ap_bNot, ap_bYes, ap_vCall, ap_aNil, ap_aCons, ap_aDr, ap_aOwn, ap_vTup, ap_nLst, ap_nList, ap_vL, ap_vB, ap_vIsi, ap_vChain, ap_vIxV, ap_vLenV, ap_vSl, ap_oNone, ap_oSome, ap_wSeq, ap_wArg, ap_vMeth, ap_vRev, ap_nLc, ap_tgName, ap_nCall, ap_vCallB, ap_aBor, nd_int, nd_bool, nd_str, nd_list, nd_tup, nd_none, nd_r, nd_s, nd_Ro, ap_kVar, ap_kOf, ap_vInK, ap_vNiK, ap_vIxK, ap_sPutK, ap_vGetK, ap_vGet1, ap_vLenK, ap_wKeys, ap_kNil, ap_kOne, ap_vD, ap_sOwnK, ap_aOwnK, ap_nSort, ap_nSortK, ap_nSortS, ap_vFr, ap_vFk, ap_vAsk, ap_vMkM, ap_vMkF, ap_gVo, ap_aVo, ap_vEmp, ap_vAskP, ap_nListK, two_fz, noVs_1, bind_ret, bind_exc, ofO_some, fzs_nil, fzs_cons, setAll_nil, setAll_cons, asB_b, noOw_nil, noOw_cons, wipeE_nil, wipeE_cons, noExc_r, seqD_l, seqD_t, tgTup_ap, tgUnl_ap, ap_nLcX, ap_nSortV, ap_kPairs, tgCons_ap, tgNil_ap, List.cons_append, List.nil_append, List.replicate, List.set, List.getElem?_cons_zero, List.getElem?_cons_succ, Option.bind_some, Option.map_some, List.length_cons, List.length_nil, beq_self_eq_true, if_true, if_false, Bool.false_eq_true, Nat.reduceAdd, Nat.reduceSub, Nat.reduceBEq, Nat.zero_add, ↓reduceIte, reduceCtorEq, decide_true, decide_false, Bool.true_and, Bool.and_true, Bool.false_and, Bool.and_false, Bool.or_true, Bool.true_or, Bool.or_false, Bool.false_or, Bool.not_true, Bool.not_false, Bool.and_self, Int.reduceLE, Int.reduceLT, Int.reduceToNat, Int.reduceSub, Int.reduceAdd, Int.reduceNeg, Nat.reduceLT, Nat.reduceLeDiff, hc]) (exc_lSeq (by rw [pl_c, if_pos hl]))
def unC : Stm := (sIf (vT (v2 dEq (vFldL 0 80 "line") (vL (nLst (aNil)))))
  (sRaise 5)
  (sNil))
theorem un_split : u_Table_undo = lSeq unC (lTake 80 (oSeq (sDropY (yPopF 0 80 "states"))
  (yPopF 0 80 "line"))) := rfl
theorem m_Table_undo_eq {R : D} {k : Int} {ln st : List D} {d s : D} (hl : shp (.list (ln ++ [d])) = true) : m_Table_undo [.bo 80 (tF R k (ln ++ [d]) (st ++ [s]))] = .ret (d, tF R k ln st) := by
  show u_Table_undo [.bo 80 (tF R k (ln ++ [d]) (st ++ [s]))] = _
  rw [un_split]
  refine eval_lSeq [.bo 80 (tF R k (ln ++ [d]) (st ++ [s]))] ?_ ?_
  · have v : vFldL 0 80 "line" [.bo 80 (tF R k (ln ++ [d]) (st ++ [s]))] = .ret (.list (ln ++ [d])) := tL rfl (tf_line ..)
    have e : dEq (.list (ln ++ [d])) (.list []) = some (.bool false) := by
      rw [eq_shp hl rfl]
      cases ln <;> rfl
    have s0 : small 0 = true := rfl
    unfold unC
    generalize tF R k (ln ++ [d]) (st ++ [s]) = G at v ⊢
    simp -implicitDefEqProofs only [ap_runB, ap_sSeq, ap_sNil, ap_sIf, ap_sRet, ap_sRetN, ap_sSet, ap_sOwn, ap_sPar, ap_sAsg, ap_sDrop, ap_sFz, ap_sFor, ap_sApp, ap_sAugI, ap_sRaise, ap_sBreak, ap_vT, ap_v2, ap_vVar, ap_vBor, ap_vC, ap_vIf, ap_vAnd, ap_vOr, ap_vNot, ap_bAnd, ap_bOr, ap_bNot, ap_bYes, ap_vCall, ap_aNil, ap_aCons, ap_aDr, ap_aOwn, ap_vTup, ap_nLst, ap_nList, ap_vL, ap_vB, ap_vIsi, ap_vChain, ap_vIxV, ap_vLenV, ap_vSl, ap_oNone, ap_oSome, ap_wSeq, ap_wArg, ap_vMeth, ap_vRev, ap_nLc, ap_tgName, ap_nCall, ap_vCallB, ap_aBor, nd_int, nd_bool, nd_str, nd_list, nd_tup, nd_none, nd_r, nd_s, nd_Ro, ap_kVar, ap_kOf, ap_vInK, ap_vNiK, ap_vIxK, ap_sPutK, ap_vGetK, ap_vGet1, ap_vLenK, ap_wKeys, ap_kNil, ap_kOne, ap_vD, ap_sOwnK, ap_aOwnK, ap_nSort, ap_nSortK, ap_nSortS, ap_vFr, ap_vFk, ap_vAsk, ap_vMkM, ap_vMkF, ap_gVo, ap_aVo, ap_vEmp, ap_vAskP, ap_nListK, two_fz, noVs_1, bind_ret, bind_exc, ofO_some, fzs_nil, fzs_cons, setAll_nil, setAll_cons, asB_b, noOw_nil, noOw_cons, wipeE_nil, wipeE_cons, noExc_r, seqD_l, seqD_t, tgTup_ap, tgUnl_ap, ap_nLcX, ap_nSortV, ap_kPairs, tgCons_ap, tgNil_ap, List.cons_append, List.nil_append, List.replicate, List.set, List.getElem?_cons_zero, List.getElem?_cons_succ, Option.bind_some, Option.map_some, List.length_cons, List.length_nil, beq_self_eq_true, if_true, if_false, Bool.false_eq_true, Nat.reduceAdd, Nat.reduceSub, Nat.reduceBEq, Nat.zero_add, ↓reduceIte, reduceCtorEq, decide_true, decide_false, Bool.true_and, Bool.and_true, Bool.false_and, Bool.and_false, Bool.or_true, Bool.true_or, Bool.or_false, Bool.false_or, Bool.not_true, Bool.not_false, Bool.and_self, Int.reduceLE, Int.reduceLT, Int.reduceToNat, Int.reduceSub, Int.reduceAdd, Int.reduceNeg, Nat.reduceLT, Nat.reduceLeDiff, v, e, s0]
  · refine tk_ok (r' := []) rfl (eval_oSeq' [.om 80 (tF R k (ln ++ [d]) st)] ?_ ?_)
    · unfold sDropY
      rw [pop_om (tf_states ..), ts_states]; rfl
    · rw [pop_om (tf_line ..), ts_line]
theorem m_Table_undo_eqB {R : D} {k : Int} {st : List D} : m_Table_undo [.bo 80 (tF R k [] st)] = .exc 5 := by
  show u_Table_undo [.bo 80 (tF R k [] st)] = _
  rw [un_split]
  refine exc_lSeq ?_
  have v : vFldL 0 80 "line" [.bo 80 (tF R k [] st)] = .ret (.list []) := tL rfl (tf_line ..)
  have e : dEq (.list []) (.list []) = some (.bool true) := rfl
  have s0 : small 0 = true := rfl
  unfold unC
  generalize tF R k [] st = G at v ⊢
  simp -implicitDefEqProofs only [ap_runB, ap_sSeq, ap_sNil, ap_sIf, ap_sRet, ap_sRetN, ap_sSet, ap_sOwn, ap_sPar, ap_sAsg, ap_sDrop, ap_sFz, ap_sFor, ap_sApp, ap_sAugI, ap_sRaise, ap_sBreak, ap_vT, ap_v2, ap_vVar, ap_vBor, ap_vC, ap_vIf, ap_vAnd, ap_vOr, ap_vNot, ap_bAnd, ap_bOr, ap_bNot, ap_bYes, ap_vCall, ap_aNil, ap_aCons, ap_aDr, ap_aOwn, ap_vTup, ap_nLst, ap_nList, ap_vL, ap_vB, ap_vIsi, ap_vChain, ap_vIxV, ap_vLenV, ap_vSl, ap_oNone, ap_oSome, ap_wSeq, ap_wArg, ap_vMeth, ap_vRev, ap_nLc, ap_tgName, ap_nCall, ap_vCallB, ap_aBor, nd_int, nd_bool, nd_str, nd_list, nd_tup, nd_none, nd_r, nd_s, nd_Ro, ap_kVar, ap_kOf, ap_vInK, ap_vNiK, ap_vIxK, ap_sPutK, ap_vGetK, ap_vGet1, ap_vLenK, ap_wKeys, ap_kNil, ap_kOne, ap_vD, ap_sOwnK, ap_aOwnK, ap_nSort, ap_nSortK, ap_nSortS, ap_vFr, ap_vFk, ap_vAsk, ap_vMkM, ap_vMkF, ap_gVo, ap_aVo, ap_vEmp, ap_vAskP, ap_nListK, two_fz, noVs_1, bind_ret, bind_exc, ofO_some, fzs_nil, fzs_cons, setAll_nil, setAll_cons, asB_b, noOw_nil, noOw_cons, wipeE_nil, wipeE_cons, noExc_r, seqD_l, seqD_t, tgTup_ap, tgUnl_ap, ap_nLcX, ap_nSortV, ap_kPairs, tgCons_ap, tgNil_ap, List.cons_append, List.nil_append, List.replicate, List.set, List.getElem?_cons_zero, List.getElem?_cons_succ, Option.bind_some, Option.map_some, List.length_cons, List.length_nil, beq_self_eq_true, if_true, if_false, Bool.false_eq_true, Nat.reduceAdd, Nat.reduceSub, Nat.reduceBEq, Nat.zero_add, ↓reduceIte, reduceCtorEq, decide_true, decide_false, Bool.true_and, Bool.and_true, Bool.false_and, Bool.and_false, Bool.or_true, Bool.true_or, Bool.or_false, Bool.false_or, Bool.not_true, Bool.not_false, Bool.and_self, Int.reduceLE, Int.reduceLT, Int.reduceToNat, Int.reduceSub, Int.reduceAdd, Int.reduceNeg, Nat.reduceLT, Nat.reduceLeDiff, v, e, s0]
theorem setT {nm : Str} {f : Envt → Tr D} {fs : List (Str × Fld)} {r : List Ent} {d : D} (h : f (.om 80 fs :: r) = .ret d) (hq : fldAt nm fs = none) (hl : fs.length < 900) : sSetF 0 80 nm f (.om 80 fs :: r) = .ret (.nx (.om 80 (setFld nm (.fz d) fs) :: r)) := by
  unfold sSetF
  rw [h, bind_ret]
  have : setFE 0 80 nm (.fz d) (.om 80 fs :: r) = some (.om 80 (setFld nm (.fz d) fs) :: r) := by
    unfold setFE
    rw [own80]
    show (if (fldAt nm fs).isNone && decide (fs.length < 900) then some _ else none) = _
    rw [hq, decide_eq_true hl]; rfl
  rw [this]; rfl
theorem setTL {nm : Str} {f : Envt → Tr (List D)} {fs : List (Str × Fld)} {r : List Ent} {d : List D} (h : f (.om 80 fs :: r) = .ret d) (hq : fldAt nm fs = none) (hl : fs.length < 900) : sSetFL 0 80 nm f (.om 80 fs :: r) = .ret (.nx (.om 80 (setFld nm (.ow d) fs) :: r)) := by
  unfold sSetFL
  rw [h, bind_ret]
  have : setFE 0 80 nm (.ow d) (.om 80 fs :: r) = some (.om 80 (setFld nm (.ow d) fs) :: r) := by
    unfold setFE
    rw [own80]
    show (if (fldAt nm fs).isNone && decide (fs.length < 900) then some _ else none) = _
    rw [hq, decide_eq_true hl]; rfl
  rw [this]; rfl
section
variable (R : D) (k : Int) (ln : List D)
def tf1 : List (Str × Fld) := [("rule", .fz R)]
def tf2 : List (Str × Fld) := [("rule", .fz R), ("sight", .fz (.int k))]
def tf3 : List (Str × Fld) := [("rule", .fz R), ("sight", .fz (.int k)), ("line", .ow [])]
theorem ti_1 : setFld "rule" (.fz R) [] = tf1 R := by kernel_rfl
theorem ti_2 : setFld "sight" (.fz (.int k)) (tf1 R) = tf2 R k := by kernel_rfl
theorem ti_3 : setFld "line" (.ow []) (tf2 R k) = tf3 R k := by kernel_rfl
theorem ti_4 (st : List D) : setFld "states" (.ow st) (tf3 R k) = tF R k [] st := by kernel_rfl
theorem tq_2 : fldAt "sight" (tf1 R) = none := by kernel_rfl
theorem tq_3 : fldAt "line" (tf2 R k) = none := by kernel_rfl
theorem tq_4 : fldAt "states" (tf3 R k) = none := by kernel_rfl
end
theorem m_Table_init_eq {R : D} {k : Int} (c1 : m_check_rule [.fz R] = .ret .none) (c2 : m_check_sight [.fz (.int k)] = .ret .none) : m_Table_init [.fz R, .fz (.int k)] = .ret (tF R k [] [Sta.start.e]) := by
  have e8 : (PyData.tuple [.int 0, .int 0, .int 0, .int 0, .int 0, .int 0]) = Sta.start.e := rfl
  have s0 : small 0 = true := rfl
  have s1 : small 1 = true := rfl
  have main : u_Table_init [.om 80 [], .fz R, .fz (.int k)] = .ret (.none, [.om 80 (tF R k [] [Sta.start.e]), .fz R, .fz (.int k)]) := by
    unfold u_Table_init
    refine eval_oSeq' [.om 80 [], .fz R, .fz (.int k)] (by
      generalize m_check_rule = m at c1 ⊢
      simp -implicitDefEqProofs only [ap_runB, ap_sSeq, ap_sNil, ap_sIf, ap_sRet, ap_sRetN, ap_sSet, ap_sOwn, ap_sPar, ap_sAsg, ap_sDrop, ap_sFz, ap_sFor, ap_sApp, ap_sAugI, ap_sRaise, ap_sBreak, ap_vT, ap_v2, ap_vVar, ap_vBor, ap_vC, ap_vIf, ap_vAnd, ap_vOr, ap_vNot, ap_bAnd, ap_bOr, ap_bNot, ap_bYes, ap_vCall, ap_aNil, ap_aCons, ap_aDr, ap_aOwn, ap_vTup, ap_nLst, ap_nList, ap_vL, ap_vB, ap_vIsi, ap_vChain, ap_vIxV, ap_vLenV, ap_vSl, ap_oNone, ap_oSome, ap_wSeq, ap_wArg, ap_vMeth, ap_vRev, ap_nLc, ap_tgName, ap_nCall, ap_vCallB, ap_aBor, nd_int, nd_bool, nd_str, nd_list, nd_tup, nd_none, nd_r, nd_s, nd_Ro, ap_kVar, ap_kOf, ap_vInK, ap_vNiK, ap_vIxK, ap_sPutK, ap_vGetK, ap_vGet1, ap_vLenK, ap_wKeys, ap_kNil, ap_kOne, ap_vD, ap_sOwnK, ap_aOwnK, ap_nSort, ap_nSortK, ap_nSortS, ap_vFr, ap_vFk, ap_vAsk, ap_vMkM, ap_vMkF, ap_gVo, ap_aVo, ap_vEmp, ap_vAskP, ap_nListK, two_fz, noVs_1, bind_ret, bind_exc, ofO_some, fzs_nil, fzs_cons, setAll_nil, setAll_cons, asB_b, noOw_nil, noOw_cons, wipeE_nil, wipeE_cons, noExc_r, seqD_l, seqD_t, tgTup_ap, tgUnl_ap, ap_nLcX, ap_nSortV, ap_kPairs, tgCons_ap, tgNil_ap, List.cons_append, List.nil_append, List.replicate, List.set, List.getElem?_cons_zero, List.getElem?_cons_succ, Option.bind_some, Option.map_some, List.length_cons, List.length_nil, beq_self_eq_true, if_true, if_false, Bool.false_eq_true, Nat.reduceAdd, Nat.reduceSub, Nat.reduceBEq, Nat.zero_add, ↓reduceIte, reduceCtorEq, decide_true, decide_false, Bool.true_and, Bool.and_true, Bool.false_and, Bool.and_false, Bool.or_true, Bool.true_or, Bool.or_false, Bool.false_or, Bool.not_true, Bool.not_false, Bool.and_self, Int.reduceLE, Int.reduceLT, Int.reduceToNat, Int.reduceSub, Int.reduceAdd, Int.reduceNeg, Nat.reduceLT, Nat.reduceLeDiff, c1]) ?_
    refine eval_oSeq' [.om 80 [], .fz R, .fz (.int k)] (by
      generalize m_check_sight = m at c2 ⊢
      simp -implicitDefEqProofs only [ap_runB, ap_sSeq, ap_sNil, ap_sIf, ap_sRet, ap_sRetN, ap_sSet, ap_sOwn, ap_sPar, ap_sAsg, ap_sDrop, ap_sFz, ap_sFor, ap_sApp, ap_sAugI, ap_sRaise, ap_sBreak, ap_vT, ap_v2, ap_vVar, ap_vBor, ap_vC, ap_vIf, ap_vAnd, ap_vOr, ap_vNot, ap_bAnd, ap_bOr, ap_bNot, ap_bYes, ap_vCall, ap_aNil, ap_aCons, ap_aDr, ap_aOwn, ap_vTup, ap_nLst, ap_nList, ap_vL, ap_vB, ap_vIsi, ap_vChain, ap_vIxV, ap_vLenV, ap_vSl, ap_oNone, ap_oSome, ap_wSeq, ap_wArg, ap_vMeth, ap_vRev, ap_nLc, ap_tgName, ap_nCall, ap_vCallB, ap_aBor, nd_int, nd_bool, nd_str, nd_list, nd_tup, nd_none, nd_r, nd_s, nd_Ro, ap_kVar, ap_kOf, ap_vInK, ap_vNiK, ap_vIxK, ap_sPutK, ap_vGetK, ap_vGet1, ap_vLenK, ap_wKeys, ap_kNil, ap_kOne, ap_vD, ap_sOwnK, ap_aOwnK, ap_nSort, ap_nSortK, ap_nSortS, ap_vFr, ap_vFk, ap_vAsk, ap_vMkM, ap_vMkF, ap_gVo, ap_aVo, ap_vEmp, ap_vAskP, ap_nListK, two_fz, noVs_1, bind_ret, bind_exc, ofO_some, fzs_nil, fzs_cons, setAll_nil, setAll_cons, asB_b, noOw_nil, noOw_cons, wipeE_nil, wipeE_cons, noExc_r, seqD_l, seqD_t, tgTup_ap, tgUnl_ap, ap_nLcX, ap_nSortV, ap_kPairs, tgCons_ap, tgNil_ap, List.cons_append, List.nil_append, List.replicate, List.set, List.getElem?_cons_zero, List.getElem?_cons_succ, Option.bind_some, Option.map_some, List.length_cons, List.length_nil, beq_self_eq_true, if_true, if_false, Bool.false_eq_true, Nat.reduceAdd, Nat.reduceSub, Nat.reduceBEq, Nat.zero_add, ↓reduceIte, reduceCtorEq, decide_true, decide_false, Bool.true_and, Bool.and_true, Bool.false_and, Bool.and_false, Bool.or_true, Bool.true_or, Bool.or_false, Bool.false_or, Bool.not_true, Bool.not_false, Bool.and_self, Int.reduceLE, Int.reduceLT, Int.reduceToNat, Int.reduceSub, Int.reduceAdd, Int.reduceNeg, Nat.reduceLT, Nat.reduceLeDiff, c2]) ?_
    refine eval_oSeq' [.om 80 (tf1 R), .fz R, .fz (.int k)] (by rw [← ti_1 R]; exact setT rfl rfl (by decide)) ?_
    refine eval_oSeq' [.om 80 (tf2 R k), .fz R, .fz (.int k)] (by rw [← ti_2 R k]; exact setT rfl (tq_2 R) (by show 1 < 900; decide)) ?_
    refine eval_oSeq' [.om 80 (tf3 R k), .fz R, .fz (.int k)] (by rw [← ti_3 R k]; exact setTL rfl (tq_3 R k) (by show 2 < 900; decide)) ?_
    have q := setTL (nm := "states") (f := nLst (aCons (vC (.tuple [.int 0, .int 0, .int 0, .int 0, .int 0, .int 0])) (aNil))) (fs := tf3 R k) (r := [.fz R, .fz (.int k)]) (d := [Sta.start.e]) rfl (tq_4 R k) (by show 3 < 900; decide)
    rw [ti_4] at q
    unfold oEnd
    rw [q]; rfl
  unfold m_Table_init runG
  show (u_Table_init [.om 80 [], .fz R, .fz (.int k)]).bind _ = _
  rw [main]; rfl
end
end Mb
set_option maxHeartbeats 1000000
namespace Mb
open PySem L2
noncomputable section
def lnD (bs : List Bool) : List D := bs.map fun b => .int (rb b)
def stD (r : Ru) (bs : List Bool) : List D := (stsM r bs).map Sta.e
def tb (r : Ru) (k : Int) (bs : List Bool) : List (Str × Fld) := tF r.e k (lnD bs) (stD r bs)
theorem lnD_snoc (bs : List Bool) (b : Bool) : lnD (bs ++ [b]) = lnD bs ++ [.int (rb b)] := by unfold lnD; rw [List.map_append]; rfl
theorem runM_snoc (r : Ru) (b : Bool) : ∀ (bs : List Bool) (s : Sta), runM r s (bs ++ [b]) = runM r s bs ++ [stepM r (afterM r s bs) b]
  | [], s => rfl
  | x :: bs, s => by
    show stepM r s x :: runM r (stepM r s x) (bs ++ [b]) = stepM r s x :: (runM r (stepM r s x) bs ++ [stepM r (afterM r (stepM r s x) bs) b])
    rw [runM_snoc r b bs]
theorem stD_snoc (r : Ru) (bs : List Bool) (b : Bool) : stD r (bs ++ [b]) = stD r bs ++ [(stepM r (afterM r .start bs) b).e] := by
  unfold stD stsM
  rw [runM_snoc, List.map_cons, List.map_append, List.map_cons]; rfl
theorem stD_last (r : Ru) (bs : List Bool) : dIx (.list (stD r bs)) (.int (-1)) = some (afterM r .start bs).e := Rs_last r bs
theorem lnD_len (bs : List Bool) : (lnD bs).length = bs.length := by unfold lnD; rw [List.length_map]
theorem stD_len (r : Ru) (bs : List Bool) : (stD r bs).length = bs.length + 1 := by unfold stD stsM; rw [List.length_map, List.length_cons, runM_length]
theorem m_check_rally_eq (b : Bool) : m_check_rally [.fz (.int (rb b))] = .ret .none := by
  simp -implicitDefEqProofs only [m_check_rally, u_check_rally, ap_runB, ap_sSeq, ap_sNil, ap_sIf, ap_sRet, ap_sRetN, ap_sSet, ap_sOwn, ap_sPar, ap_sAsg, ap_sDrop, ap_sFz, ap_sFor, ap_sApp, ap_sAugI, ap_sRaise, ap_sBreak, ap_vT, ap_v2, ap_vVar, ap_vBor, ap_vC, ap_vIf, ap_vAnd, ap_vOr, ap_vNot, ap_bAnd, ap_bOr, ap_bNot, ap_bYes, ap_vCall, ap_aNil, ap_aCons, ap_aDr, ap_aOwn, ap_vTup, ap_nLst, ap_nList, ap_vL, ap_vB, ap_vIsi, ap_vChain, ap_vIxV, ap_vLenV, ap_vSl, ap_oNone, ap_oSome, ap_wSeq, ap_wArg, ap_vMeth, ap_vRev, ap_nLc, ap_tgName, ap_nCall, ap_vCallB, ap_aBor, nd_int, nd_bool, nd_str, nd_list, nd_tup, nd_none, nd_r, nd_s, nd_Ro, ap_kVar, ap_kOf, ap_vInK, ap_vNiK, ap_vIxK, ap_sPutK, ap_vGetK, ap_vGet1, ap_vLenK, ap_wKeys, ap_kNil, ap_kOne, ap_vD, ap_sOwnK, ap_aOwnK, ap_nSort, ap_nSortK, ap_nSortS, ap_vFr, ap_vFk, ap_vAsk, ap_vMkM, ap_vMkF, ap_gVo, ap_aVo, ap_vEmp, ap_vAskP, ap_nListK, two_fz, noVs_1, bind_ret, bind_exc, ofO_some, fzs_nil, fzs_cons, setAll_nil, setAll_cons, asB_b, noOw_nil, noOw_cons, wipeE_nil, wipeE_cons, noExc_r, seqD_l, seqD_t, tgTup_ap, tgUnl_ap, ap_nLcX, ap_nSortV, ap_kPairs, tgCons_ap, tgNil_ap, List.cons_append, List.nil_append, List.replicate, List.set, List.getElem?_cons_zero, List.getElem?_cons_succ, Option.bind_some, Option.map_some, List.length_cons, List.length_nil, beq_self_eq_true, if_true, if_false, Bool.false_eq_true, Nat.reduceAdd, Nat.reduceSub, Nat.reduceBEq, Nat.zero_add, ↓reduceIte, reduceCtorEq, decide_true, decide_false, Bool.true_and, Bool.and_true, Bool.false_and, Bool.and_false, Bool.or_true, Bool.true_or, Bool.or_false, Bool.false_or, Bool.not_true, Bool.not_false, Bool.and_self, Int.reduceLE, Int.reduceLT, Int.reduceToNat, Int.reduceSub, Int.reduceAdd, Int.reduceNeg, Nat.reduceLT, Nat.reduceLeDiff, m_is_rally_eq]
theorem play_tb {r : Ru} {k : Int} {bs : List Bool} (hl : bs.length < 200) (b : Bool) : m_Table_play [.bo 80 (tb r k bs), .fz (.int (rb b))] = .ret (brdM k (stepM r (afterM r .start bs) b), tb r k (bs ++ [b])) := by
  unfold tb
  rw [lnD_snoc, stD_snoc]
  exact m_Table_play_eq (m_check_rally_eq b) (by rw [lnD_len]; exact hl) (by rw [stD_len]; omega) (stD_last r bs) (m_step_eq r _ b) (m_board_of_eq _ k)
theorem undo_tb {r : Ru} {k : Int} (bs : List Bool) (b : Bool) : m_Table_undo [.bo 80 (tb r k (bs ++ [b]))] = .ret (.int (rb b), tb r k bs) := by
  unfold tb
  rw [lnD_snoc, stD_snoc]
  refine m_Table_undo_eq (shp_list fun d hd => ?_)
  rcases List.mem_append.mp hd with h | h
  · obtain ⟨x, _, rfl⟩ := List.mem_map.mp h
    rfl
  · rw [List.mem_singleton.mp h]; rfl
theorem state_tb (r : Ru) (k : Int) (bs : List Bool) : m_Table_state [.bo 80 (tb r k bs)] = .ret (afterM r .start bs).e := m_Table_state_eq (stD_last r bs)
theorem rallies_tb (r : Ru) (k : Int) (bs : List Bool) : m_Table_rallies [.bo 80 (tb r k bs)] = .ret (Ro bs) := m_Table_rallies_eq ..
theorem len_tb (r : Ru) (k : Int) (bs : List Bool) : m_Table___len__ [.bo 80 (tb r k bs)] = .ret (.int (bs.length : Nat)) := by
  have := m_Table___len___eq r.e k (lnD bs) (stD r bs)
  rw [lnD_len] at this
  exact this
theorem boards_tb (r : Ru) (k : Int) (bs : List Bool) (h : bs.length ≤ 300) : m_Table_boards [.bo 80 (tb r k bs)] = .ret (Bds r bs k) :=
  m_Table_boards_eq r.e (lnD bs) Sta.start.e (runM r .start bs) (by rw [runM_length]; omega)
theorem init_tb {r : Ru} (hr : r.ok) {k : Int} (k0 : 0 ≤ k) (k2 : k ≤ 2) : m_Table_init [.fz r.e, .fz (.int k)] = .ret (tb r k []) := m_Table_init_eq (m_check_rule_eq r hr) (m_check_sight_eq k k0 k2)
def lcY : Envt → Tr (D × Envt) := yIfX (vT (v2 dEq (vVar 1) (vC (.int 0)))) (yAskX 2 80 "play" m_Table_play 0 (aCons (vVar 2) (aNil))) (yAskX 1 80 "undo" m_Table_undo 0 aNil)
def lcR : Envt → Tr D := vIf (bNoE 4) (vTup (aCons (vC (.str "told")) (aCons (vVar 3) (aNil)))) (vTup (aCons (vC (.str "error")) (aCons (vCall 1 m_law_error (aEx 4 (aNil))) (aNil))))
theorem lc_split : u_law_call = lSeq (sSet 3 (vC .none)) (lSeq (sSet 4 (vC .none)) (lTry 80 6 3 4 lcY lcR)) := rfl
def toldD (v : D) : D := .tuple [.str "told", v]
def errD (x : Str) : D := .tuple [.str "error", .str x]
theorem lcR_told (F : List (Str × Fld)) (x y v : D) : lcR [.om 80 F, .fz x, .fz y, .fz v, .fz .none, .un] = .ret (toldD v) := by
  have s2 : small 2 = true := rfl
  have n : bNoE 4 [.om 80 F, .fz x, .fz y, .fz v, .fz .none, .un] = .ret true := rfl
  unfold lcR toldD
  simp -implicitDefEqProofs only [ap_runB, ap_sSeq, ap_sNil, ap_sIf, ap_sRet, ap_sRetN, ap_sSet, ap_sOwn, ap_sPar, ap_sAsg, ap_sDrop, ap_sFz, ap_sFor, ap_sApp, ap_sAugI, ap_sRaise, ap_sBreak, ap_vT, ap_v2, ap_vVar, ap_vBor, ap_vC, ap_vIf, ap_vAnd, ap_vOr, ap_vNot, ap_bAnd, ap_bOr, ap_bNot, ap_bYes, ap_vCall, ap_aNil, ap_aCons, ap_aDr, ap_aOwn, ap_vTup, ap_nLst, ap_nList, ap_vL, ap_vB, ap_vIsi, ap_vChain, ap_vIxV, ap_vLenV, ap_vSl, ap_oNone, ap_oSome, ap_wSeq, ap_wArg, ap_vMeth, ap_vRev, ap_nLc, ap_tgName, ap_nCall, ap_vCallB, ap_aBor, nd_int, nd_bool, nd_str, nd_list, nd_tup, nd_none, nd_r, nd_s, nd_Ro, ap_kVar, ap_kOf, ap_vInK, ap_vNiK, ap_vIxK, ap_sPutK, ap_vGetK, ap_vGet1, ap_vLenK, ap_wKeys, ap_kNil, ap_kOne, ap_vD, ap_sOwnK, ap_aOwnK, ap_nSort, ap_nSortK, ap_nSortS, ap_vFr, ap_vFk, ap_vAsk, ap_vMkM, ap_vMkF, ap_gVo, ap_aVo, ap_vEmp, ap_vAskP, ap_nListK, two_fz, noVs_1, bind_ret, bind_exc, ofO_some, fzs_nil, fzs_cons, setAll_nil, setAll_cons, asB_b, noOw_nil, noOw_cons, wipeE_nil, wipeE_cons, noExc_r, seqD_l, seqD_t, tgTup_ap, tgUnl_ap, ap_nLcX, ap_nSortV, ap_kPairs, tgCons_ap, tgNil_ap, List.cons_append, List.nil_append, List.replicate, List.set, List.getElem?_cons_zero, List.getElem?_cons_succ, Option.bind_some, Option.map_some, List.length_cons, List.length_nil, beq_self_eq_true, if_true, if_false, Bool.false_eq_true, Nat.reduceAdd, Nat.reduceSub, Nat.reduceBEq, Nat.zero_add, ↓reduceIte, reduceCtorEq, decide_true, decide_false, Bool.true_and, Bool.and_true, Bool.false_and, Bool.and_false, Bool.or_true, Bool.true_or, Bool.or_false, Bool.false_or, Bool.not_true, Bool.not_false, Bool.and_self, Int.reduceLE, Int.reduceLT, Int.reduceToNat, Int.reduceSub, Int.reduceAdd, Int.reduceNeg, Nat.reduceLT, Nat.reduceLeDiff, s2, n]
theorem lcR_err {c : Nat} {x : Str} (h : m_law_error [.ex c] = .ret (.str x)) : lcR [.un, .un, .un, .un, .ex c, .un] = .ret (errD x) := by
  have s2 : small 2 = true := rfl
  have n : bNoE 4 [.un, .un, .un, .un, .ex c, .un] = .ret false := rfl
  have a : aEx 4 aNil [.un, .un, .un, .un, .ex c, .un] = .ret [.ex c] := rfl
  unfold lcR errD
  generalize m_law_error = m at h ⊢
  simp -implicitDefEqProofs only [ap_runB, ap_sSeq, ap_sNil, ap_sIf, ap_sRet, ap_sRetN, ap_sSet, ap_sOwn, ap_sPar, ap_sAsg, ap_sDrop, ap_sFz, ap_sFor, ap_sApp, ap_sAugI, ap_sRaise, ap_sBreak, ap_vT, ap_v2, ap_vVar, ap_vBor, ap_vC, ap_vIf, ap_vAnd, ap_vOr, ap_vNot, ap_bAnd, ap_bOr, ap_bNot, ap_bYes, ap_vCall, ap_aNil, ap_aCons, ap_aDr, ap_aOwn, ap_vTup, ap_nLst, ap_nList, ap_vL, ap_vB, ap_vIsi, ap_vChain, ap_vIxV, ap_vLenV, ap_vSl, ap_oNone, ap_oSome, ap_wSeq, ap_wArg, ap_vMeth, ap_vRev, ap_nLc, ap_tgName, ap_nCall, ap_vCallB, ap_aBor, nd_int, nd_bool, nd_str, nd_list, nd_tup, nd_none, nd_r, nd_s, nd_Ro, ap_kVar, ap_kOf, ap_vInK, ap_vNiK, ap_vIxK, ap_sPutK, ap_vGetK, ap_vGet1, ap_vLenK, ap_wKeys, ap_kNil, ap_kOne, ap_vD, ap_sOwnK, ap_aOwnK, ap_nSort, ap_nSortK, ap_nSortS, ap_vFr, ap_vFk, ap_vAsk, ap_vMkM, ap_vMkF, ap_gVo, ap_aVo, ap_vEmp, ap_vAskP, ap_nListK, two_fz, noVs_1, bind_ret, bind_exc, ofO_some, fzs_nil, fzs_cons, setAll_nil, setAll_cons, asB_b, noOw_nil, noOw_cons, wipeE_nil, wipeE_cons, noExc_r, seqD_l, seqD_t, tgTup_ap, tgUnl_ap, ap_nLcX, ap_nSortV, ap_kPairs, tgCons_ap, tgNil_ap, List.cons_append, List.nil_append, List.replicate, List.set, List.getElem?_cons_zero, List.getElem?_cons_succ, Option.bind_some, Option.map_some, List.length_cons, List.length_nil, beq_self_eq_true, if_true, if_false, Bool.false_eq_true, Nat.reduceAdd, Nat.reduceSub, Nat.reduceBEq, Nat.zero_add, ↓reduceIte, reduceCtorEq, decide_true, decide_false, Bool.true_and, Bool.and_true, Bool.false_and, Bool.and_false, Bool.or_true, Bool.true_or, Bool.or_false, Bool.false_or, Bool.not_true, Bool.not_false, Bool.and_self, Int.reduceLE, Int.reduceLT, Int.reduceToNat, Int.reduceSub, Int.reduceAdd, Int.reduceNeg, Nat.reduceLT, Nat.reduceLeDiff, s2, n, a, h]
theorem try_eq {fs : List (Str × Fld)} {r : List Ent} {fx : Envt → Tr (D × Envt)} {f : Envt → Tr D} (hl : loneE 0 (.bo 80 fs :: r) = true) : lTry 80 6 3 4 fx f (.bo 80 fs :: r) = tryX (fx (.om 80 fs :: r)) (fun de => match de.2[(0 : Nat)]? with
        | some (.om c'' fs') => if c'' == 80 then (noExc (f (de.2.set 3 (.fz de.1)))).bind fun d => .ret (d, fs') else .bad
        | _ => .bad)
      (fun code => if code < 6 then (noExc (f ((List.replicate 6 .un).set 4 (.ex code)))).bind fun d => .ret (d, fs) else .bad) := by
  have h : lTry 80 6 3 4 fx f (.bo 80 fs :: r) = if ((80 : Nat) == 80) && loneE 0 (.bo 80 fs :: r) && decide (0 < 3) then tryX (fx (.om 80 fs :: r)) (fun de => match de.2[(0 : Nat)]? with
        | some (.om c'' fs') => if c'' == 80 then (noExc (f (de.2.set 3 (.fz de.1)))).bind fun d => .ret (d, fs') else .bad
        | _ => .bad)
      (fun code => if code < 6 then (noExc (f ((List.replicate 6 .un).set 4 (.ex code)))).bind fun d => .ret (d, fs) else .bad) else .bad := rfl
  rw [h, hl]; rfl
theorem lcY_play {F : List (Str × Fld)} (hn : fldAt "play" F = none) (d : D) : lcY [.om 80 F, .fz (.int 0), .fz d, .fz .none, .fz .none, .un] = (m_Table_play [.bo 80 F, .fz d]).bind fun r => .ret (r.1, [.om 80 r.2, .fz (.int 0), .fz d, .fz .none, .fz .none, .un]) := by
  have t : vT (v2 dEq (vVar 1) (vC (.int 0))) [.om 80 F, .fz (.int 0), .fz d, .fz .none, .fz .none, .un] = .ret true := rfl
  unfold lcY yIfX
  rw [t]
  show yAskX 2 80 "play" m_Table_play 0 (aCons (vVar 2) (aNil)) [.om 80 F, .fz (.int 0), .fz d, .fz .none, .fz .none, .un] = _
  have e : yAskX 2 80 "play" m_Table_play 0 (aCons (vVar 2) (aNil)) [.om 80 F, .fz (.int 0), .fz d, .fz .none, .fz .none, .un] = if (fldAt "play" F).isNone then (m_Table_play [.bo 80 F, .fz d]).bind fun r => .ret (r.1, [.om 80 r.2, .fz (.int 0), .fz d, .fz .none, .fz .none, .un]) else .bad := rfl
  rw [e, hn]; rfl
theorem lcY_undo {F : List (Str × Fld)} (hn : fldAt "undo" F = none) (d : D) : lcY [.om 80 F, .fz (.int 1), .fz d, .fz .none, .fz .none, .un] = (m_Table_undo [.bo 80 F]).bind fun r => .ret (r.1, [.om 80 r.2, .fz (.int 1), .fz d, .fz .none, .fz .none, .un]) := by
  have t : vT (v2 dEq (vVar 1) (vC (.int 0))) [.om 80 F, .fz (.int 1), .fz d, .fz .none, .fz .none, .un] = .ret false := rfl
  unfold lcY yIfX
  rw [t]
  show yAskX 1 80 "undo" m_Table_undo 0 aNil [.om 80 F, .fz (.int 1), .fz d, .fz .none, .fz .none, .un] = _
  have e : yAskX 1 80 "undo" m_Table_undo 0 aNil [.om 80 F, .fz (.int 1), .fz d, .fz .none, .fz .none, .un] = if (fldAt "undo" F).isNone then (m_Table_undo [.bo 80 F]).bind fun r => .ret (r.1, [.om 80 r.2, .fz (.int 1), .fz d, .fz .none, .fz .none, .un]) else .bad := rfl
  rw [e, hn]; rfl
theorem lc_start {F : List (Str × Fld)} (x y : D) : m_law_call [.bo 80 F, .fz x, .fz y] = lTry 80 6 3 4 lcY lcR [.bo 80 F, .fz x, .fz y, .fz .none, .fz .none, .un] := by
  show u_law_call [.bo 80 F, .fz x, .fz y, .un, .un, .un] = _
  rw [lc_split]
  exact eval_lSeq [.bo 80 F, .fz x, .fz y, .fz .none, .un, .un] rfl (eval_lSeq [.bo 80 F, .fz x, .fz y, .fz .none, .fz .none, .un] rfl rfl)
theorem call_play {F F' : List (Str × Fld)} {d v : D} (hn : fldAt "play" F = none) (h : m_Table_play [.bo 80 F, .fz d] = .ret (v, F')) : m_law_call [.bo 80 F, .fz (.int 0), .fz d] = .ret (toldD v, F') := by
  rw [lc_start, try_eq rfl, lcY_play hn, h]
  show (noExc (lcR [.om 80 F', .fz (.int 0), .fz d, .fz v, .fz .none, .un])).bind (fun d => Tr.ret (d, F')) = _
  rw [lcR_told]; rfl
theorem call_playX {F : List (Str × Fld)} {d : D} {c : Nat} {x : Str} (hn : fldAt "play" F = none) (h : m_Table_play [.bo 80 F, .fz d] = .exc c) (hc : c < 6) (hx : m_law_error [.ex c] = .ret (.str x)) : m_law_call [.bo 80 F, .fz (.int 0), .fz d] = .ret (errD x, F) := by
  rw [lc_start, try_eq rfl, lcY_play hn, h]
  show (if c < 6 then (noExc (lcR [.un, .un, .un, .un, .ex c, .un])).bind (fun d => Tr.ret (d, F)) else .bad) = _
  rw [if_pos hc, lcR_err hx]; rfl
theorem call_undo {F F' : List (Str × Fld)} {d v : D} (hn : fldAt "undo" F = none) (h : m_Table_undo [.bo 80 F] = .ret (v, F')) : m_law_call [.bo 80 F, .fz (.int 1), .fz d] = .ret (toldD v, F') := by
  rw [lc_start, try_eq rfl, lcY_undo hn, h]
  show (noExc (lcR [.om 80 F', .fz (.int 1), .fz d, .fz v, .fz .none, .un])).bind (fun d => Tr.ret (d, F')) = _
  rw [lcR_told]; rfl
theorem call_undoX {F : List (Str × Fld)} {d : D} {c : Nat} {x : Str} (hn : fldAt "undo" F = none) (h : m_Table_undo [.bo 80 F] = .exc c) (hc : c < 6) (hx : m_law_error [.ex c] = .ret (.str x)) : m_law_call [.bo 80 F, .fz (.int 1), .fz d] = .ret (errD x, F) := by
  rw [lc_start, try_eq rfl, lcY_undo hn, h]
  show (if c < 6 then (noExc (lcR [.un, .un, .un, .un, .ex c, .un])).bind (fun d => Tr.ret (d, F)) else .bad) = _
  rw [if_pos hc, lcR_err hx]; rfl
end
end Mb
set_option maxHeartbeats 1000000
namespace Mb
open PySem L2
noncomputable section
noncomputable def lw0 : Stm :=
  sPar [2, 3] (aCons (vCall 1 m_law_rule (aDr 1 (aNil))) (aCons (vCall 2 mDraw (aDr 1 (aCons (vC (.int 3)) (aNil)))) (aNil)))
noncomputable def lw1 : Stm :=
  sParO 4 5 80 2 m_Table_init (aCons (vVar 2) (aCons (vVar 3) (aNil))) (nLst (aNil))
noncomputable def lw3 : Stm :=
  sMkO 6 80 2 m_Table_init (aCons (vTup (aCons (vC (.int 2)) (aCons (vC (.str "two")) (aCons (vC (.int 2)) (aCons (vC (.str "longer")) (aCons (vC (.str "twos")) (aNil))))))) (aCons (vC (.int 0)) (aNil)))
noncomputable def lw4s : Envt → Tr (List D) := wArg rng1 (aCons (vC (.int 16)) (aNil))
noncomputable def lw4b0 : Stm :=
  sDropY (yAsk 2 80 "play" m_Table_play 6 (aCons (v2 dIx (vL (nLst (aCons (vC (.int 0)) (aCons (vC (.int 1)) (aCons (vC (.int 1)) (aCons (vC (.int 1)) (aCons (vC (.int 0)) (aCons (vC (.int 0)) (aCons (vC (.int 1)) (aCons (vC (.int 0)) (aNil))))))))))) (v2 dMod (vVar 7) (vC (.int 8)))) (aNil)))
noncomputable def lw4b1 : Stm :=
  sSet 8 (vCall 2 m_law_states (aCons (vVar 2) (aCons (vVar 5) (aNil))))
noncomputable def lw4b2 : Stm :=
  sIf (bOr (vT (v2 dNe (vAskR 1 80 "state" m_Table_state 4 aNil) (v2 dIx (vVar 8) (vC (.int (-1)))))) (bOr (vT (v2 dNe (vAskR 1 80 "rallies" m_Table_rallies 4 aNil) (vVar 5))) (vT (v2 dNe (vLenO 80 m_Table___len__ 4) (vB fnLen (aCons (vVar 5) (aNil)))))))
  (sRet (vC (.bool false)))
  (sNil)
noncomputable def lw4b3 : Stm :=
  sIf (vT (v2 dNe (vAskR 1 80 "boards" m_Table_boards 4 aNil) (vL (nLc [11] (wSeq (vSl (vVar 8) (oSome (vC (.int 1))) (oNone))) (tgName 11) (bYes) (vCall 2 m_law_board (aCons (vVar 11) (aCons (vVar 3) (aNil))))))))
  (sRet (vC (.bool false)))
  (sNil)
noncomputable def lw4b4 : Stm :=
  sIf (vT (v2 dEq (vCall 2 mDraw (aDr 1 (aCons (vC (.int 5)) (aNil)))) (vC (.int 0))))
  (sSeq (sIfY (yT (y2 dNe (yGive 3 80 m_law_call 4 (aCons (vC (.int 1)) (aCons (vC (.int 0)) (aNil)))) (yE (vIf (vT (v2 dNe (vVar 5) (vL (nLst (aNil))))) (vTup (aCons (vC (.str "told")) (aCons (v2 dIx (vVar 5) (vC (.int (-1)))) (aNil)))) (vTup (aCons (vC (.str "error")) (aCons (vC (.str "none")) (aNil))))))))
  (sRet (vC (.bool false)))
  (sNil))
  (sSet 5 (vSl (vVar 5) (oNone) (oSome (vC (.int (-1)))))))
  (sSeq (sSet 9 (vCall 2 mDraw (aDr 1 (aCons (vC (.int 2)) (aNil)))))
  (sSeq (sIfY (yT (y2 dNe (yGive 3 80 m_law_call 4 (aCons (vC (.int 0)) (aCons (vVar 9) (aNil)))) (yE (vTup (aCons (vC (.str "told")) (aCons (vCall 2 m_law_board (aCons (vCall 3 m_law_step (aCons (vVar 2) (aCons (v2 dIx (vVar 8) (vC (.int (-1)))) (aCons (vVar 9) (aNil))))) (aCons (vVar 3) (aNil)))) (aNil)))))))
  (sRet (vC (.bool false)))
  (sNil))
  (sSet 5 (v2 dAdd (vVar 5) (vL (nLst (aCons (vVar 9) (aNil))))))))
noncomputable def lw4b5 : Stm :=
  sSet 10 (vCall 2 m_law_pick (aDr 1 (aCons (vL (nLst (aCons (vC .none) (aCons (vC (.int 2)) (aCons (vC (.int (-1))) (aCons (vC (.bool true)) (aCons (vC (.str "1")) (aCons (vL (nLst (aCons (vC (.int 1)) (aNil)))) (aCons (vTup (aCons (vC (.int 0)) (aNil))) (aCons (vC (.bool false)) (aCons (vC (.int 100)) (aNil)))))))))))) (aNil))))
noncomputable def lw4b6 : Stm :=
  sIfY (yT (y2 dNe (yGive 3 80 m_law_call 4 (aCons (vC (.int 0)) (aCons (vVar 10) (aNil)))) (yE (vTup (aCons (vC (.str "error")) (aCons (vC (.str "rally")) (aNil)))))))
  (sRet (vC (.bool false)))
  (sNil)
noncomputable def lw4br6 : Stm := lw4b6
noncomputable def lw4br5 : Stm := sSeq lw4b5 lw4br6
noncomputable def lw4br4 : Stm := sSeq lw4b4 lw4br5
noncomputable def lw4br3 : Stm := sSeq lw4b3 lw4br4
noncomputable def lw4br2 : Stm := sSeq lw4b2 lw4br3
noncomputable def lw4br1 : Stm := sSeq lw4b1 lw4br2
noncomputable def lw4br0 : Stm := sSeq lw4b0 lw4br1
noncomputable def lw4 : Stm := sFor lw4s (tgName 7) lw4br0
noncomputable def lw5 : Stm :=
  sIf (bOr (vT (v2 dNe (vAskR 1 80 "rallies" m_Table_rallies 6 aNil) (v2 dMul (vL (nLst (aCons (vC (.int 0)) (aCons (vC (.int 1)) (aCons (vC (.int 1)) (aCons (vC (.int 1)) (aCons (vC (.int 0)) (aCons (vC (.int 0)) (aCons (vC (.int 1)) (aCons (vC (.int 0)) (aNil))))))))))) (vC (.int 2))))) (vT (v2 dNe (vAskR 1 80 "boards" m_Table_boards 6 aNil) (vCall 3 m_boards_of (aCons (vTup (aCons (vC (.int 2)) (aCons (vC (.str "two")) (aCons (vC (.int 2)) (aCons (vC (.str "longer")) (aCons (vC (.str "twos")) (aNil))))))) (aCons (v2 dMul (vL (nLst (aCons (vC (.int 0)) (aCons (vC (.int 1)) (aCons (vC (.int 1)) (aCons (vC (.int 1)) (aCons (vC (.int 0)) (aCons (vC (.int 0)) (aCons (vC (.int 1)) (aCons (vC (.int 0)) (aNil))))))))))) (vC (.int 2))) (aCons (vC (.int 0)) (aNil))))))))
  (sRet (vC (.bool false)))
  (sNil)
noncomputable def lw6c : Envt → Tr Bool := vT (v2 dLt (vLenO 80 m_Table___len__ 6) (vC (.int 200)))
noncomputable def lw6b0 : Stm :=
  sDropY (yAsk 2 80 "play" m_Table_play 6 (aCons (vC (.int 1)) (aNil)))
noncomputable def lw6 : Stm := sWhile lw6c lw6b0 1000
noncomputable def lw7 : Stm :=
  sIfY (yOr (yT (y2 dNe (yGive 3 80 m_law_call 6 (aCons (vC (.int 0)) (aCons (vC (.int 1)) (aNil)))) (yE (vTup (aCons (vC (.str "error")) (aCons (vC (.str "number")) (aNil))))))) (yOr (yT (y2 dNe (yGive 3 80 m_law_call 6 (aCons (vC (.int 0)) (aCons (vC (.int 2)) (aNil)))) (yE (vTup (aCons (vC (.str "error")) (aCons (vC (.str "rally")) (aNil))))))) (yTT (vT (v2 dNe (vLenO 80 m_Table___len__ 6) (vC (.int 200)))))))
  (sRet (vC (.bool false)))
  (sNil)
noncomputable def lw8 : Stm :=
  sRetY (yAndV (y2 dEq (yAsk 1 80 "undo" m_Table_undo 6 aNil) (yE (vC (.int 1)))) (yAndV (y2 dEq (yAsk 2 80 "play" m_Table_play 6 (aCons (vC (.int 0)) (aNil))) (yE (v2 dIx (vAskR 1 80 "boards" m_Table_boards 6 aNil) (vC (.int (-1)))))) (yAndV (yE (v2 dEq (vLenO 80 m_Table___len__ 6) (vC (.int 200)))) (yE (v2 dEq (v2 dIx (vAskR 1 80 "rallies" m_Table_rallies 6 aNil) (vC (.int (-1)))) (vC (.int 0)))))))
noncomputable def lwr8 : Stm := lw8
noncomputable def lwr7 : Stm := sSeq lw7 lwr8
noncomputable def lwr6 : Stm := sSeq lw6 lwr7
noncomputable def lwr5 : Stm := sSeq lw5 lwr6
noncomputable def lwr4 : Stm := sSeq lw4 lwr5
noncomputable def lwr3 : Stm := sSeq lw3 lwr4
noncomputable def lwr2 : Stm := sFz 5 lwr3
noncomputable def lwr1 : Stm := sSeq lw1 lwr2
noncomputable def lwr0 : Stm := sSeq lw0 lwr1
theorem lw_split : u_law = lwr0 := rfl
def rT : Ru := ⟨2, .two, 2, .longer, .twos⟩
theorem rT_ok : rT.ok := by unfold Ru.ok rT; decide
def patB (i : Nat) : Bool := [false, true, true, true, false, false, true, false].getD (i % 8) false
def sdB (t : Nat) : List Bool := (List.range t).map patB
theorem sdB_snoc (t : Nat) : sdB (t + 1) = sdB t ++ [patB t] := by unfold sdB; rw [List.range_succ, List.map_append]; rfl
theorem sdB_len (t : Nat) : (sdB t).length = t := by unfold sdB; rw [List.length_map, List.length_range]
def eL (r : Ru) (k : Int) (bs : List Bool) (X : List Bool) (e7 e8 e9 e10 : Ent) : Envt := [.un, .dr, .fz r.e, .fz (.int k), .ob 80 (tb r k bs), .fz (Ro bs), .ob 80 (tb rT 0 X), e7, e8, e9, e10, .un]
theorem tbn_play (r : Ru) (k : Int) (bs : List Bool) : fldAt "play" (tb r k bs) = none := tn_play ..
theorem tbn_undo (r : Ru) (k : Int) (bs : List Bool) : fldAt "undo" (tb r k bs) = none := tn_undo ..
theorem tbn_state (r : Ru) (k : Int) (bs : List Bool) : fldAt "state" (tb r k bs) = none := tn_state ..
theorem tbn_rallies (r : Ru) (k : Int) (bs : List Bool) : fldAt "rallies" (tb r k bs) = none := tn_rallies ..
theorem tbn_boards (r : Ru) (k : Int) (bs : List Bool) : fldAt "boards" (tb r k bs) = none := tn_boards ..
section
variable {env : Envt} {i n : Nat} {nm : Str} {fs fs' : List (Str × Fld)} {g : Envt → Tr (List Ent)} {es : List Ent}
theorem ask_at {m : List Ent → Tr D} {d : D} (he : env[i]? = some (.ob 80 fs)) (hn : fldAt nm fs = none) (hg : g env = .ret es) (hl : (es.length + 1 == n) = true) (hm : m (.bo 80 fs :: es) = .ret d) : vAskR n 80 nm m i g env = .ret d := by
  unfold vAskR
  rw [he]
  show (if ((80 : Nat) == 80) && (fldAt nm fs).isNone then (g env).bind fun es => if es.length + 1 == n then m (.bo 80 fs :: es) else .bad else .bad) = _
  rw [hn, hg]
  show (if es.length + 1 == n then m (.bo 80 fs :: es) else .bad) = _
  rw [if_pos hl, hm]
theorem own_at (he : env[i]? = some (.ob 80 fs)) : ownC i 80 env = some (.ob 80 fs, fs) := by
  unfold ownC
  rw [he]; rfl
theorem yask_at {m : List Ent → Tr (D × List (Str × Fld))} {d : D} (he : env[i]? = some (.ob 80 fs)) (hn : fldAt nm fs = none) (hg : g env = .ret es) (hl : (es.length + 1 == n) = true) (hm : m (.bo 80 fs :: es) = .ret (d, fs')) : yAsk n 80 nm m i g env = .ret (d, env.set i (.ob 80 fs')) := by
  unfold yAsk
  rw [own_at he]
  show (if (fldAt nm fs).isNone then (g env).bind fun es => if es.length + 1 == n then (m (.bo 80 fs :: es)).bind fun r => .ret (r.1, env.set i (withF (.ob 80 fs) r.2)) else .bad else .bad) = _
  rw [hn, hg]
  show (if es.length + 1 == n then (m (.bo 80 fs :: es)).bind fun r => .ret (r.1, env.set i (withF (.ob 80 fs) r.2)) else .bad) = _
  rw [if_pos hl, hm]; rfl
theorem give_at {m : List Ent → Tr (D × List (Str × Fld))} {d : D} (he : env[i]? = some (.ob 80 fs)) (hg : g env = .ret es) (hl : (es.length + 1 == n) = true) (hm : m (.bo 80 fs :: es) = .ret (d, fs')) : yGive n 80 m i g env = .ret (d, env.set i (.ob 80 fs')) := by
  unfold yGive
  rw [own_at he]
  show ((g env).bind fun es => if es.length + 1 == n then (m (.bo 80 fs :: es)).bind fun r => .ret (r.1, env.set i (withF (.ob 80 fs) r.2)) else .bad) = _
  rw [hg]
  show (if es.length + 1 == n then (m (.bo 80 fs :: es)).bind fun r => .ret (r.1, env.set i (withF (.ob 80 fs) r.2)) else .bad) = _
  rw [if_pos hl, hm]; rfl
theorem len_at {m : List Ent → Tr D} {k : Nat} (he : env[i]? = some (.ob 80 fs)) (hm : m [.bo 80 fs] = .ret (.int (k : Nat))) (hk : k ≤ 1000) : vLenO 80 m i env = .ret (.int (k : Nat)) := by
  have e : vLenO 80 m i env = (m [.bo 80 fs]).bind fun d => match d with
    | .int n => if 0 ≤ n ∧ n < 9223372036854775808 then .ret (.int n) else .bad
    | _ => .bad := by
    unfold vLenO
    rw [he]; rfl
  rw [e, hm, bind_ret]
  have h1 : (0 : Int) ≤ (k : Nat) := by omega
  have h2 : ((k : Nat) : Int) < 9223372036854775808 := by omega
  exact if_pos ⟨h1, h2⟩
theorem parO_at {j c : Nat} {m : List Ent → Tr (List (Str × Fld))} {f : Envt → Tr (List D)} {ds : List D} (hg : g env = .ret es) (hl : (es.length == n) = true) (hm : m es = .ret fs) (hf : f env = .ret ds) : sParO i j c n m g f env = .ret (.nx ((env.set i (.ob c fs)).set j (.ow ds))) := by
  unfold sParO
  rw [hg, bind_ret, if_pos hl, hm, bind_ret, hf]; rfl
theorem mkO_at {c : Nat} {m : List Ent → Tr (List (Str × Fld))} (hg : g env = .ret es) (hl : (es.length == n) = true) (hm : m es = .ret fs) : sMkO i c n m g env = .ret (.nx (env.set i (.ob c fs))) := by
  unfold sMkO
  rw [hg, bind_ret, if_pos hl, hm]; rfl
end
/-- a test of two values, told by what they are -/
theorem neY {f : Envt → Tr (D × Envt)} {h : Envt → Tr D} {env env' : Envt} {d : D} {u v : Stm} {o : Tr Out} (h1 : f env = .ret (d, env')) (h2 : h env' = .ret d) (hs : shp d = true) (hv : v env' = o) : sIfY (yT (y2 dNe f (yE h))) u v env = o := by
  unfold sIfY yT y2 yE
  rw [h1]
  show ((((((h env').bind fun d => Tr.ret (d, env')).bind fun y => (ofO (dNe d y.1)).bind fun z => .ret (z, y.2)).bind fun de => (ofO (asB de.1)).bind fun b => .ret (b, de.2)).bind fun b => if b.1 then u b.2 else v b.2)) = _
  rw [h2]
  show ((((ofO (dNe d d)).bind fun z => Tr.ret (z, env')).bind fun de => (ofO (asB de.1)).bind fun b => .ret (b, de.2)).bind fun b => if b.1 then u b.2 else v b.2) = _
  rw [ne_self hs]
  exact hv
theorem pat_ix {t : Nat} (h : t < 16) (e : Envt) (he : e[7]? = some (.fz (.int (t : Nat)))) : aCons (v2 dIx (vL (nLst (aCons (vC (.int 0)) (aCons (vC (.int 1)) (aCons (vC (.int 1)) (aCons (vC (.int 1)) (aCons (vC (.int 0)) (aCons (vC (.int 0)) (aCons (vC (.int 1)) (aCons (vC (.int 0)) (aNil))))))))))) (v2 dMod (vVar 7) (vC (.int 8)))) aNil e = .ret [.fz (.int (rb (patB t)))] := by
  have hv : vVar 7 e = .ret (.int (t : Nat)) := by
    unfold vVar
    rw [he]
  have s8 : small 8 = true := rfl
  have hm : dMod (.int (t : Nat)) (.int 8) = some (.int ((t % 8 : Nat) : Int)) := by
    have : t = 0 ∨ t = 1 ∨ t = 2 ∨ t = 3 ∨ t = 4 ∨ t = 5 ∨ t = 6 ∨ t = 7 ∨ t = 8 ∨ t = 9 ∨ t = 10 ∨ t = 11 ∨ t = 12 ∨ t = 13 ∨ t = 14 ∨ t = 15 := by omega
    rcases this with rfl | rfl | rfl | rfl | rfl | rfl | rfl | rfl | rfl | rfl | rfl | rfl | rfl | rfl | rfl | rfl <;> rfl
  have hx : dIx (.list [.int 0, .int 1, .int 1, .int 1, .int 0, .int 0, .int 1, .int 0]) (.int ((t % 8 : Nat) : Int)) = some (.int (rb (patB t))) := by
    unfold patB
    have : t % 8 = 0 ∨ t % 8 = 1 ∨ t % 8 = 2 ∨ t % 8 = 3 ∨ t % 8 = 4 ∨ t % 8 = 5 ∨ t % 8 = 6 ∨ t % 8 = 7 := by omega
    rcases this with h | h | h | h | h | h | h | h <;> rw [h] <;> rfl
  simp -implicitDefEqProofs only [ap_runB, ap_sSeq, ap_sNil, ap_sIf, ap_sRet, ap_sRetN, ap_sSet, ap_sOwn, ap_sPar, ap_sAsg, ap_sDrop, ap_sFz, ap_sFor, ap_sApp, ap_sAugI, ap_sRaise, ap_sBreak, ap_vT, ap_v2, ap_vVar, ap_vBor, ap_vC, ap_vIf, ap_vAnd, ap_vOr, ap_vNot, ap_bAnd, ap_bOr, ap_bNot, ap_bYes, ap_vCall, ap_aNil, ap_aCons, ap_aDr, ap_aOwn, ap_vTup, ap_nLst, ap_nList, ap_vL, ap_vB, ap_vIsi, ap_vChain, ap_vIxV, ap_vLenV, ap_vSl, ap_oNone, ap_oSome, ap_wSeq, ap_wArg, ap_vMeth, ap_vRev, ap_nLc, ap_tgName, ap_nCall, ap_vCallB, ap_aBor, nd_int, nd_bool, nd_str, nd_list, nd_tup, nd_none, nd_r, nd_s, nd_Ro, ap_kVar, ap_kOf, ap_vInK, ap_vNiK, ap_vIxK, ap_sPutK, ap_vGetK, ap_vGet1, ap_vLenK, ap_wKeys, ap_kNil, ap_kOne, ap_vD, ap_sOwnK, ap_aOwnK, ap_nSort, ap_nSortK, ap_nSortS, ap_vFr, ap_vFk, ap_vAsk, ap_vMkM, ap_vMkF, ap_gVo, ap_aVo, ap_vEmp, ap_vAskP, ap_nListK, two_fz, noVs_1, bind_ret, bind_exc, ofO_some, fzs_nil, fzs_cons, setAll_nil, setAll_cons, asB_b, noOw_nil, noOw_cons, wipeE_nil, wipeE_cons, noExc_r, seqD_l, seqD_t, tgTup_ap, tgUnl_ap, ap_nLcX, ap_nSortV, ap_kPairs, tgCons_ap, tgNil_ap, List.cons_append, List.nil_append, List.replicate, List.set, List.getElem?_cons_zero, List.getElem?_cons_succ, Option.bind_some, Option.map_some, List.length_cons, List.length_nil, beq_self_eq_true, if_true, if_false, Bool.false_eq_true, Nat.reduceAdd, Nat.reduceSub, Nat.reduceBEq, Nat.zero_add, ↓reduceIte, reduceCtorEq, decide_true, decide_false, Bool.true_and, Bool.and_true, Bool.false_and, Bool.and_false, Bool.or_true, Bool.true_or, Bool.or_false, Bool.false_or, Bool.not_true, Bool.not_false, Bool.and_self, Int.reduceLE, Int.reduceLT, Int.reduceToNat, Int.reduceSub, Int.reduceAdd, Int.reduceNeg, Nat.reduceLT, Nat.reduceLeDiff, he, s8, hm, hx]
section
variable {r : Ru} {k : Int} {bs X : List Bool} {t : Nat} (e7 e8 e9 e10 : Ent)
theorem b0_eq (ht : t < 16) : lw4b0 (eL r k bs (sdB t) (.fz (.int (t : Nat))) e8 e9 e10) = .ret (.nx (eL r k bs (sdB (t + 1)) (.fz (.int (t : Nat))) e8 e9 e10)) := by
  have p := play_tb (r := rT) (k := 0) (bs := sdB t) (by rw [sdB_len]; omega) (patB t)
  rw [← sdB_snoc] at p
  unfold lw4b0 sDropY
  rw [yask_at (fs := tb rT 0 (sdB t)) rfl (tbn_play ..) (pat_ix ht _ rfl) rfl p]; rfl
theorem b1_eq (hr : r.ok) (hb : bs.length ≤ 60) : lw4b1 (eL r k bs X e7 e8 e9 e10) = .ret (.nx (eL r k bs X e7 (.fz (Rs r bs)) e9 e10)) := by
  have h := m_law_states_eq hr bs hb
  unfold lw4b1 eL
  generalize m_law_states = m at h ⊢
  generalize tb r k bs = G1
  generalize tb rT 0 X = G2
  simp -implicitDefEqProofs only [ap_runB, ap_sSeq, ap_sNil, ap_sIf, ap_sRet, ap_sRetN, ap_sSet, ap_sOwn, ap_sPar, ap_sAsg, ap_sDrop, ap_sFz, ap_sFor, ap_sApp, ap_sAugI, ap_sRaise, ap_sBreak, ap_vT, ap_v2, ap_vVar, ap_vBor, ap_vC, ap_vIf, ap_vAnd, ap_vOr, ap_vNot, ap_bAnd, ap_bOr, ap_bNot, ap_bYes, ap_vCall, ap_aNil, ap_aCons, ap_aDr, ap_aOwn, ap_vTup, ap_nLst, ap_nList, ap_vL, ap_vB, ap_vIsi, ap_vChain, ap_vIxV, ap_vLenV, ap_vSl, ap_oNone, ap_oSome, ap_wSeq, ap_wArg, ap_vMeth, ap_vRev, ap_nLc, ap_tgName, ap_nCall, ap_vCallB, ap_aBor, nd_int, nd_bool, nd_str, nd_list, nd_tup, nd_none, nd_r, nd_s, nd_Ro, ap_kVar, ap_kOf, ap_vInK, ap_vNiK, ap_vIxK, ap_sPutK, ap_vGetK, ap_vGet1, ap_vLenK, ap_wKeys, ap_kNil, ap_kOne, ap_vD, ap_sOwnK, ap_aOwnK, ap_nSort, ap_nSortK, ap_nSortS, ap_vFr, ap_vFk, ap_vAsk, ap_vMkM, ap_vMkF, ap_gVo, ap_aVo, ap_vEmp, ap_vAskP, ap_nListK, two_fz, noVs_1, bind_ret, bind_exc, ofO_some, fzs_nil, fzs_cons, setAll_nil, setAll_cons, asB_b, noOw_nil, noOw_cons, wipeE_nil, wipeE_cons, noExc_r, seqD_l, seqD_t, tgTup_ap, tgUnl_ap, ap_nLcX, ap_nSortV, ap_kPairs, tgCons_ap, tgNil_ap, List.cons_append, List.nil_append, List.replicate, List.set, List.getElem?_cons_zero, List.getElem?_cons_succ, Option.bind_some, Option.map_some, List.length_cons, List.length_nil, beq_self_eq_true, if_true, if_false, Bool.false_eq_true, Nat.reduceAdd, Nat.reduceSub, Nat.reduceBEq, Nat.zero_add, ↓reduceIte, reduceCtorEq, decide_true, decide_false, Bool.true_and, Bool.and_true, Bool.false_and, Bool.and_false, Bool.or_true, Bool.true_or, Bool.or_false, Bool.false_or, Bool.not_true, Bool.not_false, Bool.and_self, Int.reduceLE, Int.reduceLT, Int.reduceToNat, Int.reduceSub, Int.reduceAdd, Int.reduceNeg, Nat.reduceLT, Nat.reduceLeDiff, h]
theorem b2_eq (hb : bs.length ≤ 60) : lw4b2 (eL r k bs X e7 (.fz (Rs r bs)) e9 e10) = .ret (.nx (eL r k bs X e7 (.fz (Rs r bs)) e9 e10)) := by
  have a1 : vAskR 1 80 "state" m_Table_state 4 aNil (eL r k bs X e7 (.fz (Rs r bs)) e9 e10) = .ret (afterM r .start bs).e := ask_at rfl (tbn_state r k bs) rfl rfl (state_tb r k bs)
  have a2 : vAskR 1 80 "rallies" m_Table_rallies 4 aNil (eL r k bs X e7 (.fz (Rs r bs)) e9 e10) = .ret (Ro bs) := ask_at rfl (tbn_rallies r k bs) rfl rfl (rallies_tb r k bs)
  have a3 : vLenO 80 m_Table___len__ 4 (eL r k bs X e7 (.fz (Rs r bs)) e9 e10) = .ret (.int (bs.length : Nat)) := len_at rfl (len_tb r k bs) (by omega)
  have a4 := Rs_last r bs
  have n1 := ne_self (shp_st (afterM r .start bs))
  have n2 := ne_self (shp_Ro bs)
  have n3 : dNe (.int (bs.length : Nat)) (.int (bs.length : Nat)) = some (.bool false) := ne_self rfl
  have l := Ro_len bs
  unfold eL at a1 a2 a3 ⊢
  unfold lw4b2
  generalize tb r k bs = G1 at *
  generalize tb rT 0 X = G2 at *
  simp -implicitDefEqProofs only [ap_runB, ap_sSeq, ap_sNil, ap_sIf, ap_sRet, ap_sRetN, ap_sSet, ap_sOwn, ap_sPar, ap_sAsg, ap_sDrop, ap_sFz, ap_sFor, ap_sApp, ap_sAugI, ap_sRaise, ap_sBreak, ap_vT, ap_v2, ap_vVar, ap_vBor, ap_vC, ap_vIf, ap_vAnd, ap_vOr, ap_vNot, ap_bAnd, ap_bOr, ap_bNot, ap_bYes, ap_vCall, ap_aNil, ap_aCons, ap_aDr, ap_aOwn, ap_vTup, ap_nLst, ap_nList, ap_vL, ap_vB, ap_vIsi, ap_vChain, ap_vIxV, ap_vLenV, ap_vSl, ap_oNone, ap_oSome, ap_wSeq, ap_wArg, ap_vMeth, ap_vRev, ap_nLc, ap_tgName, ap_nCall, ap_vCallB, ap_aBor, nd_int, nd_bool, nd_str, nd_list, nd_tup, nd_none, nd_r, nd_s, nd_Ro, ap_kVar, ap_kOf, ap_vInK, ap_vNiK, ap_vIxK, ap_sPutK, ap_vGetK, ap_vGet1, ap_vLenK, ap_wKeys, ap_kNil, ap_kOne, ap_vD, ap_sOwnK, ap_aOwnK, ap_nSort, ap_nSortK, ap_nSortS, ap_vFr, ap_vFk, ap_vAsk, ap_vMkM, ap_vMkF, ap_gVo, ap_aVo, ap_vEmp, ap_vAskP, ap_nListK, two_fz, noVs_1, bind_ret, bind_exc, ofO_some, fzs_nil, fzs_cons, setAll_nil, setAll_cons, asB_b, noOw_nil, noOw_cons, wipeE_nil, wipeE_cons, noExc_r, seqD_l, seqD_t, tgTup_ap, tgUnl_ap, ap_nLcX, ap_nSortV, ap_kPairs, tgCons_ap, tgNil_ap, List.cons_append, List.nil_append, List.replicate, List.set, List.getElem?_cons_zero, List.getElem?_cons_succ, Option.bind_some, Option.map_some, List.length_cons, List.length_nil, beq_self_eq_true, if_true, if_false, Bool.false_eq_true, Nat.reduceAdd, Nat.reduceSub, Nat.reduceBEq, Nat.zero_add, ↓reduceIte, reduceCtorEq, decide_true, decide_false, Bool.true_and, Bool.and_true, Bool.false_and, Bool.and_false, Bool.or_true, Bool.true_or, Bool.or_false, Bool.false_or, Bool.not_true, Bool.not_false, Bool.and_self, Int.reduceLE, Int.reduceLT, Int.reduceToNat, Int.reduceSub, Int.reduceAdd, Int.reduceNeg, Nat.reduceLT, Nat.reduceLeDiff, a1, a2, a3, a4, n1, n2, n3, l]
theorem b3_eq (hb : bs.length ≤ 60) (k0 : 0 ≤ k) (k2 : k ≤ 2) : lw4b3 (eL r k bs X e7 (.fz (Rs r bs)) e9 e10) = .ret (.nx (eL r k bs X e7 (.fz (Rs r bs)) e9 e10)) := by
  have a1 : vAskR 1 80 "boards" m_Table_boards 4 aNil (eL r k bs X e7 (.fz (Rs r bs)) e9 e10) = .ret (Bds r bs k) := ask_at rfl (tbn_boards r k bs) rfl rfl (boards_tb r k bs (by omega))
  have n1 := ne_self (shp_Bds r bs k)
  have e3 : small (runM r .start bs).length = true := small_of (by rw [runM_length]; omega)
  unfold eL at a1 ⊢
  generalize tb r k bs = G1 at *
  generalize tb rT 0 X = G2 at *
  have run : lcRun (tgName 11) bYes (vCall 2 m_law_board (aCons (vVar 11) (aCons (vVar 3) (aNil)))) [.un, .dr, .fz r.e, .fz (.int k), .ob 80 G1, .fz (Ro bs), .ob 80 G2, e7, .fz (Rs r bs), e9, e10, .un] ((runM r .start bs).map Sta.e) = .ret ((runM r .start bs).map (brdM k)) :=
    lc_enc Sta.e (brdM k) fun s _ => by simp -implicitDefEqProofs only [ap_runB, ap_sSeq, ap_sNil, ap_sIf, ap_sRet, ap_sRetN, ap_sSet, ap_sOwn, ap_sPar, ap_sAsg, ap_sDrop, ap_sFz, ap_sFor, ap_sApp, ap_sAugI, ap_sRaise, ap_sBreak, ap_vT, ap_v2, ap_vVar, ap_vBor, ap_vC, ap_vIf, ap_vAnd, ap_vOr, ap_vNot, ap_bAnd, ap_bOr, ap_bNot, ap_bYes, ap_vCall, ap_aNil, ap_aCons, ap_aDr, ap_aOwn, ap_vTup, ap_nLst, ap_nList, ap_vL, ap_vB, ap_vIsi, ap_vChain, ap_vIxV, ap_vLenV, ap_vSl, ap_oNone, ap_oSome, ap_wSeq, ap_wArg, ap_vMeth, ap_vRev, ap_nLc, ap_tgName, ap_nCall, ap_vCallB, ap_aBor, nd_int, nd_bool, nd_str, nd_list, nd_tup, nd_none, nd_r, nd_s, nd_Ro, ap_kVar, ap_kOf, ap_vInK, ap_vNiK, ap_vIxK, ap_sPutK, ap_vGetK, ap_vGet1, ap_vLenK, ap_wKeys, ap_kNil, ap_kOne, ap_vD, ap_sOwnK, ap_aOwnK, ap_nSort, ap_nSortK, ap_nSortS, ap_vFr, ap_vFk, ap_vAsk, ap_vMkM, ap_vMkF, ap_gVo, ap_aVo, ap_vEmp, ap_vAskP, ap_nListK, two_fz, noVs_1, bind_ret, bind_exc, ofO_some, fzs_nil, fzs_cons, setAll_nil, setAll_cons, asB_b, noOw_nil, noOw_cons, wipeE_nil, wipeE_cons, noExc_r, seqD_l, seqD_t, tgTup_ap, tgUnl_ap, ap_nLcX, ap_nSortV, ap_kPairs, tgCons_ap, tgNil_ap, List.cons_append, List.nil_append, List.replicate, List.set, List.getElem?_cons_zero, List.getElem?_cons_succ, Option.bind_some, Option.map_some, List.length_cons, List.length_nil, beq_self_eq_true, if_true, if_false, Bool.false_eq_true, Nat.reduceAdd, Nat.reduceSub, Nat.reduceBEq, Nat.zero_add, ↓reduceIte, reduceCtorEq, decide_true, decide_false, Bool.true_and, Bool.and_true, Bool.false_and, Bool.and_false, Bool.or_true, Bool.true_or, Bool.or_false, Bool.false_or, Bool.not_true, Bool.not_false, Bool.and_self, Int.reduceLE, Int.reduceLT, Int.reduceToNat, Int.reduceSub, Int.reduceAdd, Int.reduceNeg, Nat.reduceLT, Nat.reduceLeDiff, m_law_board_eq s k k0 k2]
  have tl := Rs_tail r bs
  unfold Bds at a1 n1
  unfold lw4b3
  simp -implicitDefEqProofs only [ap_runB, ap_sSeq, ap_sNil, ap_sIf, ap_sRet, ap_sRetN, ap_sSet, ap_sOwn, ap_sPar, ap_sAsg, ap_sDrop, ap_sFz, ap_sFor, ap_sApp, ap_sAugI, ap_sRaise, ap_sBreak, ap_vT, ap_v2, ap_vVar, ap_vBor, ap_vC, ap_vIf, ap_vAnd, ap_vOr, ap_vNot, ap_bAnd, ap_bOr, ap_bNot, ap_bYes, ap_vCall, ap_aNil, ap_aCons, ap_aDr, ap_aOwn, ap_vTup, ap_nLst, ap_nList, ap_vL, ap_vB, ap_vIsi, ap_vChain, ap_vIxV, ap_vLenV, ap_vSl, ap_oNone, ap_oSome, ap_wSeq, ap_wArg, ap_vMeth, ap_vRev, ap_nLc, ap_tgName, ap_nCall, ap_vCallB, ap_aBor, nd_int, nd_bool, nd_str, nd_list, nd_tup, nd_none, nd_r, nd_s, nd_Ro, ap_kVar, ap_kOf, ap_vInK, ap_vNiK, ap_vIxK, ap_sPutK, ap_vGetK, ap_vGet1, ap_vLenK, ap_wKeys, ap_kNil, ap_kOne, ap_vD, ap_sOwnK, ap_aOwnK, ap_nSort, ap_nSortK, ap_nSortS, ap_vFr, ap_vFk, ap_vAsk, ap_vMkM, ap_vMkF, ap_gVo, ap_aVo, ap_vEmp, ap_vAskP, ap_nListK, two_fz, noVs_1, bind_ret, bind_exc, ofO_some, fzs_nil, fzs_cons, setAll_nil, setAll_cons, asB_b, noOw_nil, noOw_cons, wipeE_nil, wipeE_cons, noExc_r, seqD_l, seqD_t, tgTup_ap, tgUnl_ap, ap_nLcX, ap_nSortV, ap_kPairs, tgCons_ap, tgNil_ap, List.cons_append, List.nil_append, List.replicate, List.set, List.getElem?_cons_zero, List.getElem?_cons_succ, Option.bind_some, Option.map_some, List.length_cons, List.length_nil, beq_self_eq_true, if_true, if_false, Bool.false_eq_true, Nat.reduceAdd, Nat.reduceSub, Nat.reduceBEq, Nat.zero_add, ↓reduceIte, reduceCtorEq, decide_true, decide_false, Bool.true_and, Bool.and_true, Bool.false_and, Bool.and_false, Bool.or_true, Bool.true_or, Bool.or_false, Bool.false_or, Bool.not_true, Bool.not_false, Bool.and_self, Int.reduceLE, Int.reduceLT, Int.reduceToNat, Int.reduceSub, Int.reduceAdd, Int.reduceNeg, Nat.reduceLT, Nat.reduceLeDiff, a1, tl, it_l, List.length_map, e3, run, n1]
def b4U : Stm := (sSeq (sIfY (yT (y2 dNe (yGive 3 80 m_law_call 4 (aCons (vC (.int 1)) (aCons (vC (.int 0)) (aNil)))) (yE (vIf (vT (v2 dNe (vVar 5) (vL (nLst (aNil))))) (vTup (aCons (vC (.str "told")) (aCons (v2 dIx (vVar 5) (vC (.int (-1)))) (aNil)))) (vTup (aCons (vC (.str "error")) (aCons (vC (.str "none")) (aNil))))))))
  (sRet (vC (.bool false)))
  (sNil))
  (sSet 5 (vSl (vVar 5) (oNone) (oSome (vC (.int (-1)))))))
def b4Q : Stm := (sIfY (yT (y2 dNe (yGive 3 80 m_law_call 4 (aCons (vC (.int 0)) (aCons (vVar 9) (aNil)))) (yE (vTup (aCons (vC (.str "told")) (aCons (vCall 2 m_law_board (aCons (vCall 3 m_law_step (aCons (vVar 2) (aCons (v2 dIx (vVar 8) (vC (.int (-1)))) (aCons (vVar 9) (aNil))))) (aCons (vVar 3) (aNil)))) (aNil)))))))
  (sRet (vC (.bool false)))
  (sNil))
def b4P : Stm := (sSeq (sSet 9 (vCall 2 mDraw (aDr 1 (aCons (vC (.int 2)) (aNil)))))
  (sSeq b4Q
  (sSet 5 (v2 dAdd (vVar 5) (vL (nLst (aCons (vVar 9) (aNil))))))))
theorem b4_split : lw4b4 = sIf (vT (v2 dEq (vCall 2 mDraw (aDr 1 (aCons (vC (.int 5)) (aNil)))) (vC (.int 0)))) b4U b4P := rfl
theorem ro_cut (bs : List Bool) (b : Bool) : dSl (Ro (bs ++ [b])) none (some (-1)) = some (Ro bs) := by
  have h : dSl (.list (lnD bs ++ [.int (rb b)])) none (some (-1)) = some (.list (lnD bs)) := by
    show some (PyData.list (cutD _ none (some (-1)))) = _
    have e : HT.sIx (lnD bs ++ [PyData.int (rb b)]).length (lnD bs ++ [PyData.int (rb b)]).length (some (-1)) = (lnD bs).length := by
      rw [List.length_append, List.length_singleton]
      unfold HT.sIx
      simp
      omega
    have e0 : HT.sIx (lnD bs ++ [PyData.int (rb b)]).length 0 none = 0 := rfl
    unfold cutD
    rw [e, e0]
    simp
  have e : Ro (bs ++ [b]) = .list (lnD bs ++ [.int (rb b)]) := by
    unfold Ro
    rw [List.map_append]; rfl
  rw [e]; exact h
theorem b4U_nil : b4U (eL r k [] X e7 e8 e9 e10) = .ret (.nx (eL r k [] X e7 e8 e9 e10)) := by
  have q := call_undoX (d := .int 0) (tbn_undo r k []) (m_Table_undo_eqB (R := r.e) (k := k) (st := stD r [])) (by decide) (m_law_error_eq 5 (by decide))
  refine eval_seq (eL r k [] X e7 e8 e9 e10) (neY (d := errD "none") (env' := eL r k [] X e7 e8 e9 e10) (give_at (fs := tb r k []) rfl rfl rfl q) ?_ rfl rfl) rfl
  unfold eL
  generalize tb r k [] = G1
  generalize tb rT 0 X = G2
  rfl
theorem b4U_snoc (b : Bool) (hb : bs.length ≤ 60) : b4U (eL r k (bs ++ [b]) X e7 e8 e9 e10) = .ret (.nx (eL r k bs X e7 e8 e9 e10)) := by
  have q := call_undo (d := .int 0) (tbn_undo r k (bs ++ [b])) (undo_tb (r := r) (k := k) bs b)
  have ne : dNe (Ro (bs ++ [b])) (.list []) = some (.bool true) := by
    rw [ne_shp (shp_Ro _) rfl]
    cases bs <;> rfl
  have lx : dIx (Ro (bs ++ [b])) (.int (-1)) = some (.int (rb b)) := by
    have e : Ro (bs ++ [b]) = .list (lnD bs ++ [.int (rb b)]) := by
      unfold Ro
      rw [List.map_append]; rfl
    rw [e]; exact last_ix ..
  have ct := ro_cut bs b
  have s0 : small 0 = true := rfl
  have s2 : small 2 = true := rfl
  refine eval_seq ([.un, .dr, .fz r.e, .fz (.int k), .ob 80 (tb r k bs), .fz (Ro (bs ++ [b])), .ob 80 (tb rT 0 X), e7, e8, e9, e10, .un]) (neY (d := toldD (.int (rb b))) (env' := [.un, .dr, .fz r.e, .fz (.int k), .ob 80 (tb r k bs), .fz (Ro (bs ++ [b])), .ob 80 (tb rT 0 X), e7, e8, e9, e10, .un]) (give_at (fs := tb r k (bs ++ [b])) rfl rfl rfl q) ?_ rfl rfl) ?_
  · unfold toldD
    generalize tb r k bs = G1
    generalize tb rT 0 X = G2
    generalize Ro (bs ++ [b]) = RR at *
    simp -implicitDefEqProofs only [ap_runB, ap_sSeq, ap_sNil, ap_sIf, ap_sRet, ap_sRetN, ap_sSet, ap_sOwn, ap_sPar, ap_sAsg, ap_sDrop, ap_sFz, ap_sFor, ap_sApp, ap_sAugI, ap_sRaise, ap_sBreak, ap_vT, ap_v2, ap_vVar, ap_vBor, ap_vC, ap_vIf, ap_vAnd, ap_vOr, ap_vNot, ap_bAnd, ap_bOr, ap_bNot, ap_bYes, ap_vCall, ap_aNil, ap_aCons, ap_aDr, ap_aOwn, ap_vTup, ap_nLst, ap_nList, ap_vL, ap_vB, ap_vIsi, ap_vChain, ap_vIxV, ap_vLenV, ap_vSl, ap_oNone, ap_oSome, ap_wSeq, ap_wArg, ap_vMeth, ap_vRev, ap_nLc, ap_tgName, ap_nCall, ap_vCallB, ap_aBor, nd_int, nd_bool, nd_str, nd_list, nd_tup, nd_none, nd_r, nd_s, nd_Ro, ap_kVar, ap_kOf, ap_vInK, ap_vNiK, ap_vIxK, ap_sPutK, ap_vGetK, ap_vGet1, ap_vLenK, ap_wKeys, ap_kNil, ap_kOne, ap_vD, ap_sOwnK, ap_aOwnK, ap_nSort, ap_nSortK, ap_nSortS, ap_vFr, ap_vFk, ap_vAsk, ap_vMkM, ap_vMkF, ap_gVo, ap_aVo, ap_vEmp, ap_vAskP, ap_nListK, two_fz, noVs_1, bind_ret, bind_exc, ofO_some, fzs_nil, fzs_cons, setAll_nil, setAll_cons, asB_b, noOw_nil, noOw_cons, wipeE_nil, wipeE_cons, noExc_r, seqD_l, seqD_t, tgTup_ap, tgUnl_ap, ap_nLcX, ap_nSortV, ap_kPairs, tgCons_ap, tgNil_ap, List.cons_append, List.nil_append, List.replicate, List.set, List.getElem?_cons_zero, List.getElem?_cons_succ, Option.bind_some, Option.map_some, List.length_cons, List.length_nil, beq_self_eq_true, if_true, if_false, Bool.false_eq_true, Nat.reduceAdd, Nat.reduceSub, Nat.reduceBEq, Nat.zero_add, ↓reduceIte, reduceCtorEq, decide_true, decide_false, Bool.true_and, Bool.and_true, Bool.false_and, Bool.and_false, Bool.or_true, Bool.true_or, Bool.or_false, Bool.false_or, Bool.not_true, Bool.not_false, Bool.and_self, Int.reduceLE, Int.reduceLT, Int.reduceToNat, Int.reduceSub, Int.reduceAdd, Int.reduceNeg, Nat.reduceLT, Nat.reduceLeDiff, ne, lx, s0, s2]
  · unfold eL
    generalize tb r k bs = G1
    generalize tb rT 0 X = G2
    generalize Ro (bs ++ [b]) = RR at *
    simp -implicitDefEqProofs only [ap_runB, ap_sSeq, ap_sNil, ap_sIf, ap_sRet, ap_sRetN, ap_sSet, ap_sOwn, ap_sPar, ap_sAsg, ap_sDrop, ap_sFz, ap_sFor, ap_sApp, ap_sAugI, ap_sRaise, ap_sBreak, ap_vT, ap_v2, ap_vVar, ap_vBor, ap_vC, ap_vIf, ap_vAnd, ap_vOr, ap_vNot, ap_bAnd, ap_bOr, ap_bNot, ap_bYes, ap_vCall, ap_aNil, ap_aCons, ap_aDr, ap_aOwn, ap_vTup, ap_nLst, ap_nList, ap_vL, ap_vB, ap_vIsi, ap_vChain, ap_vIxV, ap_vLenV, ap_vSl, ap_oNone, ap_oSome, ap_wSeq, ap_wArg, ap_vMeth, ap_vRev, ap_nLc, ap_tgName, ap_nCall, ap_vCallB, ap_aBor, nd_int, nd_bool, nd_str, nd_list, nd_tup, nd_none, nd_r, nd_s, nd_Ro, ap_kVar, ap_kOf, ap_vInK, ap_vNiK, ap_vIxK, ap_sPutK, ap_vGetK, ap_vGet1, ap_vLenK, ap_wKeys, ap_kNil, ap_kOne, ap_vD, ap_sOwnK, ap_aOwnK, ap_nSort, ap_nSortK, ap_nSortS, ap_vFr, ap_vFk, ap_vAsk, ap_vMkM, ap_vMkF, ap_gVo, ap_aVo, ap_vEmp, ap_vAskP, ap_nListK, two_fz, noVs_1, bind_ret, bind_exc, ofO_some, fzs_nil, fzs_cons, setAll_nil, setAll_cons, asB_b, noOw_nil, noOw_cons, wipeE_nil, wipeE_cons, noExc_r, seqD_l, seqD_t, tgTup_ap, tgUnl_ap, ap_nLcX, ap_nSortV, ap_kPairs, tgCons_ap, tgNil_ap, List.cons_append, List.nil_append, List.replicate, List.set, List.getElem?_cons_zero, List.getElem?_cons_succ, Option.bind_some, Option.map_some, List.length_cons, List.length_nil, beq_self_eq_true, if_true, if_false, Bool.false_eq_true, Nat.reduceAdd, Nat.reduceSub, Nat.reduceBEq, Nat.zero_add, ↓reduceIte, reduceCtorEq, decide_true, decide_false, Bool.true_and, Bool.and_true, Bool.false_and, Bool.and_false, Bool.or_true, Bool.true_or, Bool.or_false, Bool.false_or, Bool.not_true, Bool.not_false, Bool.and_self, Int.reduceLE, Int.reduceLT, Int.reduceToNat, Int.reduceSub, Int.reduceAdd, Int.reduceNeg, Nat.reduceLT, Nat.reduceLeDiff, ct]
theorem b4Q_eq (hr : r.ok) (b : Bool) (hb : bs.length ≤ 60) (k0 : 0 ≤ k) (k2 : k ≤ 2) : b4Q (eL r k bs X e7 (.fz (Rs r bs)) (.fz (.int (rb b))) e10) = .ret (.nx [.un, .dr, .fz r.e, .fz (.int k), .ob 80 (tb r k (bs ++ [b])), .fz (Ro bs), .ob 80 (tb rT 0 X), e7, .fz (Rs r bs), .fz (.int (rb b)), e10, .un]) := by
  have q := call_play (tbn_play r k bs) (play_tb (r := r) (k := k) (bs := bs) (by omega) b)
  have lx := Rs_last r bs
  have ls := m_law_step_eq hr (sti_run hr bs (sti_start hr)) b
  have lb := m_law_board_eq (stepM r (afterM r .start bs) b) k k0 k2
  have s2 : small 2 = true := rfl
  have sp : shp (toldD (brdM k (stepM r (afterM r .start bs) b))) = true := by
    refine shp_tup fun d hd => ?_
    simp only [List.mem_cons, List.not_mem_nil, or_false] at hd
    rcases hd with rfl | rfl
    · rfl
    · exact okAt_brd 38 k _
  refine neY (d := toldD (brdM k (stepM r (afterM r .start bs) b))) (env' := [.un, .dr, .fz r.e, .fz (.int k), .ob 80 (tb r k (bs ++ [b])), .fz (Ro bs), .ob 80 (tb rT 0 X), e7, .fz (Rs r bs), .fz (.int (rb b)), e10, .un]) (give_at (fs := tb r k bs) rfl rfl rfl q) ?_ sp rfl
  unfold toldD
  generalize tb r k (bs ++ [b]) = G1
  generalize tb rT 0 X = G2
  generalize m_law_step = m1 at *
  generalize m_law_board = m2 at *
  simp -implicitDefEqProofs only [ap_runB, ap_sSeq, ap_sNil, ap_sIf, ap_sRet, ap_sRetN, ap_sSet, ap_sOwn, ap_sPar, ap_sAsg, ap_sDrop, ap_sFz, ap_sFor, ap_sApp, ap_sAugI, ap_sRaise, ap_sBreak, ap_vT, ap_v2, ap_vVar, ap_vBor, ap_vC, ap_vIf, ap_vAnd, ap_vOr, ap_vNot, ap_bAnd, ap_bOr, ap_bNot, ap_bYes, ap_vCall, ap_aNil, ap_aCons, ap_aDr, ap_aOwn, ap_vTup, ap_nLst, ap_nList, ap_vL, ap_vB, ap_vIsi, ap_vChain, ap_vIxV, ap_vLenV, ap_vSl, ap_oNone, ap_oSome, ap_wSeq, ap_wArg, ap_vMeth, ap_vRev, ap_nLc, ap_tgName, ap_nCall, ap_vCallB, ap_aBor, nd_int, nd_bool, nd_str, nd_list, nd_tup, nd_none, nd_r, nd_s, nd_Ro, ap_kVar, ap_kOf, ap_vInK, ap_vNiK, ap_vIxK, ap_sPutK, ap_vGetK, ap_vGet1, ap_vLenK, ap_wKeys, ap_kNil, ap_kOne, ap_vD, ap_sOwnK, ap_aOwnK, ap_nSort, ap_nSortK, ap_nSortS, ap_vFr, ap_vFk, ap_vAsk, ap_vMkM, ap_vMkF, ap_gVo, ap_aVo, ap_vEmp, ap_vAskP, ap_nListK, two_fz, noVs_1, bind_ret, bind_exc, ofO_some, fzs_nil, fzs_cons, setAll_nil, setAll_cons, asB_b, noOw_nil, noOw_cons, wipeE_nil, wipeE_cons, noExc_r, seqD_l, seqD_t, tgTup_ap, tgUnl_ap, ap_nLcX, ap_nSortV, ap_kPairs, tgCons_ap, tgNil_ap, List.cons_append, List.nil_append, List.replicate, List.set, List.getElem?_cons_zero, List.getElem?_cons_succ, Option.bind_some, Option.map_some, List.length_cons, List.length_nil, beq_self_eq_true, if_true, if_false, Bool.false_eq_true, Nat.reduceAdd, Nat.reduceSub, Nat.reduceBEq, Nat.zero_add, ↓reduceIte, reduceCtorEq, decide_true, decide_false, Bool.true_and, Bool.and_true, Bool.false_and, Bool.and_false, Bool.or_true, Bool.true_or, Bool.or_false, Bool.false_or, Bool.not_true, Bool.not_false, Bool.and_self, Int.reduceLE, Int.reduceLT, Int.reduceToNat, Int.reduceSub, Int.reduceAdd, Int.reduceNeg, Nat.reduceLT, Nat.reduceLeDiff, lx, ls, lb, s2]
end
def badL : List D := [.none, .int 2, .int (-1), .bool true, .str "1", .list [.int 1], .tuple [.int 0], .bool false, .int 100]
theorem bad_exc : ∀ d ∈ badL, m_check_rally [.fz d] = .exc 1 := fun d hd => by
  simp only [badL, List.mem_cons, List.not_mem_nil, or_false] at hd
  rcases hd with rfl | rfl | rfl | rfl | rfl | rfl | rfl | rfl | rfl <;> rfl
end
end Mb
set_option maxHeartbeats 1000000
namespace Mb
open PySem L2
noncomputable section
theorem b6_eq {r : Ru} {k : Int} {bs X : List Bool} (e7 e8 e9 : Ent) {d : D} (hd : d ∈ badL) : lw4b6 (eL r k bs X e7 e8 e9 (.fz d)) = .ret (.nx (eL r k bs X e7 e8 e9 (.fz d))) := by
  have q := call_playX (tbn_play r k bs) (m_Table_play_eqB (R := r.e) (k := k) (ln := lnD bs) (st := stD r bs) (bad_exc d hd)) (by decide) (m_law_error_eq 1 (by decide))
  exact neY (d := errD "rally") (env' := eL r k bs X e7 e8 e9 (.fz d)) (give_at (fs := tb r k bs) rfl rfl rfl q) rfl rfl rfl
theorem b5_ok {r : Ru} {k : Int} {bs X : List Bool} (e7 e8 e9 e10 : Ent) {P : Out → Prop} {E : Nat → Prop} (h : ∀ d ∈ badL, P (.nx (eL r k bs X e7 e8 e9 (.fz d)))) : (lw4br5 (eL r k bs X e7 e8 e9 e10)).ok P E := by
  have s9 : small 9 = true := rfl
  have s1 : small 1 = true := rfl
  have e5 : ∀ d ∈ badL, (lw4br6 (eL r k bs X e7 e8 e9 (.fz d))).ok P E := fun d hd => ok_ret (b6_eq e7 e8 e9 hd) (h d hd)
  unfold lw4br5
  refine ok_sSeq ?_
  unfold lw4b5
  refine ok_sSet (ok_dr2 rfl (ok_ret (a := .list badL) ?_ (pick_ok (by decide) (by decide) fun d hd => e5 d hd)))
  unfold badL eL
  generalize tb r k bs = G1
  generalize tb rT 0 X = G2
  simp -implicitDefEqProofs only [ap_runB, ap_sSeq, ap_sNil, ap_sIf, ap_sRet, ap_sRetN, ap_sSet, ap_sOwn, ap_sPar, ap_sAsg, ap_sDrop, ap_sFz, ap_sFor, ap_sApp, ap_sAugI, ap_sRaise, ap_sBreak, ap_vT, ap_v2, ap_vVar, ap_vBor, ap_vC, ap_vIf, ap_vAnd, ap_vOr, ap_vNot, ap_bAnd, ap_bOr, ap_bNot, ap_bYes, ap_vCall, ap_aNil, ap_aCons, ap_aDr, ap_aOwn, ap_vTup, ap_nLst, ap_nList, ap_vL, ap_vB, ap_vIsi, ap_vChain, ap_vIxV, ap_vLenV, ap_vSl, ap_oNone, ap_oSome, ap_wSeq, ap_wArg, ap_vMeth, ap_vRev, ap_nLc, ap_tgName, ap_nCall, ap_vCallB, ap_aBor, nd_int, nd_bool, nd_str, nd_list, nd_tup, nd_none, nd_r, nd_s, nd_Ro, ap_kVar, ap_kOf, ap_vInK, ap_vNiK, ap_vIxK, ap_sPutK, ap_vGetK, ap_vGet1, ap_vLenK, ap_wKeys, ap_kNil, ap_kOne, ap_vD, ap_sOwnK, ap_aOwnK, ap_nSort, ap_nSortK, ap_nSortS, ap_vFr, ap_vFk, ap_vAsk, ap_vMkM, ap_vMkF, ap_gVo, ap_aVo, ap_vEmp, ap_vAskP, ap_nListK, two_fz, noVs_1, bind_ret, bind_exc, ofO_some, fzs_nil, fzs_cons, setAll_nil, setAll_cons, asB_b, noOw_nil, noOw_cons, wipeE_nil, wipeE_cons, noExc_r, seqD_l, seqD_t, tgTup_ap, tgUnl_ap, ap_nLcX, ap_nSortV, ap_kPairs, tgCons_ap, tgNil_ap, List.cons_append, List.nil_append, List.replicate, List.set, List.getElem?_cons_zero, List.getElem?_cons_succ, Option.bind_some, Option.map_some, List.length_cons, List.length_nil, beq_self_eq_true, if_true, if_false, Bool.false_eq_true, Nat.reduceAdd, Nat.reduceSub, Nat.reduceBEq, Nat.zero_add, ↓reduceIte, reduceCtorEq, decide_true, decide_false, Bool.true_and, Bool.and_true, Bool.false_and, Bool.and_false, Bool.or_true, Bool.true_or, Bool.or_false, Bool.false_or, Bool.not_true, Bool.not_false, Bool.and_self, Int.reduceLE, Int.reduceLT, Int.reduceToNat, Int.reduceSub, Int.reduceAdd, Int.reduceNeg, Nat.reduceLT, Nat.reduceLeDiff, s1, s9]
theorem b4_un {r : Ru} {k : Int} {bs X : List Bool} (hb : bs.length ≤ 50) (e7 e9 e10 : Ent) {P : Out → Prop} {E : Nat → Prop} (h : ∀ (bs' : List Bool) (e9 e10 : Ent), bs'.length ≤ bs.length + 1 → P (.nx (eL r k bs' X e7 (.fz (Rs r bs)) e9 e10))) : (sSeq b4U lw4br5 (eL r k bs X e7 (.fz (Rs r bs)) e9 e10)).ok P E := by
  rcases List.eq_nil_or_concat bs with rfl | ⟨cs, b, rfl⟩
  · exact ok_seq _ (b4U_nil (r := r) (k := k) (X := X) e7 (.fz (Rs r [])) e9 e10) (b5_ok e7 (.fz (Rs r [])) e9 e10 fun d hd => h [] e9 (.fz d) (Nat.zero_le _))
  · rw [List.concat_eq_append] at *
    have hl : (cs ++ [b]).length = cs.length + 1 := by rw [List.length_append]; rfl
    exact ok_seq _ (b4U_snoc (r := r) (k := k) (X := X) e7 (.fz (Rs r (cs ++ [b]))) e9 e10 b (bs := cs) (by omega)) (b5_ok e7 (.fz (Rs r (cs ++ [b]))) e9 e10 fun d hd => h cs e9 (.fz d) (by omega))
theorem b4_pl {r : Ru} (hr : r.ok) {k : Int} {bs X : List Bool} (k0 : 0 ≤ k) (k2 : k ≤ 2) (hb : bs.length ≤ 50) (e7 e9 e10 : Ent) {P : Out → Prop} {E : Nat → Prop} (h : ∀ (bs' : List Bool) (e9 e10 : Ent), bs'.length ≤ bs.length + 1 → P (.nx (eL r k bs' X e7 (.fz (Rs r bs)) e9 e10))) : (sSeq b4P lw4br5 (eL r k bs X e7 (.fz (Rs r bs)) e9 e10)).ok P E := by
  have key : ∀ b : Bool, sSeq b4Q (sSet 5 (v2 dAdd (vVar 5) (vL (nLst (aCons (vVar 9) (aNil)))))) (eL r k bs X e7 (.fz (Rs r bs)) (.fz (.int (rb b))) e10) = .ret (.nx (eL r k (bs ++ [b]) X e7 (.fz (Rs r bs)) (.fz (.int (rb b))) e10)) := fun b => by
    have e := b4Q_eq (X := X) e7 e10 hr b (bs := bs) (by omega) k0 k2
    have ad := Ro_add bs [b] (by simp; omega)
    have e1 : Ro [b] = .list [.int (rb b)] := rfl
    rw [e1] at ad
    have s1 : small 1 = true := rfl
    refine eval_seq _ e ?_
    unfold eL
    generalize tb r k (bs ++ [b]) = G1
    generalize tb rT 0 X = G2
    simp -implicitDefEqProofs only [ap_runB, ap_sSeq, ap_sNil, ap_sIf, ap_sRet, ap_sRetN, ap_sSet, ap_sOwn, ap_sPar, ap_sAsg, ap_sDrop, ap_sFz, ap_sFor, ap_sApp, ap_sAugI, ap_sRaise, ap_sBreak, ap_vT, ap_v2, ap_vVar, ap_vBor, ap_vC, ap_vIf, ap_vAnd, ap_vOr, ap_vNot, ap_bAnd, ap_bOr, ap_bNot, ap_bYes, ap_vCall, ap_aNil, ap_aCons, ap_aDr, ap_aOwn, ap_vTup, ap_nLst, ap_nList, ap_vL, ap_vB, ap_vIsi, ap_vChain, ap_vIxV, ap_vLenV, ap_vSl, ap_oNone, ap_oSome, ap_wSeq, ap_wArg, ap_vMeth, ap_vRev, ap_nLc, ap_tgName, ap_nCall, ap_vCallB, ap_aBor, nd_int, nd_bool, nd_str, nd_list, nd_tup, nd_none, nd_r, nd_s, nd_Ro, ap_kVar, ap_kOf, ap_vInK, ap_vNiK, ap_vIxK, ap_sPutK, ap_vGetK, ap_vGet1, ap_vLenK, ap_wKeys, ap_kNil, ap_kOne, ap_vD, ap_sOwnK, ap_aOwnK, ap_nSort, ap_nSortK, ap_nSortS, ap_vFr, ap_vFk, ap_vAsk, ap_vMkM, ap_vMkF, ap_gVo, ap_aVo, ap_vEmp, ap_vAskP, ap_nListK, two_fz, noVs_1, bind_ret, bind_exc, ofO_some, fzs_nil, fzs_cons, setAll_nil, setAll_cons, asB_b, noOw_nil, noOw_cons, wipeE_nil, wipeE_cons, noExc_r, seqD_l, seqD_t, tgTup_ap, tgUnl_ap, ap_nLcX, ap_nSortV, ap_kPairs, tgCons_ap, tgNil_ap, List.cons_append, List.nil_append, List.replicate, List.set, List.getElem?_cons_zero, List.getElem?_cons_succ, Option.bind_some, Option.map_some, List.length_cons, List.length_nil, beq_self_eq_true, if_true, if_false, Bool.false_eq_true, Nat.reduceAdd, Nat.reduceSub, Nat.reduceBEq, Nat.zero_add, ↓reduceIte, reduceCtorEq, decide_true, decide_false, Bool.true_and, Bool.and_true, Bool.false_and, Bool.and_false, Bool.or_true, Bool.true_or, Bool.or_false, Bool.false_or, Bool.not_true, Bool.not_false, Bool.and_self, Int.reduceLE, Int.reduceLT, Int.reduceToNat, Int.reduceSub, Int.reduceAdd, Int.reduceNeg, Nat.reduceLT, Nat.reduceLeDiff, ad, s1]
  refine ok_sSeq ?_
  unfold b4P
  refine ok_sSeq (ok_sSet (ok_draw (n := 2) rfl rfl (by decide) (by decide) fun x hx => ?_))
  obtain ⟨b, eb⟩ := bit_of (k := (x : Nat)) (by omega) (by omega)
  rw [eb]
  exact ok_ret (key b) (b5_ok e7 (.fz (Rs r bs)) (.fz (.int (rb b))) e10 fun d hd => h (bs ++ [b]) (.fz (.int (rb b))) (.fz d) (by rw [List.length_append]; exact Nat.le_refl _))
theorem b4_ok {r : Ru} (hr : r.ok) {k : Int} {bs X : List Bool} (k0 : 0 ≤ k) (k2 : k ≤ 2) (hb : bs.length ≤ 50) (e7 e9 e10 : Ent) {P : Out → Prop} {E : Nat → Prop} (h : ∀ (bs' : List Bool) (e9 e10 : Ent), bs'.length ≤ bs.length + 1 → P (.nx (eL r k bs' X e7 (.fz (Rs r bs)) e9 e10))) : (lw4br4 (eL r k bs X e7 (.fz (Rs r bs)) e9 e10)).ok P E := by
  have un := b4_un (E := E) hb e7 e9 e10 h
  have pl := b4_pl (E := E) hr k0 k2 hb e7 e9 e10 h
  unfold lw4br4
  rw [b4_split]
  refine ok_sSeq (ok_sIf (ok_vT (ok_v2 (ok_draw (n := 5) rfl rfl (by decide) (by decide) fun x hx => ok_ret (a := .int 0) rfl ⟨.bool (decide (x = 0)), ?_, decide (x = 0), rfl, ?_⟩))))
  · rw [eq_ii]
    exact congrArg (fun b => some (PyData.bool b)) (by rw [Bool.eq_iff_iff]; simp only [beq_iff_eq, decide_eq_true_eq]; omega)
  · have sq : ∀ u : Stm, (sSeq u lw4br5 (eL r k bs X e7 (.fz (Rs r bs)) e9 e10)).ok P E → (u (eL r k bs X e7 (.fz (Rs r bs)) e9 e10)).ok (fun o => match o with | .nx e => (lw4br5 e).ok P E | .rt d => P (.rt d) | .bk e => P (.bk e) | .ct e => P (.ct e)) E := fun u z => by
      refine ⟨?_⟩
      have z := z.h
      rw [ap_sSeq] at z
      refine Tr.all_mono (fun o y => ?_) (fun _ y => y) (Tr.all_bind z)
      cases o with
      | nx e => exact ⟨y⟩
      | rt d => exact y
      | bk e => exact y
      | ct e => exact y
    by_cases hx : x = 0
    · rw [decide_eq_true hx]; exact sq _ un
    · rw [decide_eq_false hx]; exact sq _ pl
end
end Mb
set_option maxHeartbeats 1000000
namespace Mb
open PySem L2
noncomputable section
section
variable {r : Ru} {k : Int} {bs X : List Bool} (e7 e8 e9 e10 : Ent)
theorem lw5_eq : lw5 (eL r k bs (sdB 16) e7 e8 e9 e10) = .ret (.nx (eL r k bs (sdB 16) e7 e8 e9 e10)) := by
  have a1 : vAskR 1 80 "rallies" m_Table_rallies 6 aNil (eL r k bs (sdB 16) e7 e8 e9 e10) = .ret (Ro (sdB 16)) := ask_at rfl (tbn_rallies rT 0 (sdB 16)) rfl rfl (rallies_tb rT 0 (sdB 16))
  have a2 : vAskR 1 80 "boards" m_Table_boards 6 aNil (eL r k bs (sdB 16) e7 e8 e9 e10) = .ret (Bds rT (sdB 16) 0) := ask_at rfl (tbn_boards rT 0 (sdB 16)) rfl rfl (boards_tb rT 0 (sdB 16) (by rw [sdB_len]; decide))
  have a3 := m_boards_of_eq rT (sdB 16) 0 rT_ok (by rw [sdB_len]; decide) (by decide) (by decide)
  have er : rT.e = .tuple [.int 2, .str "two", .int 2, .str "longer", .str "twos"] := rfl
  rw [er] at a3
  have mu : dMul (.list [.int 0, .int 1, .int 1, .int 1, .int 0, .int 0, .int 1, .int 0]) (.int 2) = some (Ro (sdB 16)) := by kernel_rfl
  have n1 := ne_self (shp_Ro (sdB 16))
  have n2 := ne_self (shp_Bds rT (sdB 16) 0)
  have s8 : small 8 = true := rfl
  have s5 : small 5 = true := rfl
  unfold lw5
  unfold eL at *
  generalize tb r k bs = G1 at *
  generalize tb rT 0 (sdB 16) = G2 at *
  generalize Ro (sdB 16) = RR at *
  generalize Bds rT (sdB 16) 0 = BB at *
  generalize m_boards_of = mb at *
  simp -implicitDefEqProofs only [ap_runB, ap_sSeq, ap_sNil, ap_sIf, ap_sRet, ap_sRetN, ap_sSet, ap_sOwn, ap_sPar, ap_sAsg, ap_sDrop, ap_sFz, ap_sFor, ap_sApp, ap_sAugI, ap_sRaise, ap_sBreak, ap_vT, ap_v2, ap_vVar, ap_vBor, ap_vC, ap_vIf, ap_vAnd, ap_vOr, ap_vNot, ap_bAnd, ap_bOr, ap_bNot, ap_bYes, ap_vCall, ap_aNil, ap_aCons, ap_aDr, ap_aOwn, ap_vTup, ap_nLst, ap_nList, ap_vL, ap_vB, ap_vIsi, ap_vChain, ap_vIxV, ap_vLenV, ap_vSl, ap_oNone, ap_oSome, ap_wSeq, ap_wArg, ap_vMeth, ap_vRev, ap_nLc, ap_tgName, ap_nCall, ap_vCallB, ap_aBor, nd_int, nd_bool, nd_str, nd_list, nd_tup, nd_none, nd_r, nd_s, nd_Ro, ap_kVar, ap_kOf, ap_vInK, ap_vNiK, ap_vIxK, ap_sPutK, ap_vGetK, ap_vGet1, ap_vLenK, ap_wKeys, ap_kNil, ap_kOne, ap_vD, ap_sOwnK, ap_aOwnK, ap_nSort, ap_nSortK, ap_nSortS, ap_vFr, ap_vFk, ap_vAsk, ap_vMkM, ap_vMkF, ap_gVo, ap_aVo, ap_vEmp, ap_vAskP, ap_nListK, two_fz, noVs_1, bind_ret, bind_exc, ofO_some, fzs_nil, fzs_cons, setAll_nil, setAll_cons, asB_b, noOw_nil, noOw_cons, wipeE_nil, wipeE_cons, noExc_r, seqD_l, seqD_t, tgTup_ap, tgUnl_ap, ap_nLcX, ap_nSortV, ap_kPairs, tgCons_ap, tgNil_ap, List.cons_append, List.nil_append, List.replicate, List.set, List.getElem?_cons_zero, List.getElem?_cons_succ, Option.bind_some, Option.map_some, List.length_cons, List.length_nil, beq_self_eq_true, if_true, if_false, Bool.false_eq_true, Nat.reduceAdd, Nat.reduceSub, Nat.reduceBEq, Nat.zero_add, ↓reduceIte, reduceCtorEq, decide_true, decide_false, Bool.true_and, Bool.and_true, Bool.false_and, Bool.and_false, Bool.or_true, Bool.true_or, Bool.or_false, Bool.false_or, Bool.not_true, Bool.not_false, Bool.and_self, Int.reduceLE, Int.reduceLT, Int.reduceToNat, Int.reduceSub, Int.reduceAdd, Int.reduceNeg, Nat.reduceLT, Nat.reduceLeDiff, a1, a2, a3, mu, n1, n2, s8, s5]
theorem lw6c_eq (h : X.length ≤ 200) : lw6c (eL r k bs X e7 e8 e9 e10) = .ret (decide (X.length < 200)) := by
  have a3 : vLenO 80 m_Table___len__ 6 (eL r k bs X e7 e8 e9 e10) = .ret (.int (X.length : Nat)) := len_at rfl (len_tb rT 0 X) (by omega)
  have l : dLt (.int (X.length : Nat)) (.int 200) = some (.bool (decide (X.length < 200))) := by
    rw [lt_ii]
    exact congrArg (fun b => some (PyData.bool b)) (decide_eq_decide.mpr (by omega))
  unfold lw6c
  generalize eL r k bs X e7 e8 e9 e10 = EE at *
  simp -implicitDefEqProofs only [ap_runB, ap_sSeq, ap_sNil, ap_sIf, ap_sRet, ap_sRetN, ap_sSet, ap_sOwn, ap_sPar, ap_sAsg, ap_sDrop, ap_sFz, ap_sFor, ap_sApp, ap_sAugI, ap_sRaise, ap_sBreak, ap_vT, ap_v2, ap_vVar, ap_vBor, ap_vC, ap_vIf, ap_vAnd, ap_vOr, ap_vNot, ap_bAnd, ap_bOr, ap_bNot, ap_bYes, ap_vCall, ap_aNil, ap_aCons, ap_aDr, ap_aOwn, ap_vTup, ap_nLst, ap_nList, ap_vL, ap_vB, ap_vIsi, ap_vChain, ap_vIxV, ap_vLenV, ap_vSl, ap_oNone, ap_oSome, ap_wSeq, ap_wArg, ap_vMeth, ap_vRev, ap_nLc, ap_tgName, ap_nCall, ap_vCallB, ap_aBor, nd_int, nd_bool, nd_str, nd_list, nd_tup, nd_none, nd_r, nd_s, nd_Ro, ap_kVar, ap_kOf, ap_vInK, ap_vNiK, ap_vIxK, ap_sPutK, ap_vGetK, ap_vGet1, ap_vLenK, ap_wKeys, ap_kNil, ap_kOne, ap_vD, ap_sOwnK, ap_aOwnK, ap_nSort, ap_nSortK, ap_nSortS, ap_vFr, ap_vFk, ap_vAsk, ap_vMkM, ap_vMkF, ap_gVo, ap_aVo, ap_vEmp, ap_vAskP, ap_nListK, two_fz, noVs_1, bind_ret, bind_exc, ofO_some, fzs_nil, fzs_cons, setAll_nil, setAll_cons, asB_b, noOw_nil, noOw_cons, wipeE_nil, wipeE_cons, noExc_r, seqD_l, seqD_t, tgTup_ap, tgUnl_ap, ap_nLcX, ap_nSortV, ap_kPairs, tgCons_ap, tgNil_ap, List.cons_append, List.nil_append, List.replicate, List.set, List.getElem?_cons_zero, List.getElem?_cons_succ, Option.bind_some, Option.map_some, List.length_cons, List.length_nil, beq_self_eq_true, if_true, if_false, Bool.false_eq_true, Nat.reduceAdd, Nat.reduceSub, Nat.reduceBEq, Nat.zero_add, ↓reduceIte, reduceCtorEq, decide_true, decide_false, Bool.true_and, Bool.and_true, Bool.false_and, Bool.and_false, Bool.or_true, Bool.true_or, Bool.or_false, Bool.false_or, Bool.not_true, Bool.not_false, Bool.and_self, Int.reduceLE, Int.reduceLT, Int.reduceToNat, Int.reduceSub, Int.reduceAdd, Int.reduceNeg, Nat.reduceLT, Nat.reduceLeDiff, a3, l]
theorem lw6b_eq (b : Bool) (c : Int) (hc : c = rb b) (h : X.length < 200) : sDropY (yAsk 2 80 "play" m_Table_play 6 (aCons (vC (.int c)) (aNil))) (eL r k bs X e7 e8 e9 e10) = .ret (.nx (eL r k bs (X ++ [b]) e7 e8 e9 e10)) := by
  subst hc
  have p := play_tb (r := rT) (k := 0) (bs := X) h b
  have y : yAsk 2 80 "play" m_Table_play 6 (aCons (vC (.int (rb b))) (aNil)) (eL r k bs X e7 e8 e9 e10) = .ret (_, (eL r k bs X e7 e8 e9 e10).set 6 (.ob 80 (tb rT 0 (X ++ [b])))) := yask_at (fs := tb rT 0 X) rfl (tbn_play ..) rfl rfl p
  unfold sDropY
  rw [y]; rfl
theorem lw6_eq : ∀ (n fuel : Nat) (X : List Bool), X.length + n = 200 → n < fuel → sWhile lw6c lw6b0 fuel (eL r k bs X e7 e8 e9 e10) = .ret (.nx (eL r k bs (X ++ List.replicate n true) e7 e8 e9 e10))
  | _, 0, _, _, h => absurd h (Nat.not_lt_zero _)
  | 0, fuel + 1, X, h, _ => by
    have c := lw6c_eq (r := r) (k := k) (bs := bs) (X := X) e7 e8 e9 e10 (by omega)
    rw [decide_eq_false (by omega)] at c
    rw [sWhile]
    show ((lw6c (eL r k bs X e7 e8 e9 e10)).bind _) = _
    rw [c, List.replicate, List.append_nil]; rfl
  | n + 1, fuel + 1, X, h, hf => by
    have c := lw6c_eq (r := r) (k := k) (bs := bs) (X := X) e7 e8 e9 e10 (by omega)
    rw [decide_eq_true (by omega)] at c
    have b := lw6b_eq (r := r) (k := k) (bs := bs) (X := X) e7 e8 e9 e10 true 1 rfl (by omega)
    have ih := lw6_eq n fuel (X ++ [true]) (by rw [List.length_append]; simp; omega) (by omega)
    rw [sWhile]
    show ((lw6c (eL r k bs X e7 e8 e9 e10)).bind _) = _
    rw [c]
    show ((lw6b0 (eL r k bs X e7 e8 e9 e10)).bind _) = _
    have b : lw6b0 (eL r k bs X e7 e8 e9 e10) = _ := b
    rw [b]
    show sWhile lw6c lw6b0 fuel (eL r k bs (X ++ [true]) e7 e8 e9 e10) = _
    rw [ih, List.append_assoc]; rfl
theorem lw7_eq (h : X.length = 200) : lw7 (eL r k bs X e7 e8 e9 e10) = .ret (.nx (eL r k bs X e7 e8 e9 e10)) := by
  have q1 := call_playX (tbn_play rT 0 X) (play_full (R := rT.e) (k := 0) (ln := lnD X) (st := stD rT X) (m_check_rally_eq true) (by rw [lnD_len]; exact h)) (by decide) (m_law_error_eq 3 (by decide))
  have q2 := call_playX (tbn_play rT 0 X) (m_Table_play_eqB (R := rT.e) (k := 0) (ln := lnD X) (st := stD rT X) (bad_exc (.int 2) (by simp [badL]))) (by decide) (m_law_error_eq 1 (by decide))
  have g1 : yGive 3 80 m_law_call 6 (aCons (vC (.int 0)) (aCons (vC (.int 1)) (aNil))) (eL r k bs X e7 e8 e9 e10) = .ret (errD "number", eL r k bs X e7 e8 e9 e10) := give_at (fs := tb rT 0 X) rfl rfl rfl q1
  have g2 : yGive 3 80 m_law_call 6 (aCons (vC (.int 0)) (aCons (vC (.int 2)) (aNil))) (eL r k bs X e7 e8 e9 e10) = .ret (errD "rally", eL r k bs X e7 e8 e9 e10) := give_at (fs := tb rT 0 X) rfl rfl rfl q2
  have a3 : vLenO 80 m_Table___len__ 6 (eL r k bs X e7 e8 e9 e10) = .ret (.int (X.length : Nat)) := len_at rfl (len_tb rT 0 X) (by omega)
  rw [h] at a3
  have n1 : dNe (errD "number") (errD "number") = some (.bool false) := ne_self rfl
  have n2 : dNe (errD "rally") (errD "rally") = some (.bool false) := ne_self rfl
  have n3 : dNe (.int ((200 : Nat) : Int)) (.int 200) = some (.bool false) := rfl
  have s2 : small 2 = true := rfl
  have d1 : ∀ x : Str, (PyData.tuple [.str "error", .str x]) = errD x := fun _ => rfl
  unfold lw7 sIfY yOr yT yTT y2 yE
  generalize eL r k bs X e7 e8 e9 e10 = EE at *
  simp -implicitDefEqProofs only [ap_runB, ap_sSeq, ap_sNil, ap_sIf, ap_sRet, ap_sRetN, ap_sSet, ap_sOwn, ap_sPar, ap_sAsg, ap_sDrop, ap_sFz, ap_sFor, ap_sApp, ap_sAugI, ap_sRaise, ap_sBreak, ap_vT, ap_v2, ap_vVar, ap_vBor, ap_vC, ap_vIf, ap_vAnd, ap_vOr, ap_vNot, ap_bAnd, ap_bOr, ap_bNot, ap_bYes, ap_vCall, ap_aNil, ap_aCons, ap_aDr, ap_aOwn, ap_vTup, ap_nLst, ap_nList, ap_vL, ap_vB, ap_vIsi, ap_vChain, ap_vIxV, ap_vLenV, ap_vSl, ap_oNone, ap_oSome, ap_wSeq, ap_wArg, ap_vMeth, ap_vRev, ap_nLc, ap_tgName, ap_nCall, ap_vCallB, ap_aBor, nd_int, nd_bool, nd_str, nd_list, nd_tup, nd_none, nd_r, nd_s, nd_Ro, ap_kVar, ap_kOf, ap_vInK, ap_vNiK, ap_vIxK, ap_sPutK, ap_vGetK, ap_vGet1, ap_vLenK, ap_wKeys, ap_kNil, ap_kOne, ap_vD, ap_sOwnK, ap_aOwnK, ap_nSort, ap_nSortK, ap_nSortS, ap_vFr, ap_vFk, ap_vAsk, ap_vMkM, ap_vMkF, ap_gVo, ap_aVo, ap_vEmp, ap_vAskP, ap_nListK, two_fz, noVs_1, bind_ret, bind_exc, ofO_some, fzs_nil, fzs_cons, setAll_nil, setAll_cons, asB_b, noOw_nil, noOw_cons, wipeE_nil, wipeE_cons, noExc_r, seqD_l, seqD_t, tgTup_ap, tgUnl_ap, ap_nLcX, ap_nSortV, ap_kPairs, tgCons_ap, tgNil_ap, List.cons_append, List.nil_append, List.replicate, List.set, List.getElem?_cons_zero, List.getElem?_cons_succ, Option.bind_some, Option.map_some, List.length_cons, List.length_nil, beq_self_eq_true, if_true, if_false, Bool.false_eq_true, Nat.reduceAdd, Nat.reduceSub, Nat.reduceBEq, Nat.zero_add, ↓reduceIte, reduceCtorEq, decide_true, decide_false, Bool.true_and, Bool.and_true, Bool.false_and, Bool.and_false, Bool.or_true, Bool.true_or, Bool.or_false, Bool.false_or, Bool.not_true, Bool.not_false, Bool.and_self, Int.reduceLE, Int.reduceLT, Int.reduceToNat, Int.reduceSub, Int.reduceAdd, Int.reduceNeg, Nat.reduceLT, Nat.reduceLeDiff, g1, g2, a3, s2, d1, n1, n2, n3]
theorem lw8_eq (h : X.length = 199) : lw8 (eL r k bs (X ++ [true]) e7 e8 e9 e10) = .ret (.rt (.bool true)) := by
  have q1 : yAsk 1 80 "undo" m_Table_undo 6 aNil (eL r k bs (X ++ [true]) e7 e8 e9 e10) = .ret (.int 1, eL r k bs X e7 e8 e9 e10) := yask_at (fs := tb rT 0 (X ++ [true])) rfl (tbn_undo ..) rfl rfl (undo_tb X true)
  have q2 : yAsk 2 80 "play" m_Table_play 6 (aCons (vC (.int 0)) (aNil)) (eL r k bs X e7 e8 e9 e10) = .ret (brdM 0 (stepM rT (afterM rT .start X) false), eL r k bs (X ++ [false]) e7 e8 e9 e10) := yask_at (fs := tb rT 0 X) rfl (tbn_play ..) rfl rfl (play_tb (by omega) false)
  have a1 : vAskR 1 80 "boards" m_Table_boards 6 aNil (eL r k bs (X ++ [false]) e7 e8 e9 e10) = .ret (Bds rT (X ++ [false]) 0) := ask_at rfl (tbn_boards rT 0 (X ++ [false])) rfl rfl (boards_tb rT 0 _ (by rw [List.length_append]; simp; omega))
  have a2 : vLenO 80 m_Table___len__ 6 (eL r k bs (X ++ [false]) e7 e8 e9 e10) = .ret (.int ((200 : Nat) : Int)) := by
    have := len_at (env := eL r k bs (X ++ [false]) e7 e8 e9 e10) (i := 6) rfl (len_tb rT 0 (X ++ [false])) (by rw [List.length_append]; simp; omega)
    rw [show (X ++ [false]).length = 200 by rw [List.length_append]; simp; omega] at this
    exact this
  have a3 : vAskR 1 80 "rallies" m_Table_rallies 6 aNil (eL r k bs (X ++ [false]) e7 e8 e9 e10) = .ret (Ro (X ++ [false])) := ask_at rfl (tbn_rallies rT 0 (X ++ [false])) rfl rfl (rallies_tb rT 0 _)
  have x1 : dIx (Bds rT (X ++ [false]) 0) (.int (-1)) = some (brdM 0 (stepM rT (afterM rT .start X) false)) := by
    unfold Bds
    rw [runM_snoc, List.map_append]
    exact last_ix ..
  have x2 : dIx (Ro (X ++ [false])) (.int (-1)) = some (.int 0) := by
    have e : Ro (X ++ [false]) = .list (lnD X ++ [.int (rb false)]) := by
      unfold Ro
      rw [List.map_append]; rfl
    rw [e]; exact last_ix ..
  have n1 : dEq (.int 1) (.int 1) = some (.bool true) := rfl
  have n2 := eq_self (d := brdM 0 (stepM rT (afterM rT .start X) false)) (okAt_brd 39 0 _)
  have n3 : dEq (.int ((200 : Nat) : Int)) (.int 200) = some (.bool true) := rfl
  have n4 : dEq (.int 0) (.int 0) = some (.bool true) := rfl
  unfold lw8 sRetY yAndV y2 yE
  generalize eL r k bs (X ++ [true]) e7 e8 e9 e10 = E1 at *
  generalize eL r k bs X e7 e8 e9 e10 = E2 at *
  generalize eL r k bs (X ++ [false]) e7 e8 e9 e10 = E3 at *
  generalize Ro (X ++ [false]) = RR at *
  generalize Bds rT (X ++ [false]) 0 = BB at *
  generalize brdM 0 (stepM rT (afterM rT .start X) false) = bb at *
  simp -implicitDefEqProofs only [ap_runB, ap_sSeq, ap_sNil, ap_sIf, ap_sRet, ap_sRetN, ap_sSet, ap_sOwn, ap_sPar, ap_sAsg, ap_sDrop, ap_sFz, ap_sFor, ap_sApp, ap_sAugI, ap_sRaise, ap_sBreak, ap_vT, ap_v2, ap_vVar, ap_vBor, ap_vC, ap_vIf, ap_vAnd, ap_vOr, ap_vNot, ap_bAnd, ap_bOr, ap_bNot, ap_bYes, ap_vCall, ap_aNil, ap_aCons, ap_aDr, ap_aOwn, ap_vTup, ap_nLst, ap_nList, ap_vL, ap_vB, ap_vIsi, ap_vChain, ap_vIxV, ap_vLenV, ap_vSl, ap_oNone, ap_oSome, ap_wSeq, ap_wArg, ap_vMeth, ap_vRev, ap_nLc, ap_tgName, ap_nCall, ap_vCallB, ap_aBor, nd_int, nd_bool, nd_str, nd_list, nd_tup, nd_none, nd_r, nd_s, nd_Ro, ap_kVar, ap_kOf, ap_vInK, ap_vNiK, ap_vIxK, ap_sPutK, ap_vGetK, ap_vGet1, ap_vLenK, ap_wKeys, ap_kNil, ap_kOne, ap_vD, ap_sOwnK, ap_aOwnK, ap_nSort, ap_nSortK, ap_nSortS, ap_vFr, ap_vFk, ap_vAsk, ap_vMkM, ap_vMkF, ap_gVo, ap_aVo, ap_vEmp, ap_vAskP, ap_nListK, two_fz, noVs_1, bind_ret, bind_exc, ofO_some, fzs_nil, fzs_cons, setAll_nil, setAll_cons, asB_b, noOw_nil, noOw_cons, wipeE_nil, wipeE_cons, noExc_r, seqD_l, seqD_t, tgTup_ap, tgUnl_ap, ap_nLcX, ap_nSortV, ap_kPairs, tgCons_ap, tgNil_ap, List.cons_append, List.nil_append, List.replicate, List.set, List.getElem?_cons_zero, List.getElem?_cons_succ, Option.bind_some, Option.map_some, List.length_cons, List.length_nil, beq_self_eq_true, if_true, if_false, Bool.false_eq_true, Nat.reduceAdd, Nat.reduceSub, Nat.reduceBEq, Nat.zero_add, ↓reduceIte, reduceCtorEq, decide_true, decide_false, Bool.true_and, Bool.and_true, Bool.false_and, Bool.and_false, Bool.or_true, Bool.true_or, Bool.or_false, Bool.false_or, Bool.not_true, Bool.not_false, Bool.and_self, Int.reduceLE, Int.reduceLT, Int.reduceToNat, Int.reduceSub, Int.reduceAdd, Int.reduceNeg, Nat.reduceLT, Nat.reduceLeDiff, q1, q2, a1, a2, a3, x1, x2, n1, n2, n3, n4]
end
end
end Mb
set_option maxHeartbeats 1000000
namespace Mb
open PySem L2
noncomputable section
theorem turn_ok {r : Ru} (hr : r.ok) {k : Int} {bs : List Bool} (k0 : 0 ≤ k) (k2 : k ≤ 2) (hb : bs.length ≤ 50) {t : Nat} (ht : t < 16) (e8 e9 e10 : Ent) {P : Out → Prop} {E : Nat → Prop} (h : ∀ (bs' : List Bool) (e8 e9 e10 : Ent), bs'.length ≤ bs.length + 1 → P (.nx (eL r k bs' (sdB (t + 1)) (.fz (.int (t : Nat))) e8 e9 e10))) : (lw4br0 (eL r k bs (sdB t) (.fz (.int (t : Nat))) e8 e9 e10)).ok P E :=
  ok_seq _ (b0_eq e8 e9 e10 ht) (ok_seq _ (b1_eq _ e8 e9 e10 hr (by omega)) (ok_seq _ (b2_eq _ e9 e10 (by omega)) (ok_seq _ (b3_eq _ e9 e10 (by omega) k0 k2) (b4_ok hr k0 k2 hb _ _ _ fun bs' e9 e10 q => h _ _ _ _ q))))
theorem loop_ok {r : Ru} (hr : r.ok) {k : Int} (k0 : 0 ≤ k) (k2 : k ≤ 2) {P : Out → Prop} {E : Nat → Prop} (h : ∀ (bs : List Bool) (e7 e8 e9 e10 : Ent), bs.length ≤ 16 → P (.nx (eL r k bs (sdB 16) e7 e8 e9 e10))) : ∀ (m t : Nat) (bs : List Bool) (e7 e8 e9 e10 : Ent), t + m = 16 → bs.length ≤ t →
    (sForL (tgName 7) lw4br0 ((List.range' t m).map fun i => PyData.int (i : Nat)) (eL r k bs (sdB t) e7 e8 e9 e10)).ok P E
  | 0, t, bs, e7, e8, e9, e10, ht, hb => by
    have : t = 16 := by omega
    subst this
    exact ok_ret rfl (h _ _ _ _ _ hb)
  | m + 1, t, bs, e7, e8, e9, e10, ht, hb => by
    have ih := loop_ok (E := E) hr k0 k2 h m (t + 1)
    rw [List.range'_succ, List.map_cons]
    have e : sForL (tgName 7) lw4br0 (PyData.int (t : Nat) :: (List.range' (t + 1) m).map fun i => PyData.int (i : Nat)) (eL r k bs (sdB t) e7 e8 e9 e10) = (lw4br0 (eL r k bs (sdB t) (.fz (.int (t : Nat))) e8 e9 e10)).bind fun o => match o with
      | .nx env' => sForL (tgName 7) lw4br0 ((List.range' (t + 1) m).map fun i => PyData.int (i : Nat)) env'
      | .ct env' => sForL (tgName 7) lw4br0 ((List.range' (t + 1) m).map fun i => PyData.int (i : Nat)) env'
      | .bk env' => .ret (.nx env')
      | .rt d => .ret (.rt d) := rfl
    rw [e]
    refine Tr.ok_bind (turn_ok hr k0 k2 (by omega) (by omega) _ _ _ fun bs' e8 e9 e10 q => ?_)
    exact ih bs' _ _ _ _ (by omega) (by omega)
theorem rest_ok {r : Ru} (hr : r.ok) {k : Int} (k0 : 0 ≤ k) (k2 : k ≤ 2) : (lwr1 [.un, .dr, .fz r.e, .fz (.int k), .un, .un, .un, .un, .un, .un, .un, .un]).ok (fun o => o = .rt (.bool true)) (fun _ => False) := by
  have i1 := init_tb hr k0 k2
  have i2 := init_tb rT_ok (k := 0) (by decide) (by decide)
  have er : rT.e = .tuple [.int 2, .str "two", .int 2, .str "longer", .str "twos"] := rfl
  have s1 : lw1 [.un, .dr, .fz r.e, .fz (.int k), .un, .un, .un, .un, .un, .un, .un, .un] = .ret (.nx [.un, .dr, .fz r.e, .fz (.int k), .ob 80 (tb r k []), .ow [], .un, .un, .un, .un, .un, .un]) := by
    exact parO_at (es := [.fz r.e, .fz (.int k)]) rfl rfl i1 rfl
  have s2 : lwr2 [.un, .dr, .fz r.e, .fz (.int k), .ob 80 (tb r k []), .ow [], .un, .un, .un, .un, .un, .un] = lwr3 [.un, .dr, .fz r.e, .fz (.int k), .ob 80 (tb r k []), .fz (Ro []), .un, .un, .un, .un, .un, .un] := rfl
  have hg : (aCons (vTup (aCons (vC (.int 2)) (aCons (vC (.str "two")) (aCons (vC (.int 2)) (aCons (vC (.str "longer")) (aCons (vC (.str "twos")) (aNil))))))) (aCons (vC (.int 0)) (aNil))) [.un, .dr, .fz r.e, .fz (.int k), .ob 80 (tb r k []), .fz (Ro []), .un, .un, .un, .un, .un, .un] = .ret [.fz rT.e, .fz (.int 0)] := by
    rw [er]
    have s5 : small 5 = true := rfl
    generalize tb r k [] = G
    simp -implicitDefEqProofs only [ap_runB, ap_sSeq, ap_sNil, ap_sIf, ap_sRet, ap_sRetN, ap_sSet, ap_sOwn, ap_sPar, ap_sAsg, ap_sDrop, ap_sFz, ap_sFor, ap_sApp, ap_sAugI, ap_sRaise, ap_sBreak, ap_vT, ap_v2, ap_vVar, ap_vBor, ap_vC, ap_vIf, ap_vAnd, ap_vOr, ap_vNot, ap_bAnd, ap_bOr, ap_bNot, ap_bYes, ap_vCall, ap_aNil, ap_aCons, ap_aDr, ap_aOwn, ap_vTup, ap_nLst, ap_nList, ap_vL, ap_vB, ap_vIsi, ap_vChain, ap_vIxV, ap_vLenV, ap_vSl, ap_oNone, ap_oSome, ap_wSeq, ap_wArg, ap_vMeth, ap_vRev, ap_nLc, ap_tgName, ap_nCall, ap_vCallB, ap_aBor, nd_int, nd_bool, nd_str, nd_list, nd_tup, nd_none, nd_r, nd_s, nd_Ro, ap_kVar, ap_kOf, ap_vInK, ap_vNiK, ap_vIxK, ap_sPutK, ap_vGetK, ap_vGet1, ap_vLenK, ap_wKeys, ap_kNil, ap_kOne, ap_vD, ap_sOwnK, ap_aOwnK, ap_nSort, ap_nSortK, ap_nSortS, ap_vFr, ap_vFk, ap_vAsk, ap_vMkM, ap_vMkF, ap_gVo, ap_aVo, ap_vEmp, ap_vAskP, ap_nListK, two_fz, noVs_1, bind_ret, bind_exc, ofO_some, fzs_nil, fzs_cons, setAll_nil, setAll_cons, asB_b, noOw_nil, noOw_cons, wipeE_nil, wipeE_cons, noExc_r, seqD_l, seqD_t, tgTup_ap, tgUnl_ap, ap_nLcX, ap_nSortV, ap_kPairs, tgCons_ap, tgNil_ap, List.cons_append, List.nil_append, List.replicate, List.set, List.getElem?_cons_zero, List.getElem?_cons_succ, Option.bind_some, Option.map_some, List.length_cons, List.length_nil, beq_self_eq_true, if_true, if_false, Bool.false_eq_true, Nat.reduceAdd, Nat.reduceSub, Nat.reduceBEq, Nat.zero_add, ↓reduceIte, reduceCtorEq, decide_true, decide_false, Bool.true_and, Bool.and_true, Bool.false_and, Bool.and_false, Bool.or_true, Bool.true_or, Bool.or_false, Bool.false_or, Bool.not_true, Bool.not_false, Bool.and_self, Int.reduceLE, Int.reduceLT, Int.reduceToNat, Int.reduceSub, Int.reduceAdd, Int.reduceNeg, Nat.reduceLT, Nat.reduceLeDiff, s5]
  have s3 : lw3 [.un, .dr, .fz r.e, .fz (.int k), .ob 80 (tb r k []), .fz (Ro []), .un, .un, .un, .un, .un, .un] = .ret (.nx [.un, .dr, .fz r.e, .fz (.int k), .ob 80 (tb r k []), .fz (Ro []), .ob 80 (tb rT 0 []), .un, .un, .un, .un, .un]) := by
    have q := mkO_at (i := 6) (c := 80) (n := 2) hg rfl i2
    unfold lw3
    exact q
  have z0 : sdB 0 = [] := rfl
  refine ok_seq _ s1 ?_
  rw [s2]
  refine ok_seq _ s3 (ok_sSeq ?_)
  show (lw4 (eL r k [] (sdB 0) .un .un .un .un)).ok _ _
  have sr : lw4s (eL r k [] (sdB 0) .un .un .un .un) = .ret ((List.range' 0 16).map fun i => PyData.int (i : Nat)) := rfl
  have e4 : lw4 (eL r k [] (sdB 0) .un .un .un .un) = sForL (tgName 7) lw4br0 ((List.range' 0 16).map fun i => PyData.int (i : Nat)) (eL r k [] (sdB 0) .un .un .un .un) := by
    unfold lw4 sFor
    rw [sr, bind_ret]
  rw [e4]
  refine loop_ok hr k0 k2 (fun bs e7 e8 e9 e10 hb => ?_) 16 0 [] _ _ _ _ rfl (by simp)
  have w := lw6_eq (r := r) (k := k) (bs := bs) e7 e8 e9 e10 184 1000 (sdB 16) (by rw [sdB_len]) (by decide)
  have e : sdB 16 ++ List.replicate 184 true = (sdB 16 ++ List.replicate 183 true) ++ [true] := by
    rw [List.append_assoc, ← List.replicate_succ']
  have l : (sdB 16 ++ List.replicate 183 true).length = 199 := by rw [List.length_append, sdB_len, List.length_replicate]
  rw [e] at w
  have l5 := lw5_eq (r := r) (k := k) (bs := bs) e7 e8 e9 e10
  generalize sdB 16 ++ List.replicate 183 true = Y at l w
  generalize sdB 16 = Z at w l5
  exact ok_seq _ l5 (ok_seq _ w (ok_seq _ (lw7_eq e7 e8 e9 e10 (by rw [List.length_append, l]; rfl)) (ok_ret (lw8_eq e7 e8 e9 e10 l) rfl)))
theorem law_true : LawOk u_law 10 := law_ok_of (by
  rw [lw_split]
  refine ok_sSeq (ok_sPar (ok_aCons (ok_dr1 rfl (law_rule_ok fun r hr => ok_aCons (ok_draw (n := 3) rfl rfl (by decide) (by decide) fun k hk => ok_aNil ⟨rfl, ?_⟩)))))
  exact rest_ok hr (k := (k : Nat)) (by omega) (by omega))
end
end Mb
open PySem PySem.W PyProof.Rows in
set_option maxRecDepth 100000 in
set_option maxHeartbeats 0 in
theorem PySem.Challenge.cw_matchboards_k13_whole_tables_holds : PySem.Challenge.rw_matchboards_k13_whole_tables.Holds := by
  w_on; o_law; k_head; (case hw => w_witness2)
  k_fill
  refine L2.walk_of (l := PySem.Challenge.rw_matchboards_k13_whole_tables) (n := 63) (k := 7) (x := "script") (CX := fun w => L2.CX (PySem.Challenge.rw_matchboards_k13_whole_tables).prog w) (sp := fun w => Mb.spLaw _) rfl (by decide) rfl ⟨rfl, by decide, by decide⟩ (fun w h Y => PySem.W.kIn_of Y) ?F (fun _ _ a ns hl _ hS => ⟨a, ns, rfl, hS, hl, fun _ => rfl⟩) (fun _ _ _ _ _ h => Mb.noCX h)
  case F =>
    intro w mg fa h KX G hmg
    refine' Mb.all_mk Mb.law_true KX G hmg ?a0 ?l0 ?c0 ?k0 ?a1 ?l1 ?c1 ?k1 ?a2 ?l2 ?c2 ?k2 ?a3 ?l3 ?c3 ?k3 ?a4 ?l4 ?c4 ?k4 ?a5 ?l5 ?c5 ?k5 ?tI ?tF ?l6 ?c6 ?k6 ?a7 ?l7 ?c7 ?k7 ?m7 ?a8 ?l8 ?c8 ?k8 ?a9 ?l9 ?c9 ?k9 ?m9 ?a10 ?l10 ?c10 ?k10 ?a11 ?l11 ?c11 ?k11 ?a12 ?l12 ?c12 ?k12 ?a13 ?l13 ?c13 ?k13 ?a14 ?l14 ?c14 ?k14 ?a15 ?l15 ?c15 ?k15 ?a16 ?l16 ?c16 ?k16 ?a17 ?l17 ?c17 ?k17 ?a18 ?l18 ?c18 ?k18 ?a19 ?l19 ?c19 ?k19 ?m19 ?a20 ?l20 ?c20 ?k20 ?m20 ?a21 ?l21 ?c21 ?k21 ?m21 ?a22 ?l22 ?c22 ?k22 ?m22 ?a23 ?l23 ?c23 ?k23 ?a24 ?l24 ?c24 ?k24 ?a25 ?l25 ?c25 ?k25 ?a26 ?l26 ?c26 ?k26 ?a27 ?l27 ?c27 ?k27 ?a28 ?l28 ?c28 ?k28 ?a29 ?l29 ?c29 ?k29 ?a30 ?l30 ?c30 ?k30 ?a31 ?l31 ?c31 ?k31 ?a32 ?l32 ?c32 ?k32 ?a33 ?l33 ?c33 ?k33 ?a34 ?l34 ?c34 ?k34 ?a35 ?l35 ?c35 ?k35 ?a36 ?l36 ?c36 ?k36 ?a37 ?l37 ?c37 ?k37 ?a38 ?l38 ?c38 ?k38 ?a39 ?l39 ?c39 ?k39 ?a40 ?l40 ?c40 ?k40 ?a41 ?l41 ?c41 ?k41 ?z_ValueError ?z_all ?z_bool ?z_int ?z_isinstance ?z_len ?z_list ?z_min ?z_range ?z_str ?z_sum ?z_tuple ?g_DECIDERS ?gl_DECIDERS ?g_LEADS ?gl_LEADS ?g_MOST_RALLIES ?g_MOST_ROW ?g_SERVES ?gl_SERVES ?g_START ?gl_START ?ec_BadNumber ?ex_BadNumber ?ek_BadNumber ?eb_BadNumber ?et_BadNumber ?ec_BadRally ?ex_BadRally ?ek_BadRally ?eb_BadRally ?et_BadRally ?ec_BadRule ?ex_BadRule ?ek_BadRule ?eb_BadRule ?et_BadRule ?ec_NotFound ?ex_NotFound ?ek_NotFound ?eb_NotFound ?et_NotFound ?ec_BadBoards ?ec_BadText ?ec_MatchError ?mS ?mD ?mT ?em_BadRule ?xhg_BadRule ?xhk_BadRule ?xhs_BadRule ?xhd_BadRule ?xha_BadRule ?xhm_BadRule ?kb_BadRule ?kv_BadRule ?kk_BadRule_BadRule ?kk_BadRally_BadRule ?kk_BadBoards_BadRule ?kk_BadNumber_BadRule ?kk_BadText_BadRule ?kk_NotFound_BadRule ?em_BadRally ?xhg_BadRally ?xhk_BadRally ?xhs_BadRally ?xhd_BadRally ?xha_BadRally ?xhm_BadRally ?kb_BadRally ?kv_BadRally ?kk_BadRule_BadRally ?kk_BadRally_BadRally ?kk_BadBoards_BadRally ?kk_BadNumber_BadRally ?kk_BadText_BadRally ?kk_NotFound_BadRally ?em_BadBoards ?xhg_BadBoards ?xhk_BadBoards ?xhs_BadBoards ?xhd_BadBoards ?xha_BadBoards ?xhm_BadBoards ?kb_BadBoards ?kv_BadBoards ?kk_BadRule_BadBoards ?kk_BadRally_BadBoards ?kk_BadBoards_BadBoards ?kk_BadNumber_BadBoards ?kk_BadText_BadBoards ?kk_NotFound_BadBoards ?em_BadNumber ?xhg_BadNumber ?xhk_BadNumber ?xhs_BadNumber ?xhd_BadNumber ?xha_BadNumber ?xhm_BadNumber ?kb_BadNumber ?kv_BadNumber ?kk_BadRule_BadNumber ?kk_BadRally_BadNumber ?kk_BadBoards_BadNumber ?kk_BadNumber_BadNumber ?kk_BadText_BadNumber ?kk_NotFound_BadNumber ?em_BadText ?xhg_BadText ?xhk_BadText ?xhs_BadText ?xhd_BadText ?xha_BadText ?xhm_BadText ?kb_BadText ?kv_BadText ?kk_BadRule_BadText ?kk_BadRally_BadText ?kk_BadBoards_BadText ?kk_BadNumber_BadText ?kk_BadText_BadText ?kk_NotFound_BadText ?em_NotFound ?xhg_NotFound ?xhk_NotFound ?xhs_NotFound ?xhd_NotFound ?xha_NotFound ?xhm_NotFound ?kb_NotFound ?kv_NotFound ?kk_BadRule_NotFound ?kk_BadRally_NotFound ?kk_BadBoards_NotFound ?kk_BadNumber_NotFound ?kk_BadText_NotFound ?kk_NotFound_NotFound ?xn ?xt ?tC ?tpg ?thd ?tpo ?tsa ?tmk ?tkc ?tn_rule ?tn_sight ?tn_line ?tn_states
    (case tC => k_is)
    (case a0 => k_is)
    (case l0 => k_is)
    (case c0 => k_is)
    (case k0 => k_is)
    (case a1 => k_is)
    (case l1 => k_is)
    (case c1 => k_is)
    (case k1 => k_is)
    (case a2 => k_is)
    (case l2 => k_is)
    (case c2 => k_is)
    (case k2 => k_is)
    (case a3 => k_is)
    (case l3 => k_is)
    (case c3 => k_is)
    (case k3 => k_is)
    (case a4 => k_is)
    (case l4 => k_is)
    (case c4 => k_is)
    (case k4 => k_is)
    (case a5 => k_is)
    (case l5 => k_is)
    (case c5 => k_is)
    (case k5 => k_is)
    (case tI => k_is)
    (case tF => k_is)
    (case l6 => k_is)
    (case c6 => k_is)
    (case k6 => k_is)
    (case a7 => k_is)
    (case l7 => k_is)
    (case c7 => k_is)
    (case k7 => k_is)
    (case m7 => k_is)
    (case a8 => k_is)
    (case l8 => k_is)
    (case c8 => k_is)
    (case k8 => k_is)
    (case a9 => k_is)
    (case l9 => k_is)
    (case c9 => k_is)
    (case k9 => k_is)
    (case m9 => k_is)
    (case a10 => k_is)
    (case l10 => k_is)
    (case c10 => k_is)
    (case k10 => k_is)
    (case a11 => k_is)
    (case l11 => k_is)
    (case c11 => k_is)
    (case k11 => k_is)
    (case a12 => k_is)
    (case l12 => k_is)
    (case c12 => k_is)
    (case k12 => k_is)
    (case a13 => k_is)
    (case l13 => k_is)
    (case c13 => k_is)
    (case k13 => k_is)
    (case a14 => k_is)
    (case l14 => k_is)
    (case c14 => k_is)
    (case k14 => k_is)
    (case a15 => k_is)
    (case l15 => k_is)
    (case c15 => k_is)
    (case k15 => k_is)
    (case a16 => k_is)
    (case l16 => k_is)
    (case c16 => k_is)
    (case k16 => k_is)
    (case a17 => k_is)
    (case l17 => k_is)
    (case c17 => k_is)
    (case k17 => k_is)
    (case a18 => k_is)
    (case l18 => k_is)
    (case c18 => k_is)
    (case k18 => k_is)
    (case a19 => k_is)
    (case l19 => k_is)
    (case c19 => k_is)
    (case k19 => k_is)
    (case m19 => k_is)
    (case a20 => k_is)
    (case l20 => k_is)
    (case c20 => k_is)
    (case k20 => k_is)
    (case m20 => k_is)
    (case a21 => k_is)
    (case l21 => k_is)
    (case c21 => k_is)
    (case k21 => k_is)
    (case m21 => k_is)
    (case a22 => k_is)
    (case l22 => k_is)
    (case c22 => k_is)
    (case k22 => k_is)
    (case m22 => k_is)
    (case a23 => k_is)
    (case l23 => k_is)
    (case c23 => k_is)
    (case k23 => k_is)
    (case a24 => k_is)
    (case l24 => k_is)
    (case c24 => k_is)
    (case k24 => k_is)
    (case a25 => k_is)
    (case l25 => k_is)
    (case c25 => k_is)
    (case k25 => k_is)
    (case a26 => k_is)
    (case l26 => k_is)
    (case c26 => k_is)
    (case k26 => k_is)
    (case a27 => k_is)
    (case l27 => k_is)
    (case c27 => k_is)
    (case k27 => k_is)
    (case a28 => k_is)
    (case l28 => k_is)
    (case c28 => k_is)
    (case k28 => k_is)
    (case a29 => k_is)
    (case l29 => k_is)
    (case c29 => k_is)
    (case k29 => k_is)
    (case a30 => k_is)
    (case l30 => k_is)
    (case c30 => k_is)
    (case k30 => k_is)
    (case a31 => k_is)
    (case l31 => k_is)
    (case c31 => k_is)
    (case k31 => k_is)
    (case a32 => k_is)
    (case l32 => k_is)
    (case c32 => k_is)
    (case k32 => k_is)
    (case a33 => k_is)
    (case l33 => k_is)
    (case c33 => k_is)
    (case k33 => k_is)
    (case a34 => k_is)
    (case l34 => k_is)
    (case c34 => k_is)
    (case k34 => k_is)
    (case a35 => k_is)
    (case l35 => k_is)
    (case c35 => k_is)
    (case k35 => k_is)
    (case a36 => k_is)
    (case l36 => k_is)
    (case c36 => k_is)
    (case k36 => k_is)
    (case a37 => k_is)
    (case l37 => k_is)
    (case c37 => k_is)
    (case k37 => k_is)
    (case a38 => k_is)
    (case l38 => k_is)
    (case c38 => k_is)
    (case k38 => k_is)
    (case a39 => k_is)
    (case l39 => k_is)
    (case c39 => k_is)
    (case k39 => k_is)
    (case a40 => k_is)
    (case l40 => k_is)
    (case c40 => k_is)
    (case k40 => k_is)
    (case a41 => k_is)
    (case l41 => k_is)
    (case c41 => k_is)
    (case k41 => k_is)
    (case z_ValueError => k_is)
    (case z_all => k_is)
    (case z_bool => k_is)
    (case z_int => k_is)
    (case z_isinstance => k_is)
    (case z_len => k_is)
    (case z_list => k_is)
    (case z_min => k_is)
    (case z_range => k_is)
    (case z_str => k_is)
    (case z_sum => k_is)
    (case z_tuple => k_is)
    (case g_DECIDERS => k_is)
    (case gl_DECIDERS => k_is)
    (case g_LEADS => k_is)
    (case gl_LEADS => k_is)
    (case g_MOST_RALLIES => k_is)
    (case g_MOST_ROW => k_is)
    (case g_SERVES => k_is)
    (case gl_SERVES => k_is)
    (case g_START => k_is)
    (case gl_START => k_is)
    (case ec_BadNumber => k_is)
    (case ex_BadNumber => first | k_exc | k_is)
    (case ek_BadNumber => k_is)
    (case eb_BadNumber => k_is)
    (case et_BadNumber => k_is)
    (case ec_BadRally => k_is)
    (case ex_BadRally => first | k_exc | k_is)
    (case ek_BadRally => k_is)
    (case eb_BadRally => k_is)
    (case et_BadRally => k_is)
    (case ec_BadRule => k_is)
    (case ex_BadRule => first | k_exc | k_is)
    (case ek_BadRule => k_is)
    (case eb_BadRule => k_is)
    (case et_BadRule => k_is)
    (case ec_NotFound => k_is)
    (case ex_NotFound => first | k_exc | k_is)
    (case ek_NotFound => k_is)
    (case eb_NotFound => k_is)
    (case et_NotFound => k_is)
    (case ec_BadBoards => k_is)
    (case ec_BadText => k_is)
    (case ec_MatchError => k_is)
    (case mS => k_is)
    (case mD => k_is)
    (case mT => k_is)
    (case em_BadRule => k_is)
    (case xhg_BadRule => k_is)
    (case xhk_BadRule => k_is)
    (case xhs_BadRule => k_is)
    (case xhd_BadRule => k_is)
    (case xha_BadRule => k_is)
    (case xhm_BadRule => k_is)
    (case kb_BadRule => first | k_is | kit_is)
    (case kv_BadRule => first | k_is | kit_is)
    (case kk_BadRule_BadRule => first | k_is | kit_is)
    (case kk_BadRally_BadRule => first | k_is | kit_is)
    (case kk_BadBoards_BadRule => first | k_is | kit_is)
    (case kk_BadNumber_BadRule => first | k_is | kit_is)
    (case kk_BadText_BadRule => first | k_is | kit_is)
    (case kk_NotFound_BadRule => first | k_is | kit_is)
    (case em_BadRally => k_is)
    (case xhg_BadRally => k_is)
    (case xhk_BadRally => k_is)
    (case xhs_BadRally => k_is)
    (case xhd_BadRally => k_is)
    (case xha_BadRally => k_is)
    (case xhm_BadRally => k_is)
    (case kb_BadRally => first | k_is | kit_is)
    (case kv_BadRally => first | k_is | kit_is)
    (case kk_BadRule_BadRally => first | k_is | kit_is)
    (case kk_BadRally_BadRally => first | k_is | kit_is)
    (case kk_BadBoards_BadRally => first | k_is | kit_is)
    (case kk_BadNumber_BadRally => first | k_is | kit_is)
    (case kk_BadText_BadRally => first | k_is | kit_is)
    (case kk_NotFound_BadRally => first | k_is | kit_is)
    (case em_BadBoards => k_is)
    (case xhg_BadBoards => k_is)
    (case xhk_BadBoards => k_is)
    (case xhs_BadBoards => k_is)
    (case xhd_BadBoards => k_is)
    (case xha_BadBoards => k_is)
    (case xhm_BadBoards => k_is)
    (case kb_BadBoards => first | k_is | kit_is)
    (case kv_BadBoards => first | k_is | kit_is)
    (case kk_BadRule_BadBoards => first | k_is | kit_is)
    (case kk_BadRally_BadBoards => first | k_is | kit_is)
    (case kk_BadBoards_BadBoards => first | k_is | kit_is)
    (case kk_BadNumber_BadBoards => first | k_is | kit_is)
    (case kk_BadText_BadBoards => first | k_is | kit_is)
    (case kk_NotFound_BadBoards => first | k_is | kit_is)
    (case em_BadNumber => k_is)
    (case xhg_BadNumber => k_is)
    (case xhk_BadNumber => k_is)
    (case xhs_BadNumber => k_is)
    (case xhd_BadNumber => k_is)
    (case xha_BadNumber => k_is)
    (case xhm_BadNumber => k_is)
    (case kb_BadNumber => first | k_is | kit_is)
    (case kv_BadNumber => first | k_is | kit_is)
    (case kk_BadRule_BadNumber => first | k_is | kit_is)
    (case kk_BadRally_BadNumber => first | k_is | kit_is)
    (case kk_BadBoards_BadNumber => first | k_is | kit_is)
    (case kk_BadNumber_BadNumber => first | k_is | kit_is)
    (case kk_BadText_BadNumber => first | k_is | kit_is)
    (case kk_NotFound_BadNumber => first | k_is | kit_is)
    (case em_BadText => k_is)
    (case xhg_BadText => k_is)
    (case xhk_BadText => k_is)
    (case xhs_BadText => k_is)
    (case xhd_BadText => k_is)
    (case xha_BadText => k_is)
    (case xhm_BadText => k_is)
    (case kb_BadText => first | k_is | kit_is)
    (case kv_BadText => first | k_is | kit_is)
    (case kk_BadRule_BadText => first | k_is | kit_is)
    (case kk_BadRally_BadText => first | k_is | kit_is)
    (case kk_BadBoards_BadText => first | k_is | kit_is)
    (case kk_BadNumber_BadText => first | k_is | kit_is)
    (case kk_BadText_BadText => first | k_is | kit_is)
    (case kk_NotFound_BadText => first | k_is | kit_is)
    (case em_NotFound => k_is)
    (case xhg_NotFound => k_is)
    (case xhk_NotFound => k_is)
    (case xhs_NotFound => k_is)
    (case xhd_NotFound => k_is)
    (case xha_NotFound => k_is)
    (case xhm_NotFound => k_is)
    (case kb_NotFound => first | k_is | kit_is)
    (case kv_NotFound => first | k_is | kit_is)
    (case kk_BadRule_NotFound => first | k_is | kit_is)
    (case kk_BadRally_NotFound => first | k_is | kit_is)
    (case kk_BadBoards_NotFound => first | k_is | kit_is)
    (case kk_BadNumber_NotFound => first | k_is | kit_is)
    (case kk_BadText_NotFound => first | k_is | kit_is)
    (case kk_NotFound_NotFound => first | k_is | kit_is)
    (case xn => k_is)
    (case xt => k_is)
    (case tpg => k_is)
    (case thd => k_is)
    (case tpo => k_is)
    (case tsa => k_is)
    (case tmk => k_is)
    (case tkc => k_is)
    (case tn_rule => k_is)
    (case tn_sight => k_is)
    (case tn_line => k_is)
    (case tn_states => k_is)
