import PyProof.Rows.All
import HandS.ForMost
import HandS.ForExc
import HandS.IsInst
import HandS.TryMany
import HandS.TupAny
import HandS.TupMul
import HandS.Flow
import HandS.Zip
import HandS.Deep
import HandS.Wide
import HandS.ExcIs
import HandS.Style
import PySem.Challenge.RW_twinpurse_k04_needs_and_effects
import Wide.All
import OpenK.AllK
import Wide.FinOn
section
set_option Elab.async false
set_option linter.all false
set_option maxRecDepth 100000
set_option maxHeartbeats 4000000
/-! DL: a layer of plain data over the hand layer: values as trees, changeable lists in a store, statements as functions. -/
namespace DL
open PySem PySem.Spec PyProof.Rows L2

/-- data: tup, lst never change; ref is a changeable thing of the store; cst any other constant value -/
inductive D where
  | non | bl (b : Bool) | int (i : Int) | str (x : Str)
  | tup (xs : List D) | lst (xs : List D) | frz (xs : List D) | emp
  | ref (n : Nat) | cst (v : V)

/-- things of the store -/
inductive SO where
  | lst (xs : List D)
  | ins (C : Addr) (fs : List (Str × D))
abbrev Sto := List SO

abbrev H00 : Hp := fun _ => none
/-- l: where the store's things lie; x: what is being made just now -/
structure Rho where
  l : List Addr
  x : List Addr
def Rho.off (ρ : Rho) (a : Addr) : Prop := a ∉ ρ.l ∧ a ∉ ρ.x
def LAt (K : PySem.W.Frag) (H : Hp) (ρ : Rho) (a : Addr) (vs : List V) : Prop := (ρ.off a ∧ Rd H a (.lst vs)) ∨ SqL K H00 a vs
def OAt (H : Hp) (ρ : Rho) (a : Addr) (o : HO) : Prop := ρ.off a ∧ H a = some o
def TAt (K : PySem.W.Frag) (H : Hp) (ρ : Rho) (a : Addr) (vs : List V) : Prop := (ρ.off a ∧ Rd H a (.tup vs)) ∨ SqT K H00 a vs

theorem rd00 {a : Addr} {o : HO} (h : Rd H00 a o) : False := by
  rcases h with h | ⟨_, h⟩ <;> cases h
theorem LAt.sq {K : PySem.W.Frag} {H : Hp} {ρ : Rho} {a : Addr} {vs : List V} (h : LAt K H ρ a vs) : SqL K H a vs := by
  rcases h with ⟨_, h⟩ | h
  · exact .inl h
  · rcases h with h | h
    · exact (rd00 h).elim
    · exact .inr h
theorem TAt.sq {K : PySem.W.Frag} {H : Hp} {ρ : Rho} {a : Addr} {vs : List V} (h : TAt K H ρ a vs) : SqT K H a vs := by
  rcases h with ⟨_, h⟩ | h
  · exact .inl h
  · rcases h with h | h
    · exact (rd00 h).elim
    · exact .inr h

section
variable (K : PySem.W.Frag) (H : Hp) (ρ : Rho)
mutual
def RepV : D → V → Prop
  | .non, v => v = .non
  | .bl b, v => v = .bl b
  | .int i, v => v = .int i
  | .str x, v => v = .str x
  | .tup ds, v => ∃ a vs, v = .ref a ∧ TAt K H ρ a vs ∧ RepVs ds vs
  | .lst ds, v => ∃ a vs, v = .ref a ∧ OAt H ρ a (.lst vs) ∧ RepVs ds vs
  | .frz ds, v => ∃ a vs, v = .ref a ∧ LAt K H ρ a vs ∧ RepVs ds vs
  | .emp, v => ∃ a, v = .ref a ∧ OAt H ρ a (.dK [])
  | .ref n, v => ∃ a, v = .ref a ∧ ρ.l[n]? = some a
  | .cst u, v => v = u
def RepVs : List D → List V → Prop
  | [], vs => vs = []
  | d :: ds, vs => ∃ v vr, vs = v :: vr ∧ RepV d v ∧ RepVs ds vr
end
end

/-- what may have happened: things of the store changed, new things came -/
structure Ext (H : Hp) (ρ : Rho) (H' : Hp) (ρ' : Rho) : Prop where
  pre : ∃ e, ρ'.l = ρ.l ++ e ∧ ∀ a ∈ e, H a = none
  more : ∃ y, ρ'.x = y ++ ρ.x ∧ ∀ a ∈ y, H a = none
  keep : ∀ a o, H a = some o → a ∉ ρ.l → H' a = some o
  there : ∀ a o, H a = some o → ∃ o', H' a = some o'

theorem Ext.refl {H : Hp} {ρ : Rho} : Ext H ρ H ρ := ⟨⟨[], by simp, by simp⟩, ⟨[], by simp, by simp⟩, fun _ _ h _ => h, fun _ o h => ⟨o, h⟩⟩
theorem Ext.trans {H H1 H2 : Hp} {ρ ρ1 ρ2 : Rho} (a : Ext H ρ H1 ρ1) (b : Ext H1 ρ1 H2 ρ2) : Ext H ρ H2 ρ2 := by
  obtain ⟨⟨e1, r1, n1⟩, ⟨y1, s1, m1⟩, k1, t1⟩ := a
  obtain ⟨⟨e2, r2, n2⟩, ⟨y2, s2, m2⟩, k2, t2⟩ := b
  have back : ∀ a, H1 a = none → H a = none := fun a ha => by
    cases e : H a with
    | none => rfl
    | some o =>
      obtain ⟨o', q⟩ := t1 a o e
      rw [ha] at q; cases q
  have notin : ∀ a o, H a = some o → a ∉ e1 := fun a o h hm => by have := n1 a hm; rw [h] at this; cases this
  refine ⟨⟨e1 ++ e2, by rw [r2, r1]; simp, fun a ha => ?_⟩, ⟨y2 ++ y1, by rw [s2, s1]; simp, fun a ha => ?_⟩, fun a o h hn => ?_, fun a o h => ?_⟩
  · rcases List.mem_append.mp ha with ha | ha
    · exact n1 a ha
    · exact back a (n2 a ha)
  · rcases List.mem_append.mp ha with ha | ha
    · exact back a (m2 a ha)
    · exact m1 a ha
  · refine k2 a o (k1 a o h hn) fun hm => ?_
    rw [r1] at hm
    rcases List.mem_append.mp hm with hm | hm
    · exact hn hm
    · exact notin a o h hm
  · obtain ⟨o', q⟩ := t1 a o h
    exact t2 a o' q

/-- what is there and out of the store stays so -/
theorem Ext.outL {H H' : Hp} {ρ ρ' : Rho} (x : Ext H ρ H' ρ') {a : Addr} {o : HO} (h : H a = some o) (hn : a ∉ ρ.l) : a ∉ ρ'.l := by
  obtain ⟨e, r, n⟩ := x.pre
  rw [r]
  intro hm
  rcases List.mem_append.mp hm with hm | hm
  · exact hn hm
  · have := n a hm; rw [h] at this; cases this
theorem Ext.out {H H' : Hp} {ρ ρ' : Rho} (x : Ext H ρ H' ρ') {a : Addr} {o : HO} (h : H a = some o) (hn : ρ.off a) : ρ'.off a := ⟨x.outL h hn.1, by
  obtain ⟨y, r, n⟩ := x.more
  rw [r]
  intro hm
  rcases List.mem_append.mp hm with hm | hm
  · have := n a hm; rw [h] at this; cases this
  · exact hn.2 hm⟩
theorem Ext.rd {H H' : Hp} {ρ ρ' : Rho} (x : Ext H ρ H' ρ') {a : Addr} {u : HO} (hn : ρ.off a) (h : Rd H a u) : ρ'.off a ∧ Rd H' a u := by
  rcases h with h | ⟨o, h⟩
  · exact ⟨x.out h hn, .inl (x.keep _ _ h hn.1)⟩
  · exact ⟨x.out h hn, .inr ⟨o, x.keep _ _ h hn.1⟩⟩
theorem Ext.lat {K : PySem.W.Frag} {H H' : Hp} {ρ ρ' : Rho} (x : Ext H ρ H' ρ') {a : Addr} {vs : List V} (h : LAt K H ρ a vs) : LAt K H' ρ' a vs := by
  rcases h with ⟨hn, h⟩ | h
  · exact .inl (x.rd hn h)
  · exact .inr h
theorem Ext.tat {K : PySem.W.Frag} {H H' : Hp} {ρ ρ' : Rho} (x : Ext H ρ H' ρ') {a : Addr} {vs : List V} (h : TAt K H ρ a vs) : TAt K H' ρ' a vs := by
  rcases h with ⟨hn, h⟩ | h
  · exact .inl (x.rd hn h)
  · exact .inr h
theorem Ext.oat {H H' : Hp} {ρ ρ' : Rho} (x : Ext H ρ H' ρ') {a : Addr} {o : HO} (h : OAt H ρ a o) : OAt H' ρ' a o := ⟨x.out h.2 h.1, x.keep _ _ h.2 h.1.1⟩

section
variable {K : PySem.W.Frag} {H H' : Hp} {ρ ρ' : Rho}
mutual
theorem RepV.ext (x : Ext H ρ H' ρ') : ∀ {d : D} {v : V}, RepV K H ρ d v → RepV K H' ρ' d v
  | .non, _, h => h
  | .bl _, _, h => h
  | .int _, _, h => h
  | .str _, _, h => h
  | .tup ds, v, h => by
    unfold RepV at h ⊢
    obtain ⟨a, vs, e, ha, hs⟩ := h
    exact ⟨a, vs, e, x.tat ha, RepVs.ext x hs⟩
  | .lst ds, v, h => by
    unfold RepV at h ⊢
    obtain ⟨a, vs, e, ha, hs⟩ := h
    exact ⟨a, vs, e, x.oat ha, RepVs.ext x hs⟩
  | .frz ds, v, h => by
    unfold RepV at h ⊢
    obtain ⟨a, vs, e, ha, hs⟩ := h
    exact ⟨a, vs, e, x.lat ha, RepVs.ext x hs⟩
  | .emp, v, h => by
    unfold RepV at h ⊢
    obtain ⟨a, e, ha⟩ := h
    exact ⟨a, e, x.oat ha⟩
  | .ref n, v, h => by
    unfold RepV at h ⊢
    obtain ⟨a, e, ha⟩ := h
    obtain ⟨e', r, _⟩ := x.pre
    exact ⟨a, e, by rw [r, List.getElem?_append_left (by exact (List.getElem?_eq_some_iff.mp ha).1)]; exact ha⟩
  | .cst _, _, h => h
theorem RepVs.ext (x : Ext H ρ H' ρ') : ∀ {ds : List D} {vs : List V}, RepVs K H ρ ds vs → RepVs K H' ρ' ds vs
  | [], _, h => h
  | d :: ds, vs, h => by
    unfold RepVs at h ⊢
    obtain ⟨v, vr, e, h1, h2⟩ := h
    exact ⟨v, vr, e, RepV.ext x h1, RepVs.ext x h2⟩
end
theorem RepVs.length : ∀ {ds : List D} {vs : List V}, RepVs K H ρ ds vs → vs.length = ds.length
  | [], _, h => by unfold RepVs at h; subst h; rfl
  | d :: ds, vs, h => by
    unfold RepVs at h
    obtain ⟨v, vr, e, h1, h2⟩ := h
    subst e
    simp [RepVs.length h2]
theorem RepVs.nil : RepVs K H ρ [] [] := by unfold RepVs; rfl
theorem RepVs.cons {d : D} {ds : List D} {v : V} {vs : List V} (h : RepV K H ρ d v) (h' : RepVs K H ρ ds vs) : RepVs K H ρ (d :: ds) (v :: vs) := by
  unfold RepVs; exact ⟨v, vs, rfl, h, h'⟩
theorem RepVs.of_nil {vs : List V} (h : RepVs K H ρ [] vs) : vs = [] := by unfold RepVs at h; exact h
theorem RepVs.of_cons {d : D} {ds : List D} {vs : List V} (h : RepVs K H ρ (d :: ds) vs) : ∃ v vr, vs = v :: vr ∧ RepV K H ρ d v ∧ RepVs K H ρ ds vr := by unfold RepVs at h; exact h
theorem RepVs.get : ∀ {ds : List D} {vs : List V}, RepVs K H ρ ds vs → ∀ {i : Nat} {d : D}, ds[i]? = some d → ∃ v, vs[i]? = some v ∧ RepV K H ρ d v
  | [], _, _, i, d, e => by simp at e
  | d0 :: ds, vs, h, i, d, e => by
    obtain ⟨v, vr, rfl, h1, h2⟩ := h.of_cons
    cases i with
    | zero => simp at e; subst e; exact ⟨v, rfl, h1⟩
    | succ i => exact RepVs.get h2 (i := i) (by simpa using e)
theorem RepVs.get' : ∀ {ds : List D} {vs : List V}, RepVs K H ρ ds vs → ∀ {i : Nat} {v : V}, vs[i]? = some v → ∃ d, ds[i]? = some d ∧ RepV K H ρ d v
  | [], _, h, i, d, e => by rw [h.of_nil] at e; simp at e
  | d0 :: ds, vs, h, i, d, e => by
    obtain ⟨v, vr, rfl, h1, h2⟩ := h.of_cons
    cases i with
    | zero => simp at e; subst e; exact ⟨_, rfl, h1⟩
    | succ i => exact RepVs.get' h2 (i := i) (by simpa using e)
theorem RepVs.append : ∀ {ds es : List D} {vs ws : List V}, RepVs K H ρ ds vs → RepVs K H ρ es ws → RepVs K H ρ (ds ++ es) (vs ++ ws)
  | [], _, _, _, h, h' => by rw [h.of_nil]; exact h'
  | d :: ds, _, _, _, h, h' => by
    obtain ⟨v, vr, rfl, h1, h2⟩ := h.of_cons
    exact .cons h1 (RepVs.append h2 h')
theorem RepVs.set : ∀ {ds : List D} {vs : List V} {i : Nat} {d : D} {v : V}, RepVs K H ρ ds vs → RepV K H ρ d v → RepVs K H ρ (ds.set i d) (vs.set i v)
  | [], _, _, _, _, h, _ => by rw [h.of_nil]; exact .nil
  | d :: ds, _, i, _, _, h, h' => by
    obtain ⟨v, vr, rfl, h1, h2⟩ := h.of_cons
    cases i with
    | zero => exact .cons h' h2
    | succ i => exact .cons h1 (RepVs.set h2 h')
theorem RepVs.drop : ∀ {ds : List D} {vs : List V} (n : Nat), RepVs K H ρ ds vs → RepVs K H ρ (ds.drop n) (vs.drop n)
  | ds, vs, 0, h => h
  | [], _, n + 1, h => by rw [h.of_nil]; exact .nil
  | d :: ds, _, n + 1, h => by
    obtain ⟨v, vr, rfl, h1, h2⟩ := h.of_cons
    exact RepVs.drop n h2
theorem RepVs.take : ∀ {ds : List D} {vs : List V} (n : Nat), RepVs K H ρ ds vs → RepVs K H ρ (ds.take n) (vs.take n)
  | ds, vs, 0, h => by simp; exact .nil
  | [], _, n + 1, h => by rw [h.of_nil]; exact .nil
  | d :: ds, _, n + 1, h => by
    obtain ⟨v, vr, rfl, h1, h2⟩ := h.of_cons
    exact .cons h1 (RepVs.take n h2)
theorem RepVs.rep {ds : List D} {vs : List V} (h : RepVs K H ρ ds vs) : ∀ k : Nat, RepVs K H ρ (List.replicate k ds).flatten (List.replicate k vs).flatten
  | 0 => .nil
  | k + 1 => by rw [List.replicate_succ, List.flatten_cons, List.replicate_succ, List.flatten_cons]; exact h.append (RepVs.rep h k)
end

/-- a thing of the store at its address -/
def RepO (K : PySem.W.Frag) (H : Hp) (ρ : Rho) (a : Addr) : SO → Prop
  | .lst ds => ∃ vs, H a = some (.lst vs) ∧ RepVs K H ρ ds vs
  | .ins C fs => ∃ dx ws, H a = some (.ins C dx ws) ∧ ws.map (·.1) = fs.map (·.1) ∧ RepVs K H ρ (fs.map (·.2)) (ws.map (·.2))
structure HRep (K : PySem.W.Frag) (H : Hp) (ρ : Rho) (S : Sto) : Prop where
  len : ρ.l.length = S.length
  nd : ρ.l.Nodup
  all : ∀ (n : Nat) (o : SO) (a : Addr), S[n]? = some o → ρ.l[n]? = some a → RepO K H ρ a o
  ex : ∀ a ∈ ρ.x, a ∉ ρ.l ∧ ∃ o, H a = some o

section
variable {K : PySem.W.Frag} {H H' : Hp} {ρ ρ' : Rho} {S : Sto}
theorem RepO.there {a : Addr} {o : SO} (h : RepO K H ρ a o) : ∃ u, H a = some u := by
  cases o with
  | lst ds => obtain ⟨_, h, _⟩ := h; exact ⟨_, h⟩
  | ins C fs => obtain ⟨_, _, h, _⟩ := h; exact ⟨_, h⟩
theorem HRep.there (h : HRep K H ρ S) {a : Addr} (ha : a ∈ ρ.l) : ∃ u, H a = some u := by
  obtain ⟨n, e⟩ := List.mem_iff_getElem?.mp ha
  have hn : n < S.length := by rw [← h.len]; exact (List.getElem?_eq_some_iff.mp e).1
  exact (h.all n S[n] a (by simp [hn]) e).there
theorem HRep.out (h : HRep K H ρ S) {p : Addr} (hp : H p = none) : ρ.off p := by
  constructor
  · intro hm
    obtain ⟨u, e⟩ := h.there hm
    rw [hp] at e; cases e
  · intro hm
    obtain ⟨_, u, e⟩ := h.ex p hm
    rw [hp] at e; cases e
theorem HRep.at (h : HRep K H ρ S) {n : Nat} {o : SO} (e : S[n]? = some o) : ∃ a, ρ.l[n]? = some a ∧ RepO K H ρ a o := by
  have hn : n < ρ.l.length := by rw [h.len]; exact (List.getElem?_eq_some_iff.mp e).1
  exact ⟨ρ.l[n], by simp [hn], h.all n o _ e (by simp [hn])⟩
/-- a thing of the store where the heap went on, its own object being as it was -/
theorem RepO.ext {a : Addr} {so : SO} (q : RepO K H ρ a so) (x : Ext H ρ H' ρ') (e : ∀ u, H a = some u → H' a = some u) : RepO K H' ρ' a so := by
  cases so with
  | lst ds =>
    obtain ⟨vs, q1, q2⟩ := q
    exact ⟨vs, e _ q1, q2.ext x⟩
  | ins C fs =>
    obtain ⟨dx, ws, q1, q2, q3⟩ := q
    exact ⟨dx, ws, e _ q1, q2, q3.ext x⟩
/-- a new untracked thing -/
theorem HRep.new (h : HRep K H ρ S) {p : Addr} (hp : H p = none) (o : HO) : Ext H ρ (upd H p o) ρ ∧ HRep K (upd H p o) ρ S := by
  have hnp : ∀ a u, H a = some u → a ≠ p := fun a u e z => by rw [z, hp] at e; cases e
  have x : Ext H ρ (upd H p o) ρ := ⟨⟨[], by simp, by simp⟩, ⟨[], by simp, by simp⟩, fun a u e _ => by rw [upd_ne (hnp a u e)]; exact e, fun a u e => ⟨u, by rw [upd_ne (hnp a u e)]; exact e⟩⟩
  refine ⟨x, h.len, h.nd, fun n so a e1 e2 => (h.all n so a e1 e2).ext x fun u q => by rw [upd_ne (hnp a u q)]; exact q, fun a ha => ?_⟩
  obtain ⟨h1, u, h2⟩ := h.ex a ha
  exact ⟨h1, u, by rw [upd_ne (hnp a u h2)]; exact h2⟩
/-- a new thing of the store -/
theorem HRep.alloc (h : HRep K H ρ S) {p : Addr} (hp : H p = none) {ds : List D} {vs : List V} (r : RepVs K H ρ ds vs) :
    Ext H ρ (upd H p (.lst vs)) ⟨ρ.l ++ [p], ρ.x⟩ ∧ HRep K (upd H p (.lst vs)) ⟨ρ.l ++ [p], ρ.x⟩ (S ++ [.lst ds]) := by
  have hnp : ∀ a u, H a = some u → a ≠ p := fun a u e z => by rw [z, hp] at e; cases e
  have x : Ext H ρ (upd H p (.lst vs)) ⟨ρ.l ++ [p], ρ.x⟩ := ⟨⟨[p], rfl, fun a ha => by rw [List.mem_singleton.mp ha]; exact hp⟩, ⟨[], by simp, by simp⟩, fun a u e _ => by rw [upd_ne (hnp a u e)]; exact e, fun a u e => ⟨u, by rw [upd_ne (hnp a u e)]; exact e⟩⟩
  refine ⟨x, by simp [h.len], ?_, fun n so a e1 e2 => ?_, fun a ha => ?_⟩
  · show (ρ.l ++ [p]).Nodup
    rw [List.nodup_append]
    refine ⟨h.nd, by simp, fun a ha b hb z => ?_⟩
    rw [List.mem_singleton.mp hb] at z
    exact (h.out hp).1 (z ▸ ha)
  · replace e2 : (ρ.l ++ [p])[n]? = some a := e2
    by_cases hn : n < S.length
    · rw [List.getElem?_append_left hn] at e1
      rw [List.getElem?_append_left (by rw [h.len]; exact hn)] at e2
      exact (h.all n so a e1 e2).ext x fun u q => by rw [upd_ne (hnp a u q)]; exact q
    · have en : n = S.length := by
        have := (List.getElem?_eq_some_iff.mp e1).1
        simp at this; omega
      subst en
      simp at e1
      rw [← h.len] at e2
      simp at e2
      subst e1; subst e2
      exact ⟨vs, upd_same, r.ext x⟩
  · obtain ⟨h1, u, h2⟩ := h.ex a ha
    refine ⟨fun hm => ?_, u, by rw [upd_ne (hnp a u h2)]; exact h2⟩
    rcases List.mem_append.mp hm with hm | hm
    · exact h1 hm
    · exact hnp a u h2 (List.mem_singleton.mp hm)
/-- a list of the store is changed -/
theorem HRep.write (h : HRep K H ρ S) {n : Nat} {a : Addr} {vs0 vs : List V} {ds : List D} (hn : n < S.length) (ha : ρ.l[n]? = some a) (h0 : H a = some (.lst vs0)) (r : RepVs K H ρ ds vs) :
    Ext H ρ (upd H a (.lst vs)) ρ ∧ HRep K (upd H a (.lst vs)) ρ (S.set n (.lst ds)) := by
  have hm : a ∈ ρ.l := List.mem_iff_getElem?.mpr ⟨n, ha⟩
  have x : Ext H ρ (upd H a (.lst vs)) ρ := ⟨⟨[], by simp, by simp⟩, ⟨[], by simp, by simp⟩, fun b u e hb => by rw [upd_ne (fun (z : b = a) => hb (by rw [z]; exact hm))]; exact e, fun b u e => by
    by_cases hb : b = a
    · subst hb; exact ⟨_, upd_same⟩
    · exact ⟨u, by rw [upd_ne hb]; exact e⟩⟩
  refine ⟨x, by simp [h.len], h.nd, fun m so b e1 e2 => ?_, fun b hb => ?_⟩
  · by_cases hmn : m = n
    · subst hmn
      rw [List.getElem?_set_self hn] at e1
      cases e1
      rw [ha] at e2; cases e2
      exact ⟨vs, upd_same, r.ext x⟩
    · rw [List.getElem?_set_ne (Ne.symm hmn)] at e1
      have hb : b ≠ a := fun z => by
        subst z
        obtain ⟨h1, q1⟩ := List.getElem?_eq_some_iff.mp ha
        obtain ⟨h2, q2⟩ := List.getElem?_eq_some_iff.mp e2
        exact hmn ((List.getElem_inj h.nd).mp (q2.trans q1.symm))
      exact (h.all m so b e1 e2).ext x fun u q => by rw [upd_ne hb]; exact q
  · obtain ⟨h1, u, h2⟩ := h.ex b hb
    have : b ≠ a := fun z => h1 (z ▸ hm)
    exact ⟨h1, u, by rw [upd_ne this]; exact h2⟩

/-! what is being made at p changes: all else stands -/
theorem off_ne {p a : Addr} (hp : p ∈ ρ.x) (h : ρ.off a) : a ≠ p := fun z => h.2 (z ▸ hp)
mutual
theorem RepV.made {p : Addr} {o : HO} (hp : p ∈ ρ.x) : ∀ {d : D} {v : V}, RepV K H ρ d v → RepV K (upd H p o) ρ d v
  | .non, _, h => h
  | .bl _, _, h => h
  | .int _, _, h => h
  | .str _, _, h => h
  | .tup ds, v, h => by
    unfold RepV at h ⊢
    obtain ⟨a, vs, e, ha, hs⟩ := h
    refine ⟨a, vs, e, ?_, RepVs.made hp hs⟩
    rcases ha with ⟨hn, ha⟩ | ha
    · refine .inl ⟨hn, ?_⟩
      rcases ha with ha | ⟨u, ha⟩
      · exact .inl (by rw [upd_ne (off_ne hp hn)]; exact ha)
      · exact .inr ⟨u, by rw [upd_ne (off_ne hp hn)]; exact ha⟩
    · exact .inr ha
  | .lst ds, v, h => by
    unfold RepV at h ⊢
    obtain ⟨a, vs, e, ha, hs⟩ := h
    exact ⟨a, vs, e, ⟨ha.1, by rw [upd_ne (off_ne hp ha.1)]; exact ha.2⟩, RepVs.made hp hs⟩
  | .frz ds, v, h => by
    unfold RepV at h ⊢
    obtain ⟨a, vs, e, ha, hs⟩ := h
    refine ⟨a, vs, e, ?_, RepVs.made hp hs⟩
    rcases ha with ⟨hn, ha⟩ | ha
    · refine .inl ⟨hn, ?_⟩
      rcases ha with ha | ⟨u, ha⟩
      · exact .inl (by rw [upd_ne (off_ne hp hn)]; exact ha)
      · exact .inr ⟨u, by rw [upd_ne (off_ne hp hn)]; exact ha⟩
    · exact .inr ha
  | .emp, v, h => by
    unfold RepV at h ⊢
    obtain ⟨a, e, ha⟩ := h
    exact ⟨a, e, ha.1, by rw [upd_ne (off_ne hp ha.1)]; exact ha.2⟩
  | .ref n, v, h => by unfold RepV at h ⊢; exact h
  | .cst _, _, h => h
theorem RepVs.made {p : Addr} {o : HO} (hp : p ∈ ρ.x) : ∀ {ds : List D} {vs : List V}, RepVs K H ρ ds vs → RepVs K (upd H p o) ρ ds vs
  | [], _, h => h
  | d :: ds, vs, h => by
    unfold RepVs at h ⊢
    obtain ⟨v, vr, e, h1, h2⟩ := h
    exact ⟨v, vr, e, RepV.made hp h1, RepVs.made hp h2⟩
end
/-! something at p begins to be made, where p was free -/
theorem ext_begin {p : Addr} {o : HO} (hp : H p = none) : Ext H ρ (upd H p o) ⟨ρ.l, p :: ρ.x⟩ := by
  have hnp : ∀ a u, H a = some u → a ≠ p := fun a u e z => by rw [z, hp] at e; cases e
  exact ⟨⟨[], by simp, by simp⟩, ⟨[p], rfl, fun a ha => by rw [List.mem_singleton.mp ha]; exact hp⟩, fun a u e _ => by rw [upd_ne (hnp a u e)]; exact e, fun a u e => ⟨u, by rw [upd_ne (hnp a u e)]; exact e⟩⟩
/-! and is done -/
theorem off_less {a : Addr} {x : List Addr} (hx : ∀ b ∈ x, b ∈ ρ.x) (h : ρ.off a) : Rho.off ⟨ρ.l, x⟩ a := ⟨h.1, fun hm => h.2 (hx a hm)⟩
mutual
theorem RepV.done {x : List Addr} (hx : ∀ b ∈ x, b ∈ ρ.x) : ∀ {d : D} {v : V}, RepV K H ρ d v → RepV K H ⟨ρ.l, x⟩ d v
  | .non, _, h => h
  | .bl _, _, h => h
  | .int _, _, h => h
  | .str _, _, h => h
  | .tup ds, v, h => by
    unfold RepV at h ⊢
    obtain ⟨a, vs, e, ha, hs⟩ := h
    refine ⟨a, vs, e, ?_, RepVs.done hx hs⟩
    rcases ha with ⟨hn, ha⟩ | ha
    · exact .inl ⟨off_less hx hn, ha⟩
    · exact .inr ha
  | .lst ds, v, h => by
    unfold RepV at h ⊢
    obtain ⟨a, vs, e, ha, hs⟩ := h
    exact ⟨a, vs, e, ⟨off_less hx ha.1, ha.2⟩, RepVs.done hx hs⟩
  | .frz ds, v, h => by
    unfold RepV at h ⊢
    obtain ⟨a, vs, e, ha, hs⟩ := h
    refine ⟨a, vs, e, ?_, RepVs.done hx hs⟩
    rcases ha with ⟨hn, ha⟩ | ha
    · exact .inl ⟨off_less hx hn, ha⟩
    · exact .inr ha
  | .emp, v, h => by
    unfold RepV at h ⊢
    obtain ⟨a, e, ha⟩ := h
    exact ⟨a, e, off_less hx ha.1, ha.2⟩
  | .ref n, v, h => by unfold RepV at h ⊢; exact h
  | .cst _, _, h => h
theorem RepVs.done {x : List Addr} (hx : ∀ b ∈ x, b ∈ ρ.x) : ∀ {ds : List D} {vs : List V}, RepVs K H ρ ds vs → RepVs K H ⟨ρ.l, x⟩ ds vs
  | [], _, h => h
  | d :: ds, vs, h => by
    unfold RepVs at h ⊢
    obtain ⟨v, vr, e, h1, h2⟩ := h
    exact ⟨v, vr, e, RepV.done hx h1, RepVs.done hx h2⟩
end
theorem RepO.map {a : Addr} {so : SO} {H' : Hp} {ρ' : Rho} (q : RepO K H ρ a so) (e : ∀ u, H a = some u → H' a = some u) (f : ∀ ds vs, RepVs K H ρ ds vs → RepVs K H' ρ' ds vs) : RepO K H' ρ' a so := by
  cases so with
  | lst ds =>
    obtain ⟨vs, q1, q2⟩ := q
    exact ⟨vs, e _ q1, f _ _ q2⟩
  | ins C fs =>
    obtain ⟨dx, ws, q1, q2, q3⟩ := q
    exact ⟨dx, ws, e _ q1, q2, f _ _ q3⟩
theorem HRep.made (h : HRep K H ρ S) {p : Addr} {o : HO} (hp : p ∈ ρ.x) : HRep K (upd H p o) ρ S := by
  refine ⟨h.len, h.nd, fun n so a e1 e2 => (h.all n so a e1 e2).map (fun u q => ?_) fun ds vs r => r.made hp, fun a ha => ?_⟩
  · have : a ≠ p := fun z => (h.ex p hp).1 (z ▸ List.mem_iff_getElem?.mpr ⟨n, e2⟩)
    rw [upd_ne this]; exact q
  · obtain ⟨h1, u, h2⟩ := h.ex a ha
    by_cases c : a = p
    · subst c; exact ⟨h1, _, upd_same⟩
    · exact ⟨h1, u, by rw [upd_ne c]; exact h2⟩
theorem HRep.begin (h : HRep K H ρ S) {p : Addr} {o : HO} (hp : H p = none) : HRep K (upd H p o) ⟨ρ.l, p :: ρ.x⟩ S := by
  refine ⟨h.len, h.nd, fun n so a e1 e2 => (h.all n so a e1 e2).map (fun u q => ?_) fun ds vs r => r.ext (ext_begin hp), fun a ha => ?_⟩
  · have : a ≠ p := fun z => by rw [z, hp] at q; cases q
    rw [upd_ne this]; exact q
  · rcases List.mem_cons.mp ha with rfl | ha
    · exact ⟨(h.out hp).1, _, upd_same⟩
    · obtain ⟨h1, u, h2⟩ := h.ex a ha
      have : a ≠ p := fun z => by rw [z, hp] at h2; cases h2
      exact ⟨h1, u, by rw [upd_ne this]; exact h2⟩
theorem HRep.done (h : HRep K H ρ S) {x : List Addr} (hx : ∀ b ∈ x, b ∈ ρ.x) : HRep K H ⟨ρ.l, x⟩ S :=
  ⟨h.len, h.nd, fun n so a e1 e2 => (h.all n so a e1 e2).map (fun _ q => q) fun ds vs r => r.done hx, fun a ha => h.ex a (hx a ha)⟩
end

/-! ### results -/
inductive Res (α : Type) where
  | ok (a : α) (S : Sto) | raise (c : Value) (S : Sto) | stuck
def Res.bind {α β : Type} (r : Res α) (k : α → Sto → Res β) : Res β := match r with
  | .ok a S => k a S
  | .raise c S => .raise c S
  | .stuck => .stuck
@[simp] theorem Res.bind_ok {α β : Type} (a : α) (S : Sto) (k : α → Sto → Res β) : (Res.ok a S).bind k = k a S := rfl
@[simp] theorem Res.bind_raise {α β : Type} (c : Value) (S : Sto) (k : α → Sto → Res β) : (Res.raise c S : Res α).bind k = .raise c S := rfl
@[simp] theorem Res.bind_stuck {α β : Type} (k : α → Sto → Res β) : (Res.stuck : Res α).bind k = .stuck := rfl
/-- a plain answer, or none -/
def ofO {α : Type} (o : Option α) (S : Sto) : Res α := match o with
  | some a => .ok a S
  | none => .stuck
@[simp] theorem ofO_some {α : Type} (a : α) (S : Sto) : ofO (some a) S = .ok a S := rfl
@[simp] theorem ofO_none {α : Type} (S : Sto) : ofO (none : Option α) S = .stuck := rfl

/-- what a result says of the heaps behind -/
def PR (K : PySem.W.Frag) (H : Hp) (ρ : Rho) {α : Type} (r : Res α) (k : α → Sto → Hp → Rho → Prop) (e : Value → Sto → Hp → Rho → Prop) : Prop := match r with
  | .ok a S' => ∀ H' ρ', Ext H ρ H' ρ' → HRep K H' ρ' S' → k a S' H' ρ'
  | .raise c S' => ∀ H' ρ', Ext H ρ H' ρ' → HRep K H' ρ' S' → e c S' H' ρ'
  | .stuck => False
section
variable {K : PySem.W.Frag} {H H1 : Hp} {ρ ρ1 : Rho} {α β : Type}
theorem PR.ext {r : Res α} {k : α → Sto → Hp → Rho → Prop} {e : Value → Sto → Hp → Rho → Prop} (x : Ext H ρ H1 ρ1) (h : PR K H ρ r k e) : PR K H1 ρ1 r k e := by
  cases r with
  | ok a S => exact fun H' ρ' x' hr => h H' ρ' (x.trans x') hr
  | raise c S => exact fun H' ρ' x' hr => h H' ρ' (x.trans x') hr
  | stuck => exact h
theorem PR.imp {r : Res α} {k k' : α → Sto → Hp → Rho → Prop} {e e' : Value → Sto → Hp → Rho → Prop} (h : PR K H ρ r k e) (hk : ∀ a S' H' ρ', Ext H ρ H' ρ' → HRep K H' ρ' S' → k a S' H' ρ' → k' a S' H' ρ')
    (he : ∀ c S' H' ρ', Ext H ρ H' ρ' → HRep K H' ρ' S' → e c S' H' ρ' → e' c S' H' ρ') : PR K H ρ r k' e' := by
  cases r with
  | ok a S => exact fun H' ρ' x hr => hk _ _ _ _ x hr (h H' ρ' x hr)
  | raise c S => exact fun H' ρ' x hr => he _ _ _ _ x hr (h H' ρ' x hr)
  | stuck => exact h
theorem PR.bind {r : Res α} {g : α → Sto → Res β} {k : β → Sto → Hp → Rho → Prop} {e : Value → Sto → Hp → Rho → Prop} (h : PR K H ρ (r.bind g) k e) :
    PR K H ρ r (fun a S' H' ρ' => PR K H' ρ' (g a S') k e) e := by
  cases r with
  | ok a S => exact fun H' ρ' x hr => PR.ext x (r := g a S) h
  | raise c S => exact h
  | stuck => exact h
end

/-! ### names -/
abbrev En := List (Option D)
def RepE (K : PySem.W.Frag) (H : Hp) (ρ : Rho) (σd : En) (σ : L2.St) : Prop := σ.length = σd.length ∧ ∀ (i : Nat) (d : D), σd[i]? = some (some d) → ∃ v, σ[i]? = some (some v) ∧ RepV K H ρ d v
theorem RepE.ext {K : PySem.W.Frag} {H H' : Hp} {ρ ρ' : Rho} {σd : En} {σ : L2.St} (x : Ext H ρ H' ρ') (h : RepE K H ρ σd σ) : RepE K H' ρ' σd σ :=
  ⟨h.1, fun i d e => let ⟨v, q, r⟩ := h.2 i d e; ⟨v, q, r.ext x⟩⟩
theorem RepE.set {K : PySem.W.Frag} {H : Hp} {ρ : Rho} {σd : En} {σ : L2.St} {i : Nat} {d : D} {v : V} (h : RepE K H ρ σd σ) (r : RepV K H ρ d v) : RepE K H ρ (σd.set i (some d)) (σ.set i (some v)) := by
  refine ⟨by simp [h.1], fun j d' e => ?_⟩
  by_cases hj : i = j
  · subst hj
    have hl : i < σd.length := by
      have := (List.getElem?_eq_some_iff.mp e).1
      simpa using this
    rw [List.getElem?_set_self hl] at e
    cases e
    exact ⟨v, by rw [List.getElem?_set_self (by rw [h.1]; exact hl)], r⟩
  · rw [List.getElem?_set_ne hj] at e ⊢
    exact h.2 j d' e

/-! ### the judgements -/
abbrev FE := En → Sto → Res D
def tE (K : PySem.W.Frag) (W : WX) (f : FE) : TE := fun σ H Q => ∃ ρ σd S, RepE K H ρ σd σ ∧ HRep K H ρ S ∧
  PR K H ρ (f σd S) (fun d _ H' ρ' => ∀ v, RepV K H' ρ' d v → Q v H') (fun c _ H' _ => W c none σ H')
structure DE (X : Cx) (W : WX) (e : Expr) (f : FE) : Prop where
  pe : PE X e (tE X.K W f)
theorem PE.imp {X : Cx} {e : Expr} {t t' : TE} (h : PE X e t) (hi : ∀ σ H Q, t' σ H Q → t σ H Q) : PE X e t' := ⟨fun pins s σ H Q I q => h.run pins s σ H Q I (hi σ H Q q)⟩
theorem PT.imp {X : Cx} {e : Expr} {t t' : TT} (h : PT X e t) (hi : ∀ σ H Q, t' σ H Q → t σ H Q) : PT X e t' := ⟨fun pins s σ H Q I q => h.run pins s σ H Q I (hi σ H Q q)⟩
theorem PW.imp {X : Cx} {e : Expr} {t t' : TT} (h : PW X e t) (hi : ∀ σ H Q, t' σ H Q → t σ H Q) : PW X e t' := ⟨fun w pins s σ H Q I q => h.run w pins s σ H Q I (hi σ H Q q)⟩
theorem PA.imp {X : Cx} {e : List Expr} {t t' : TA} (h : PA X e t) (hi : ∀ σ H Q, t' σ H Q → t σ H Q) : PA X e t' := ⟨fun p pins s σ H Q I q => h.run p pins s σ H Q I (hi σ H Q q)⟩
theorem PS.imp {X : Cx} {e : Stmt} {t t' : TS} (h : PS X e t) (hi : ∀ D σ H, t' D σ H → t D σ H) : PS X e t' := ⟨fun pins s σ H D I q => h.run pins s σ H D I (hi D σ H q)⟩
theorem PSs.imp {X : Cx} {e : List Stmt} {t t' : TS} (h : PSs X e t) (hi : ∀ D σ H, t' D σ H → t D σ H) : PSs X e t' := ⟨fun pins s σ H D I q => h.run pins s σ H D I (hi D σ H q)⟩
theorem PG.imp {X : Cx} {e : Expr} {t t' : TG} (h : PG X e t) (hi : ∀ v σ H Q, t' v σ H Q → t v σ H Q) : PG X e t' := ⟨fun pins s σ H v u Q I r q => h.run pins s σ H v u Q I r (hi v σ H Q q)⟩
theorem PGs.imp {X : Cx} {e : List Expr} {t t' : TGs} (h : PGs X e t) (hi : ∀ v σ H Q, t' v σ H Q → t v σ H Q) : PGs X e t' := ⟨fun pins s σ H v u Q I r q => h.run pins s σ H v u Q I r (hi v σ H Q q)⟩
theorem PG.or {X : Cx} {e : Expr} {t t' : TG} (h : PG X e t) (h' : PG X e t') : PG X e (fun v σ H Q => t v σ H Q ∨ t' v σ H Q) :=
  ⟨fun pins s σ H v u Q I r q => q.elim (h.run pins s σ H v u Q I r) (h'.run pins s σ H v u Q I r)⟩
theorem PI.imp {X : Cx} {g e : Expr} {t t' : TI} (h : PI X g e t) (hi : ∀ σ H Q, t' σ H Q → t σ H Q) : PI X g e t' := ⟨fun pins s σ H Q I q => h.run pins s σ H Q I (hi σ H Q q)⟩
theorem PI.or {X : Cx} {g e : Expr} {t t' : TI} (h : PI X g e t) (h' : PI X g e t') : PI X g e (fun σ H Q => t σ H Q ∨ t' σ H Q) := ⟨fun pins s σ H Q I q => q.elim (h.run pins s σ H Q I) (h'.run pins s σ H Q I)⟩

/-- a test -/
abbrev FT := En → Sto → Res Bool
def tT (K : PySem.W.Frag) (W : WX) (f : FT) : TT := fun σ H Q => ∃ ρ σd S, RepE K H ρ σd σ ∧ HRep K H ρ S ∧
  PR K H ρ (f σd S) (fun b _ H' _ => Q b H') (fun c _ H' _ => W c none σ H')
/- a test's value must be handed on with its store: the readings of if, while, and, or go on from the heap -/
structure DT (X : Cx) (W : WX) (e : Expr) (f : FT) : Prop where
  pt : PT X e (tT X.K W f)
structure DW (X : Cx) (W : WX) (e : Expr) (f : FT) : Prop where
  pw : PW X e (tT X.K W f)
theorem DW.dt {X : Cx} {W : WX} {e : Expr} {f : FT} (h : DW X W e f) : DT X W e f := ⟨h.pw.pt⟩
end DL
end

section
set_option Elab.async false
set_option linter.all false
set_option maxRecDepth 100000
set_option maxHeartbeats 4000000
namespace DL
open PySem PySem.Spec PyProof.Rows L2

/-! ### reading values -/
section
variable {K : PySem.W.Frag} {H : Hp} {ρ : Rho} {S : Sto}
/-- the items of a list that may be extended or joined -/
def lstOf : D → Sto → Option (List D)
  | .lst xs, _ => some xs
  | .ref n, S => match S[n]? with
    | some (.lst xs) => some xs
    | _ => none
  | _, _ => none
theorem lstOf_rep {d : D} {v : V} {xs : List D} (hr : HRep K H ρ S) (h : RepV K H ρ d v) (e : lstOf d S = some xs) : ∃ a vs, v = .ref a ∧ H a = some (.lst vs) ∧ RepVs K H ρ xs vs := by
  cases d with
  | lst ys =>
    cases e
    unfold RepV at h
    obtain ⟨a, vs, rfl, ha, hs⟩ := h
    exact ⟨a, vs, rfl, ha.2, hs⟩
  | ref n =>
    unfold RepV at h
    obtain ⟨a, rfl, ha⟩ := h
    simp only [lstOf] at e
    cases hS : S[n]? with
    | none => rw [hS] at e; cases e
    | some o =>
      rw [hS] at e
      cases o with
      | lst ys =>
        cases e
        obtain ⟨vs, h1, h2⟩ := hr.all n _ a hS ha
        exact ⟨a, vs, rfl, h1, h2⟩
      | ins C fs => cases e
  | _ => cases e
/-- the items of any list -/
def anyL : D → Sto → Option (List D)
  | .frz xs, _ => some xs
  | d, S => lstOf d S
theorem anyL_rep {d : D} {v : V} {xs : List D} (hr : HRep K H ρ S) (h : RepV K H ρ d v) (e : anyL d S = some xs) : ∃ a vs, v = .ref a ∧ SqL K H a vs ∧ RepVs K H ρ xs vs := by
  have go : lstOf d S = some xs → ∃ a vs, v = .ref a ∧ SqL K H a vs ∧ RepVs K H ρ xs vs := fun e => by
    obtain ⟨a, vs, h1, h2, h3⟩ := lstOf_rep hr h e
    exact ⟨a, vs, h1, .of h2, h3⟩
  cases d with
  | frz ys =>
    cases e
    unfold RepV at h
    obtain ⟨a, vs, rfl, ha, hs⟩ := h
    exact ⟨a, vs, rfl, ha.sq, hs⟩
  | _ => exact go e
theorem tup_rep {v : V} {xs : List D} (h : RepV K H ρ (.tup xs) v) : ∃ a vs, v = .ref a ∧ SqT K H a vs ∧ TAt K H ρ a vs ∧ RepVs K H ρ xs vs := by
  unfold RepV at h
  obtain ⟨a, vs, rfl, ha, hs⟩ := h
  exact ⟨a, vs, rfl, ha.sq, ha, hs⟩
/-- a new tuple, a new list -/
theorem new_tup (hr : HRep K H ρ S) {p : Addr} (hp : H p = none) {vs : List V} {xs : List D} (h : RepVs K H ρ xs vs) :
    Ext H ρ (upd H p (.tup vs)) ρ ∧ HRep K (upd H p (.tup vs)) ρ S ∧ RepV K (upd H p (.tup vs)) ρ (.tup xs) (.ref p) := by
  obtain ⟨x, hr'⟩ := hr.new hp (.tup vs)
  refine ⟨x, hr', ?_⟩
  unfold RepV
  exact ⟨p, vs, rfl, .inl ⟨hr.out hp, .inl upd_same⟩, h.ext x⟩
theorem new_lst (hr : HRep K H ρ S) {p : Addr} (hp : H p = none) {vs : List V} {xs : List D} (h : RepVs K H ρ xs vs) :
    Ext H ρ (upd H p (.lst vs)) ρ ∧ HRep K (upd H p (.lst vs)) ρ S ∧ RepV K (upd H p (.lst vs)) ρ (.lst xs) (.ref p) := by
  obtain ⟨x, hr'⟩ := hr.new hp (.lst vs)
  refine ⟨x, hr', ?_⟩
  unfold RepV
  exact ⟨p, vs, rfl, ⟨hr.out hp, upd_same⟩, h.ext x⟩
end

/-! ### operators by values -/
/-- what an operator's reading r asks is met where the plain operator b answers -/
def OpD (K : PySem.W.Frag) (r : R2) (b : D → D → Sto → Option D) : Prop := ∀ {x y : V} {H : Hp} {ρ : Rho} {S : Sto} {dx dy d : D} {Q : VK}, HRep K H ρ S → RepV K H ρ dx x → RepV K H ρ dy y → b dx dy S = some d →
  (∀ v H', Ext H ρ H' ρ → HRep K H' ρ S → RepV K H' ρ d v → Q v H') → r x y H Q
theorem OpD.or {K : PySem.W.Frag} {r r' : R2} {b b' : D → D → Sto → Option D} (h : OpD K r b) (h' : OpD K r' b') : OpD K (fun x y H Q => r x y H Q ∨ r' x y H Q) (fun x y S => (b x y S).or (b' x y S)) := by
  intro x y H ρ S dx dy d Q hr hx hy e q
  replace e : (b dx dy S).or (b' dx dy S) = some d := e
  cases e1 : b dx dy S with
  | some z =>
    rw [e1] at e
    cases e
    exact .inl (h hr hx hy e1 q)
  | none =>
    rw [e1] at e
    exact .inr (h' hr hx hy e q)
/-- ints -/
def dI (C : Int → Int → Bool) (g : Int → Int → D) : D → D → Sto → Option D
  | .int i, .int j, _ => if C i j = true then some (g i j) else none
  | _, _, _ => none
section
variable {K : PySem.W.Frag}
theorem dI_inv {C : Int → Int → Bool} {g : Int → Int → D} {dx dy d : D} {S : Sto} (e : dI C g dx dy S = some d) : ∃ i j, dx = .int i ∧ dy = .int j ∧ C i j = true ∧ d = g i j := by
  cases dx with
  | int i =>
    cases dy with
    | int j =>
      have e' : (if C i j = true then some (g i j) else none) = some d := e
      by_cases c : C i j = true
      · rw [if_pos c] at e'
        exact ⟨i, j, rfl, rfl, c, (Option.some.inj e').symm⟩
      · rw [if_neg c] at e'; cases e'
    | _ => cases e
  | _ => cases e
theorem opD_I {C : Int → Int → Prop} {Cb : Int → Int → Bool} {g : Int → Int → Int} (hC : ∀ i j, Cb i j = true → C i j) : OpD K (rI C fun i j => .int (g i j)) (dI Cb fun i j => .int (g i j)) := by
  intro x y H ρ S dx dy d Q hr hx hy e q
  obtain ⟨i, j, rfl, rfl, c, rfl⟩ := dI_inv e
  unfold RepV at hx hy
  exact ⟨i, j, hx, hy, hC i j c, q _ H .refl hr (by unfold RepV; rfl)⟩
theorem opD_I0 {g : Int → Int → Int} : OpD K (rI0 fun i j => .int (g i j)) (dI (fun _ _ => true) fun i j => .int (g i j)) := by
  intro x y H ρ S dx dy d Q hr hx hy e q
  obtain ⟨i, j, rfl, rfl, c, rfl⟩ := dI_inv e
  unfold RepV at hx hy
  exact ⟨i, j, hx, hy, q _ H .refl hr (by unfold RepV; rfl)⟩
theorem opD_B0 {g : Int → Int → Bool} : OpD K (rI0 fun i j => .bl (g i j)) (dI (fun _ _ => true) fun i j => .bl (g i j)) := by
  intro x y H ρ S dx dy d Q hr hx hy e q
  obtain ⟨i, j, rfl, rfl, c, rfl⟩ := dI_inv e
  unfold RepV at hx hy
  exact ⟨i, j, hx, hy, q _ H .refl hr (by unfold RepV; rfl)⟩
end
/-- a bound for the sizes of sequences -/
abbrev BIG : Nat := 16777216
theorem big_line : BIG = sizeLine := sizeLine_eq.symm

def dAddS : D → D → Sto → Option D
  | .str a, .str b, _ => if a.length + b.length ≤ BIG then some (.str (a ++ b)) else none
  | _, _, _ => none
def dAddT : D → D → Sto → Option D
  | .tup xs, .tup ys, _ => if xs.length + ys.length ≤ BIG then some (.tup (xs ++ ys)) else none
  | _, _, _ => none
def dAddL (x y : D) (S : Sto) : Option D := (lstOf x S).bind fun xs => (lstOf y S).bind fun ys => if xs.length + ys.length ≤ BIG then some (.lst (xs ++ ys)) else none
theorem opD_addS {K : PySem.W.Frag} : OpD K (fun x y H Q => ∃ i j, x = .str i ∧ y = .str j ∧ i.length + j.length ≤ sizeLine ∧ Q (.str (i ++ j)) H) dAddS := by
  intro x y H ρ S dx dy d Q hr hx hy e q
  cases dx with
  | str a =>
    cases dy with
    | str b =>
      have e' : (if a.length + b.length ≤ BIG then some (D.str (a ++ b)) else none) = some d := e
      split at e'
      · rename_i c
        cases e'
        unfold RepV at hx hy
        rw [big_line] at c
        exact ⟨a, b, hx, hy, c, q _ H .refl hr (by unfold RepV; rfl)⟩
      · cases e'
    | _ => cases e
  | _ => cases e
theorem opD_addT {K : PySem.W.Frag} : OpD K (rCatA K) dAddT := by
  intro x y H ρ S dx dy d Q hr hx hy e q
  cases dx with
  | tup xs =>
    cases dy with
    | tup ys =>
      have e' : (if xs.length + ys.length ≤ BIG then some (D.tup (xs ++ ys)) else none) = some d := e
      split at e'
      · rename_i c
        cases e'
        obtain ⟨a, vs, rfl, h1, t1, r1⟩ := tup_rep hx
        obtain ⟨b, ws, rfl, h2, t2, r2⟩ := tup_rep hy
        rw [big_line] at c
        refine ⟨a, b, vs, ws, rfl, rfl, h1, h2, by rw [r1.length, r2.length]; exact c, fun ev => ?_, fun _ ew => ?_, fun _ _ p hp => ?_⟩
        · refine q _ H .refl hr ?_
          have ex : xs = [] := by
            have := r1.length
            rw [ev] at this
            exact List.eq_nil_of_length_eq_zero this.symm
          subst ex
          exact hy
        · refine q _ H .refl hr ?_
          have ex : ys = [] := by
            have := r2.length
            rw [ew] at this
            exact List.eq_nil_of_length_eq_zero this.symm
          subst ex
          rw [List.append_nil]
          exact hx
        · obtain ⟨x1, x2, x3⟩ := new_tup hr hp (r1.append r2)
          exact q _ _ x1 x2 x3
      · cases e'
    | _ => cases e
  | _ => cases e
theorem opD_addL {K : PySem.W.Frag} : OpD K rCat dAddL := by
  intro x y H ρ S dx dy d Q hr hx hy e q
  unfold dAddL at e
  obtain ⟨xs, e1, e⟩ := Option.bind_eq_some_iff.mp e
  obtain ⟨ys, e2, e⟩ := Option.bind_eq_some_iff.mp e
  split at e
  · rename_i c
    cases e
    obtain ⟨a, vs, rfl, h1, r1⟩ := lstOf_rep hr hx e1
    obtain ⟨b, ws, rfl, h2, r2⟩ := lstOf_rep hr hy e2
    rw [big_line] at c
    refine ⟨a, b, vs, ws, rfl, rfl, h1, h2, by rw [r1.length, r2.length]; exact c, fun p hp => ?_⟩
    obtain ⟨x1, x2, x3⟩ := new_lst hr hp (r1.append r2)
    exact q _ _ x1 x2 x3
  · cases e
/-- x + y -/
def dAdd : D → D → Sto → Option D := fun x y S => (dI (fun _ _ => true) (fun i j => .int (i + j)) x y S).or ((dAddS x y S).or ((dAddT x y S).or (dAddL x y S)))
@[simp] theorem dAdd_int (i j : Int) (S : Sto) : dAdd (.int i) (.int j) S = some (.int (i + j)) := rfl
def dSub : D → D → Sto → Option D := dI (fun _ _ => true) fun i j => .int (i - j)
@[simp] theorem dSub_int (i j : Int) (S : Sto) : dSub (.int i) (.int j) S = some (.int (i - j)) := rfl
/-- within 2 ^ 64 -/
def in64 (i : Int) : Bool := decide (-(18446744073709551616) < i) && decide (i < 18446744073709551616)
/-- within 10 ^ 200 -/
def mid (i : Int) : Bool := decide (-(100000000000000000000000000000000000000000000000000000000000000000000000000000000000000000000000000000000000000000000000000000000000000000000000000000000000000000000000000000000000000000000000000000000) < i) && decide (i < 100000000000000000000000000000000000000000000000000000000000000000000000000000000000000000000000000000000000000000000000000000000000000000000000000000000000000000000000000000000000000000000000000000000)
theorem mid_ok {i : Int} (h : mid i = true) : i.natAbs < 2 ^ 700 := by
  unfold mid at h
  simp only [Bool.and_eq_true, decide_eq_true_eq] at h
  have : (100000000000000000000000000000000000000000000000000000000000000000000000000000000000000000000000000000000000000000000000000000000000000000000000000000000000000000000000000000000000000000000000000000000 : Nat) < 2 ^ 700 := by decide +kernel
  omega
def mulOk (i j : Int) : Bool := in64 i || in64 j || (mid i && mid j)
def dMulI : D → D → Sto → Option D := dI mulOk fun i j => .int (i * j)
def dMulT : D → D → Sto → Option D
  | .tup xs, .int k, _ => if xs ≠ [] ∧ 2 ≤ k ∧ k ≤ 1000 ∧ xs.length ≤ 1000 then some (.tup (List.replicate k.toNat xs).flatten) else none
  | _, _, _ => none
def dMulL : D → D → Sto → Option D
  | .lst xs, .int k, _ => if -(9223372036854775808) ≤ k ∧ k < 9223372036854775808 ∧ xs.length * k.toNat ≤ BIG then some (.lst (List.replicate k.toNat xs).flatten) else none
  | _, _, _ => none
def dMul : D → D → Sto → Option D := fun x y S => (dMulI x y S).or ((dMulT x y S).or (dMulL x y S))
theorem in64_ok {i : Int} (h : in64 i = true) : -(2 ^ 64) < i ∧ i < 2 ^ 64 := by
  unfold in64 at h
  simp only [Bool.and_eq_true, decide_eq_true_eq] at h
  constructor <;> omega
theorem opD_mulI {K : PySem.W.Frag} : OpD K (fun x y H Q => rI CMul (fun i j => .int (i * j)) x y H Q ∨ rI CMulW (fun i j => .int (i * j)) x y H Q) dMulI := by
  intro x y H ρ S dx dy d Q hr hx hy e q
  obtain ⟨i, j, rfl, rfl, c, rfl⟩ := dI_inv e
  unfold RepV at hx hy
  unfold mulOk at c
  simp only [Bool.or_eq_true, Bool.and_eq_true] at c
  have q' := q (.int (i * j)) H .refl hr (by unfold RepV; rfl)
  rcases c with (c | c) | c
  · exact .inl ⟨i, j, hx, hy, .inl (in64_ok c), q'⟩
  · exact .inl ⟨i, j, hx, hy, .inr (in64_ok c), q'⟩
  · exact .inr ⟨i, j, hx, hy, wide_mul (mid_ok c.1) (mid_ok c.2) (by decide) (by decide) (by decide), q'⟩
theorem opD_mulT {K : PySem.W.Frag} : OpD K (rRepT K) dMulT := by
  intro x y H ρ S dx dy d Q hr hx hy e q
  cases dx with
  | tup xs =>
    cases dy with
    | int k =>
      simp only [dMulT] at e
      split at e
      · rename_i c
        cases e
        obtain ⟨a, vs, rfl, h1, t1, r1⟩ := tup_rep hx
        unfold RepV at hy
        subst hy
        refine ⟨a, k, vs, rfl, rfl, h1, fun ev => ?_, c.2.1, c.2.2.1, by rw [r1.length]; exact c.2.2.2, fun p hp => ?_⟩
        · have := r1.length
          rw [ev] at this
          exact c.1 (List.eq_nil_of_length_eq_zero this.symm)
        · obtain ⟨x1, x2, x3⟩ := new_tup hr hp (r1.rep k.toNat)
          exact q _ _ x1 x2 x3
      · cases e
    | _ => cases e
  | _ => cases e
theorem opD_mulL {K : PySem.W.Frag} : OpD K rRep dMulL := by
  intro x y H ρ S dx dy d Q hr hx hy e q
  cases dx with
  | lst xs =>
    cases dy with
    | int k =>
      simp only [dMulL] at e
      split at e
      · rename_i c
        cases e
        obtain ⟨a, vs, rfl, h1, r1⟩ := lstOf_rep hr hx (xs := xs) rfl
        unfold RepV at hy
        subst hy
        refine ⟨a, k, vs, rfl, rfl, h1, by omega, by omega, by rw [r1.length, ← big_line]; exact c.2.2, fun p hp => ?_⟩
        obtain ⟨x1, x2, x3⟩ := new_lst hr hp (r1.rep k.toNat)
        exact q _ _ x1 x2 x3
      · cases e
    | _ => cases e
  | _ => cases e
theorem dMul_int (i j : Int) (S : Sto) : dMul (.int i) (.int j) S = if mulOk i j = true then some (.int (i * j)) else none := by
  show (if mulOk i j = true then some (D.int (i * j)) else none).or ((none : Option D).or none) = _
  split <;> rfl
/-- a positive divisor of moderate size -/
def divOk (_ j : Int) : Bool := decide (0 < j) && mid j
def dDiv : D → D → Sto → Option D := dI divOk fun i j => .int (i / j)
def dMod : D → D → Sto → Option D := dI (fun _ j => decide (0 < j)) fun i j => .int (i % j)
theorem divOk_ok {i j : Int} (h : divOk i j = true) : CDivW i j := by
  unfold divOk at h
  simp only [Bool.and_eq_true, decide_eq_true_eq] at h
  exact wide_div h.1 (mid_ok h.2) (by decide) (by decide)
def powOk (i j : Int) : Bool := decide (0 ≤ j) && decide (j ≤ 1000000) && in64 i
def dPow : D → D → Sto → Option D := dI (fun i j => decide (0 ≤ j) && decide (j ≤ 1000000) && decide (i.natAbs < 18446744073709551616)) fun i j => .int (i ^ j.toNat)

section
variable {X : Cx}
theorem op_add_all : OpR X (binaryOp .Add) (fun x y H Q => rI0 (fun i j => .int (i + j)) x y H Q ∨ (∃ i j, x = .str i ∧ y = .str j ∧ i.length + j.length ≤ sizeLine ∧ Q (.str (i ++ j)) H) ∨ rCatA X.K x y H Q ∨ rCat x y H Q) :=
  op_add.or (op_add_str.or (op_catA.or op_cat))
theorem opD_add_all {K : PySem.W.Frag} : OpD K (fun x y H Q => rI0 (fun i j => .int (i + j)) x y H Q ∨ (∃ i j, x = .str i ∧ y = .str j ∧ i.length + j.length ≤ sizeLine ∧ Q (.str (i ++ j)) H) ∨ rCatA K x y H Q ∨ rCat x y H Q) dAdd :=
  opD_I0.or (opD_addS.or (opD_addT.or opD_addL))
theorem op_mul_all : OpR X (binaryOp .Mult) (fun x y H Q => (rI CMul (fun i j => .int (i * j)) x y H Q ∨ rI CMulW (fun i j => .int (i * j)) x y H Q) ∨ rRepT X.K x y H Q ∨ rRep x y H Q) :=
  (op_mul.or op_mulW).or (op_repT.or op_rep)
theorem opD_mul_all {K : PySem.W.Frag} : OpD K (fun x y H Q => (rI CMul (fun i j => .int (i * j)) x y H Q ∨ rI CMulW (fun i j => .int (i * j)) x y H Q) ∨ rRepT K x y H Q ∨ rRep x y H Q) dMul :=
  opD_mulI.or (opD_mulT.or opD_mulL)
end

/-! ### plain data of the library, for ==, repr -/
mutual
def toPy : D → Option PyData
  | .non => some .none
  | .bl b => some (.bool b)
  | .int i => some (.int i)
  | .str x => some (.str x)
  | .tup xs => (toPys xs).map .tuple
  | .lst xs => (toPys xs).map .list
  | .frz xs => (toPys xs).map .list
  | .emp => none
  | .ref _ => none
  | .cst _ => none
def toPys : List D → Option (List PyData)
  | [] => some []
  | d :: ds => (toPy d).bind fun x => (toPys ds).map fun xs => x :: xs
end
section
variable {K : PySem.W.Frag} {H : Hp} {ρ : Rho}
mutual
theorem toPy_dp : ∀ {d : D} {v : V} {p : PyData}, RepV K H ρ d v → toPy d = some p → Dp K H v p
  | .non, v, p, h, e => by unfold RepV at h; unfold toPy at e; subst h; cases e; exact .non
  | .bl b, v, p, h, e => by unfold RepV at h; unfold toPy at e; subst h; cases e; exact .bl b
  | .int b, v, p, h, e => by unfold RepV at h; unfold toPy at e; subst h; cases e; exact .int b
  | .str b, v, p, h, e => by unfold RepV at h; unfold toPy at e; subst h; cases e; exact .str b
  | .tup xs, v, p, h, e => by
    unfold toPy at e
    obtain ⟨ps, e1, rfl⟩ := Option.map_eq_some_iff.mp e
    obtain ⟨a, vs, rfl, h1, _, r⟩ := tup_rep h
    exact .tup h1 (toPys_dp r e1)
  | .lst xs, v, p, h, e => by
    unfold toPy at e
    obtain ⟨ps, e1, rfl⟩ := Option.map_eq_some_iff.mp e
    unfold RepV at h
    obtain ⟨a, vs, rfl, h1, r⟩ := h
    exact .lst (.of h1.2) (toPys_dp r e1)
  | .frz xs, v, p, h, e => by
    unfold toPy at e
    obtain ⟨ps, e1, rfl⟩ := Option.map_eq_some_iff.mp e
    unfold RepV at h
    obtain ⟨a, vs, rfl, h1, r⟩ := h
    exact .lst h1.sq (toPys_dp r e1)
  | .emp, _, _, _, e => by unfold toPy at e; cases e
  | .ref _, _, _, _, e => by unfold toPy at e; cases e
  | .cst _, _, _, _, e => by unfold toPy at e; cases e
theorem toPys_dp : ∀ {ds : List D} {vs : List V} {ps : List PyData}, RepVs K H ρ ds vs → toPys ds = some ps → DpAll K H vs ps
  | [], vs, ps, h, e => by rw [h.of_nil]; unfold toPys at e; cases e; exact .nil
  | d :: ds, vs, ps, h, e => by
    obtain ⟨v, vr, rfl, h1, h2⟩ := h.of_cons
    unfold toPys at e
    obtain ⟨x, e1, e⟩ := Option.bind_eq_some_iff.mp e
    obtain ⟨xs, e2, rfl⟩ := Option.map_eq_some_iff.mp e
    exact .cons (toPy_dp h1 e1) (toPys_dp h2 e2)
end
end
/-- x == y, x != y -/
def dEqD (x y : D) (_ : Sto) : Option D := (toPy x).bind fun a => (toPy y).bind fun b => if SeqAt.shaped a = true ∧ SeqAt.shaped b = true then some (.bl (PyData.eqv a b)) else none
def dNeD (x y : D) (_ : Sto) : Option D := (toPy x).bind fun a => (toPy y).bind fun b => if SeqAt.shaped a = true ∧ SeqAt.shaped b = true then some (.bl (!PyData.eqv a b)) else none
theorem opD_eqD {K : PySem.W.Frag} : OpD K (rEqD K) dEqD := by
  intro x y H ρ S dx dy d Q hr hx hy e q
  unfold dEqD at e
  obtain ⟨a, e1, e⟩ := Option.bind_eq_some_iff.mp e
  obtain ⟨b, e2, e⟩ := Option.bind_eq_some_iff.mp e
  split at e
  · rename_i c
    cases e
    exact ⟨a, b, toPy_dp hx e1, toPy_dp hy e2, c.1, c.2, q _ H .refl hr (by unfold RepV; rfl)⟩
  · cases e
theorem opD_neD {K : PySem.W.Frag} : OpD K (rNeD K) dNeD := by
  intro x y H ρ S dx dy d Q hr hx hy e q
  unfold dNeD at e
  obtain ⟨a, e1, e⟩ := Option.bind_eq_some_iff.mp e
  obtain ⟨b, e2, e⟩ := Option.bind_eq_some_iff.mp e
  split at e
  · rename_i c
    cases e
    exact ⟨a, b, toPy_dp hx e1, toPy_dp hy e2, c.1, c.2, q _ H .refl hr (by unfold RepV; rfl)⟩
  · cases e

/-- texts: by themselves -/
def dEqS : D → D → Sto → Option D
  | .str a, .str b, _ => some (.bl (decide (a = b)))
  | _, _, _ => none
def dNeS : D → D → Sto → Option D
  | .str a, .str b, _ => some (.bl (!decide (a = b)))
  | _, _, _ => none
theorem opD_eqS {K : PySem.W.Frag} : OpD K rEq dEqS := by
  intro x y H ρ S dx dy d Q hr hx hy e q
  cases dx with
  | str a =>
    cases dy with
    | str b =>
      cases e
      unfold RepV at hx hy
      subst hx hy
      refine ⟨rfl, ?_⟩
      rw [show decide (V.str a = V.str b) = decide (a = b) by simp]
      exact q _ H .refl hr (by unfold RepV; rfl)
    | _ => cases e
  | _ => cases e
theorem opD_neS {K : PySem.W.Frag} : OpD K rNe dNeS := by
  intro x y H ρ S dx dy d Q hr hx hy e q
  cases dx with
  | str a =>
    cases dy with
    | str b =>
      cases e
      unfold RepV at hx hy
      subst hx hy
      refine ⟨rfl, ?_⟩
      rw [show decide (V.str a = V.str b) = decide (a = b) by simp]
      exact q _ H .refl hr (by unfold RepV; rfl)
    | _ => cases e
  | _ => cases e
def dEq (x y : D) (S : Sto) : Option D := (dEqS x y S).or (dEqD x y S)
def dNe (x y : D) (S : Sto) : Option D := (dNeS x y S).or (dNeD x y S)
section
variable {X : Cx}
theorem op_eq_all (hu : X.A.units + 64 < cLine) : OpR X (compareOp .Eq) (fun x y H Q => rEq x y H Q ∨ rEqD X.K x y H Q) := op_eq.or (op_eqD hu)
theorem op_ne_all (hu : X.A.units + 64 < cLine) : OpR X (compareOp .NotEq) (fun x y H Q => rNe x y H Q ∨ rNeD X.K x y H Q) := op_ne.or (op_neD hu)
end
theorem opD_eq {K : PySem.W.Frag} : OpD K (fun x y H Q => rEq x y H Q ∨ rEqD K x y H Q) dEq := opD_eqS.or opD_eqD
theorem opD_ne {K : PySem.W.Frag} : OpD K (fun x y H Q => rNe x y H Q ∨ rNeD K x y H Q) dNe := opD_neS.or opD_neD

/-- x is c, for c None, True or False -/
def isK : D → Bool
  | .non => true
  | .bl _ => true
  | _ => false
def sameK : D → D → Bool
  | .non, .non => true
  | .bl a, .bl b => a == b
  | _, _ => false
/-- what may stand on the left -/
def isL : D → Bool
  | .cst _ => false
  | _ => true
def dIs (x y : D) (_ : Sto) : Option D := if isL x = true ∧ isK y = true then some (.bl (sameK x y)) else none
def dIsNot (x y : D) (_ : Sto) : Option D := if isL x = true ∧ isK y = true then some (.bl (!sameK x y)) else none
def vK : V → Bool
  | .non => true
  | .bl _ => true
  | _ => false
def vL : V → Bool
  | .ty _ => false
  | _ => true
theorem isK_v {K : PySem.W.Frag} {H : Hp} {ρ : Rho} {d : D} {v : V} (h : RepV K H ρ d v) (e : isK d = true) : vK v = true := by
  cases d <;> simp [isK] at e <;> (unfold RepV at h; subst h; rfl)
theorem isL_v {K : PySem.W.Frag} {H : Hp} {ρ : Rho} {d : D} {v : V} (h : RepV K H ρ d v) (e : isL d = true) : vL v = true := by
  cases d <;> first
    | (exfalso; simp [isL] at e; done)
    | (unfold RepV at h; subst h; rfl)
    | (unfold RepV at h; obtain ⟨a, vs, rfl, _⟩ := h; rfl)
    | (unfold RepV at h; obtain ⟨a, rfl, _⟩ := h; rfl)
theorem sameK_v {K : PySem.W.Frag} {H : Hp} {ρ : Rho} {d e : D} {v u : V} (h : RepV K H ρ d v) (h' : RepV K H ρ e u) (ek : isK e = true) (el : isL d = true) : decide (v = u) = sameK d e := by
  have hu : u = .non ∧ e = .non ∨ ∃ b, u = .bl b ∧ e = .bl b := by
    cases e <;> simp [isK] at ek <;> (unfold RepV at h'; subst h')
    · exact .inl ⟨rfl, rfl⟩
    · exact .inr ⟨_, rfl, rfl⟩
  rcases hu with ⟨rfl, rfl⟩ | ⟨b, rfl, rfl⟩
  · cases d <;> first
      | (exfalso; simp [isL] at el; done)
      | (unfold RepV at h; subst h; simp [sameK]; done)
      | (unfold RepV at h; obtain ⟨a, vs, rfl, _⟩ := h; simp [sameK]; done)
      | (unfold RepV at h; obtain ⟨a, rfl, _⟩ := h; simp [sameK]; done)
  · cases d <;> first
      | (exfalso; simp [isL] at el; done)
      | (unfold RepV at h; subst h; simp [sameK]; done)
      | (unfold RepV at h; subst h; simp [sameK, Bool.beq_eq_decide_eq]; done)
      | (unfold RepV at h; obtain ⟨a, vs, rfl, _⟩ := h; simp [sameK]; done)
      | (unfold RepV at h; obtain ⟨a, rfl, _⟩ := h; simp [sameK]; done)
section
variable {X : Cx}
theorem is_beq {x y : V} {v u : Value} (rx : RelV x v) (ry : RelV y u) (hk : vK y = true) (hl : vL x = true) : PySem.plainIs v u = true ∧ (v == u) = decide (x = y) := by
  cases y with
  | non =>
    obtain rfl : u = Value.none := ry
    refine ⟨?_, rx.none_iff⟩
    cases x <;> first | (exfalso; simp [vL] at hl; done) | (cases rx; rfl) | (obtain ⟨t, rfl⟩ := rx; rfl)
  | bl b =>
    obtain rfl : u = Value.bool b := ry
    cases x with
    | bl c =>
      obtain rfl : v = Value.bool c := rx
      refine ⟨rfl, ?_⟩
      by_cases e : c = b
      · subst e; simp
      · have h1 : ¬ (V.bl c = V.bl b) := fun z => e (V.bl.inj z)
        rw [decide_eq_false h1]
        exact beq_eq_false_iff_ne.mpr fun z => e (Value.bool.inj z)
    | _ => first | (exfalso; simp [vL] at hl; done) | (cases rx; exact ⟨rfl, by simp⟩) | (obtain ⟨t, rfl⟩ := rx; exact ⟨rfl, by simp⟩)
  | _ => simp [vK] at hk
def rIs (n : Bool) : R2 := fun x y H Q => vL x = true ∧ vK y = true ∧ Q (.bl (if n = true then !decide (x = y) else decide (x = y))) H
theorem op_isK : OpR X (compareOp .Is) (rIs false) := by
  intro pins s σ H x y v u Q I rx ry h
  obtain ⟨hl, hk, q⟩ := h
  obtain ⟨h1, h2⟩ := is_beq rx ry hk hl
  exact PySem.wpAny_is_plain h1 (by rw [h2]; exact ⟨.bl _, H, I, rfl, q⟩)
theorem op_isNotK : OpR X (compareOp .IsNot) (rIs true) := by
  intro pins s σ H x y v u Q I rx ry h
  obtain ⟨hl, hk, q⟩ := h
  obtain ⟨h1, h2⟩ := is_beq rx ry hk hl
  exact PySem.wpAny_isNot_plain h1 (by rw [h2]; exact ⟨.bl _, H, I, rfl, q⟩)
end
theorem opD_is {K : PySem.W.Frag} : OpD K (rIs false) dIs := by
  intro x y H ρ S dx dy d Q hr hx hy e q
  unfold dIs at e
  split at e
  · rename_i c
    cases e
    refine ⟨isL_v hx c.1, isK_v hy c.2, ?_⟩
    rw [if_neg Bool.false_ne_true, sameK_v hx hy c.2 c.1]
    exact q _ H .refl hr (by unfold RepV; rfl)
  · cases e
theorem opD_isNot {K : PySem.W.Frag} : OpD K (rIs true) dIsNot := by
  intro x y H ρ S dx dy d Q hr hx hy e q
  unfold dIsNot at e
  split at e
  · rename_i c
    cases e
    refine ⟨isL_v hx c.1, isK_v hy c.2, ?_⟩
    rw [if_pos rfl, sameK_v hx hy c.2 c.1]
    exact q _ H .refl hr (by unfold RepV; rfl)
  · cases e
/-- order of ints -/
def dLt : D → D → Sto → Option D := dI (fun _ _ => true) fun i j => .bl (decide (i < j))
def dLe : D → D → Sto → Option D := dI (fun _ _ => true) fun i j => .bl (decide (i ≤ j))
def dGt : D → D → Sto → Option D := dI (fun _ _ => true) fun i j => .bl (decide (j < i))
def dGe : D → D → Sto → Option D := dI (fun _ _ => true) fun i j => .bl (decide (j ≤ i))

/-! ### items -/
def dIx (x y : D) (S : Sto) : Option D := match y with
  | .int i => match x with
    | .tup xs => atI xs i
    | d => (anyL d S).bind fun xs => atI xs i
  | _ => none
theorem repvs_at {K : PySem.W.Frag} {H : Hp} {ρ : Rho} {ds : List D} {vs : List V} {i : Int} {d : D} (h : RepVs K H ρ ds vs) (e : atI ds i = some d) : ∃ v, atI vs i = some v ∧ RepV K H ρ d v := by
  unfold atI at e ⊢
  obtain ⟨j, e1, e2⟩ := Option.bind_eq_some_iff.mp e
  obtain ⟨v, h1, h2⟩ := h.get e2
  exact ⟨v, by rw [h.length, e1]; exact h1, h2⟩
theorem opD_ix {K : PySem.W.Frag} : OpD K (rIx K) dIx := by
  intro x y H ρ S dx dy d Q hr hx hy e q
  cases dy with
  | int i =>
    unfold RepV at hy
    subst hy
    have go : (anyL dx S).bind (fun xs => atI xs i) = some d → rIx K x (.int i) H Q := fun e => by
      obtain ⟨xs, e1, e2⟩ := Option.bind_eq_some_iff.mp e
      obtain ⟨a, vs, rfl, h1, r1⟩ := anyL_rep hr hx e1
      obtain ⟨v, h2, r2⟩ := repvs_at r1 e2
      exact .inl ⟨a, vs, i, v, rfl, rfl, h1, h2, q v H .refl hr r2⟩
    cases dx with
    | tup xs =>
      obtain ⟨a, vs, rfl, h1, _, r1⟩ := tup_rep hx
      obtain ⟨v, h2, r2⟩ := repvs_at r1 (show atI xs i = some d from e)
      exact .inr (.inl ⟨a, vs, i, v, rfl, rfl, h1, h2, q v H .refl hr r2⟩)
    | _ => exact go e
  | _ => simp [dIx] at e
end DL
end

section
set_option Elab.async false
set_option linter.all false
set_option maxRecDepth 100000
set_option maxHeartbeats 4000000
namespace DL
open PySem PySem.Spec PyProof.Rows L2

/-- what the rules of a body ask of where one stands -/
structure Ctx (X : Cx) (W : WX) : Prop where
  units : X.A.units + 65 < cLine
  calm : X.calm = true
  guards : X.A.guards = some []
  takes : Takes X W
  nd : X.N.Nodup

/-! ### expressions -/
def fVar (i : Nat) : FE := fun σ S => match σ[i]? with
  | some (some d) => .ok d S
  | _ => .stuck
def fC (d : D) : FE := fun _ S => .ok d S
def fBin (b : D → D → Sto → Option D) (f g : FE) : FE := fun σ S => (f σ S).bind fun x S1 => (g σ S1).bind fun y S2 => ofO (b x y S2) S2
def fUn (u : D → Sto → Option D) (f : FE) : FE := fun σ S => (f σ S).bind fun x S1 => ofO (u x S1) S1
def dNeg : D → Sto → Option D
  | .int i, _ => some (.int (-i))
  | _, _ => none
/-- truth -/
def dTruth : D → Sto → Option Bool
  | .non, _ => some false
  | .bl b, _ => some b
  | .int i, _ => some (i != 0)
  | .str x, _ => if x.length ≤ BIG then some ((x.length : Int) != 0) else none
  | .tup xs, _ => some (!xs.isEmpty)
  | .emp, _ => some false
  | d, S => (anyL d S).map fun xs => !xs.isEmpty
def dNot (d : D) (S : Sto) : Option D := (dTruth d S).map fun k => .bl (!k)
theorem repvs_empty {K : PySem.W.Frag} {H : Hp} {ρ : Rho} {ds : List D} {vs : List V} (h : RepVs K H ρ ds vs) : (!ds.isEmpty) = !vs.isEmpty := by
  cases ds with
  | nil => rw [h.of_nil]; rfl
  | cons d ds => obtain ⟨v, vr, rfl, _⟩ := h.of_cons; rfl
theorem dTruth_rep {K : PySem.W.Frag} {H : Hp} {ρ : Rho} {S : Sto} {d : D} {v : V} {k : Bool} (hr : HRep K H ρ S) (h : RepV K H ρ d v) (e : dTruth d S = some k) : TruV K v H k := by
  have go : (anyL d S).map (fun xs => !xs.isEmpty) = some k → TruV K v H k := fun e => by
    obtain ⟨xs, e1, rfl⟩ := Option.map_eq_some_iff.mp e
    obtain ⟨a, vs, rfl, h1, r1⟩ := anyL_rep hr h e1
    exact .inl ⟨vs, h1, repvs_empty r1⟩
  cases d with
  | non => unfold RepV at h; subst h; cases e; rfl
  | bl b => unfold RepV at h; subst h; cases e; rfl
  | int b => unfold RepV at h; subst h; cases e; rfl
  | str x =>
    unfold RepV at h; subst h
    simp only [dTruth] at e
    split at e
    · rename_i c
      cases e
      rw [big_line] at c
      exact ⟨c, rfl⟩
    · cases e
  | tup xs =>
    obtain ⟨a, vs, rfl, h1, _, r1⟩ := tup_rep h
    cases e
    exact .inr (.inl ⟨vs, h1, repvs_empty r1⟩)
  | emp =>
    unfold RepV at h
    obtain ⟨a, rfl, h1⟩ := h
    cases e
    exact .inr (.inr ⟨[], h1.2, rfl⟩)
  | lst xs => exact go e
  | frz xs => exact go e
  | ref n => exact go e
  | cst u => exact go e

section
variable {X : Cx} {W : WX} {e a b c : Expr} {f g h : FE} {pos : Pos}
theorem de_var (i : Nat) {x : Str} (hN : X.N[i]? = some x := by rfl) (hv : Vis X.env.scope x := by first | exact Or.inl rfl | exact Or.inr (Or.inl rfl) | exact Or.inr (Or.inr rfl)) (hd : (x == ("__debug__" : Str)) = false := by decide)
    (hcd : (x == ("__classdict__" : Str)) = false := by decide) : DE X W (.Name x pos) (fVar i) := by
  refine ⟨PE.imp (pe_var hN hv hd hcd) fun σ H Q hq => ?_⟩
  obtain ⟨ρ, σd, S, he, hr, q⟩ := hq
  unfold fVar at q
  cases e1 : σd[i]? with
  | none => rw [e1] at q; exact q.elim
  | some o =>
    cases o with
    | none => rw [e1] at q; exact q.elim
    | some d =>
      rw [e1] at q
      obtain ⟨v, h1, h2⟩ := he.2 i d e1
      exact ⟨v, h1, q H ρ .refl hr v h2⟩
theorem de_const {v : V} {d : D} (hp : PE X e (tC v)) (hd : ∀ H ρ, RepV X.K H ρ d v) : DE X W e (fC d) := by
  refine ⟨PE.imp hp fun σ H Q hq => ?_⟩
  obtain ⟨ρ, σd, S, he, hr, q⟩ := hq
  exact q H ρ .refl hr v (hd H ρ)
theorem de_int {i : Int} {j} : DE X W (.Constant (.int i) j pos) (fC (.int i)) := de_const pe_int fun _ _ => by unfold RepV; rfl
theorem de_bl {i : Bool} {j} : DE X W (.Constant (.bool i) j pos) (fC (.bl i)) := de_const pe_bl fun _ _ => by unfold RepV; rfl
theorem de_str {i : Str} {j} : DE X W (.Constant (.str i) j pos) (fC (.str i)) := de_const pe_str fun _ _ => by unfold RepV; rfl
theorem de_non {j} : DE X W (.Constant .none j pos) (fC .non) := de_const pe_non fun _ _ => by unfold RepV; rfl
/-- a module's int -/
theorem de_gint {x : Str} {i : Int} {t : Tok} (hm : X.mg x = some (.int i t)) (hg : Gl X x := by rfl) (hd : (x == ("__debug__" : Str)) = false := by decide) : DE X W (.Name x pos) (fC (.int i)) :=
  de_const (pe_glob hg hm (v := .int i) ⟨_, rfl⟩ hd) fun _ _ => by unfold RepV; rfl
/-- a module's def, class as a value -/
theorem de_gref {x : Str} {q : Addr} (hm : X.mg x = some (.ref q)) (hg : Gl X x := by rfl) (hd : (x == ("__debug__" : Str)) = false := by decide) : DE X W (.Name x pos) (fC (.cst (.ref q))) :=
  de_const (pe_glob hg hm (v := .ref q) rfl hd) fun _ _ => by unfold RepV; rfl
/-- a built-in class as a value -/
theorem de_gty {x : Str} {n : String} (hm : X.mg x = none) (hv : bootBuiltins x = some (.type n)) (hg : Gl X x := by rfl) (hn : x ≠ "__name__" := by decide) (hd : (x == ("__debug__" : Str)) = false := by decide) : DE X W (.Name x pos) (fC (.cst (.ty n))) :=
  de_const (pe_bltn hg hm hv (v := .ty n) rfl hn hd) fun _ _ => by unfold RepV; rfl

/-- two values and an operator -/
theorem de_op {r : R2} {o : D → D → Sto → Option D} (hp : PE X e (tOp r (tE X.K W f) (tE X.K W g))) (ho : OpD X.K r o) : DE X W e (fBin o f g) := by
  refine ⟨PE.imp hp fun σ H Q hq => ?_⟩
  obtain ⟨ρ, σd, S, he, hr, q⟩ := hq
  refine ⟨ρ, σd, S, he, hr, PR.imp (PR.bind q) (fun x S1 H1 ρ1 x1 hr1 q1 v hv => ?_) fun _ _ _ _ _ _ q => q⟩
  refine ⟨ρ1, σd, S1, he.ext x1, hr1, PR.imp (PR.bind q1) (fun y S2 H2 ρ2 x2 hr2 q2 u hu => ?_) fun _ _ _ _ _ _ q => q⟩
  cases e1 : o x y S2 with
  | none => rw [e1] at q2; exact q2.elim
  | some d =>
    rw [e1] at q2
    exact ho hr2 (hv.ext x2) hu e1 fun w H' x3 hr3 hw => q2 H' ρ2 x3 hr3 w hw
theorem de_add (ha : DE X W a f) (hb : DE X W b g) : DE X W (.BinOp a .Add b pos) (fBin dAdd f g) := de_op (pe_op op_add_all ha.pe hb.pe) opD_add_all
theorem de_sub (ha : DE X W a f) (hb : DE X W b g) : DE X W (.BinOp a .Sub b pos) (fBin dSub f g) := de_op (pe_op op_sub ha.pe hb.pe) opD_I0
theorem de_mul (ha : DE X W a f) (hb : DE X W b g) : DE X W (.BinOp a .Mult b pos) (fBin dMul f g) := de_op (pe_op op_mul_all ha.pe hb.pe) opD_mul_all
theorem de_div (ha : DE X W a f) (hb : DE X W b g) : DE X W (.BinOp a .FloorDiv b pos) (fBin dDiv f g) := de_op (pe_op op_fdivW ha.pe hb.pe) (opD_I fun i j => divOk_ok)
theorem de_mod (ha : DE X W a f) (hb : DE X W b g) : DE X W (.BinOp a .Mod b pos) (fBin dMod f g) := de_op (pe_op op_mod ha.pe hb.pe) (opD_I (Cb := fun _ j => decide (0 < j)) fun i j c => of_decide_eq_true c)
theorem de_pow (ha : DE X W a f) (hb : DE X W b g) : DE X W (.BinOp a .Pow b pos) (fBin dPow f g) := de_op (pe_op op_pow ha.pe hb.pe) (opD_I fun i j c => by
  simp only [Bool.and_eq_true, decide_eq_true_eq] at c
  exact ⟨c.1.1, c.1.2, by have := c.2; omega⟩)
theorem de_lt (ha : DE X W a f) (hb : DE X W b g) : DE X W (.Compare a [.Lt] [b] pos) (fBin dLt f g) := de_op (pe_cmpR op_lt ha.pe hb.pe (nomark _)) opD_B0
theorem de_le (ha : DE X W a f) (hb : DE X W b g) : DE X W (.Compare a [.LtE] [b] pos) (fBin dLe f g) := de_op (pe_cmpR op_le ha.pe hb.pe (nomark _)) opD_B0
theorem de_gt (ha : DE X W a f) (hb : DE X W b g) : DE X W (.Compare a [.Gt] [b] pos) (fBin dGt f g) := de_op (pe_cmpR op_gt ha.pe hb.pe (nomark _)) opD_B0
theorem de_ge (ha : DE X W a f) (hb : DE X W b g) : DE X W (.Compare a [.GtE] [b] pos) (fBin dGe f g) := de_op (pe_cmpR op_ge ha.pe hb.pe (nomark _)) opD_B0
theorem de_eq (hu : X.A.units + 65 < cLine) (ha : DE X W a f) (hb : DE X W b g) : DE X W (.Compare a [.Eq] [b] pos) (fBin dEq f g) := de_op (pe_cmpR (op_eq_all (by omega)) ha.pe hb.pe (nomark _)) opD_eq
theorem de_ne (hu : X.A.units + 65 < cLine) (ha : DE X W a f) (hb : DE X W b g) : DE X W (.Compare a [.NotEq] [b] pos) (fBin dNe f g) := de_op (pe_cmpR (op_ne_all (by omega)) ha.pe hb.pe (nomark _)) opD_ne
theorem de_is (ha : DE X W a f) (hb : DE X W b g) : DE X W (.Compare a [.Is] [b] pos) (fBin dIs f g) := de_op (pe_cmpR op_isK ha.pe hb.pe (nomark _)) opD_is
theorem de_isNot (ha : DE X W a f) (hb : DE X W b g) : DE X W (.Compare a [.IsNot] [b] pos) (fBin dIsNot f g) := de_op (pe_cmpR op_isNotK ha.pe hb.pe (nomark _)) opD_isNot
theorem de_ix (ha : DE X W a f) (hb : DE X W b g) (hs : PlainIx b := by intro _ _; rfl) : DE X W (.Subscript a b pos) (fBin dIx f g) := de_op (pe_ix ix_seq ha.pe hb.pe hs) opD_ix

theorem de_neg (ha : DE X W a f) : DE X W (.UnaryOp .USub a pos) (fUn dNeg f) := by
  refine ⟨PE.imp (pe_un un_neg ha.pe) fun σ H Q hq => ?_⟩
  obtain ⟨ρ, σd, S, he, hr, q⟩ := hq
  refine ⟨ρ, σd, S, he, hr, PR.imp (PR.bind q) (fun x S1 H1 ρ1 x1 hr1 q1 v hv => ?_) fun _ _ _ _ _ _ q => q⟩
  cases x with
  | int i =>
    unfold RepV at hv
    exact ⟨i, hv, q1 H1 ρ1 .refl hr1 _ (by unfold RepV; rfl)⟩
  | _ => exact q1.elim
theorem de_not (ha : DE X W a f) : DE X W (.UnaryOp .Not a pos) (fUn dNot f) := by
  refine ⟨PE.imp (pe_notT ha.pe) fun σ H Q hq => ?_⟩
  obtain ⟨ρ, σd, S, he, hr, q⟩ := hq
  refine ⟨ρ, σd, S, he, hr, PR.imp (PR.bind q) (fun x S1 H1 ρ1 x1 hr1 q1 v hv => ?_) fun _ _ _ _ _ _ q => q⟩
  unfold dNot at q1
  cases e1 : dTruth x S1 with
  | none => rw [e1] at q1; exact q1.elim
  | some k =>
    rw [e1] at q1
    exact ⟨k, dTruth_rep hr1 hv e1, q1 H1 ρ1 .refl hr1 _ (by unfold RepV; rfl)⟩
/-- and, or as values -/
def fAnd (f g : FE) : FE := fun σ S => (f σ S).bind fun x S1 => (ofO (dTruth x S1) S1).bind fun k S1 => if k = true then g σ S1 else .ok x S1
def fOr (f g : FE) : FE := fun σ S => (f σ S).bind fun x S1 => (ofO (dTruth x S1) S1).bind fun k S1 => if k = true then .ok x S1 else g σ S1
variable {rest : List Expr}
theorem de_and (ha : DE X W a f) (hb : DE X W (.BoolOp .And (b :: rest) pos) g) : DE X W (.BoolOp .And (a :: b :: rest) pos) (fAnd f g) := by
  refine ⟨PE.imp (pe_andT ha.pe hb.pe) fun σ H Q hq => ?_⟩
  obtain ⟨ρ, σd, S, he, hr, q⟩ := hq
  refine ⟨ρ, σd, S, he, hr, PR.imp (PR.bind q) (fun x S1 H1 ρ1 x1 hr1 q1 v hv => ?_) fun _ _ _ _ _ _ q => q⟩
  cases e1 : dTruth x S1 with
  | none => rw [e1] at q1; exact q1.elim
  | some k =>
    rw [e1] at q1
    refine ⟨k, dTruth_rep hr1 hv e1, ?_⟩
    cases k with
    | true => exact ⟨ρ1, σd, S1, he.ext x1, hr1, q1⟩
    | false => exact q1 H1 ρ1 .refl hr1 v hv
theorem de_or (ha : DE X W a f) (hb : DE X W (.BoolOp .Or (b :: rest) pos) g) : DE X W (.BoolOp .Or (a :: b :: rest) pos) (fOr f g) := by
  refine ⟨PE.imp (pe_orT ha.pe hb.pe) fun σ H Q hq => ?_⟩
  obtain ⟨ρ, σd, S, he, hr, q⟩ := hq
  refine ⟨ρ, σd, S, he, hr, PR.imp (PR.bind q) (fun x S1 H1 ρ1 x1 hr1 q1 v hv => ?_) fun _ _ _ _ _ _ q => q⟩
  cases e1 : dTruth x S1 with
  | none => rw [e1] at q1; exact q1.elim
  | some k =>
    rw [e1] at q1
    refine ⟨k, dTruth_rep hr1 hv e1, ?_⟩
    cases k with
    | false => exact ⟨ρ1, σd, S1, he.ext x1, hr1, q1⟩
    | true => exact q1 H1 ρ1 .refl hr1 v hv
theorem de_one {op} (ha : DE X W a f) : DE X W (.BoolOp op [a] pos) f := ⟨pe_one ha.pe⟩
/-- a op b op' c -/
def fChain (o o' : D → D → Sto → Option D) (f g h : FE) : FE := fun σ S => (f σ S).bind fun x S1 => (g σ S1).bind fun y S2 => (ofO (o x y S2) S2).bind fun z S2 => match z with
  | .bl k => if k = true then (h σ S2).bind fun w S3 => ofO (o' y w S3) S3 else .ok (.bl false) S2
  | _ => .stuck
theorem chain_imp {r r' : R2} {o o' : D → D → Sto → Option D} {σ : L2.St} {H : Hp} {Q : VK} (ho : OpD X.K r o) (ho' : OpD X.K r' o') (hq : tE X.K W (fChain o o' f g h) σ H Q) : tChain r r' (tE X.K W f) (tE X.K W g) (tE X.K W h) σ H Q := by
  obtain ⟨ρ, σd, S, he, hr, q⟩ := hq
  refine ⟨ρ, σd, S, he, hr, PR.imp (PR.bind q) (fun x S1 H1 ρ1 x1 hr1 q1 v hv => ?_) fun _ _ _ _ _ _ q => q⟩
  refine ⟨ρ1, σd, S1, he.ext x1, hr1, PR.imp (PR.bind q1) (fun y S2 H2 ρ2 x2 hr2 q2 u hu => ?_) fun _ _ _ _ _ _ q => q⟩
  cases e1 : o x y S2 with
  | none => rw [e1] at q2; exact q2.elim
  | some d =>
    rw [e1] at q2
    refine ho hr2 (hv.ext x2) hu e1 fun w H' x3 hr3 hw => ?_
    cases d with
    | bl k =>
      unfold RepV at hw
      refine ⟨k, hw, ?_⟩
      cases k with
      | false => exact q2 H' ρ2 x3 hr3 _ (by unfold RepV; rfl)
      | true =>
        rw [if_pos rfl]
        have q3 := PR.ext x3 (show PR X.K H2 ρ2 ((h σd S2).bind fun w S3 => ofO (o' y w S3) S3) _ _ from q2)
        refine ⟨ρ2, σd, S2, ((he.ext x1).ext x2).ext x3, hr3, PR.imp (PR.bind q3) (fun z S4 H4 ρ4 x4 hr4 q4 v4 hv4 => ?_) fun _ _ _ _ _ _ q => q⟩
        cases e4 : o' y z S4 with
        | none => rw [e4] at q4; exact q4.elim
        | some d4 =>
          rw [e4] at q4
          exact ho' hr4 ((hu.ext x3).ext x4) hv4 e4 fun w5 H5 x5 hr5 hw5 => q4 H5 ρ4 x5 hr5 w5 hw5
    | _ => exact q2.elim
theorem de_le_le (ha : DE X W a f) (hb : DE X W b g) (hc : DE X W c h) (hm : lastMarks [.LtE, .LtE] [b, c] = false := by with_unfolding_all rfl) : DE X W (.Compare a [.LtE, .LtE] [b, c] pos) (fChain dLe dLe f g h) := ⟨PE.imp (pe_chain op_le op_le ha.pe hb.pe hc.pe hm) fun _ _ _ q => chain_imp opD_B0 opD_B0 q⟩
theorem de_le_lt (ha : DE X W a f) (hb : DE X W b g) (hc : DE X W c h) (hm : lastMarks [.LtE, .Lt] [b, c] = false := by with_unfolding_all rfl) : DE X W (.Compare a [.LtE, .Lt] [b, c] pos) (fChain dLe dLt f g h) := ⟨PE.imp (pe_chain op_le op_lt ha.pe hb.pe hc.pe hm) fun _ _ _ q => chain_imp opD_B0 opD_B0 q⟩
theorem de_lt_lt (ha : DE X W a f) (hb : DE X W b g) (hc : DE X W c h) (hm : lastMarks [.Lt, .Lt] [b, c] = false := by with_unfolding_all rfl) : DE X W (.Compare a [.Lt, .Lt] [b, c] pos) (fChain dLt dLt f g h) := ⟨PE.imp (pe_chain op_lt op_lt ha.pe hb.pe hc.pe hm) fun _ _ _ q => chain_imp opD_B0 opD_B0 q⟩
theorem de_gt_gt (ha : DE X W a f) (hb : DE X W b g) (hc : DE X W c h) (hm : lastMarks [.Gt, .Gt] [b, c] = false := by with_unfolding_all rfl) : DE X W (.Compare a [.Gt, .Gt] [b, c] pos) (fChain dGt dGt f g h) := ⟨PE.imp (pe_chain op_gt op_gt ha.pe hb.pe hc.pe hm) fun _ _ _ q => chain_imp opD_B0 opD_B0 q⟩

/-! ### argument lists, displays -/
abbrev FA := En → Sto → Res (List D)
def tA (K : PySem.W.Frag) (W : WX) (f : FA) : TA := fun σ H Q => ∃ ρ σd S, RepE K H ρ σd σ ∧ HRep K H ρ S ∧
  PR K H ρ (f σd S) (fun ds _ H' ρ' => ∀ vs, RepVs K H' ρ' ds vs → Q vs H') (fun c _ H' _ => W c none σ H')
structure DA (X : Cx) (W : WX) (es : List Expr) (f : FA) : Prop where
  pa : PA X es (tA X.K W f)
  len : ∀ σ S ds S', f σ S = .ok ds S' → ds.length = es.length
def aNil : FA := fun _ S => .ok [] S
def aCons (f : FE) (fs : FA) : FA := fun σ S => (f σ S).bind fun d S1 => (fs σ S1).bind fun ds S2 => .ok (d :: ds) S2
variable {es : List Expr} {fs : FA}
theorem da_nil : DA X W [] aNil := by
  refine ⟨PA.imp pa_nil fun σ H Q hq => ?_, fun σ S ds S' h => by cases h; rfl⟩
  obtain ⟨ρ, σd, S, he, hr, q⟩ := hq
  exact q H ρ .refl hr [] .nil
theorem da_cons (ha : DE X W e f) (hb : DA X W es fs) (hs : starEach (e :: es) X.env = (false, eval e X.env) :: starEach es X.env := by rfl) : DA X W (e :: es) (aCons f fs) := by
  refine ⟨PA.imp (pa_cons ha.pe hb.pa hs) fun σ H Q hq => ?_, fun σ S ds S' h => ?_⟩
  rotate_left
  · unfold aCons at h
    cases e1 : f σ S with
    | stuck => rw [e1] at h; cases h
    | raise c S1 => rw [e1] at h; cases h
    | ok d S1 =>
      rw [e1] at h
      rw [Res.bind_ok] at h
      cases e2 : fs σ S1 with
      | stuck => rw [e2] at h; cases h
      | raise c S1 => rw [e2] at h; cases h
      | ok ds' S2 =>
        rw [e2] at h
        cases h
        simp [hb.len _ _ _ _ e2]
  obtain ⟨ρ, σd, S, he, hr, q⟩ := hq
  refine ⟨ρ, σd, S, he, hr, PR.imp (PR.bind q) (fun x S1 H1 ρ1 x1 hr1 q1 v hv => ?_) fun _ _ _ _ _ _ q => q⟩
  refine ⟨ρ1, σd, S1, he.ext x1, hr1, PR.imp (PR.bind q1) (fun ds S2 H2 ρ2 x2 hr2 q2 vs hvs => ?_) fun _ _ _ _ _ _ q => q⟩
  exact q2 H2 ρ2 .refl hr2 _ (.cons (hv.ext x2) hvs)
def fTup (fs : FA) : FE := fun σ S => (fs σ S).bind fun ds S1 => if ds.length ≤ BIG then .ok (.tup ds) S1 else .stuck
/-- a list that is not changed any more; one that may be -/
def fLst (fs : FA) : FE := fun σ S => (fs σ S).bind fun ds S1 => if ds.length ≤ BIG then .ok (.lst ds) S1 else .stuck
def fNew (fs : FA) : FE := fun σ S => (fs σ S).bind fun ds S1 => if ds.length ≤ BIG then .ok (.ref S1.length) (S1 ++ [.lst ds]) else .stuck
theorem de_tup {k} (hs : DA X W es fs) : DE X W (.Tuple es k pos) (fTup fs) := by
  refine ⟨PE.imp (pe_tup hs.pa) fun σ H Q hq => ?_⟩
  obtain ⟨ρ, σd, S, he, hr, q⟩ := hq
  refine ⟨ρ, σd, S, he, hr, PR.imp (PR.bind q) (fun ds S1 H1 ρ1 x1 hr1 q1 vs hvs => ?_) fun _ _ _ _ _ _ q => q⟩
  by_cases c : ds.length ≤ BIG
  · rw [if_pos c] at q1
    refine ⟨by rw [hvs.length, ← big_line]; exact c, fun p hp => ?_⟩
    obtain ⟨y1, y2, y3⟩ := new_tup hr1 hp hvs
    exact q1 _ ρ1 y1 y2 _ y3
  · rw [if_neg c] at q1; exact q1.elim
theorem de_lst (hs : DA X W es fs) : DE X W (.List es pos) (fLst fs) := by
  refine ⟨PE.imp (pe_lst hs.pa) fun σ H Q hq => ?_⟩
  obtain ⟨ρ, σd, S, he, hr, q⟩ := hq
  refine ⟨ρ, σd, S, he, hr, PR.imp (PR.bind q) (fun ds S1 H1 ρ1 x1 hr1 q1 vs hvs => ?_) fun _ _ _ _ _ _ q => q⟩
  by_cases c : ds.length ≤ BIG
  · rw [if_pos c] at q1
    refine ⟨by rw [hvs.length, ← big_line]; exact c, fun p hp => ?_⟩
    obtain ⟨y1, y2, y3⟩ := new_lst hr1 hp hvs
    exact q1 _ ρ1 y1 y2 _ y3
  · rw [if_neg c] at q1; exact q1.elim
theorem de_new (hs : DA X W es fs) : DE X W (.List es pos) (fNew fs) := by
  refine ⟨PE.imp (pe_lst hs.pa) fun σ H Q hq => ?_⟩
  obtain ⟨ρ, σd, S, he, hr, q⟩ := hq
  refine ⟨ρ, σd, S, he, hr, PR.imp (PR.bind q) (fun ds S1 H1 ρ1 x1 hr1 q1 vs hvs => ?_) fun _ _ _ _ _ _ q => q⟩
  by_cases c : ds.length ≤ BIG
  · rw [if_pos c] at q1
    refine ⟨by rw [hvs.length, ← big_line]; exact c, fun p hp => ?_⟩
    obtain ⟨y1, y2⟩ := hr1.alloc hp hvs
    refine q1 _ _ y1 y2 _ ?_
    unfold RepV
    refine ⟨p, rfl, ?_⟩
    rw [← hr1.len]
    simp
  · rw [if_neg c] at q1; exact q1.elim
/-- {} -/
theorem de_emp (hp : PE X e (fun _ H Q => ∀ p, H p = none → Q (.ref p) (upd H p (.dK [])))) : DE X W e (fC .emp) := by
  refine ⟨PE.imp hp fun σ H Q hq p hp => ?_⟩
  obtain ⟨ρ, σd, S, he, hr, q⟩ := hq
  obtain ⟨y1, y2⟩ := hr.new hp (.dK [])
  refine q _ ρ y1 y2 _ ?_
  unfold RepV
  exact ⟨p, rfl, hr.out hp, upd_same⟩
/-- a slice -/
abbrev FO := En → Sto → Res (Option Int)
def tO (K : PySem.W.Frag) (W : WX) (f : FO) : TO := fun σ H Q => ∃ ρ σd S, RepE K H ρ σd σ ∧ HRep K H ρ S ∧ PR K H ρ (f σd S) (fun o _ H' _ => Q o H') (fun c _ H' _ => W c none σ H')
structure DO (X : Cx) (W : WX) (e : Option Expr) (f : FO) : Prop where
  po : PO X e (tO X.K W f)
theorem PO.imp {X : Cx} {e : Option Expr} {t t' : TO} (h : PO X e t) (hi : ∀ σ H Q, t' σ H Q → t σ H Q) : PO X e t' := ⟨fun p s σ H Q I q => h.run p s σ H Q I (hi σ H Q q)⟩
def oNone : FO := fun _ S => .ok none S
def oSome (f : FE) : FO := fun σ S => (f σ S).bind fun d S1 => match d with
  | .int i => .ok (some i) S1
  | _ => .stuck
theorem do_none : DO X W none oNone := by
  refine ⟨PO.imp po_none fun σ H Q hq => ?_⟩
  obtain ⟨ρ, σd, S, he, hr, q⟩ := hq
  exact q H ρ .refl hr
theorem do_some (ha : DE X W e f) : DO X W (some e) (oSome f) := by
  refine ⟨PO.imp (po_some ha.pe) fun σ H Q hq => ?_⟩
  obtain ⟨ρ, σd, S, he, hr, q⟩ := hq
  refine ⟨ρ, σd, S, he, hr, PR.imp (PR.bind q) (fun x S1 H1 ρ1 x1 hr1 q1 v hv => ?_) fun _ _ _ _ _ _ q => q⟩
  cases x with
  | int i =>
    unfold RepV at hv
    exact ⟨i, hv, q1 H1 ρ1 .refl hr1⟩
  | _ => exact q1.elim
/-- the part of a list between two bounds -/
def cutD (xs : List D) (lo hi : Option Int) : List D := (xs.drop (HT.sIx xs.length 0 lo)).take (HT.sIx xs.length xs.length hi - HT.sIx xs.length 0 lo)
def dCut (x : D) (lo hi : Option Int) (S : Sto) : Option D := match x with
  | .tup xs => some (.tup (cutD xs lo hi))
  | d => (anyL d S).map fun xs => .lst (cutD xs lo hi)
def fCut (f : FE) (l u : FO) : FE := fun σ S => (f σ S).bind fun x S1 => (l σ S1).bind fun lo S2 => (u σ S2).bind fun hi S3 => ofO (dCut x lo hi S3) S3
theorem cut_rep {K : PySem.W.Frag} {H : Hp} {ρ : Rho} {xs : List D} {vs : List V} {lo hi : Option Int} (r : RepVs K H ρ xs vs) : RepVs K H ρ (cutD xs lo hi) (cutV vs lo hi) := by
  unfold cutD cutV
  rw [r.length]
  exact (r.drop _).take _
theorem de_cut {lo hi : Option Expr} {l u : FO} {p2 : Pos} (ha : DE X W e f) (hl : DO X W lo l) (hu : DO X W hi u) : DE X W (.Subscript e (.Slice lo hi none p2) pos) (fCut f l u) := by
  refine ⟨PE.imp (pe_slice (sl_tupA.or sl_list) ha.pe hl.po hu.po) fun σ H Q hq => ?_⟩
  obtain ⟨ρ, σd, S, he, hr, q⟩ := hq
  refine ⟨ρ, σd, S, he, hr, PR.imp (PR.bind q) (fun x S1 H1 ρ1 x1 hr1 q1 v hv => ?_) fun _ _ _ _ _ _ q => q⟩
  refine ⟨ρ1, σd, S1, he.ext x1, hr1, PR.imp (PR.bind q1) (fun lo S2 H2 ρ2 x2 hr2 q2 => ?_) fun _ _ _ _ _ _ q => q⟩
  refine ⟨ρ2, σd, S2, (he.ext x1).ext x2, hr2, PR.imp (PR.bind q2) (fun hi S3 H3 ρ3 x3 hr3 q3 => ?_) fun _ _ _ _ _ _ q => q⟩
  have hv3 := (hv.ext x2).ext x3
  have go : PR X.K H3 ρ3 (ofO ((anyL x S3).map fun xs => D.lst (cutD xs lo hi)) S3) (fun d _ H' ρ' => ∀ v, RepV X.K H' ρ' d v → Q v H') (fun c _ H' _ => W c none σ H') → rSlL X.K v lo hi H3 Q := fun q3 => by
    cases e1 : anyL x S3 with
    | none => rw [e1] at q3; exact q3.elim
    | some xs =>
      rw [e1] at q3
      obtain ⟨a, vs, rfl, h1, r1⟩ := anyL_rep hr3 hv3 e1
      refine ⟨a, vs, rfl, h1, fun p hp => ?_⟩
      obtain ⟨y1, y2, y3⟩ := new_lst hr3 hp (cut_rep (lo := lo) (hi := hi) r1)
      exact q3 _ ρ3 y1 y2 _ y3
  cases x with
  | tup xs =>
    obtain ⟨a, vs, rfl, h1, t1, r1⟩ := tup_rep hv3
    refine .inl ⟨a, vs, rfl, h1, fun hw => ?_, fun hw p hp => ?_⟩
    · refine q3 H3 ρ3 .refl hr3 _ ?_
      have ew : cutD xs lo hi = xs := by
        unfold cutD
        rw [← r1.length, hw.1, hw.2]
        simp [r1.length]
      show RepV X.K H3 ρ3 (.tup (cutD xs lo hi)) _
      rw [ew]
      exact hv3
    · obtain ⟨y1, y2, y3⟩ := new_tup hr3 hp (cut_rep (lo := lo) (hi := hi) r1)
      exact q3 _ ρ3 y1 y2 _ y3
  | _ => exact .inr (go q3)
end

/-! ### tests -/
section
variable {X : Cx} {W : WX} {e a b c : Expr} {f g h : FE} {t u : FT} {pos : Pos} {rest : List Expr}
def tTru (f : FE) : FT := fun σ S => (f σ S).bind fun d S1 => ofO (dTruth d S1) S1
def tBl (f : FE) : FT := fun σ S => (f σ S).bind fun d S1 => match d with
  | .bl k => .ok k S1
  | _ => .stuck
theorem dt_truth (ha : DE X W e f) (he : ∀ whole, isTrue e X.env whole = (do let v ← whole; standAt e.pos; holding [v] (truthy v)) := by intro _; rfl) : DT X W e (tTru f) := by
  refine ⟨PT.imp (pt_truth ha.pe he) fun σ H Q hq => ?_⟩
  obtain ⟨ρ, σd, S, he, hr, q⟩ := hq
  refine ⟨ρ, σd, S, he, hr, PR.imp (PR.bind q) (fun x S1 H1 ρ1 x1 hr1 q1 v hv => ?_) fun _ _ _ _ _ _ q => q⟩
  cases e1 : dTruth x S1 with
  | none => rw [e1] at q1; exact q1.elim
  | some k =>
    rw [e1] at q1
    exact ⟨k, dTruth_rep hr1 hv e1, q1 H1 ρ1 .refl hr1⟩
theorem tst_imp {te : TE} {σ : L2.St} {H : Hp} {Q : Bool → Hp → Prop} (hi : ∀ σ H Q, tE X.K W f σ H Q → te σ H Q) (hq : tT X.K W (tBl f) σ H Q) : tTest te σ H Q := by
  obtain ⟨ρ, σd, S, he, hr, q⟩ := hq
  refine hi _ _ _ ⟨ρ, σd, S, he, hr, PR.imp (PR.bind q) (fun x S1 H1 ρ1 x1 hr1 q1 v hv => ?_) fun _ _ _ _ _ _ q => q⟩
  cases x with
  | bl k =>
    unfold RepV at hv
    exact ⟨k, hv, q1 H1 ρ1 .refl hr1⟩
  | _ => exact q1.elim
theorem op_imp {r : R2} {o : D → D → Sto → Option D} {σ : L2.St} {H : Hp} {Q : VK} (ho : OpD X.K r o) (hq : tE X.K W (fBin o f g) σ H Q) : tOp r (tE X.K W f) (tE X.K W g) σ H Q := by
  obtain ⟨ρ, σd, S, he, hr, q⟩ := hq
  refine ⟨ρ, σd, S, he, hr, PR.imp (PR.bind q) (fun x S1 H1 ρ1 x1 hr1 q1 v hv => ?_) fun _ _ _ _ _ _ q => q⟩
  refine ⟨ρ1, σd, S1, he.ext x1, hr1, PR.imp (PR.bind q1) (fun y S2 H2 ρ2 x2 hr2 q2 u hu => ?_) fun _ _ _ _ _ _ q => q⟩
  cases e1 : o x y S2 with
  | none => rw [e1] at q2; exact q2.elim
  | some d =>
    rw [e1] at q2
    exact ho hr2 (hv.ext x2) hu e1 fun w H' x3 hr3 hw => q2 H' ρ2 x3 hr3 w hw
theorem dt_op {op : CmpOp} {r : R2} {o : D → D → Sto → Option D} (hp : PT X e (tTest (tOp r (tE X.K W f) (tE X.K W g)))) (ho : OpD X.K r o) : DT X W e (tBl (fBin o f g)) := ⟨PT.imp hp fun _ _ _ q => tst_imp (fun _ _ _ q => op_imp ho q) q⟩
theorem dt_lt (ha : DE X W a f) (hb : DE X W b g) : DT X W (.Compare a [.Lt] [b] pos) (tBl (fBin dLt f g)) := dt_op (op := .Lt) (pt_cmpR op_lt ha.pe hb.pe (nomark _)) opD_B0
theorem dt_le (ha : DE X W a f) (hb : DE X W b g) : DT X W (.Compare a [.LtE] [b] pos) (tBl (fBin dLe f g)) := dt_op (op := .LtE) (pt_cmpR op_le ha.pe hb.pe (nomark _)) opD_B0
theorem dt_gt (ha : DE X W a f) (hb : DE X W b g) : DT X W (.Compare a [.Gt] [b] pos) (tBl (fBin dGt f g)) := dt_op (op := .Gt) (pt_cmpR op_gt ha.pe hb.pe (nomark _)) opD_B0
theorem dt_ge (ha : DE X W a f) (hb : DE X W b g) : DT X W (.Compare a [.GtE] [b] pos) (tBl (fBin dGe f g)) := dt_op (op := .GtE) (pt_cmpR op_ge ha.pe hb.pe (nomark _)) opD_B0
theorem dt_eq (hu : X.A.units + 65 < cLine) (ha : DE X W a f) (hb : DE X W b g) : DT X W (.Compare a [.Eq] [b] pos) (tBl (fBin dEq f g)) := dt_op (op := .Eq) (pt_cmpR (op_eq_all (by omega)) ha.pe hb.pe (nomark _)) opD_eq
theorem dt_ne (hu : X.A.units + 65 < cLine) (ha : DE X W a f) (hb : DE X W b g) : DT X W (.Compare a [.NotEq] [b] pos) (tBl (fBin dNe f g)) := dt_op (op := .NotEq) (pt_cmpR (op_ne_all (by omega)) ha.pe hb.pe (nomark _)) opD_ne
theorem dt_is (ha : DE X W a f) (hb : DE X W b g) : DT X W (.Compare a [.Is] [b] pos) (tBl (fBin dIs f g)) := dt_op (op := .Is) (pt_cmpR op_isK ha.pe hb.pe (nomark _)) opD_is
theorem dt_isNot (ha : DE X W a f) (hb : DE X W b g) : DT X W (.Compare a [.IsNot] [b] pos) (tBl (fBin dIsNot f g)) := dt_op (op := .IsNot) (pt_cmpR op_isNotK ha.pe hb.pe (nomark _)) opD_isNot
theorem dt_le_le (ha : DE X W a f) (hb : DE X W b g) (hc : DE X W c h) (hm : lastMarks [.LtE, .LtE] [b, c] = false := by with_unfolding_all rfl) : DT X W (.Compare a [.LtE, .LtE] [b, c] pos) (tBl (fChain dLe dLe f g h)) := ⟨PT.imp (pt_chain op_le op_le ha.pe hb.pe hc.pe hm) fun _ _ _ q => tst_imp (fun _ _ _ q => chain_imp opD_B0 opD_B0 q) q⟩
theorem dt_le_lt (ha : DE X W a f) (hb : DE X W b g) (hc : DE X W c h) (hm : lastMarks [.LtE, .Lt] [b, c] = false := by with_unfolding_all rfl) : DT X W (.Compare a [.LtE, .Lt] [b, c] pos) (tBl (fChain dLe dLt f g h)) := ⟨PT.imp (pt_chain op_le op_lt ha.pe hb.pe hc.pe hm) fun _ _ _ q => tst_imp (fun _ _ _ q => chain_imp opD_B0 opD_B0 q) q⟩
theorem dt_lt_lt (ha : DE X W a f) (hb : DE X W b g) (hc : DE X W c h) (hm : lastMarks [.Lt, .Lt] [b, c] = false := by with_unfolding_all rfl) : DT X W (.Compare a [.Lt, .Lt] [b, c] pos) (tBl (fChain dLt dLt f g h)) := ⟨PT.imp (pt_chain op_lt op_lt ha.pe hb.pe hc.pe hm) fun _ _ _ q => tst_imp (fun _ _ _ q => chain_imp opD_B0 opD_B0 q) q⟩
theorem dt_gt_gt (ha : DE X W a f) (hb : DE X W b g) (hc : DE X W c h) (hm : lastMarks [.Gt, .Gt] [b, c] = false := by with_unfolding_all rfl) : DT X W (.Compare a [.Gt, .Gt] [b, c] pos) (tBl (fChain dGt dGt f g h)) := ⟨PT.imp (pt_chain op_gt op_gt ha.pe hb.pe hc.pe hm) fun _ _ _ q => tst_imp (fun _ _ _ q => chain_imp opD_B0 opD_B0 q) q⟩
def tAndD (t u : FT) : FT := fun σ S => (t σ S).bind fun k S1 => if k = true then u σ S1 else .ok false S1
def tOrD (t u : FT) : FT := fun σ S => (t σ S).bind fun k S1 => if k = true then .ok true S1 else u σ S1
def tNotD (t : FT) : FT := fun σ S => (t σ S).bind fun k S1 => .ok (!k) S1
theorem dw_and1 (ha : DT X W a t) : DW X W (.BoolOp .And [a] pos) t := ⟨pw_and1 ha.pt⟩
theorem dw_or1 (ha : DT X W a t) : DW X W (.BoolOp .Or [a] pos) t := ⟨pw_or1 ha.pt⟩
theorem dw_and (ha : DT X W a t) (hb : DW X W (.BoolOp .And (b :: rest) pos) u) : DW X W (.BoolOp .And (a :: b :: rest) pos) (tAndD t u) := by
  refine ⟨PW.imp (pw_and ha.pt hb.pw) fun σ H Q hq => ?_⟩
  obtain ⟨ρ, σd, S, he, hr, q⟩ := hq
  refine ⟨ρ, σd, S, he, hr, PR.imp (PR.bind q) (fun k S1 H1 ρ1 x1 hr1 q1 => ?_) fun _ _ _ _ _ _ q => q⟩
  cases k with
  | true => exact ⟨ρ1, σd, S1, he.ext x1, hr1, q1⟩
  | false => exact q1 H1 ρ1 .refl hr1
theorem dw_or (ha : DT X W a t) (hb : DW X W (.BoolOp .Or (b :: rest) pos) u) : DW X W (.BoolOp .Or (a :: b :: rest) pos) (tOrD t u) := by
  refine ⟨PW.imp (pw_or ha.pt hb.pw) fun σ H Q hq => ?_⟩
  obtain ⟨ρ, σd, S, he, hr, q⟩ := hq
  refine ⟨ρ, σd, S, he, hr, PR.imp (PR.bind q) (fun k S1 H1 ρ1 x1 hr1 q1 => ?_) fun _ _ _ _ _ _ q => q⟩
  cases k with
  | false => exact ⟨ρ1, σd, S1, he.ext x1, hr1, q1⟩
  | true => exact q1 H1 ρ1 .refl hr1
theorem dt_not (ha : DT X W a t) : DT X W (.UnaryOp .Not a pos) (tNotD t) := by
  refine ⟨PT.imp (pt_not ha.pt) fun σ H Q hq => ?_⟩
  obtain ⟨ρ, σd, S, he, hr, q⟩ := hq
  exact ⟨ρ, σd, S, he, hr, PR.imp (PR.bind q) (fun k S1 H1 ρ1 x1 hr1 q1 => q1 H1 ρ1 .refl hr1) fun _ _ _ _ _ _ q => q⟩
/-- a if t else b -/
def fIf (t : FT) (f g : FE) : FE := fun σ S => (t σ S).bind fun k S1 => if k = true then f σ S1 else g σ S1
theorem de_if (hc : DT X W c t) (ha : DE X W a f) (hb : DE X W b g) : DE X W (.IfExp c a b pos) (fIf t f g) := by
  refine ⟨PE.imp (pe_ifExp hc.pt ha.pe hb.pe) fun σ H Q hq => ?_⟩
  obtain ⟨ρ, σd, S, he, hr, q⟩ := hq
  refine ⟨ρ, σd, S, he, hr, PR.imp (PR.bind q) (fun k S1 H1 ρ1 x1 hr1 q1 => ?_) fun _ _ _ _ _ _ q => q⟩
  cases k with
  | true => exact ⟨ρ1, σd, S1, he.ext x1, hr1, q1⟩
  | false => exact ⟨ρ1, σd, S1, he.ext x1, hr1, q1⟩
end
end DL
end

section
set_option Elab.async false
set_option linter.all false
set_option maxRecDepth 100000
set_option maxHeartbeats 4000000
namespace DL
open PySem PySem.Spec PyProof.Rows L2

/-! ### defs as functions of data -/
abbrev Fn := List D → Sto → Res D
/-- the promise of a def with n parameters, by its function of data -/
def spD (K : PySem.W.Frag) (n : Nat) (F : Fn) : Sp := fun vs H Q E => ∃ ρ ds S, vs.length = n ∧ RepVs K H ρ ds vs ∧ HRep K H ρ S ∧
  PR K H ρ (F ds S) (fun d _ H' ρ' => ∀ v, RepV K H' ρ' d v → Q v H') (fun c _ H' _ => E c none H')
/-- a def keeps its promise, where no repr runs around it -/
structure FnG (P : Program) (w : World) (K : PySem.W.Frag) (mg : Str → Option Value) (base : Heap) (k : Nat) (f : Addr) (fd : FuncData) (ps : List Str) (sp : Sp) : Prop where
  len : ∀ vs H Q E, sp vs H Q E → vs.length = ps.length
  run : ∀ (A : Around) (outer : List Env) (s : Shared) (H : Hp) (args : Args) (us : List Value) (vs : List V) (Q : VK) (E : XK),
    Room k A → A.guards = some [] →
    Env0 P w K mg base A outer s H →
    BindsTo s fd args (ps.zip us) → Vals vs us → sp vs H Q E →
    codeAny (model P w) A (.call (.ref f) args) (CR (L2.CX P w) outer P w H s Q E) s
section
variable {P : Program} {w : World} {K : PySem.W.Frag} {mg : Str → Option Value} {base : Heap}
theorem FnG.mono {j k : Nat} {f : Addr} {fd : FuncData} {ps : List Str} {sp : Sp}
    (F : FnG P w K mg base j f fd ps sp) (h : j ≤ k) : FnG P w K mg base k f fd ps sp :=
  ⟨F.len, fun A outer s H args us vs Q E hr => F.run A outer s H args us vs Q E (hr.mono h)⟩
theorem FnG.imp {k : Nat} {f : Addr} {fd : FuncData} {ps : List Str} {sp sp' : Sp}
    (F : FnG P w K mg base k f fd ps sp) (h : ∀ vs H Q E, sp' vs H Q E → sp vs H Q E) : FnG P w K mg base k f fd ps sp' :=
  ⟨fun vs H Q E q => F.len vs H Q E (h _ _ _ _ q), fun A outer s H args us vs Q E hr hg he hb hv hs => F.run A outer s H args us vs Q E hr hg he hb hv (h _ _ _ _ hs)⟩
/-- a def by its body -/
theorem fnG_of {k : Nat} {f : Addr} {nm qual : Str} {params : Arguments} {body : List Stmt} {scp : Scope} {dV kV doc pm cdv ct oc : Value} {an od : Option Addr} {osl : Array (Option Value)} {N ps : List Str} {sp : Sp}
    (lk : K.lookup f = some ⟨oc, od, .func (PySem.W.fnOf nm qual params body scp dV kV doc pm an cdv ct), osl⟩)
    (hcd : PySem.W.codeIn K cdv qual = true) (SC : FnScope N ps scp) (len : ∀ vs H Q E, sp vs H Q E → vs.length = ps.length)
    (hb0 : ∀ (A : Around) (outer : List Env) (s : Shared) (H : Hp) (vs : List V) (Q : VK) (E : XK),
      Room k (A.deeper (envOfC qual scp s.heap.objs.size f cdv)) → (A.deeper (envOfC qual scp s.heap.objs.size f cdv)).guards = some [] → sp vs H Q E →
      ∃ t, PSs (cxOf (L2.CX P w) P w K mg base N qual scp f cdv A outer s H E) body t ∧ t { nx := fun _ H' => Q .non H', rt := Q } (start N vs) H) :
    FnG P w K mg base (k + 1) f (PySem.W.fnOf nm qual params body scp dV kV doc pm an cdv ct) ps sp := by
  refine ⟨len, ?_⟩
  intro A outer s H args us vs Q E room gd en bnd rel want
  have hlen := len _ _ _ _ want
  have stays : ∀ b o, base.get? b = some o → s.heap.get? b = some o := fun b o e => (en.bs b o e).1
  have inK : K.In s.heap := en.mod.kin.keeps stays
  have nolim : s.heap.NoLimit := en.mod.nolimit.keeps stays
  have kinds : ∀ y ∈ ps.zip us, scp.names.lookup y.1 = some .local ∨ (scp.names.lookup y.1 = some .cell ∧ ((cellsFrom (s.heap.objs.size + 1) scp.names []).lookup y.1).isSome = true) := by
    rintro ⟨n, v⟩ hy
    rcases SC.par n (List.of_mem_zip hy).1 with q | q
    · left; exact q
    · right; exact ⟨q, PySem.W.cellsFrom_some _ _ _ (Or.inl q)⟩
  refine codeAny_call_function room.depth (inK _ _ lk) rfl SC.co SC.gen rfl (PySem.W.codeRec_of inK hcd) (bnd _ _ _ _ ?_)
  refine wpAny_newFunctionEnv_cells SC.kind kinds ?_
  intro env he s1 xin
  subst he
  refine ⟨nolim.keeps xin.toInCall.keep, codeAny_func ?_⟩
  have gd' : (A.deeper (envOfC qual scp s.heap.objs.size f cdv)).guards = some [] := gd
  obtain ⟨t, ht, hq⟩ := hb0 A outer s H vs Q E (room.deeper _) gd' want
  have I0 : Inv (cxOf (L2.CX P w) P w K mg base N qual scp f cdv A outer s H E) [] (start N vs) H s1 := inv_start SC room.hd en hlen rel xin
  have out : ∀ {σ' : L2.St} {H' : Hp} {v : V} {u : Value} {s' : Shared}, Inv (cxOf (L2.CX P w) P w K mg base N qual scp f cdv A outer s H E) [] σ' H' s' → RelV v u → Q v H' → CE outer P w H s Q u s' := by
    intro σ' H' v u s' J rv q
    exact ⟨v, H', J.os, J.bare, J.base, J.hok, rv, q⟩
  refine wpAny_mono (ht.run [] s1 (start N vs) H _ I0 hq) ?_ (fun _ _ h => h)
  intro fl s' hs
  match fl, hs with
  | .ret u, ⟨v, σ', H', J, rv, q⟩ => exact out J rv q
  | .next, ⟨σ', H', J, q⟩ => exact out (v := V.non) (u := Value.none) J rfl q
  | .brk, ⟨_, _, _, q⟩ => exact q.elim
  | .cont, ⟨_, _, _, q⟩ => exact q.elim
end

section
variable {X : Cx} {W : WX} {e a b c : Expr} {es : List Expr} {f g h : FE} {fs : FA} {p pos : Pos}
def fCall (F : Fn) (fs : FA) : FE := fun σ S => (fs σ S).bind fun ds S1 => F ds S1
theorem run_g {k n : Nat} {q : Addr} {fd : FuncData} {ps : List Str} {F : Fn} {pins : List (Addr × Obj)} {σ : L2.St} {H : Hp} {s : Shared} {Q : VK} {us : List Value} {vs : List V} (cx : Ctx X W)
    (G : FnG X.prog X.w X.K X.mg X.base k q fd ps (spD X.K n F)) (hr : Room k X.A) (hb : Binds X.K fd ps []) (I : Inv X pins σ H s) (r : Vals vs us) (hq : spD X.K n F vs H Q (WE W σ)) :
    wpAny (model X.prog X.w) X.A (call (.ref q) us) (EP X pins σ Q) X.xe s := by
  have hl : us.length = ps.length := r.length.symm.trans (G.len _ _ _ _ hq)
  have bb := hb s us I.kIn (by rw [List.append_nil]; exact hl)
  rw [List.append_nil] at bb
  refine wpAny_call (codeAny_mono (G.run X.A X.stack s H ⟨us, []⟩ us vs Q (WE W σ) hr cx.guards I.env0 bb r hq) ?_)
  intro r s' z
  match r, z with
  | .error e, z => exact passAt cx.takes σ pins H s e s' I z
  | .ok (.ret u), z => exact I.after z
  | .ok .next, z => exact z.elim
  | .ok .brk, z => exact z.elim
  | .ok .cont, z => exact z.elim
/-- a def of the module called -/
theorem de_call {k n : Nat} {q : Addr} {fd : FuncData} {ps : List Str} {F : Fn} {x : Str} (cx : Ctx X W) (G : FnG X.prog X.w X.K X.mg X.base k q fd ps (spD X.K n F)) (hr : Room k X.A) (hm : X.mg x = some (.ref q)) (hk : PySem.W.keepIn X.K (.ref q) = true)
    (hb : Binds X.K fd ps []) (ha : DA X W (e :: es) fs) (hn : (e :: es).length = n := by rfl) (hg : Gl X x := by rfl)
    (hdb : (x == ("__debug__" : Str)) = false := by decide) (he : starEach (e :: es) X.env = (false, eval e X.env) :: starEach es X.env := by rfl) (hpl : (backTo pos (starEach es X.env)).any (·.1) = false := by rfl) :
    DE X W (.Call (.Name x p) (e :: es) [] pos) (fCall F fs) := by
  refine ⟨⟨fun pins s σ H Q I hq => ?_⟩⟩
  refine wpAny_Call_Name_kw (ld_glob I hg hm ?_ hdb)
  obtain ⟨ρ, σd, S, hee, hre, q0⟩ := hq
  have q1 : tA X.K W fs σ H (fun vs H1 => spD X.K n F vs H1 Q (WE W σ)) := by
    refine ⟨ρ, σd, S, hee, hre, ?_⟩
    cases e1 : fs σd S with
    | stuck => unfold fCall at q0; rw [e1] at q0; exact q0.elim
    | raise c S1 => unfold fCall at q0; rw [e1] at q0; exact q0
    | ok ds S1 =>
      unfold fCall at q0
      rw [e1] at q0
      intro H' ρ' x' hr' vs hvs
      exact ⟨ρ', ds, S1, by rw [hvs.length, ha.len _ _ _ _ e1]; exact hn, hvs, hr', PR.ext x' (show PR X.K H ρ (F ds S1) _ _ from q0)⟩
  refine PySem.W.callWith_K (h₀ := X.base) I.ok.mod.kin hk (thn (ha.pa.run pos pins s σ H _ I q1) fun us s1 ⟨vs, H1, I1, r, q2⟩ => ⟨I1.kIn, ?_⟩) he hpl
  exact run_g cx G hr hb I1 r q2

/-! ### built-ins -/
def CallD (K : PySem.W.Frag) (r : List V → Hp → VK → Prop) (c : List D → Sto → Option D) : Prop := ∀ {vs : List V} {H : Hp} {ρ : Rho} {S : Sto} {ds : List D} {d : D} {Q : VK}, HRep K H ρ S → RepVs K H ρ ds vs → c ds S = some d →
  (∀ v H', Ext H ρ H' ρ → HRep K H' ρ S → RepV K H' ρ d v → Q v H') → r vs H Q
def fB (c : List D → Sto → Option D) (fs : FA) : FE := fun σ S => (fs σ S).bind fun ds S1 => ofO (c ds S1) S1
theorem cb_imp {r : List V → Hp → VK → Prop} {c : List D → Sto → Option D} {σ : L2.St} {H : Hp} {Q : VK} (hd : CallD X.K r c) (hq : tE X.K W (fB c fs) σ H Q) : tCB r (tA X.K W fs) σ H Q := by
  obtain ⟨ρ, σd, S, he, hr, q⟩ := hq
  refine ⟨ρ, σd, S, he, hr, PR.imp (PR.bind q) (fun ds S1 H1 ρ1 x1 hr1 q1 vs hvs => ?_) fun _ _ _ _ _ _ q => q⟩
  cases e1 : c ds S1 with
  | none => rw [e1] at q1; exact q1.elim
  | some d =>
    rw [e1] at q1
    exact hd hr1 hvs e1 fun v H' x2 hr2 hv => q1 H' ρ1 x2 hr2 v hv
theorem de_b {x : Str} {id : String} {r : List V → Hp → VK → Prop} {c : List D → Sto → Option D} (hc : CallR X (.builtin id) r) (hd : CallD X.K r c) (hm : X.mg x = none) (hv : bootBuiltins x = some (.builtin id)) (ha : DA X W (e :: es) fs) (hg : Gl X x := by rfl) (hn : x ≠ "__name__" := by decide) (hdb : (x == ("__debug__" : Str)) = false := by decide)
    (he : starEach (e :: es) X.env = (false, eval e X.env) :: starEach es X.env := by rfl) (hpl : (backTo pos (starEach es X.env)).any (·.1) = false := by rfl) : DE X W (.Call (.Name x p) (e :: es) [] pos) (fB c fs) :=
  ⟨PE.imp (pe_callB hc hg hm hv ha.pa hn hdb he hpl) fun _ _ _ q => cb_imp hd q⟩
theorem de_ty {x : Str} {T : String} {r : List V → Hp → VK → Prop} {c : List D → Sto → Option D} (hc : CallR X (.type T) r) (hd : CallD X.K r c) (hm : X.mg x = none) (hv : bootBuiltins x = some (.type T)) (ha : DA X W (e :: es) fs) (hg : Gl X x := by rfl) (hn : x ≠ "__name__" := by decide) (hdb : (x == ("__debug__" : Str)) = false := by decide)
    (he : starEach (e :: es) X.env = (false, eval e X.env) :: starEach es X.env := by rfl) (hpl : (backTo pos (starEach es X.env)).any (·.1) = false := by rfl) : DE X W (.Call (.Name x p) (e :: es) [] pos) (fB c fs) :=
  ⟨PE.imp (pe_callTy hc hg hm hv ha.pa hn hdb he hpl) fun _ _ _ q => cb_imp hd q⟩

def dLen : D → Sto → Option D
  | .str x, _ => if x.length ≤ BIG then some (.int x.length) else none
  | .tup xs, _ => some (.int xs.length)
  | d, S => (anyL d S).map fun xs => .int xs.length
def cLen : List D → Sto → Option D
  | [d], S => dLen d S
  | _, _ => none
theorem callD_len {K : PySem.W.Frag} : CallD K (fun xs H Q => ∃ x n, xs = [x] ∧ LenV K x H n ∧ Q (.int n) H) cLen := by
  intro vs H ρ S ds d Q hr hvs e q
  match ds, e with
  | [x], e =>
    obtain ⟨v, vr, rfl, h1, h2⟩ := hvs.of_cons
    rw [h2.of_nil]
    have e' : dLen x S = some d := e
    have go : (anyL x S).map (fun xs => D.int xs.length) = some d → ∃ x n, [v] = [x] ∧ LenV K x H n ∧ Q (.int n) H := fun e => by
      obtain ⟨xs, e1, rfl⟩ := Option.map_eq_some_iff.mp e
      obtain ⟨a, vs, rfl, h1, r1⟩ := anyL_rep hr h1 e1
      exact ⟨_, xs.length, rfl, .inl ⟨vs, h1, r1.length.symm⟩, q _ H .refl hr (by unfold RepV; rfl)⟩
    cases x with
    | str x =>
      unfold RepV at h1; subst h1
      simp only [dLen] at e'
      split at e'
      · rename_i c
        cases e'
        rw [big_line] at c
        exact ⟨_, _, rfl, ⟨c, rfl⟩, q _ H .refl hr (by unfold RepV; rfl)⟩
      · cases e'
    | tup xs =>
      obtain ⟨a, vs, rfl, h1, _, r1⟩ := tup_rep h1
      cases e'
      exact ⟨_, xs.length, rfl, .inr ⟨vs, h1, r1.length.symm⟩, q _ H .refl hr (by unfold RepV; rfl)⟩
    | lst xs => exact go e'
    | frz xs => exact go e'
    | ref n => exact go e'
    | _ => cases e'
/-- the name of a value's class -/
def clsOf : D → Sto → Option String
  | .non, _ => some "NoneType"
  | .bl _, _ => some "bool"
  | .int _, _ => some "int"
  | .str _, _ => some "str"
  | .tup _, _ => some "tuple"
  | .emp, _ => some "dict"
  | d, S => (anyL d S).map fun _ => "list"
theorem tyx_of {K : PySem.W.Frag} {H : Hp} {ρ : Rho} {S : Sto} {d : D} {v : V} {t : String} (hr : HRep K H ρ S) (h : RepV K H ρ d v) (e : clsOf d S = some t) : TyX K H v (.type t) := by
  have sq : ∀ {a vs}, SqL K H a vs → TyX K H (.ref a) (.type "list") := fun {a vs} h => by
    rcases h with (h | ⟨o, h⟩) | ⟨o, its, n, h1, h2, _⟩
    · exact .base (.lst h)
    · exact .base (.frz h)
    · exact .kList h1 h2
  have go : (anyL d S).map (fun _ => "list") = some t → TyX K H v (.type t) := fun e => by
    obtain ⟨xs, e1, rfl⟩ := Option.map_eq_some_iff.mp e
    obtain ⟨a, vs, rfl, h1, r1⟩ := anyL_rep hr h e1
    exact sq h1
  cases d with
  | non => unfold RepV at h; subst h; cases e; exact .base .non
  | bl b => unfold RepV at h; subst h; cases e; exact .base (.bl b)
  | int b => unfold RepV at h; subst h; cases e; exact .base (.int b)
  | str b => unfold RepV at h; subst h; cases e; exact .base (.str b)
  | tup xs =>
    obtain ⟨a, vs, rfl, h1, _, r1⟩ := tup_rep h
    cases e
    rcases h1 with (h | ⟨o, h⟩) | ⟨o, its, n, h1, h2, _⟩
    · exact .base (.tup h)
    · exact .fTuple h
    · exact .kTuple h1 h2
  | emp =>
    unfold RepV at h
    obtain ⟨a, rfl, h1⟩ := h
    cases e
    exact .base (.dK h1.2)
  | lst xs => exact go e
  | frz xs => exact go e
  | ref n => exact go e
  | cst u => cases e
def cIsi : List D → Sto → Option D
  | [d, .cst (.ty n)], S => (clsOf d S).bind fun t => (kitB t n).map fun b => .bl b
  | _, _ => none
theorem callD_isi {K : PySem.W.Frag} : CallD K (rIsi K) cIsi := by
  intro vs H ρ S ds d Q hr hvs e q
  match ds, e with
  | [x, .cst (.ty n)], e =>
    obtain ⟨v, vr, rfl, h1, h2⟩ := hvs.of_cons
    obtain ⟨u, vr, rfl, h3, h4⟩ := h2.of_cons
    rw [h4.of_nil]
    have e' : ((clsOf x S).bind fun t => (kitB t n).map fun b => D.bl b) = some d := e
    obtain ⟨t, e1, e'⟩ := Option.bind_eq_some_iff.mp e'
    obtain ⟨b, e2, rfl⟩ := Option.map_eq_some_iff.mp e'
    unfold RepV at h3
    subst h3
    exact ⟨v, .ty n, _, _, b, rfl, .ty n, tyx_of hr h1 e1, kit_ty e2, q _ H .refl hr (by unfold RepV; rfl)⟩
def dTup : D → Sto → Option D
  | .tup xs, _ => some (.tup xs)
  | d, S => (anyL d S).map .tup
def cTup : List D → Sto → Option D
  | [d], S => dTup d S
  | _, _ => none
theorem callD_tup {K : PySem.W.Frag} : CallD K (fun xs H Q => ∃ p ys, xs = [.ref p] ∧ ((SqL K H p ys ∧ ∀ l, H l = none → Q (.ref l) (upd H l (.tup ys))) ∨ (SqT K H p ys ∧ Q (.ref p) H))) cTup := by
  intro vs H ρ S ds d Q hr hvs e q
  match ds, e with
  | [x], e =>
    obtain ⟨v, vr, rfl, h1, h2⟩ := hvs.of_cons
    rw [h2.of_nil]
    have go : (anyL x S).map D.tup = some d → ∃ p ys, [v] = [.ref p] ∧ ((SqL K H p ys ∧ ∀ l, H l = none → Q (.ref l) (upd H l (.tup ys))) ∨ (SqT K H p ys ∧ Q (.ref p) H)) := fun e => by
      obtain ⟨xs, e1, rfl⟩ := Option.map_eq_some_iff.mp e
      obtain ⟨a, vs, rfl, h1, r1⟩ := anyL_rep hr h1 e1
      refine ⟨a, vs, rfl, .inl ⟨h1, fun p hp => ?_⟩⟩
      obtain ⟨y1, y2, y3⟩ := new_tup hr hp r1
      exact q _ _ y1 y2 y3
    replace e : dTup x S = some d := e
    cases x with
    | tup xs =>
      have hv := h1
      obtain ⟨a, vs, rfl, h1, _, r1⟩ := tup_rep h1
      cases e
      exact ⟨a, vs, rfl, .inr ⟨h1, q _ H .refl hr hv⟩⟩
    | lst xs => exact go e
    | frz xs => exact go e
    | ref n => exact go e
    | _ => cases e
/-- list(x), a list that is not changed any more -/
def dLst : D → Sto → Option D
  | .tup xs, _ => some (.lst xs)
  | d, S => (anyL d S).map .lst
def cLst : List D → Sto → Option D
  | [d], S => dLst d S
  | _, _ => none
theorem callD_lst {K : PySem.W.Frag} : CallD K (fun xs H Q => ∃ p ys, xs = [.ref p] ∧ (SqL K H p ys ∨ SqT K H p ys) ∧ ∀ l, H l = none → Q (.ref l) (upd H l (.lst ys))) cLst := by
  intro vs H ρ S ds d Q hr hvs e q
  match ds, e with
  | [x], e =>
    obtain ⟨v, vr, rfl, h1, h2⟩ := hvs.of_cons
    rw [h2.of_nil]
    have go : (anyL x S).map D.lst = some d → ∃ p ys, [v] = [.ref p] ∧ (SqL K H p ys ∨ SqT K H p ys) ∧ ∀ l, H l = none → Q (.ref l) (upd H l (.lst ys)) := fun e => by
      obtain ⟨xs, e1, rfl⟩ := Option.map_eq_some_iff.mp e
      obtain ⟨a, vs, rfl, h1, r1⟩ := anyL_rep hr h1 e1
      refine ⟨a, vs, rfl, .inl h1, fun p hp => ?_⟩
      obtain ⟨y1, y2, y3⟩ := new_lst hr hp r1
      exact q _ _ y1 y2 y3
    replace e : dLst x S = some d := e
    cases x with
    | tup xs =>
      obtain ⟨a, vs, rfl, h1, _, r1⟩ := tup_rep h1
      cases e
      refine ⟨a, vs, rfl, .inr h1, fun p hp => ?_⟩
      obtain ⟨y1, y2, y3⟩ := new_lst hr hp r1
      exact q _ _ y1 y2 y3
    | lst xs => exact go e
    | frz xs => exact go e
    | ref n => exact go e
    | _ => cases e
def cInt : List D → Sto → Option D
  | [.int i], _ => some (.int i)
  | [.bl b], _ => some (.int (if b = true then 1 else 0))
  | _, _ => none
theorem callD_int {K : PySem.W.Frag} : CallD K (fun xs H Q => (∃ i, xs = [.int i] ∧ Q (.int i) H) ∨ ∃ k, xs = [.bl k] ∧ Q (.int (if k then 1 else 0)) H) cInt := by
  intro vs H ρ S ds d Q hr hvs e q
  match ds, e with
  | [.int i], e =>
    obtain ⟨v, vr, rfl, h1, h2⟩ := hvs.of_cons
    rw [h2.of_nil]
    unfold RepV at h1
    cases e
    exact .inl ⟨i, by rw [h1], q _ H .refl hr (by unfold RepV; rfl)⟩
  | [.bl b], e =>
    obtain ⟨v, vr, rfl, h1, h2⟩ := hvs.of_cons
    rw [h2.of_nil]
    unfold RepV at h1
    cases e
    exact .inr ⟨b, by rw [h1], q _ H .refl hr (by unfold RepV; rfl)⟩
def cAbs : List D → Sto → Option D
  | [.int i], _ => some (.int (if i < 0 then -i else i))
  | _, _ => none
theorem callD_abs {K : PySem.W.Frag} : CallD K (fun xs H Q => ∃ i, xs = [.int i] ∧ Q (.int (if i < 0 then -i else i)) H) cAbs := by
  intro vs H ρ S ds d Q hr hvs e q
  match ds, e with
  | [.int i], e =>
    obtain ⟨v, vr, rfl, h1, h2⟩ := hvs.of_cons
    rw [h2.of_nil]
    unfold RepV at h1
    cases e
    exact ⟨i, by rw [h1], q _ H .refl hr (by unfold RepV; rfl)⟩
def cMax2 : List D → Sto → Option D
  | [.int i, .int j], _ => some (.int (if j > i then j else i))
  | _, _ => none
def cMin2 : List D → Sto → Option D
  | [.int i, .int j], _ => some (.int (if j < i then j else i))
  | _, _ => none
theorem two_ints {K : PySem.W.Frag} {H : Hp} {ρ : Rho} {i j : Int} {vs : List V} (h : RepVs K H ρ [.int i, .int j] vs) : vs = [.int i, .int j] := by
  obtain ⟨v, vr, rfl, h1, h2⟩ := h.of_cons
  obtain ⟨u, vr, rfl, h3, h4⟩ := h2.of_cons
  rw [h4.of_nil]
  unfold RepV at h1 h3
  rw [h1, h3]
theorem callD_max2 {K : PySem.W.Frag} : CallD K (fun xs H Q => ∃ i j, xs = [.int i, .int j] ∧ Q (.int (if j > i then j else i)) H) cMax2 := by
  intro vs H ρ S ds d Q hr hvs e q
  match ds, e with
  | [.int i, .int j], e => cases e; exact ⟨i, j, two_ints hvs, q _ H .refl hr (by unfold RepV; rfl)⟩
theorem callD_min2 {K : PySem.W.Frag} : CallD K (fun xs H Q => ∃ i j, xs = [.int i, .int j] ∧ Q (.int (if j < i then j else i)) H) cMin2 := by
  intro vs H ρ S ds d Q hr hvs e q
  match ds, e with
  | [.int i, .int j], e => cases e; exact ⟨i, j, two_ints hvs, q _ H .refl hr (by unfold RepV; rfl)⟩
end
end DL
end

section
set_option Elab.async false
set_option linter.all false
set_option maxRecDepth 100000
set_option maxHeartbeats 4000000
namespace DL
open PySem PySem.Spec PyProof.Rows L2

/-! ### statements -/
inductive RS where
  | nx (σ : En) (S : Sto) | rt (d : D) (S : Sto) | bk (σ : En) (S : Sto) | ct (σ : En) (S : Sto) | raise (c : Value) (σ : En) (S : Sto) | stuck
abbrev FS := En → Sto → RS
def RS.of {α : Type} (r : Res α) (σ : En) (k : α → Sto → RS) : RS := match r with
  | .ok a S => k a S
  | .raise c S => .raise c σ S
  | .stuck => .stuck
@[simp] theorem RS.of_ok {α : Type} (a : α) (S : Sto) (σ : En) (k : α → Sto → RS) : RS.of (.ok a S) σ k = k a S := rfl
@[simp] theorem RS.of_raise {α : Type} (c : Value) (S : Sto) (σ : En) (k : α → Sto → RS) : RS.of (.raise c S : Res α) σ k = .raise c σ S := rfl
@[simp] theorem RS.of_stuck {α : Type} (σ : En) (k : α → Sto → RS) : RS.of (.stuck : Res α) σ k = .stuck := rfl
def RS.seq (r : RS) (k : FS) : RS := match r with
  | .nx σ S => k σ S
  | r => r
@[simp] theorem RS.seq_nx (σ : En) (S : Sto) (k : FS) : (RS.nx σ S).seq k = k σ S := rfl
@[simp] theorem RS.seq_rt (d : D) (S : Sto) (k : FS) : (RS.rt d S).seq k = .rt d S := rfl
@[simp] theorem RS.seq_bk (σ : En) (S : Sto) (k : FS) : (RS.bk σ S).seq k = .bk σ S := rfl
@[simp] theorem RS.seq_ct (σ : En) (S : Sto) (k : FS) : (RS.ct σ S).seq k = .ct σ S := rfl
@[simp] theorem RS.seq_raise (c : Value) (σ : En) (S : Sto) (k : FS) : (RS.raise c σ S).seq k = .raise c σ S := rfl

def PRS (K : PySem.W.Frag) (H : Hp) (ρ : Rho) (W : WX) (Z : Ends) : RS → Prop
  | .nx σd S => ∀ σ' H' ρ', Ext H ρ H' ρ' → HRep K H' ρ' S → RepE K H' ρ' σd σ' → Z.nx σ' H'
  | .rt d S => ∀ v H' ρ', Ext H ρ H' ρ' → HRep K H' ρ' S → RepV K H' ρ' d v → Z.rt v H'
  | .bk σd S => ∀ σ' H' ρ', Ext H ρ H' ρ' → HRep K H' ρ' S → RepE K H' ρ' σd σ' → Z.bk σ' H'
  | .ct σd S => ∀ σ' H' ρ', Ext H ρ H' ρ' → HRep K H' ρ' S → RepE K H' ρ' σd σ' → Z.ct σ' H'
  | .raise c σd S => ∀ σ' H' ρ', Ext H ρ H' ρ' → HRep K H' ρ' S → RepE K H' ρ' σd σ' → W c none σ' H'
  | .stuck => False
section
variable {K : PySem.W.Frag} {H H1 : Hp} {ρ ρ1 : Rho} {W W' : WX} {Z Z' : Ends}
theorem PRS.ext {r : RS} (x : Ext H ρ H1 ρ1) (h : PRS K H ρ W Z r) : PRS K H1 ρ1 W Z r := by
  cases r with
  | stuck => exact h
  | _ => exact fun u H' ρ' x' => h u H' ρ' (x.trans x')
theorem PRS.imp {r : RS} (h : PRS K H ρ W Z r) (h1 : ∀ σ H, Z.nx σ H → Z'.nx σ H) (h2 : ∀ v H, Z.rt v H → Z'.rt v H) (h3 : ∀ σ H, Z.bk σ H → Z'.bk σ H) (h4 : ∀ σ H, Z.ct σ H → Z'.ct σ H) (h5 : ∀ c d σ H, W c d σ H → W' c d σ H) : PRS K H ρ W' Z' r := by
  cases r with
  | stuck => exact h
  | nx _ _ => exact fun u H' ρ' x' a b => h1 _ _ (h u H' ρ' x' a b)
  | rt _ _ => exact fun u H' ρ' x' a b => h2 _ _ (h u H' ρ' x' a b)
  | bk _ _ => exact fun u H' ρ' x' a b => h3 _ _ (h u H' ρ' x' a b)
  | ct _ _ => exact fun u H' ρ' x' a b => h4 _ _ (h u H' ρ' x' a b)
  | raise _ _ _ => exact fun u H' ρ' x' a b => h5 _ _ _ _ (h u H' ρ' x' a b)
theorem PRS.of {α : Type} {r : Res α} {σd : En} {σ : L2.St} {k : α → Sto → RS} (he : RepE K H ρ σd σ) (h : PRS K H ρ W Z (RS.of r σd k)) : PR K H ρ r (fun a S1 H1 ρ1 => PRS K H1 ρ1 W Z (k a S1)) (fun c _ H1 _ => W c none σ H1) := by
  cases r with
  | ok a S => exact fun H' ρ' x hr => PRS.ext x h
  | raise c S => exact fun H' ρ' x hr => h σ H' ρ' x hr (he.ext x)
  | stuck => exact h
end
def tS (K : PySem.W.Frag) (W : WX) (g : FS) : TS := fun Z σ H => ∃ ρ σd S, RepE K H ρ σd σ ∧ HRep K H ρ S ∧ PRS K H ρ W Z (g σd S)
structure DS (X : Cx) (W : WX) (st : Stmt) (g : FS) : Prop where
  ps : PS X st (tS X.K W g)
structure DSs (X : Cx) (W : WX) (st : List Stmt) (g : FS) : Prop where
  pss : PSs X st (tS X.K W g)

def sNil : FS := fun σ S => .nx σ S
def sSeq (g h : FS) : FS := fun σ S => (g σ S).seq h
def sExpr (f : FE) : FS := fun σ S => RS.of (f σ S) σ fun _ S1 => .nx σ S1
def sRet (f : FE) : FS := fun σ S => RS.of (f σ S) σ fun d S1 => .rt d S1
def sRetN : FS := fun _ S => .rt .non S
def sBreak : FS := fun σ S => .bk σ S
def sCont : FS := fun σ S => .ct σ S
def sSet (i : Nat) (f : FE) : FS := fun σ S => RS.of (f σ S) σ fun d S1 => .nx (σ.set i (some d)) S1
def sIf (t : FT) (g h : FS) : FS := fun σ S => RS.of (t σ S) σ fun k S1 => if k = true then g σ S1 else h σ S1
def sRaise (c : Addr) : FS := fun σ S => .raise (.ref c) σ S

section
variable {X : Cx} {W : WX} {st : Stmt} {rest body orelse : List Stmt} {e a b c : Expr} {f : FE} {t : FT} {g h : FS} {pos pos' : Pos}
theorem dss_nil : DSs X W [] sNil := by
  refine ⟨PSs.imp pss_nil fun Z σ H hq => ?_⟩
  obtain ⟨ρ, σd, S, he, hr, q⟩ := hq
  exact q σ H ρ .refl hr he
theorem dss_one (h1 : DS X W st g) : DSs X W [st] g := ⟨pss_one h1.ps⟩
theorem dss_cons (h1 : DS X W st g) (h2 : DSs X W rest h) : DSs X W (st :: rest) (sSeq g h) := by
  refine ⟨PSs.imp (pss_cons h1.ps h2.pss) fun Z σ H hq => ?_⟩
  obtain ⟨ρ, σd, S, he, hr, q⟩ := hq
  refine ⟨ρ, σd, S, he, hr, ?_⟩
  unfold sSeq at q
  cases e1 : g σd S with
  | nx σ1 S1 =>
    rw [e1] at q
    exact fun σ' H' ρ' x hr' he' => ⟨ρ', σ1, S1, he', hr', PRS.ext x (show PRS X.K H ρ W Z (h σ1 S1) from q)⟩
  | _ => rw [e1] at q; exact q
theorem ds_pass : DS X W (.Pass pos) sNil := by
  refine ⟨PS.imp ps_pass fun Z σ H hq => ?_⟩
  obtain ⟨ρ, σd, S, he, hr, q⟩ := hq
  exact q σ H ρ .refl hr he
theorem ds_break : DS X W (.Break pos) sBreak := by
  refine ⟨PS.imp ps_break fun Z σ H hq => ?_⟩
  obtain ⟨ρ, σd, S, he, hr, q⟩ := hq
  exact q σ H ρ .refl hr he
theorem ds_cont : DS X W (.Continue pos) sCont := by
  refine ⟨PS.imp ps_continue fun Z σ H hq => ?_⟩
  obtain ⟨ρ, σd, S, he, hr, q⟩ := hq
  exact q σ H ρ .refl hr he
theorem ds_expr (ha : DE X W e f) (hs : swapsWith e none pos.line X.env = pure false := by rfl) : DS X W (.Expr e pos) (sExpr f) := by
  refine ⟨PS.imp (ps_expr ha.pe hs) fun Z σ H hq => ?_⟩
  obtain ⟨ρ, σd, S, he, hr, q⟩ := hq
  exact ⟨ρ, σd, S, he, hr, PR.imp (PRS.of he q) (fun d S1 H1 ρ1 x1 hr1 q1 v hv => q1 σ H1 ρ1 .refl hr1 (he.ext x1)) fun _ _ _ _ _ _ q => q⟩
theorem ds_ret (ha : DE X W e f) : DS X W (.Return (some e) pos) (sRet f) := by
  refine ⟨PS.imp (ps_ret ha.pe) fun Z σ H hq => ?_⟩
  obtain ⟨ρ, σd, S, he, hr, q⟩ := hq
  exact ⟨ρ, σd, S, he, hr, PR.imp (PRS.of he q) (fun d S1 H1 ρ1 x1 hr1 q1 v hv => q1 v H1 ρ1 .refl hr1 hv) fun _ _ _ _ _ _ q => q⟩
theorem ds_retN : DS X W (.Return none pos) sRetN := by
  refine ⟨PS.imp ps_retN fun Z σ H hq => ?_⟩
  obtain ⟨ρ, σd, S, he, hr, q⟩ := hq
  exact q .non H ρ .refl hr (by unfold RepV; rfl)
theorem ds_set (i : Nat) {x : Str} (cx : Ctx X W) (ha : DE X W e f) (hi : X.N[i]? = some x := by rfl) (hx : Loc X.env.scope x := by first | exact Or.inl rfl | exact Or.inr rfl) (hs : swapsWith e (some (.Name x pos')) pos.line X.env = pure false := by rfl)
    (hf : X.fn x = true ∨ X.env.scope.names.lookup x = some .local := by first | exact .inl rfl | exact .inr rfl | assumption) : DS X W (.Assign [.Name x pos'] e pos) (sSet i f) := by
  refine ⟨PS.imp (ps_set cx.nd hi hx ha.pe hs hf) fun Z σ H hq => ?_⟩
  obtain ⟨ρ, σd, S, he, hr, q⟩ := hq
  exact ⟨ρ, σd, S, he, hr, PR.imp (PRS.of he q) (fun d S1 H1 ρ1 x1 hr1 q1 v hv => q1 _ H1 ρ1 .refl hr1 ((he.ext x1).set hv)) fun _ _ _ _ _ _ q => q⟩
theorem ds_if (hc : DT X W c t) (ha : DSs X W body g) (hb : DSs X W orelse h) : DS X W (.If c body orelse pos) (sIf t g h) := by
  refine ⟨PS.imp (ps_if hc.pt ha.pss hb.pss) fun Z σ H hq => ?_⟩
  obtain ⟨ρ, σd, S, he, hr, q⟩ := hq
  refine ⟨ρ, σd, S, he, hr, PR.imp (PRS.of he q) (fun k S1 H1 ρ1 x1 hr1 q1 => ?_) fun _ _ _ _ _ _ q => q⟩
  cases k with
  | true => exact ⟨ρ1, σd, S1, he.ext x1, hr1, q1⟩
  | false => exact ⟨ρ1, σd, S1, he.ext x1, hr1, q1⟩
/-- raise of an own class with a text -/
theorem ds_raise {q : Addr} {tx : L2.St → Hp → XK → Prop} (cx : Ctx X W) (hm : PMk X e tx) (hx : ∀ σ H Q, Q (.ref q) none H → tx σ H Q) : DS X W (.Raise (some e) none pos) (sRaise q) := by
  refine ⟨PS.imp (ps_raise cx.calm cx.takes hm) fun Z σ H hq => ?_⟩
  obtain ⟨ρ, σd, S, he, hr, q⟩ := hq
  exact hx σ H _ (q σ H ρ .refl hr he)

/-! ### targets -/
abbrev FG := D → En → Sto → Option En
def tG (K : PySem.W.Frag) (gt : FG) : TG := fun v σ H Q => ∃ ρ σd S d, RepE K H ρ σd σ ∧ HRep K H ρ S ∧ RepV K H ρ d v ∧ ∃ σd', gt d σd S = some σd' ∧ ∀ σ', RepE K H ρ σd' σ' → Q σ' H
structure DG (X : Cx) (tg : Expr) (gt : FG) : Prop where
  pg : PG X tg (tG X.K gt)
abbrev FGs := List D → En → Sto → Option En
def tGs (K : PySem.W.Frag) (gt : FGs) : TGs := fun vs σ H Q => ∃ ρ σd S ds, RepE K H ρ σd σ ∧ HRep K H ρ S ∧ RepVs K H ρ ds vs ∧ ∃ σd', gt ds σd S = some σd' ∧ ∀ σ', RepE K H ρ σd' σ' → Q σ' H
structure DGs (X : Cx) (tg : List Expr) (gt : FGs) : Prop where
  pgs : PGs X tg (tGs X.K gt)
def gNm (i : Nat) : FG := fun d σ _ => some (σ.set i (some d))
def gsNil : FGs := fun ds σ _ => match ds with
  | [] => some σ
  | _ => none
def gsCons (g : FG) (gs : FGs) : FGs := fun ds σ S => match ds with
  | d :: r => (g d σ S).bind fun σ1 => gs r σ1 S
  | [] => none
def gTp (n : Nat) (gs : FGs) : FG := fun d σ S => match d with
  | .tup xs => if xs.length = n then gs xs σ S else none
  | d => (anyL d S).bind fun xs => if xs.length = n then gs xs σ S else none
variable {tg : Expr} {es : List Expr} {gt : FG} {gs : FGs}
theorem dg_name (i : Nat) {x : Str} (hN : X.N.Nodup) (hi : X.N[i]? = some x := by rfl) (hx : Loc X.env.scope x := by first | exact Or.inl rfl | exact Or.inr rfl) (hf : X.fn x = true ∨ X.env.scope.names.lookup x = some .local := by first | exact .inl rfl | exact .inr rfl | assumption) : DG X (.Name x pos) (gNm i) := by
  refine ⟨PG.imp (pg_name hN hi hx hf) fun v σ H Q hq => ?_⟩
  obtain ⟨ρ, σd, S, d, he, hr, hv, σd', e1, q⟩ := hq
  cases e1
  exact q _ (he.set hv)
theorem dgs_nil : DGs X [] gsNil := by
  refine ⟨PGs.imp pgs_nil fun vs σ H Q hq => ?_⟩
  obtain ⟨ρ, σd, S, ds, he, hr, hv, σd', e1, q⟩ := hq
  cases ds with
  | nil => cases e1; exact ⟨hv.of_nil, q σ he⟩
  | cons d ds => cases e1
theorem dgs_cons (h1 : DG X e gt) (h2 : DGs X es gs) (hs : (assignEach (e :: es) X.env).map (·.2) = assign e X.env :: (assignEach es X.env).map (·.2) := by rfl) : DGs X (e :: es) (gsCons gt gs) := by
  refine ⟨PGs.imp (pgs_cons h1.pg h2.pgs hs) fun vs σ H Q hq => ?_⟩
  obtain ⟨ρ, σd, S, ds, he, hr, hv, σd', e1, q⟩ := hq
  cases ds with
  | nil => cases e1
  | cons d ds =>
    obtain ⟨v, vr, rfl, h3, h4⟩ := hv.of_cons
    obtain ⟨σ1, e2, e3⟩ := Option.bind_eq_some_iff.mp e1
    exact ⟨v, vr, rfl, ρ, σd, S, d, he, hr, h3, σ1, e2, fun σ' he' => ⟨ρ, σ1, S, ds, he', hr, h4, σd', e3, q⟩⟩
theorem dg_tup {k n : Nat} (hc : X.calm = true) (h1 : DGs X es gs) (hn : (assignEach es X.env).length = n := by rfl) (hst : (assignEach es X.env).findIdx? (·.1) = none := by rfl) : DG X (.Tuple es k pos) (gTp n gs) := by
  refine ⟨PG.imp (PG.or (pg_tup hc h1.pgs hn hst) (pg_lst hc h1.pgs hn hst)) fun v σ H Q hq => ?_⟩
  obtain ⟨ρ, σd, S, d, he, hr, hv, σd', e1, q⟩ := hq
  have go : ((anyL d S).bind fun xs => if xs.length = n then gs xs σd S else none) = some σd' → gLst X.K n (tGs X.K gs) v σ H Q := fun e1 => by
    obtain ⟨xs, e2, e3⟩ := Option.bind_eq_some_iff.mp e1
    obtain ⟨a, vs, rfl, h1, r1⟩ := anyL_rep hr hv e2
    split at e3
    · rename_i c
      exact ⟨a, vs, rfl, h1, r1.length.trans c, ρ, σd, S, xs, he, hr, r1, σd', e3, q⟩
    · cases e3
  cases d with
  | tup xs =>
    obtain ⟨a, vs, rfl, h1, _, r1⟩ := tup_rep hv
    simp only [gTp] at e1
    split at e1
    · rename_i c
      exact .inl ⟨a, vs, rfl, h1, r1.length.trans c, ρ, σd, S, xs, he, hr, r1, σd', e1, q⟩
    · cases e1
  | _ => exact .inr (go e1)
/-- target = value -/
def sAsg (gt : FG) (f : FE) : FS := fun σ S => RS.of (f σ S) σ fun d S1 => match gt d σ S1 with
  | some σ1 => .nx σ1 S1
  | none => .stuck
theorem ds_asg (ha : DE X W e f) (hg : DG X tg gt) (hs : swapsWithSole [tg] e pos.line X.env = pure false := by rfl) (hw : swappedStores [tg] e X.env = pure none := by rfl) (h1 : (assignEach [tg] X.env).map (·.2) = [assign tg X.env] := by rfl) : DS X W (.Assign [tg] e pos) (sAsg gt f) := by
  refine ⟨PS.imp (ps_asg ha.pe hg.pg hs hw h1) fun Z σ H hq => ?_⟩
  obtain ⟨ρ, σd, S, he, hr, q⟩ := hq
  refine ⟨ρ, σd, S, he, hr, PR.imp (PRS.of he q) (fun d S1 H1 ρ1 x1 hr1 q1 v hv => ?_) fun _ _ _ _ _ _ q => q⟩
  cases e1 : gt d σd S1 with
  | none => simp only [e1] at q1; exact q1.elim
  | some σ1 =>
    simp only [e1] at q1
    exact ⟨ρ1, σd, S1, d, he.ext x1, hr1, hv, σ1, e1, fun σ' he' => q1 σ' H1 ρ1 .refl hr1 he'⟩
/-- a, b = e1, e2 -/
def sPar (i j : Nat) (fs : FA) : FS := fun σ S => RS.of (fs σ S) σ fun ds S1 => match ds with
  | [d1, d2] => .nx ((σ.set i (some d1)).set j (some d2)) S1
  | _ => .stuck
theorem ds_par (i j : Nat) {x y : Str} {fs : FA} {px py pt : Pos} {kt k2 pt2} (cx : Ctx X W) (ha : DA X W [a, b] fs) (hi : X.N[i]? = some x := by rfl) (hj : X.N[j]? = some y := by rfl) (hij : i ≠ j := by decide)
    (hx : X.env.scope.names.lookup x = some .local := by rfl) (hy : X.env.scope.names.lookup y = some .local := by rfl)
    (hw : swappedStores [.Tuple [.Name x px, .Name y py] kt pt] (.Tuple [a, b] k2 pt2) X.env = pure (some [x, y]) := by rfl)
    (hs : swapsWithSole [.Tuple [.Name x px, .Name y py] kt pt] (.Tuple [a, b] k2 pt2) pos.line X.env = pure false := by rfl) :
    DS X W (.Assign [.Tuple [.Name x px, .Name y py] kt pt] (.Tuple [a, b] k2 pt2) pos) (sPar i j fs) := by
  refine ⟨PS.imp (ps_par cx.calm cx.nd hi hj hij hx hy ha.pa hw hs) fun Z σ H hq => ?_⟩
  obtain ⟨ρ, σd, S, he, hr, q⟩ := hq
  refine ⟨ρ, σd, S, he, hr, PR.imp (PRS.of he q) (fun ds S1 H1 ρ1 x1 hr1 q1 vs hvs => ?_) fun _ _ _ _ _ _ q => q⟩
  match ds, q1 with
  | [d1, d2], q1 =>
    obtain ⟨v, vr, rfl, h1, h2⟩ := hvs.of_cons
    obtain ⟨u, vr, rfl, h3, h4⟩ := h2.of_cons
    rw [h4.of_nil]
    exact ⟨v, u, rfl, q1 _ H1 ρ1 .refl hr1 (((he.ext x1).set h1).set h3)⟩
/-- o[i] = e, o a list of the store -/
def putL (o i d : D) (S : Sto) : Option Sto := match o, i with
  | .ref n, .int k => match S[n]? with
    | some (.lst xs) => (ixN xs.length k).map fun j => S.set n (.lst (xs.set j d))
    | _ => none
  | _, _ => none
def sPut (fo fi fe : FE) : FS := fun σ S => RS.of (fe σ S) σ fun d S1 => RS.of (fo σ S1) σ fun o S2 => RS.of (fi σ S2) σ fun i S3 => match putL o i d S3 with
  | some S4 => .nx σ S4
  | none => .stuck
theorem ds_put {fo fi : FE} {o i : Expr} {p : Pos} (ha : DE X W e f) (ho : DE X W o fo) (hi : DE X W i fi)
    (hs : swapsWithSole [.Subscript o i p] e pos.line X.env = pure false := by rfl) (hw : swappedStores [.Subscript o i p] e X.env = pure none := by rfl) (h1 : (assignEach [.Subscript o i p] X.env).map (·.2) = [assign (.Subscript o i p) X.env] := by rfl)
    (hp : ∀ v, assign (.Subscript o i p) X.env v = (do
      let ov ← holding [v] (eval o X.env)
      let iv ← holding [v, ov] (eval i X.env)
      standAt p
      holding [v, ov, iv] (setItem ov iv v)
      release [v, ov, iv] []) := by intro _; rfl) : DS X W (.Assign [.Subscript o i p] e pos) (sPut fo fi f) := by
  refine ⟨PS.imp (ps_asg ha.pe (pg_sub ho.pe hi.pe set_list hp) hs hw h1) fun Z σ H hq => ?_⟩
  obtain ⟨ρ, σd, S, he, hr, q⟩ := hq
  refine ⟨ρ, σd, S, he, hr, PR.imp (PRS.of he q) (fun d S1 H1 ρ1 x1 hr1 q1 v hv => ?_) fun _ _ _ _ _ _ q => q⟩
  refine ⟨ρ1, σd, S1, he.ext x1, hr1, PR.imp (PRS.of (he.ext x1) q1) (fun o S2 H2 ρ2 x2 hr2 q2 u hu => ?_) fun _ _ _ _ _ _ q => q⟩
  refine ⟨ρ2, σd, S2, (he.ext x1).ext x2, hr2, PR.imp (PRS.of ((he.ext x1).ext x2) q2) (fun i S3 H3 ρ3 x3 hr3 q3 w hw => ?_) fun _ _ _ _ _ _ q => q⟩
  have hv3 := (hv.ext x2).ext x3
  have hu3 := hu.ext x3
  have he3 := ((he.ext x1).ext x2).ext x3
  cases e1 : putL o i d S3 with
  | none => simp only [e1] at q3; exact q3.elim
  | some S4 =>
    simp only [e1] at q3
    cases o with
    | ref n =>
      cases i with
      | int k =>
        simp only [putL] at e1
        cases e2 : S3[n]? with
        | none => rw [e2] at e1; cases e1
        | some ob =>
          rw [e2] at e1
          cases ob with
          | ins C fs => cases e1
          | lst xs =>
            obtain ⟨j, e3, rfl⟩ := Option.map_eq_some_iff.mp e1
            unfold RepV at hu3 hw
            obtain ⟨a, rfl, ha3⟩ := hu3
            subst hw
            obtain ⟨vs, h4, r4⟩ := hr3.all n _ a e2 ha3
            refine ⟨a, vs, k, j, rfl, rfl, h4, by rw [r4.length]; exact e3, ?_⟩
            obtain ⟨y1, y2⟩ := hr3.write (List.getElem?_eq_some_iff.mp e2).1 ha3 h4 (r4.set (i := j) hv3)
            exact q3 σ _ ρ3 y1 y2 (he3.ext y1)
      | _ => simp [putL] at e1
    | _ => simp [putL] at e1
/-- name op= e -/
def sAug (i : Nat) (o : D → D → Sto → Option D) (f : FE) : FS := fun σ S => match σ[i]? with
  | some (some d) => RS.of (f σ S) σ fun d2 S1 => match o d d2 S1 with
    | some d3 => .nx (σ.set i (some d3)) S1
    | none => .stuck
  | _ => .stuck
theorem ds_aug (i : Nat) {x : Str} {op : Operator} {ti : TIp} {o : D → D → Sto → Option D} (cx : Ctx X W) (ha : DE X W e f) (hp : PIp X op ti) (ho : OpD X.K ti o) (hi : X.N[i]? = some x := by rfl) (hx : Loc X.env.scope x := by first | exact Or.inl rfl | exact Or.inr rfl)
    (hf : X.fn x = true ∨ X.env.scope.names.lookup x = some .local := by first | exact .inl rfl | exact .inr rfl | assumption) : DS X W (.AugAssign (.Name x pos') op e pos) (sAug i o f) := by
  refine ⟨PS.imp (ps_aug cx.nd hi hx ha.pe hp hf) fun Z σ H hq => ?_⟩
  obtain ⟨ρ, σd, S, he, hr, q⟩ := hq
  unfold sAug at q
  cases e0 : σd[i]? with
  | none => rw [e0] at q; exact q.elim
  | some od =>
    cases od with
    | none => rw [e0] at q; exact q.elim
    | some d =>
      simp only [e0] at q
      obtain ⟨v, h1, h2⟩ := he.2 i d e0
      refine ⟨v, h1, ρ, σd, S, he, hr, PR.imp (PRS.of he q) (fun d2 S1 H1 ρ1 x1 hr1 q1 u hu => ?_) fun _ _ _ _ _ _ q => q⟩
      cases e1 : o d d2 S1 with
      | none => simp only [e1] at q1; exact q1.elim
      | some d3 =>
        simp only [e1] at q1
        exact ho hr1 (h2.ext x1) hu e1 fun w H' x3 hr3 hw => q1 _ H' ρ1 x3 hr3 (((he.ext x1).ext x3).set hw)
theorem opD_ipI {K : PySem.W.Frag} {g : Int → Int → Int} : OpD K (ipI g) (dI (fun _ _ => true) fun i j => .int (g i j)) := opD_I0
theorem ds_augAdd (i : Nat) {x : Str} (cx : Ctx X W) (ha : DE X W e f) (hi : X.N[i]? = some x := by rfl) (hx : Loc X.env.scope x := by first | exact Or.inl rfl | exact Or.inr rfl)
    (hf : X.fn x = true ∨ X.env.scope.names.lookup x = some .local := by first | exact .inl rfl | exact .inr rfl | assumption) : DS X W (.AugAssign (.Name x pos') .Add e pos) (sAug i (dI (fun _ _ => true) fun i j => .int (i + j)) f) := ds_aug i cx ha ip_add opD_ipI hi hx hf
theorem ds_augSub (i : Nat) {x : Str} (cx : Ctx X W) (ha : DE X W e f) (hi : X.N[i]? = some x := by rfl) (hx : Loc X.env.scope x := by first | exact Or.inl rfl | exact Or.inr rfl)
    (hf : X.fn x = true ∨ X.env.scope.names.lookup x = some .local := by first | exact .inl rfl | exact .inr rfl | assumption) : DS X W (.AugAssign (.Name x pos') .Sub e pos) (sAug i (dI (fun _ _ => true) fun i j => .int (i - j)) f) := ds_aug i cx ha ip_sub opD_ipI hi hx hf

/-! ### what is walked -/
structure Items where
  ds : List D
  w : Option Nat := none
def watchOk (w : Option Nat) (ds : List D) (S : Sto) : Prop := match w with
  | none => True
  | some n => S[n]? = some (.lst ds)
abbrev FI := En → Sto → Res Items
def ItOk (K : PySem.W.Frag) (J : It) (H1 : Hp) (ρ1 : Rho) (it : Items) : Prop := ∀ (i : Nat) (H : Hp) (ρ : Rho) (S : Sto), Ext H1 ρ1 H ρ → HRep K H ρ S → watchOk it.w it.ds S →
  (∀ d, it.ds[i]? = some d → J.go i H ∧ ∀ x H', J.yld i H x H' → Ext H ρ H' ρ ∧ HRep K H' ρ S ∧ RepV K H' ρ d x) ∧ (it.ds.length ≤ i → J.stop i H)
def tI (K : PySem.W.Frag) (W : WX) (fi : FI) : TI := fun σ H R => ∃ ρ σd S, RepE K H ρ σd σ ∧ HRep K H ρ S ∧
  PR K H ρ (fi σd S) (fun it S1 H1 ρ1 => ∀ J, ItOk K J H1 ρ1 it → R J H1) (fun c _ H' _ => W c none σ H')
structure DI (X : Cx) (W : WX) (tg iter : Expr) (fi : FI) : Prop where
  pi : PI X tg iter (tI X.K W fi)
def iSeq (f : FE) : FI := fun σ S => (f σ S).bind fun d S1 => match d with
  | .tup xs => .ok ⟨xs, none⟩ S1
  | .lst xs => .ok ⟨xs, none⟩ S1
  | .frz xs => .ok ⟨xs, none⟩ S1
  | .ref n => match S1[n]? with
    | some (.lst xs) => .ok ⟨xs, some n⟩ S1
    | _ => .stuck
  | _ => .stuck
theorem itl_ok {K : PySem.W.Frag} {H1 : Hp} {ρ1 : Rho} {a : Addr} {ds : List D} {w : Option Nat} {vs : List V} (hl : ∀ H ρ S, Ext H1 ρ1 H ρ → HRep K H ρ S → watchOk w ds S → ∃ vs, SqL K H a vs ∧ RepVs K H ρ ds vs) : ItOk K (Itl K a) H1 ρ1 ⟨ds, w⟩ := by
  intro i H ρ S x hr hw
  obtain ⟨vs, h1, r1⟩ := hl H ρ S x hr hw
  refine ⟨fun d hd => ?_, fun hi => ⟨vs, h1, by rw [r1.length]; exact hi⟩⟩
  obtain ⟨v, h2, r2⟩ := r1.get hd
  refine ⟨⟨vs, v, h1, h2⟩, fun y H' ⟨e, hy⟩ => ?_⟩
  subst e
  have := hy vs h1
  rw [h2] at this
  cases this
  exact ⟨.refl, hr, r2⟩
theorem itt_ok {K : PySem.W.Frag} {H1 : Hp} {ρ1 : Rho} {a : Addr} {ds : List D} {vs : List V} (ht : TAt K H1 ρ1 a vs) (r : RepVs K H1 ρ1 ds vs) : ItOk K (Itt K a) H1 ρ1 ⟨ds, none⟩ := by
  intro i H ρ S x hr hw
  have h1 := (x.tat ht).sq
  have r1 := r.ext x
  refine ⟨fun d hd => ?_, fun hi => ⟨vs, h1, by rw [r1.length]; exact hi⟩⟩
  obtain ⟨v, h2, r2⟩ := r1.get hd
  refine ⟨⟨vs, v, h1, h2⟩, fun y H' ⟨e, hy⟩ => ?_⟩
  subst e
  have := hy vs h1
  rw [h2] at this
  cases this
  exact ⟨.refl, hr, r2⟩
theorem di_seq (ha : DE X W e f) : DI X W tg e (iSeq f) := by
  refine ⟨PI.imp (PI.or (pi_list ha.pe) (pi_tup ha.pe)) fun σ H R hq => ?_⟩
  obtain ⟨ρ, σd, S, he, hr, q⟩ := hq
  have q' := PR.bind q
  cases e1 : f σd S with
  | stuck => rw [e1] at q'; exact q'.elim
  | raise c S1 => rw [e1] at q'; exact .inl ⟨ρ, σd, S, he, hr, by rw [e1]; exact q'⟩
  | ok d S1 =>
    rw [e1] at q'
    cases d with
    | tup xs =>
      refine .inr ⟨ρ, σd, S, he, hr, ?_⟩
      rw [e1]
      intro H' ρ' x hr' v hv
      obtain ⟨a, vs, rfl, h1, t1, r1⟩ := tup_rep hv
      exact ⟨a, rfl, ⟨vs, h1⟩, q' H' ρ' x hr' H' ρ' .refl hr' _ (itt_ok t1 r1)⟩
    | lst xs =>
      refine .inl ⟨ρ, σd, S, he, hr, ?_⟩
      rw [e1]
      intro H' ρ' x hr' v hv
      have hv' := hv
      unfold RepV at hv
      obtain ⟨a, vs, rfl, h1, r1⟩ := hv
      exact ⟨a, rfl, ⟨vs, .of h1.2⟩, q' H' ρ' x hr' H' ρ' .refl hr' _ (itl_ok (vs := vs) fun H ρ S x hr _ => ⟨vs, .of (x.oat h1).2, r1.ext x⟩)⟩
    | frz xs =>
      refine .inl ⟨ρ, σd, S, he, hr, ?_⟩
      rw [e1]
      intro H' ρ' x hr' v hv
      unfold RepV at hv
      obtain ⟨a, vs, rfl, h1, r1⟩ := hv
      exact ⟨a, rfl, ⟨vs, h1.sq⟩, q' H' ρ' x hr' H' ρ' .refl hr' _ (itl_ok (vs := vs) fun H ρ S x hr _ => ⟨vs, (x.lat h1).sq, r1.ext x⟩)⟩
    | ref n =>
      refine .inl ⟨ρ, σd, S, he, hr, ?_⟩
      rw [e1]
      intro H' ρ' x hr' v hv
      unfold RepV at hv
      obtain ⟨a, rfl, h1⟩ := hv
      have q2 := q' H' ρ' x hr'
      simp only at q2
      cases e2 : S1[n]? with
      | none => rw [e2] at q2; exact q2.elim
      | some o =>
        rw [e2] at q2
        cases o with
        | ins C fs => exact q2.elim
        | lst xs =>
          obtain ⟨vs, h3, r3⟩ := hr'.all n _ a e2 h1
          refine ⟨a, rfl, ⟨vs, .of h3⟩, q2 H' ρ' .refl hr' _ (itl_ok (vs := vs) fun H ρ S x hr hw => ?_)⟩
          obtain ⟨e', re, _⟩ := x.pre
          have hn : ρ.l[n]? = some a := by
            rw [re, List.getElem?_append_left (List.getElem?_eq_some_iff.mp h1).1]
            exact h1
          obtain ⟨ws, h4, r4⟩ := hr.all n _ a hw hn
          exact ⟨ws, .of h4, r4⟩
    | _ =>
      refine .inl ⟨ρ, σd, S, he, hr, ?_⟩
      rw [e1]
      intro H' ρ' x hr' v hv
      exact (q' H' ρ' x hr').elim
/-- range(n), range(a, b): the ints -/
def rgD (a b : Int) : List D := (List.range (b - a).toNat).map fun i => .int (a + (i : Nat))
def in62 (i : Int) : Bool := decide (-(4611686018427387904) ≤ i) && decide (i < 4611686018427387904)
theorem in62_ok {i : Int} (h : in62 i = true) : -(2 ^ 62) ≤ i ∧ i < 2 ^ 62 := by
  unfold in62 at h
  simp only [Bool.and_eq_true, decide_eq_true_eq] at h
  constructor <;> omega
theorem itr_ok {K : PySem.W.Frag} {H1 : Hp} {ρ1 : Rho} {a b : Int} : ItOk K (Itr a (b - a).toNat) H1 ρ1 ⟨rgD a b, none⟩ := by
  intro i H ρ S x hr hw
  unfold rgD
  refine ⟨fun d hd => ?_, fun hi => ?_⟩
  · rw [List.getElem?_map] at hd
    by_cases c : i < (b - a).toNat
    · rw [List.getElem?_range c] at hd
      cases hd
      refine ⟨c, fun y H' ⟨e, hy⟩ => ?_⟩
      subst e
      subst hy
      exact ⟨.refl, hr, by unfold RepV; rfl⟩
    · rw [List.getElem?_eq_none (by simpa using c)] at hd
      cases hd
  · simp only [List.length_map, List.length_range] at hi
    exact hi
def iRg1 (fs : FA) : FI := fun σ S => (fs σ S).bind fun ds S1 => match ds with
  | [.int n] => if in62 n = true then .ok ⟨rgD 0 n, none⟩ S1 else .stuck
  | _ => .stuck
def iRg2 (fs : FA) : FI := fun σ S => (fs σ S).bind fun ds S1 => match ds with
  | [.int m, .int n] => if in62 m = true ∧ in62 n = true then .ok ⟨rgD m n, none⟩ S1 else .stuck
  | _ => .stuck
theorem di_range1 {fs : FA} {p : Pos} (hm : X.mg "range" = none) (ha : DA X W [a] fs) (hg : Gl X "range" := by rfl) (hs : starEach [a] X.env = [(false, eval a X.env)] := by rfl) : DI X W tg (.Call (.Name "range" p) [a] [] pos) (iRg1 fs) := by
  refine ⟨PI.imp (pi_range1 hg hm ha.pa hs) fun σ H R hq => ?_⟩
  obtain ⟨ρ, σd, S, he, hr, q⟩ := hq
  refine ⟨ρ, σd, S, he, hr, PR.imp (PR.bind q) (fun ds S1 H1 ρ1 x1 hr1 q1 vs hvs => ?_) fun _ _ _ _ _ _ q => q⟩
  match ds, q1 with
  | [.int n], q1 =>
    obtain ⟨v, vr, rfl, h1, h2⟩ := hvs.of_cons
    rw [h2.of_nil]
    unfold RepV at h1
    simp only at q1
    split at q1
    · rename_i c
      obtain ⟨c1, c2⟩ := in62_ok c
      refine ⟨n, by rw [h1], c1, c2, q1 H1 ρ1 .refl hr1 _ ?_⟩
      have := itr_ok (K := X.K) (H1 := H1) (ρ1 := ρ1) (a := 0) (b := n)
      rw [Int.sub_zero] at this
      exact this
    · exact q1.elim
theorem di_range2 {fs : FA} {p : Pos} (hm : X.mg "range" = none) (ha : DA X W [a, b] fs) (hg : Gl X "range" := by rfl) (hs : starEach [a, b] X.env = [(false, eval a X.env), (false, eval b X.env)] := by rfl) (hs2 : starEach [b] X.env = [(false, eval b X.env)] := by rfl) : DI X W tg (.Call (.Name "range" p) [a, b] [] pos) (iRg2 fs) := by
  refine ⟨PI.imp (pi_range2 hg hm ha.pa hs hs2) fun σ H R hq => ?_⟩
  obtain ⟨ρ, σd, S, he, hr, q⟩ := hq
  refine ⟨ρ, σd, S, he, hr, PR.imp (PR.bind q) (fun ds S1 H1 ρ1 x1 hr1 q1 vs hvs => ?_) fun _ _ _ _ _ _ q => q⟩
  match ds, q1 with
  | [.int m, .int n], q1 =>
    simp only at q1
    split at q1
    · rename_i c
      obtain ⟨c1, c2⟩ := in62_ok c.1
      obtain ⟨c3, c4⟩ := in62_ok c.2
      exact ⟨m, n, two_ints hvs, ⟨c1, c2, c3, c4⟩, q1 H1 ρ1 .refl hr1 _ itr_ok⟩
    · exact q1.elim
/-- zip of two lists or two tuples; enumerate of a list -/
def zipD : List D → List D → List D
  | x :: xs, y :: ys => .tup [x, y] :: zipD xs ys
  | _, _ => []
theorem zipD_get : ∀ {xs ys : List D} {i : Nat} {d : D}, (zipD xs ys)[i]? = some d → ∃ x y, xs[i]? = some x ∧ ys[i]? = some y ∧ d = .tup [x, y]
  | [], ys, i, d, h => by simp [zipD] at h
  | x :: xs, [], i, d, h => by simp [zipD] at h
  | x :: xs, y :: ys, 0, d, h => by simp [zipD] at h; exact ⟨x, y, rfl, rfl, h.symm⟩
  | x :: xs, y :: ys, i + 1, d, h => by
    obtain ⟨x', y', h1, h2, h3⟩ := zipD_get (i := i) (xs := xs) (ys := ys) (d := d) (by simpa [zipD] using h)
    exact ⟨x', y', by simpa using h1, by simpa using h2, h3⟩
theorem zipD_len : ∀ {xs ys : List D} {i : Nat}, (zipD xs ys).length ≤ i → xs.length ≤ i ∨ ys.length ≤ i
  | [], ys, i, h => .inl (Nat.zero_le _)
  | x :: xs, [], i, h => .inr (Nat.zero_le _)
  | x :: xs, y :: ys, 0, h => by simp [zipD] at h
  | x :: xs, y :: ys, i + 1, h => by
    have := zipD_len (xs := xs) (ys := ys) (i := i) (by simpa [zipD] using h)
    simpa using this
def zipItems (x y : D) : Option (List D) := match x, y with
  | .tup xs, .tup ys => some (zipD xs ys)
  | .lst xs, .lst ys => some (zipD xs ys)
  | .frz xs, .lst ys => some (zipD xs ys)
  | .lst xs, .frz ys => some (zipD xs ys)
  | _, _ => none
def iZp (fs : FA) : FI := fun σ S => (fs σ S).bind fun ds S1 => match ds with
  | [x, y] => (ofO (zipItems x y) S1).bind fun l S2 => .ok ⟨l, none⟩ S2
  | _ => .stuck
theorem zipT_ok {K : PySem.W.Frag} {H1 : Hp} {ρ1 : Rho} {a b : Addr} {xs ys : List D} {vs ws : List V} (ta : TAt K H1 ρ1 a vs) (tb : TAt K H1 ρ1 b ws) (ra : RepVs K H1 ρ1 xs vs) (rb : RepVs K H1 ρ1 ys ws) : ItOk K (RZ.ItzT K a b) H1 ρ1 ⟨zipD xs ys, none⟩ := by
  intro i H ρ S x hr hw
  have h1 := (x.tat ta).sq
  have h2 := (x.tat tb).sq
  have r1 := ra.ext x
  have r2 := rb.ext x
  refine ⟨fun d hd => ?_, fun hi => ⟨vs, ws, h1, h2, by rw [r1.length, r2.length]; exact zipD_len hi⟩⟩
  obtain ⟨p, q, e1, e2, rfl⟩ := zipD_get hd
  obtain ⟨v, g1, s1⟩ := r1.get e1
  obtain ⟨u, g2, s2⟩ := r2.get e2
  refine ⟨⟨vs, ws, v, u, h1, h2, g1, g2⟩, fun y H' ⟨T, x', y', e3, hT, e4, hx, hy⟩ => ?_⟩
  subst e3 e4
  have k1 := hx vs h1
  have k2 := hy ws h2
  rw [g1] at k1
  rw [g2] at k2
  cases k1
  cases k2
  exact new_tup hr hT (.cons s1 (.cons s2 .nil))
theorem zipL_ok {K : PySem.W.Frag} {H1 : Hp} {ρ1 : Rho} {a b : Addr} {xs ys : List D} {vs ws : List V} (ta : ∀ H ρ, Ext H1 ρ1 H ρ → SqL K H a vs) (tb : ∀ H ρ, Ext H1 ρ1 H ρ → SqL K H b ws) (ra : RepVs K H1 ρ1 xs vs) (rb : RepVs K H1 ρ1 ys ws) : ItOk K (Itz K a b) H1 ρ1 ⟨zipD xs ys, none⟩ := by
  intro i H ρ S x hr hw
  have h1 := ta H ρ x
  have h2 := tb H ρ x
  have r1 := ra.ext x
  have r2 := rb.ext x
  refine ⟨fun d hd => ?_, fun hi => ⟨vs, ws, h1, h2, by rw [r1.length, r2.length]; exact zipD_len hi⟩⟩
  obtain ⟨p, q, e1, e2, rfl⟩ := zipD_get hd
  obtain ⟨v, g1, s1⟩ := r1.get e1
  obtain ⟨u, g2, s2⟩ := r2.get e2
  refine ⟨⟨vs, ws, v, u, h1, h2, g1, g2⟩, fun y H' ⟨T, x', y', e3, hT, e4, hx, hy⟩ => ?_⟩
  subst e3 e4
  have k1 := hx vs h1
  have k2 := hy ws h2
  rw [g1] at k1
  rw [g2] at k2
  cases k1
  cases k2
  exact new_tup hr hT (.cons s1 (.cons s2 .nil))
def stayL : D → Option (List D)
  | .lst xs => some xs
  | .frz xs => some xs
  | _ => none
theorem stayL_rep {K : PySem.W.Frag} {H : Hp} {ρ : Rho} {d : D} {v : V} {xs : List D} (h : RepV K H ρ d v) (e : stayL d = some xs) : ∃ a vs, v = .ref a ∧ (∀ H' ρ', Ext H ρ H' ρ' → SqL K H' a vs) ∧ RepVs K H ρ xs vs := by
  cases d with
  | lst ys =>
    cases e
    unfold RepV at h
    obtain ⟨a, vs, rfl, ha, hs⟩ := h
    exact ⟨a, vs, rfl, fun H' ρ' x => .of (x.oat ha).2, hs⟩
  | frz ys =>
    cases e
    unfold RepV at h
    obtain ⟨a, vs, rfl, ha, hs⟩ := h
    exact ⟨a, vs, rfl, fun H' ρ' x => (x.lat ha).sq, hs⟩
  | _ => cases e
theorem di_zip {fs : FA} {p tpos : Pos} {elts : List Expr} {kk : Nat} (hm : X.mg "zip" = none) (ha : DA X W [a, b] fs) (hg : Gl X "zip" := by rfl)
    (hs : starEach [a, b] X.env = (false, eval a X.env) :: starEach [b] X.env := by rfl) (hpl : (backTo pos (starEach [b] X.env)).any (·.1) = false := by rfl) : DI X W (.Tuple elts kk tpos) (.Call (.Name "zip" p) [a, b] [] pos) (iZp fs) := by
  refine ⟨PI.imp (RZ.pi_zipA hg hm ha.pa hs hpl) fun σ H R hq => ?_⟩
  obtain ⟨ρ, σd, S, he, hr, q⟩ := hq
  refine ⟨ρ, σd, S, he, hr, PR.imp (PR.bind q) (fun ds S1 H1 ρ1 x1 hr1 q1 vs hvs => ?_) fun _ _ _ _ _ _ q => q⟩
  match ds, q1 with
  | [x, y], q1 =>
    obtain ⟨v, vr, rfl, h1, h2⟩ := hvs.of_cons
    obtain ⟨u, vr, rfl, h3, h4⟩ := h2.of_cons
    rw [h4.of_nil]
    have lists : ∀ {xs ys : List D}, stayL x = some xs → stayL y = some ys → zipItems x y = some (zipD xs ys) → ∃ a b xs ys, [v, u] = [V.ref a, V.ref b] ∧ ((SqL X.K H1 a xs ∧ SqL X.K H1 b ys ∧ R (Itz X.K a b) H1) ∨ (SqT X.K H1 a xs ∧ SqT X.K H1 b ys ∧ R (RZ.ItzT X.K a b) H1)) := fun {xs ys} e1 e2 e3 => by
      simp only at q1
      rw [e3] at q1
      obtain ⟨p1, vs, rfl, k1, r1⟩ := stayL_rep h1 e1
      obtain ⟨p2, ws, rfl, k2, r2⟩ := stayL_rep h3 e2
      exact ⟨p1, p2, vs, ws, rfl, .inl ⟨k1 _ _ .refl, k2 _ _ .refl, q1 H1 ρ1 .refl hr1 _ (zipL_ok k1 k2 r1 r2)⟩⟩
    cases x with
    | tup xs =>
      cases y with
      | tup ys =>
        obtain ⟨p1, vs, rfl, _, k1, r1⟩ := tup_rep h1
        obtain ⟨p2, ws, rfl, _, k2, r2⟩ := tup_rep h3
        exact ⟨p1, p2, vs, ws, rfl, .inr ⟨k1.sq, k2.sq, q1 H1 ρ1 .refl hr1 _ (zipT_ok k1 k2 r1 r2)⟩⟩
      | _ => exact q1.elim
    | lst xs =>
      cases y with
      | lst ys => exact lists rfl rfl rfl
      | frz ys => exact lists rfl rfl rfl
      | _ => exact q1.elim
    | frz xs =>
      cases y with
      | lst ys => exact lists rfl rfl rfl
      | _ => exact q1.elim
    | _ => exact q1.elim
end
end DL
end

section
set_option Elab.async false
set_option linter.all false
set_option maxRecDepth 100000
set_option maxHeartbeats 4000000
namespace DL
open PySem PySem.Spec PyProof.Rows L2
open Classical

/-! ### loops -/
/-- one turn's end -/
def RS.turn (r : RS) (k : FS) : RS := match r with
  | .nx σ S => k σ S
  | .ct σ S => k σ S
  | .bk σ S => .nx σ S
  | r => r
@[simp] theorem RS.turn_nx (σ : En) (S : Sto) (k : FS) : (RS.nx σ S).turn k = k σ S := rfl
@[simp] theorem RS.turn_ct (σ : En) (S : Sto) (k : FS) : (RS.ct σ S).turn k = k σ S := rfl
@[simp] theorem RS.turn_bk (σ : En) (S : Sto) (k : FS) : (RS.bk σ S).turn k = .nx σ S := rfl
@[simp] theorem RS.turn_rt (d : D) (S : Sto) (k : FS) : (RS.rt d S).turn k = .rt d S := rfl
@[simp] theorem RS.turn_raise (c : Value) (σ : En) (S : Sto) (k : FS) : (RS.raise c σ S).turn k = .raise c σ S := rfl
noncomputable def loopF (it : Items) (gt : FG) (g : FS) : List D → FS
  | [], σ, S => if watchOk it.w it.ds S then .nx σ S else .stuck
  | d :: r, σ, S => if watchOk it.w it.ds S then (match gt d σ S with
    | some σ1 => (g σ1 S).turn (loopF it gt g r)
    | none => .stuck) else .stuck
noncomputable def sFor (fi : FI) (gt : FG) (g : FS) : FS := fun σ S => RS.of (fi σ S) σ fun it S1 => loopF it gt g it.ds σ S1
section
variable {X : Cx} {W : WX} {tg iter c e : Expr} {body : List Stmt} {fi : FI} {gt : FG} {g : FS} {pos : Pos}
theorem ds_for (cx : Ctx X W) (own : PassesOwn (model X.prog X.w) X.A X.env X.xe) (hi : DI X W tg iter fi) (hg : DG X tg gt) (hb : DSs X W body g) (hs : ∀ x, foldedSetIterable iter X.env x = pure x := by intro _; rfl) : DS X W (.For tg iter body [] pos) (sFor fi gt g) := by
  refine ⟨PS.imp (ps_for own cx.calm hi.pi hg.pg hb.pss hs) fun Z σ H hq => ?_⟩
  obtain ⟨ρ, σd, S, he, hr, q⟩ := hq
  refine ⟨ρ, σd, S, he, hr, PR.imp (PRS.of he q) (fun it S1 H1 ρ1 x1 hr1 q1 => ?_) fun _ _ _ _ _ _ q => q⟩
  intro J hJ
  have he1 := he.ext x1
  refine ⟨fun i m σ H => m = it.ds.length - i ∧ i ≤ it.ds.length ∧ ∃ ρ σd S, Ext H1 ρ1 H ρ ∧ RepE X.K H ρ σd σ ∧ HRep X.K H ρ S ∧ PRS X.K H ρ W Z (loopF it gt g (it.ds.drop i) σd S),
    ⟨it.ds.length, by simp, Nat.zero_le _, ρ1, σd, S1, .refl, he1, hr1, q1⟩, ?_⟩
  rintro i m σ2 H2 ⟨rfl, hi, ρ2, σd2, S2, x2, he2, hr2, q2⟩
  by_cases hlt : i < it.ds.length
  · rw [List.drop_eq_getElem_cons hlt] at q2
    unfold loopF at q2
    by_cases hw : watchOk it.w it.ds S2
    · rw [if_pos hw] at q2
      have hd : it.ds[i]? = some it.ds[i] := List.getElem?_eq_getElem hlt
      obtain ⟨h1, h2⟩ := (hJ i H2 ρ2 S2 x2 hr2 hw).1 _ hd
      refine .inr ⟨h1, fun σ' H' => ∃ ρ σd S, Ext H1 ρ1 H' ρ ∧ RepE X.K H' ρ σd σ' ∧ HRep X.K H' ρ S ∧ PRS X.K H' ρ W Z (loopF it gt g (it.ds.drop (i + 1)) σd S), fun σ' H' n => ⟨it.ds.length - (i + 1), by omega, rfl, hlt, n⟩, fun v H' y => ?_⟩
      obtain ⟨x3, hr3, hv⟩ := h2 v H' y
      cases e1 : gt it.ds[i] σd2 S2 with
      | none => simp only [e1] at q2; exact q2.elim
      | some σ4 =>
        simp only [e1] at q2
        refine ⟨ρ2, σd2, S2, it.ds[i], he2.ext x3, hr3, hv, σ4, e1, fun σ5 he5 => ?_⟩
        refine ⟨ρ2, σ4, S2, he5, hr3, ?_⟩
        have q3 := PRS.ext x3 q2
        cases e6 : g σ4 S2 with
        | nx σ6 S6 =>
          rw [e6] at q3
          exact fun σ7 H7 ρ7 x7 hr7 he7 => ⟨ρ7, σ6, S6, (x2.trans x3).trans x7, he7, hr7, PRS.ext x7 q3⟩
        | ct σ6 S6 =>
          rw [e6] at q3
          exact fun σ7 H7 ρ7 x7 hr7 he7 => ⟨ρ7, σ6, S6, (x2.trans x3).trans x7, he7, hr7, PRS.ext x7 q3⟩
        | bk σ6 S6 => rw [e6] at q3; exact q3
        | rt d S6 => rw [e6] at q3; exact q3
        | raise c σ6 S6 => rw [e6] at q3; exact q3
        | stuck => rw [e6] at q3; exact q3
    · rw [if_neg hw] at q2; exact q2.elim
  · have hi' : i = it.ds.length := by omega
    subst hi'
    rw [List.drop_length] at q2
    unfold loopF at q2
    by_cases hw : watchOk it.w it.ds S2
    · rw [if_pos hw] at q2
      exact .inl ⟨(hJ _ H2 ρ2 S2 x2 hr2 hw).2 (Nat.le_refl _), q2 σ2 H2 ρ2 .refl hr2 he2⟩
    · rw [if_neg hw] at q2; exact q2.elim
/-- while, n turns at most -/
def whileF (t : FT) (g : FS) : Nat → FS
  | 0 => fun _ _ => .stuck
  | n + 1 => fun σ S => RS.of (t σ S) σ fun k S1 => if k = true then (g σ S1).turn (whileF t g n) else .nx σ S1
theorem ds_while {t : FT} (n : Nat) (own : PassesOwn (model X.prog X.w) X.A X.env X.xe) (hc : DT X W c t) (hb : DSs X W body g) : DS X W (.While c body [] pos) (whileF t g n) := by
  refine ⟨PS.imp (ps_while own hc.pt hb.pss) fun Z σ H hq => ?_⟩
  refine ⟨fun m σ H => tS X.K W (whileF t g m) Z σ H, ⟨n, hq⟩, fun m σ H hq => ?_⟩
  obtain ⟨ρ, σd, S, he, hr, q⟩ := hq
  cases m with
  | zero => exact q.elim
  | succ m =>
    refine ⟨ρ, σd, S, he, hr, PR.imp (PRS.of he (show PRS X.K H ρ W Z (RS.of (t σd S) σd fun k S1 => if k = true then (g σd S1).turn (whileF t g m) else .nx σd S1) from q)) (fun k S1 H1 ρ1 x1 hr1 q1 => ?_) fun _ _ _ _ _ _ q => q⟩
    cases k with
    | false => exact q1 σ H1 ρ1 .refl hr1 (he.ext x1)
    | true =>
      refine ⟨tS X.K W (whileF t g m) Z, fun σ' H' h => ⟨m, Nat.lt_succ_self m, h⟩, ρ1, σd, S1, he.ext x1, hr1, ?_⟩
      simp only [if_true] at q1
      cases e6 : g σd S1 with
      | nx σ6 S6 =>
        rw [e6] at q1
        exact fun σ7 H7 ρ7 x7 hr7 he7 => ⟨ρ7, σ6, S6, he7, hr7, PRS.ext x7 q1⟩
      | ct σ6 S6 =>
        rw [e6] at q1
        exact fun σ7 H7 ρ7 x7 hr7 he7 => ⟨ρ7, σ6, S6, he7, hr7, PRS.ext x7 q1⟩
      | bk σ6 S6 => rw [e6] at q1; exact q1
      | rt d S6 => rw [e6] at q1; exact q1
      | raise c σ6 S6 => rw [e6] at q1; exact q1
      | stuck => rw [e6] at q1; exact q1
end

/-! ### comprehensions -/
abbrev W0 : WX := fun _ _ _ _ => False
def wipeD (σ : En) : List Nat → En
  | [] => σ
  | v :: vs => (wipeD σ vs).set v none
theorem wipe_rep {K : PySem.W.Frag} {H : Hp} {ρ : Rho} {σd : En} {σ : L2.St} (h : RepE K H ρ σd σ) : ∀ vs : List Nat, RepE K H ρ (wipeD σd vs) (wipe σ vs)
  | [] => h
  | v :: vs => by
    obtain ⟨h1, h2⟩ := wipe_rep h vs
    refine ⟨by unfold wipe wipeD; simpa using h1, fun i d e => ?_⟩
    unfold wipeD at e
    unfold wipe
    by_cases c : v = i
    · subst c
      by_cases l : v < (wipeD σd vs).length
      · rw [List.getElem?_set_self l] at e; cases e
      · rw [List.getElem?_eq_none (by simpa using l)] at e; cases e
    · rw [List.getElem?_set_ne c] at e ⊢
      exact h2 i d e
/-- what is raised within is not served -/
def _root_.DL.Res.noR {α : Type} (r : Res α) : Res α := match r with
  | .raise _ _ => .stuck
  | r => r
@[simp] theorem Res.noR_ok {α : Type} (a : α) (S : Sto) : (Res.ok a S).noR = .ok a S := rfl
@[simp] theorem Res.noR_raise {α : Type} (c : Value) (S : Sto) : (Res.raise c S : Res α).noR = .stuck := rfl
@[simp] theorem Res.noR_stuck {α : Type} : (Res.stuck : Res α).noR = .stuck := rfl
/-- the turns: the target is bound over the wiped names -/
noncomputable def compF (it : Items) (gt : FG) (t : FT) (f : FE) (σ0 : En) : List D → Sto → List D → Res (List D)
  | [], S, acc => if watchOk it.w it.ds S then .ok acc S else .stuck
  | d :: r, S, acc => if watchOk it.w it.ds S then (match gt d σ0 S with
    | some σ1 => (t σ1 S).noR.bind fun k S1 => if k = true then (f σ1 S1).noR.bind fun x S2 => if acc.length < BIG then compF it gt t f σ0 r S2 (acc ++ [x]) else .stuck else compF it gt t f σ0 r S1 acc
    | none => .stuck) else .stuck
noncomputable def fComp (fi : FI) (gt : FG) (t : FT) (f : FE) (vs : List Nat) : FE := fun σ S => (fi σ S).bind fun it S1 => (compF it gt t f (wipeD σ vs) it.ds S1 []).bind fun ds S2 => .ok (.lst ds) S2
def tYesD : FT := fun _ S => .ok true S
structure DTs (X : Cx) (W : WX) (ifs : List Expr) (f : FT) : Prop where
  pts : PTs X ifs (tT X.K W f)
theorem PTs.imp {X : Cx} {e : List Expr} {t t' : TT} (h : PTs X e t) (hi : ∀ σ H Q, t' σ H Q → t σ H Q) : PTs X e t' := ⟨fun pins s σ H Q I q => h.run pins s σ H Q I (hi σ H Q q)⟩
theorem dts_nil {X : Cx} {W : WX} : DTs X W [] tYesD := by
  refine ⟨PTs.imp pts_nil fun σ H Q hq => ?_⟩
  obtain ⟨ρ, σd, S, he, hr, q⟩ := hq
  exact q H ρ .refl hr
theorem dts_one {X : Cx} {W : WX} {c : Expr} {t : FT} (h : DT X W c t) : DTs X W [c] t := ⟨pts_one h.pt⟩
theorem wipe_len (σ : L2.St) (vs : List Nat) : (wipe σ vs).length = σ.length := wipe_length σ vs
theorem wipe_get {σ : L2.St} {i : Nat} : ∀ {vs : List Nat}, (wipe σ vs)[i]? = if i ∈ vs ∧ i < σ.length then some none else σ[i]?
  | [] => by simp [wipe]
  | v :: vs => by
    unfold wipe
    by_cases c : v = i
    · subst c
      by_cases l : v < σ.length
      · rw [List.getElem?_set_self (by rw [wipe_length]; exact l)]
        simp [l]
      · rw [List.getElem?_eq_none (by simp [wipe_length]; omega), if_neg (by simp [l]), List.getElem?_eq_none (by omega)]
    · rw [List.getElem?_set_ne c, wipe_get]
      have : (i ∈ v :: vs) = (i ∈ vs) := by simp [Ne.symm c]
      simp only [this]
theorem wipe_set {σ : L2.St} {i : Nat} {o : Option V} {vs : List Nat} (h : i ∈ vs) : wipe (σ.set i o) vs = wipe σ vs := by
  apply List.ext_getElem?
  intro j
  rw [wipe_get, wipe_get]
  by_cases c : i = j
  · subst c
    by_cases l : i < σ.length
    · simp [h, l]
    · rw [List.getElem?_eq_none (by simpa using l), List.getElem?_eq_none (by omega)]
      simp [l]
  · rw [List.getElem?_set_ne c]
    simp
theorem wipe_wipe {σ : L2.St} {vs : List Nat} : wipe (wipe σ vs) vs = wipe σ vs := by
  apply List.ext_getElem?
  intro j
  rw [wipe_get, wipe_get, wipe_length]
  by_cases c : j ∈ vs ∧ j < σ.length
  · simp [c]
  · simp [c]
/-- targets that change the names vs alone -/
def tGo (K : PySem.W.Frag) (vs : List Nat) (gt : FG) : TG := fun v σ H Q => ∃ ρ σd S d, RepE K H ρ σd σ ∧ HRep K H ρ S ∧ RepV K H ρ d v ∧ ∃ σd', gt d σd S = some σd' ∧ ∀ σ', RepE K H ρ σd' σ' → wipe σ' vs = wipe σ vs → Q σ' H
structure DGo (X : Cx) (vs : List Nat) (tg : Expr) (gt : FG) : Prop where
  pg : PG X tg (tGo X.K vs gt)
def tGso (K : PySem.W.Frag) (ws : List Nat) (gt : FGs) : TGs := fun vs σ H Q => ∃ ρ σd S ds, RepE K H ρ σd σ ∧ HRep K H ρ S ∧ RepVs K H ρ ds vs ∧ ∃ σd', gt ds σd S = some σd' ∧ ∀ σ', RepE K H ρ σd' σ' → wipe σ' ws = wipe σ ws → Q σ' H
structure DGso (X : Cx) (ws : List Nat) (tg : List Expr) (gt : FGs) : Prop where
  pgs : PGs X tg (tGso X.K ws gt)
section
variable {X : Cx} {tg e : Expr} {es : List Expr} {gt : FG} {gs : FGs} {vs : List Nat} {pos : Pos}
theorem dgo_name (i : Nat) {x : Str} (hN : X.N.Nodup) (hiv : i ∈ vs := by decide) (hi : X.N[i]? = some x := by rfl) (hx : Loc X.env.scope x := by first | exact Or.inl rfl | exact Or.inr rfl) (hf : X.fn x = true ∨ X.env.scope.names.lookup x = some .local := by first | exact .inl rfl | exact .inr rfl | assumption) : DGo X vs (.Name x pos) (gNm i) := by
  refine ⟨PG.imp (pg_name hN hi hx hf) fun v σ H Q hq => ?_⟩
  obtain ⟨ρ, σd, S, d, he, hr, hv, σd', e1, q⟩ := hq
  cases e1
  exact q _ (he.set hv) (wipe_set hiv)
theorem dgso_nil : DGso X vs [] gsNil := by
  refine ⟨PGs.imp pgs_nil fun ws σ H Q hq => ?_⟩
  obtain ⟨ρ, σd, S, ds, he, hr, hv, σd', e1, q⟩ := hq
  cases ds with
  | nil => cases e1; exact ⟨hv.of_nil, q σ he rfl⟩
  | cons d ds => cases e1
theorem dgso_cons (h1 : DGo X vs e gt) (h2 : DGso X vs es gs) (hs : (assignEach (e :: es) X.env).map (·.2) = assign e X.env :: (assignEach es X.env).map (·.2) := by rfl) : DGso X vs (e :: es) (gsCons gt gs) := by
  refine ⟨PGs.imp (pgs_cons h1.pg h2.pgs hs) fun ws σ H Q hq => ?_⟩
  obtain ⟨ρ, σd, S, ds, he, hr, hv, σd', e1, q⟩ := hq
  cases ds with
  | nil => cases e1
  | cons d ds =>
    obtain ⟨v, vr, rfl, h3, h4⟩ := hv.of_cons
    obtain ⟨σ1, e2, e3⟩ := Option.bind_eq_some_iff.mp e1
    exact ⟨v, vr, rfl, ρ, σd, S, d, he, hr, h3, σ1, e2, fun σ' he' w' => ⟨ρ, σ1, S, ds, he', hr, h4, σd', e3, fun σ2 he2 w2 => q σ2 he2 (w2.trans w')⟩⟩
theorem dgo_tup {k n : Nat} (hc : X.calm = true) (h1 : DGso X vs es gs) (hn : (assignEach es X.env).length = n := by rfl) (hst : (assignEach es X.env).findIdx? (·.1) = none := by rfl) : DGo X vs (.Tuple es k pos) (gTp n gs) := by
  refine ⟨PG.imp (PG.or (pg_tup hc h1.pgs hn hst) (pg_lst hc h1.pgs hn hst)) fun v σ H Q hq => ?_⟩
  obtain ⟨ρ, σd, S, d, he, hr, hv, σd', e1, q⟩ := hq
  have go : ((anyL d S).bind fun xs => if xs.length = n then gs xs σd S else none) = some σd' → gLst X.K n (tGso X.K vs gs) v σ H Q := fun e1 => by
    obtain ⟨xs, e2, e3⟩ := Option.bind_eq_some_iff.mp e1
    obtain ⟨a, vs, rfl, h1, r1⟩ := anyL_rep hr hv e2
    split at e3
    · rename_i c
      exact ⟨a, vs, rfl, h1, r1.length.trans c, ρ, σd, S, xs, he, hr, r1, σd', e3, q⟩
    · cases e3
  cases d with
  | tup xs =>
    obtain ⟨a, vs, rfl, h1, _, r1⟩ := tup_rep hv
    simp only [gTp] at e1
    split at e1
    · rename_i c
      exact .inl ⟨a, vs, rfl, h1, r1.length.trans c, ρ, σd, S, xs, he, hr, r1, σd', e1, q⟩
    · cases e1
  | _ => exact .inr (go e1)
end
section
variable {X : Cx} {W : WX} {elt tg iter : Expr} {ifs : List Expr} {fi : FI} {gt : FG} {t : FT} {f : FE} {pos : Pos} {scope : Scope} {own : List (Str × Nat)} {vs : List Nat}
/-- the reading of a comprehension -/
theorem lc_imp {σ : L2.St} {H : Hp} {Q : VK} (hq : tE X.K W (fComp fi gt t f vs) σ H Q) : tLc (tI X.K W fi) (tGo X.K vs gt) (tT X.K W0 t) (tE X.K W0 f) vs σ H Q := by
  obtain ⟨ρ, σd, S, he, hr, q⟩ := hq
  refine ⟨ρ, σd, S, he, hr, PR.imp (PR.bind q) (fun it S1 H1 ρ1 x1 hr1 q1 => ?_) fun _ _ _ _ _ _ q => q⟩
  intro J hJ Da hDa
  have xB : Ext H1 ρ1 (upd H1 Da (.lst [])) ⟨ρ1.l, Da :: ρ1.x⟩ := ext_begin hDa
  have hrB : HRep X.K (upd H1 Da (.lst [])) ⟨ρ1.l, Da :: ρ1.x⟩ S1 := hr1.begin hDa
  have heB := (wipe_rep (he.ext x1) vs).ext xB
  -- at turn i: the list so far at Da
  refine ⟨fun i m H => m = it.ds.length - i ∧ i ≤ it.ds.length ∧ ∃ ρ S acc ws, Ext H1 ρ1 H ρ ∧ HRep X.K H ρ S ∧ RepE X.K H ρ (wipeD σd vs) (wipe σ vs) ∧ Da ∈ ρ.x ∧ H Da = some (.lst ws) ∧ RepVs X.K H ρ acc ws ∧
      PR X.K H1 ρ1 ((compF it gt t f (wipeD σd vs) (it.ds.drop i) S acc).bind fun ds S2 => .ok (D.lst ds) S2) (fun d _ H' ρ' => ∀ v, RepV X.K H' ρ' d v → Q v H') (fun c _ H' _ => W c none σ H'),
    ⟨it.ds.length, by simp, Nat.zero_le _, ⟨ρ1.l, Da :: ρ1.x⟩, S1, [], [], xB, hrB, heB, List.mem_cons_self, upd_same, .nil, q1⟩, ?_⟩
  rintro i m H2 ⟨rfl, hi, ρ2, S2, acc, ws, x2, hr2, he2, hD2, hw2, ra2, q2⟩
  by_cases hlt : i < it.ds.length
  · rw [List.drop_eq_getElem_cons hlt] at q2
    unfold compF at q2
    by_cases hw : watchOk it.w it.ds S2
    · rw [if_pos hw] at q2
      have hd : it.ds[i]? = some it.ds[i] := List.getElem?_eq_getElem hlt
      obtain ⟨h1, h2⟩ := (hJ i H2 ρ2 S2 x2 hr2 hw).1 _ hd
      refine .inr ⟨h1, fun H => ∃ ρ S acc ws, Ext H1 ρ1 H ρ ∧ HRep X.K H ρ S ∧ RepE X.K H ρ (wipeD σd vs) (wipe σ vs) ∧ Da ∈ ρ.x ∧ H Da = some (.lst ws) ∧ RepVs X.K H ρ acc ws ∧
        PR X.K H1 ρ1 ((compF it gt t f (wipeD σd vs) (it.ds.drop (i + 1)) S acc).bind fun ds S2 => .ok (D.lst ds) S2) (fun d _ H' ρ' => ∀ v, RepV X.K H' ρ' d v → Q v H') (fun c _ H' _ => W c none σ H'),
        fun H' n => ⟨it.ds.length - (i + 1), by omega, rfl, hlt, n⟩, fun v H3 y => ?_⟩
      obtain ⟨x3, hr3, hv⟩ := h2 v H3 y
      cases e1 : gt it.ds[i] (wipeD σd vs) S2 with
      | none => simp only [e1] at q2; exact q2.elim
      | some σ4 =>
        simp only [e1] at q2
        have stayD : ∀ {Ha Hb : Hp} {ρa ρb : Rho} {Sa : Sto}, Ext Ha ρa Hb ρb → HRep X.K Ha ρa Sa → Da ∈ ρa.x → Da ∈ ρb.x ∧ ∀ w, Ha Da = some w → Hb Da = some w := fun {Ha Hb ρa ρb Sa} x h hm => by
          obtain ⟨y, r, _⟩ := x.more
          exact ⟨by rw [r]; exact List.mem_append_right _ hm, fun w hw => x.keep Da w hw (h.ex Da hm).1⟩
        obtain ⟨hD3, hk3⟩ := stayD x3 hr2 hD2
        refine ⟨ρ2, wipeD σd vs, S2, it.ds[i], he2.ext x3, hr3, hv, σ4, e1, fun σ5 he5 w5 => ⟨w5.trans wipe_wipe, ?_⟩⟩
        refine ⟨ρ2, σ4, S2, he5, hr3, ?_⟩
        -- the test
        cases e6 : t σ4 S2 with
        | stuck => rw [e6] at q2; exact q2.elim
        | raise c S6 => rw [e6] at q2; exact q2.elim
        | ok k S6 =>
          rw [e6] at q2
          intro H6 ρ6 x6 hr6
          have x26 := x3.trans x6
          obtain ⟨hD6, hk6⟩ := stayD x6 hr3 hD3
          cases k with
          | false =>
            simp only [Res.noR_ok, Res.bind_ok, Bool.false_eq_true, if_false] at q2
            simp only [Bool.false_eq_true, if_false]
            exact ⟨ρ6, S6, acc, ws, x2.trans x26, hr6, he2.ext x26, hD6, hk6 _ (hk3 _ hw2), ra2.ext x26, q2⟩
          | true =>
            simp only [Res.noR_ok, Res.bind_ok, if_true] at q2
            simp only [if_true]
            refine ⟨ρ6, σ4, S6, he5.ext x6, hr6, ?_⟩
            cases e7 : f σ4 S6 with
            | stuck => rw [e7] at q2; exact q2.elim
            | raise c S7 => rw [e7] at q2; exact q2.elim
            | ok d7 S7 =>
              rw [e7] at q2
              simp only [Res.noR_ok, Res.bind_ok] at q2
              intro H7 ρ7 x7 hr7 v7 hv7
              have x27 := x26.trans x7
              obtain ⟨hD7, hk7⟩ := stayD x7 hr6 hD6
              have hw7 := hk7 _ (hk6 _ (hk3 _ hw2))
              by_cases c : acc.length < BIG
              · rw [if_pos c] at q2
                have ra7 := ra2.ext x27
                refine ⟨ws, hw7, by rw [ra7.length, ← big_line]; exact c, ?_⟩
                have xm : Ext H1 ρ1 (upd H7 Da (.lst (ws ++ [v7]))) ρ7 := by
                  obtain ⟨z1, z2, z3, z4⟩ := x2.trans x27
                  have nD : ∀ a u, H1 a = some u → a ≠ Da := fun a u e z => by rw [z, hDa] at e; cases e
                  exact ⟨z1, z2, fun a u e hn => by rw [upd_ne (nD a u e)]; exact z3 a u e hn, fun a u e => by rw [upd_ne (nD a u e)]; exact z4 a u e⟩
                refine ⟨ρ7, S7, acc ++ [d7], ws ++ [v7], xm, hr7.made hD7, ?_, hD7, upd_same, (ra7.append (.cons hv7 .nil)).made hD7, q2⟩
                obtain ⟨g1, g2⟩ := he2.ext x27
                exact ⟨g1, fun j d e => let ⟨v, a, b⟩ := g2 j d e; ⟨v, a, b.made hD7⟩⟩
              · rw [if_neg c] at q2; exact q2.elim
    · rw [if_neg hw] at q2; exact q2.elim
  · have hi' : i = it.ds.length := by omega
    subst hi'
    rw [List.drop_length] at q2
    unfold compF at q2
    by_cases hw : watchOk it.w it.ds S2
    · rw [if_pos hw] at q2
      refine .inl ⟨(hJ _ H2 ρ2 S2 x2 hr2 hw).2 (Nat.le_refl _), ?_⟩
      have sub : ∀ b ∈ ρ1.x, b ∈ ρ2.x := fun b hb => by
        obtain ⟨y, r, _⟩ := x2.more
        rw [r]; exact List.mem_append_right _ hb
      have xE : Ext H1 ρ1 H2 ⟨ρ2.l, ρ1.x⟩ := ⟨x2.pre, ⟨[], by simp, by simp⟩, x2.keep, x2.there⟩
      refine q2 H2 ⟨ρ2.l, ρ1.x⟩ xE (hr2.done sub) _ ?_
      unfold RepV
      exact ⟨Da, ws, rfl, ⟨⟨(hr2.ex Da hD2).1, (hr1.out hDa).2⟩, hw2⟩, ra2.done sub⟩
    · rw [if_neg hw] at q2; exact q2.elim
/-- [elt for target in iter if ..] -/
theorem de_comp (cx : Ctx X W) (hi : DI X W tg iter fi) (ok : BlkOk X.N X.env.scope scope own)
    (hg : ∀ (s : Shared) (H : Hp) (C : Addr) (cl : List (Str × Addr)) (fp : List Addr), DGo (X.blk s H scope (compEnvC scope cl C X.env) fp) (own.map (·.2)) tg gt)
    (ht : ∀ (s : Shared) (H : Hp) (C : Addr) (cl : List (Str × Addr)) (fp : List Addr), DTs (X.blk s H scope (compEnvC scope cl C X.env) fp) W0 ifs t)
    (he : ∀ (s : Shared) (H : Hp) (C : Addr) (cl : List (Str × Addr)) (fp : List Addr), DE (X.blk s H scope (compEnvC scope cl C X.env) fp) W0 elt f)
    (hs : ∀ x, foldedSetIterable iter X.env x = pure x := by intro _; rfl) : DE X W (.ListComp elt [⟨tg, iter, ifs, 0⟩] scope pos) (fComp fi gt t f (own.map (·.2))) :=
  ⟨PE.imp (pe_lc (g := tGo X.K (own.map (·.2)) gt) (tt := tT X.K W0 t) (te := tE X.K W0 f) cx.calm cx.nd hi.pi ok (fun s H C cl fp => (hg s H C cl fp).pg) (fun s H C cl fp => (ht s H C cl fp).pts) (fun s H C cl fp => (he s H C cl fp).pe) hs) fun _ _ _ q => lc_imp q⟩
/-- name = [..] -/
theorem ds_setComp (i : Nat) {y : Str} {py spos : Pos} (cx : Ctx X W) (hy : X.N[i]? = some y) (hyl : X.env.scope.names.lookup y = some .local)
    (hsw : swapsWith (.ListComp elt [⟨tg, iter, ifs, 0⟩] scope pos) (some (.Name y py)) spos.line X.env = pure true) (hi : DI X W tg iter fi) (ok : BlkOk X.N X.env.scope scope own)
    (hg : ∀ (s : Shared) (H : Hp) (C : Addr) (cl : List (Str × Addr)) (fp : List Addr), DGo (X.blk s H scope (compEnvC scope cl C X.env) fp) (own.map (·.2)) tg gt)
    (ht : ∀ (s : Shared) (H : Hp) (C : Addr) (cl : List (Str × Addr)) (fp : List Addr), DTs (X.blk s H scope (compEnvC scope cl C X.env) fp) W0 ifs t)
    (he : ∀ (s : Shared) (H : Hp) (C : Addr) (cl : List (Str × Addr)) (fp : List Addr), DE (X.blk s H scope (compEnvC scope cl C X.env) fp) W0 elt f)
    (hs : ∀ x, foldedSetIterable iter X.env x = pure x := by intro _; rfl) : DS X W (.Assign [.Name y py] (.ListComp elt [⟨tg, iter, ifs, 0⟩] scope pos) spos) (sSet i (fComp fi gt t f (own.map (·.2)))) := by
  refine ⟨PS.imp (ps_setLc (g := tGo X.K (own.map (·.2)) gt) (tt := tT X.K W0 t) (te := tE X.K W0 f) cx.calm cx.nd hy hyl hsw hi.pi ok (fun s H C cl fp => (hg s H C cl fp).pg) (fun s H C cl fp => (ht s H C cl fp).pts) (fun s H C cl fp => (he s H C cl fp).pe) hs) fun Z σ H hq => ?_⟩
  obtain ⟨ρ, σd, S, he, hr, q⟩ := hq
  refine lc_imp ⟨ρ, σd, S, he, hr, PR.imp (PRS.of he q) (fun d S1 H1 ρ1 x1 hr1 q1 v hv => q1 _ H1 ρ1 .refl hr1 ((he.ext x1).set hv)) fun _ _ _ _ _ _ q => q⟩
end

/-! ### methods of lists of the store -/
section
variable {X : Cx} {W : WX} {e o : Expr} {es : List Expr} {f g : FE} {fs : FA} {pos apos : Pos}
theorem ref_ty {K : PySem.W.Frag} {H : Hp} {ρ : Rho} {S : Sto} {n : Nat} {xs : List D} {v : V} (hr : HRep K H ρ S) (hv : RepV K H ρ (.ref n) v) (e : lstOf (.ref n) S = some xs) : ∃ a vs, v = .ref a ∧ H a = some (.lst vs) ∧ ρ.l[n]? = some a ∧ S[n]? = some (.lst xs) ∧ RepVs K H ρ xs vs := by
  unfold RepV at hv
  obtain ⟨a, rfl, ha⟩ := hv
  simp only [lstOf] at e
  cases hS : S[n]? with
  | none => rw [hS] at e; cases e
  | some o =>
    rw [hS] at e
    cases o with
    | lst ys =>
      cases e
      obtain ⟨vs, h1, h2⟩ := hr.all n _ a hS ha
      exact ⟨a, vs, rfl, h1, ha, rfl, h2⟩
    | ins C fs => cases e
abbrev FM := List D → List D → Sto → Option (List D × D)
/-- a method of a list, by what it makes of the list's items and the arguments -/
def MtD (K : PySem.W.Frag) (r : V → List V → Hp → VK → Prop) (m : FM) : Prop := ∀ {H : Hp} {ρ : Rho} {S : Sto} {n : Nat} {a : Addr} {xs xs' ys : List D} {vs ws : List V} {d : D} {Q : VK}, HRep K H ρ S → S[n]? = some (.lst xs) → ρ.l[n]? = some a → H a = some (.lst vs) → RepVs K H ρ xs vs → RepVs K H ρ ys ws →
  m xs ys S = some (xs', d) → (∀ v H', Ext H ρ H' ρ → HRep K H' ρ (S.set n (.lst xs')) → RepV K H' ρ d v → Q v H') → r (.ref a) ws H Q
def fM (m : FM) (f : FE) (fs : FA) : FE := fun σ S => (f σ S).bind fun x S1 => match x with
  | .ref n => (ofO (lstOf (.ref n) S1) S1).bind fun _ S1 => (fs σ S1).bind fun ys S2 => (ofO (lstOf (.ref n) S2) S2).bind fun xs S2 => match m xs ys S2 with
    | some (xs', d) => .ok d (S2.set n (.lst xs'))
    | none => .stuck
  | _ => .stuck
theorem de_m {r : V → List V → Hp → VK → Prop} {m : FM} (hm : MtD X.K r m) (hp : PE X e (tBM X.K "list" r (tE X.K W f) (tA X.K W fs))) : DE X W e (fM m f fs) := by
  refine ⟨PE.imp hp fun σ H Q hq => ?_⟩
  obtain ⟨ρ, σd, S, he, hr, q⟩ := hq
  refine ⟨ρ, σd, S, he, hr, PR.imp (PR.bind q) (fun x S1 H1 ρ1 x1 hr1 q1 v hv => ?_) fun _ _ _ _ _ _ q => q⟩
  cases x with
  | ref n =>
    simp only at q1
    cases e1 : lstOf (.ref n) S1 with
    | none => rw [e1] at q1; exact q1.elim
    | some xs0 =>
      rw [e1] at q1
      simp only [ofO_some, Res.bind_ok] at q1
      obtain ⟨a, vs0, rfl, k1, k2, k3, k4⟩ := ref_ty hr1 hv e1
      refine ⟨Or.inl ⟨rfl, _, .of k1⟩, ρ1, σd, S1, he.ext x1, hr1, PR.imp (PR.bind q1) (fun ys S2 H2 ρ2 x2 hr2 q2 ws hws => ?_) fun _ _ _ _ _ _ q => q⟩
      cases e2 : lstOf (.ref n) S2 with
      | none => rw [e2] at q2; exact q2.elim
      | some xs =>
        rw [e2] at q2
        simp only [ofO_some, Res.bind_ok] at q2
        obtain ⟨a', vs, ea, h1, h2, h3, h4⟩ := ref_ty hr2 (hv.ext x2) e2
        cases ea
        cases e3 : m xs ys S2 with
        | none => rw [e3] at q2; exact q2.elim
        | some p =>
          obtain ⟨xs', d⟩ := p
          rw [e3] at q2
          exact hm hr2 h3 h2 h1 h4 hws e3 fun v H' x3 hr3 hv3 => q2 H' ρ2 x3 hr3 v hv3
  | _ => exact q1.elim
/-- a method without arguments -/
theorem de_m0 {r : V → List V → Hp → VK → Prop} {m : FM} (hm : MtD X.K r m) (hp : PE X e (tBM0 X.K "list" r (tE X.K W f))) : DE X W e (fM m f aNil) := by
  refine ⟨PE.imp hp fun σ H Q hq => ?_⟩
  obtain ⟨ρ, σd, S, he, hr, q⟩ := hq
  refine ⟨ρ, σd, S, he, hr, PR.imp (PR.bind q) (fun x S1 H1 ρ1 x1 hr1 q1 v hv => ?_) fun _ _ _ _ _ _ q => q⟩
  cases x with
  | ref n =>
    simp only at q1
    cases e1 : lstOf (.ref n) S1 with
    | none => rw [e1] at q1; exact q1.elim
    | some xs =>
      rw [e1] at q1
      simp only [ofO_some, Res.bind_ok, aNil, e1] at q1
      obtain ⟨a, vs, rfl, h1, h2, h3, h4⟩ := ref_ty hr1 hv e1
      refine ⟨Or.inl ⟨rfl, _, .of h1⟩, ?_⟩
      cases e3 : m xs [] S1 with
      | none => rw [e3] at q1; exact q1.elim
      | some p =>
        obtain ⟨xs', d⟩ := p
        rw [e3] at q1
        exact hm hr1 h3 h2 h1 h4 .nil e3 fun v H' x3 hr3 hv3 => q1 H' ρ1 x3 hr3 v hv3
  | _ => exact q1.elim
def mAppend : FM := fun xs ys _ => match ys with
  | [y] => if xs.length < BIG then some (xs ++ [y], .non) else none
  | _ => none
theorem mtD_append {K : PySem.W.Frag} : MtD K rAppend mAppend := by
  intro H ρ S n a xs xs' ys vs ws d Q hr hS ha hH rx ry e q
  match ys, e with
  | [y], e =>
    simp only [mAppend] at e
    split at e
    · rename_i c
      cases e
      obtain ⟨u, vr, rfl, h1, h2⟩ := ry.of_cons
      rw [h2.of_nil]
      obtain ⟨y1, y2⟩ := hr.write (List.getElem?_eq_some_iff.mp hS).1 ha hH (rx.append (.cons h1 .nil))
      exact ⟨a, vs, u, rfl, rfl, hH, by rw [rx.length, ← big_line]; exact c, q _ _ y1 y2 (by unfold RepV; rfl)⟩
    · cases e
def mExtend : FM := fun xs ys S => match ys with
  | [y] => (lstOf y S).bind fun zs => if xs.length + zs.length ≤ BIG then some (xs ++ zs, .non) else none
  | _ => none
theorem mtD_extend {K : PySem.W.Frag} : MtD K rExtend mExtend := by
  intro H ρ S n a xs xs' ys vs ws d Q hr hS ha hH rx ry e q
  match ys, e with
  | [y], e =>
    simp only [mExtend] at e
    obtain ⟨zs, e1, e⟩ := Option.bind_eq_some_iff.mp e
    split at e
    · rename_i c
      cases e
      obtain ⟨u, vr, rfl, h1, h2⟩ := ry.of_cons
      rw [h2.of_nil]
      obtain ⟨b, us, rfl, h3, h4⟩ := lstOf_rep hr h1 e1
      obtain ⟨y1, y2⟩ := hr.write (List.getElem?_eq_some_iff.mp hS).1 ha hH (rx.append h4)
      exact ⟨a, b, vs, us, rfl, rfl, hH, h3, by rw [rx.length, h4.length, ← big_line]; exact c, q _ _ y1 y2 (by unfold RepV; rfl)⟩
    · cases e
theorem RepVs.dropLast {K : PySem.W.Frag} {H : Hp} {ρ : Rho} {ds : List D} {vs : List V} (h : RepVs K H ρ ds vs) : RepVs K H ρ ds.dropLast vs.dropLast := by
  rw [List.dropLast_eq_take, List.dropLast_eq_take, h.length]
  exact h.take _
def mPop : FM := fun xs ys _ => match ys with
  | [] => (xs[xs.length - 1]?).map fun y => (xs.dropLast, y)
  | _ => none
theorem mtD_pop {K : PySem.W.Frag} : MtD K rPop mPop := by
  intro H ρ S n a xs xs' ys vs ws d Q hr hS ha hH rx ry e q
  match ys, e with
  | [], e =>
    simp only [mPop] at e
    obtain ⟨y, e1, e2⟩ := Option.map_eq_some_iff.mp e
    cases e2
    rw [ry.of_nil]
    obtain ⟨v, h1, h2⟩ := rx.get e1
    obtain ⟨y1, y2⟩ := hr.write (List.getElem?_eq_some_iff.mp hS).1 ha hH rx.dropLast
    exact ⟨a, vs, v, rfl, rfl, hH, by rw [rx.length]; exact h1, q _ _ y1 y2 (h2.ext y1)⟩
end
section
variable {X : Cx} {W : WX} {e o : Expr} {es : List Expr} {f g : FE} {fs : FA} {pos apos : Pos}
theorem de_append (ha : DE X W o f) (hb : DA X W (e :: es) fs) (hbase : attributeBase o "append" X.env (eval o X.env) = eval o X.env := by rfl)
    (hfew : ((backTo pos (starEach (e :: es) X.env)).all (fun x => !x.1) && (backToKw pos (keywordEach [] X.env)).all (fun x => x.1.isSome)
      && decide ((e :: es).length + ([] : List Keyword).length + (if ([] : List Keyword).isEmpty then 0 else 1) < 30)) = true := by rfl)
    (hline : (apos.endLine == pos.line) = true := by rfl) (hs : starEach (e :: es) X.env = (false, eval e X.env) :: starEach es X.env := by rfl) (hpl : (backTo pos (starEach es X.env)).any (·.1) = false := by rfl) :
    DE X W (.Call (.Attribute o "append" apos) (e :: es) [] pos) (fM mAppend f fs) :=
  de_m mtD_append (pe_bm PySem.F.plainAttrs_list PySem.F.slot_list_append PySem.F.type_list_append mt_append ha.pe hb.pa hbase hfew hline hs hpl)
theorem de_extend (ha : DE X W o f) (hb : DA X W (e :: es) fs) (hbase : attributeBase o "extend" X.env (eval o X.env) = eval o X.env := by rfl)
    (hfew : ((backTo pos (starEach (e :: es) X.env)).all (fun x => !x.1) && (backToKw pos (keywordEach [] X.env)).all (fun x => x.1.isSome)
      && decide ((e :: es).length + ([] : List Keyword).length + (if ([] : List Keyword).isEmpty then 0 else 1) < 30)) = true := by rfl)
    (hline : (apos.endLine == pos.line) = true := by rfl) (hs : starEach (e :: es) X.env = (false, eval e X.env) :: starEach es X.env := by rfl) (hpl : (backTo pos (starEach es X.env)).any (·.1) = false := by rfl) :
    DE X W (.Call (.Attribute o "extend" apos) (e :: es) [] pos) (fM mExtend f fs) :=
  de_m mtD_extend (pe_bm PySem.F.plainAttrs_list PySem.F.slot_list_extend PySem.F.type_list_extend mt_extend ha.pe hb.pa hbase hfew hline hs hpl)
theorem de_pop (ha : DE X W o f) (hbase : attributeBase o "pop" X.env (eval o X.env) = eval o X.env := by rfl) (hline : (apos.endLine == pos.line) = true := by rfl) :
    DE X W (.Call (.Attribute o "pop" apos) [] [] pos) (fM mPop f aNil) :=
  de_m0 mtD_pop (pe_bm0 PySem.F.plainAttrs_list PySem.F.slot_list_pop PySem.F.type_list_pop mt_pop ha.pe hbase hline)
end

/-! ### try -/
abbrev HD := Value × FS
/-- what a suite raises is not served -/
def RS.noR (r : RS) : RS := match r with
  | .raise _ _ _ => .stuck
  | r => r
/-- the clauses, by the classes that they name -/
def catchF (m : Value → Value → Option Bool) : List HD → Value → En → Sto → RS
  | [], c, σ, S => .raise c σ S
  | (k, g) :: r, c, σ, S => match m c k with
    | some true => (g σ S).noR
    | some false => catchF m r c σ S
    | none => .stuck
def sTry (m : Value → Value → Option Bool) (g : FS) (l : List HD) : FS := fun σ S => match g σ S with
  | .raise c σ1 S1 => catchF m l c σ1 S1
  | r => r
inductive HdsD (X : Cx) : List ExceptHandler → List HD → Prop
  | nil : HdsD X [] []
  | cons {x : Str} {c : Value} {g : FS} {b₀ : Stmt} {suite : List Stmt} {np pos' : Pos} {hds : List ExceptHandler} {l : List HD} (hc : Names X x c)
      (hsu : ∀ (a : Addr) (oe : Obj) (pn : List (Addr × Obj)), DSs (X.suite a ((a, oe) :: pn)) W0 (b₀ :: suite) g) (r : HdsD X hds l) : HdsD X (.ExceptHandler (some (.Name x np)) none (b₀ :: suite) pos' :: hds) ((c, g) :: l)
def readH (K : PySem.W.Frag) (l : List HD) : List (Value × (Addr → Value → Option Addr → TS)) := l.map fun p => (p.1, fun _ _ _ => tS K W0 p.2)
theorem HdsD.ok {X : Cx} : ∀ {hds : List ExceptHandler} {l : List HD}, HdsD X hds l → HdsOk X hds (readH X.K l)
  | _, _, .nil => .nil
  | _, _, .cons hc hsu r => .cons hc (fun a oe cls d pn _ _ => (hsu a oe pn).pss) r.ok
section
variable {X : Cx} {W : WX} {body : List Stmt} {h₀ : ExceptHandler} {hds : List ExceptHandler} {l : List HD} {g : FS} {pos : Pos}
theorem ds_try (cx : Ctx X W) (hs : X.stack = X.env :: X.outer) (hf : X.env.frame = some X.env.locals)
    (hb : ∀ (W' : WX) (pn : List (Addr × Obj)) (xe : Value → Shared → Prop), Ctx (X.tr pn xe) W' → PassesOwn (model X.prog X.w) X.A X.env xe → DSs (X.tr pn xe) W' body g) (hh : HdsD X (h₀ :: hds) l) :
    DS X W (.Try body (h₀ :: hds) [] [] pos) (sTry (PySem.W.exmOne X.K) g l) := by
  refine ⟨PS.imp (ps_try_many (tb := fun W' => tS X.K W' g) hs hf cx.takes (fun W' pn xe tk ow => (hb W' pn xe ⟨cx.units, cx.calm, cx.guards, tk, cx.nd⟩ ow).pss) hh.ok) fun Z σ H hq => ?_⟩
  obtain ⟨ρ, σd, S, he, hr, q⟩ := hq
  refine ⟨ρ, σd, S, he, hr, ?_⟩
  unfold sTry at q
  cases e1 : g σd S with
  | raise c σ1 S1 =>
    rw [e1] at q
    simp only at q
    intro σ' H' ρ' x hr' he'
    have go : ∀ l : List HD, PRS X.K H' ρ' W Z (catchF (PySem.W.exmOne X.K) l c σ1 S1) → wMany X.K W Z (readH X.K l) c none σ' H' := by
      intro l
      induction l with
      | nil => exact fun q => q σ' H' ρ' .refl hr' he'
      | cons p r ih =>
        intro q
        unfold catchF at q
        cases em : PySem.W.exmOne X.K c p.1 with
        | none => rw [em] at q; exact q.elim
        | some b =>
          rw [em] at q
          refine ⟨b, em, fun eb a ha => ?_, fun eb => ?_⟩
          · subst eb
            refine ⟨ρ', σ1, S1, he', hr', ?_⟩
            have q' : PRS X.K H' ρ' W Z (p.2 σ1 S1).noR := q
            cases e7 : p.2 σ1 S1 with
            | raise c2 σ2 S2 => rw [e7] at q'; exact q'.elim
            | stuck => rw [e7] at q'; exact q'
            | _ => rw [e7] at q'; exact q'
          · subst eb
            exact ih q
    exact go l (PRS.ext x q)
  | _ => rw [e1] at q; exact q
end
end DL
end

section
set_option Elab.async false
set_option linter.all false
set_option maxRecDepth 100000
set_option maxHeartbeats 4000000
namespace DL
open PySem PySem.Spec PyProof.Rows L2

/-! ### a def by its body -/
def startD (N : Nat) (ds : List D) : En := ds.map some ++ List.replicate (N - ds.length) none
/-- what a body hands back -/
def endF (r : RS) : Res D := match r with
  | .nx _ S => .ok .non S
  | .rt d S => .ok d S
  | .raise c _ S => .raise c S
  | _ => .stuck
@[simp] theorem endF_nx (σ : En) (S : Sto) : endF (.nx σ S) = .ok .non S := rfl
@[simp] theorem endF_rt (d : D) (S : Sto) : endF (.rt d S) = .ok d S := rfl
@[simp] theorem endF_raise (c : Value) (σ : En) (S : Sto) : endF (.raise c σ S) = .raise c S := rfl
def runF (N : Nat) (g : FS) : Fn := fun ds S => endF (g (startD N ds) S)
theorem start_rep {K : PySem.W.Frag} {H : Hp} {ρ : Rho} {ds : List D} {vs : List V} {N : List Str} (r : RepVs K H ρ ds vs) : RepE K H ρ (startD N.length ds) (L2.start N vs) := by
  have hl := r.length
  refine ⟨by unfold L2.start startD; simp [hl], fun i d e => ?_⟩
  unfold startD at e
  unfold L2.start
  have hi : i < ds.length := by
    by_cases c : i < ds.length
    · exact c
    · rw [List.getElem?_append_right (by simpa using c), List.getElem?_replicate] at e
      split at e <;> cases e
  rw [List.getElem?_append_left (by simpa using hi), List.getElem?_map] at e
  cases e1 : ds[i]? with
  | none => rw [e1] at e; cases e
  | some d' =>
    rw [e1] at e
    cases e
    obtain ⟨v, h1, h2⟩ := r.get e1
    exact ⟨v, by rw [List.getElem?_append_left (by simp [hl, hi]), List.getElem?_map, h1]; rfl, h2⟩
theorem endF_imp {K : PySem.W.Frag} {H : Hp} {ρ : Rho} {Q : VK} {E : XK} {r : RS} (h : PR K H ρ (endF r) (fun d _ H' ρ' => ∀ v, RepV K H' ρ' d v → Q v H') (fun c _ H' _ => E c none H')) : PRS K H ρ (fun cls d _ H => E cls d H) { nx := fun _ H' => Q .non H', rt := Q } r := by
  cases r with
  | nx σ S => exact fun σ' H' ρ' x hr he => h H' ρ' x hr .non (by unfold RepV; rfl)
  | rt d S => exact fun v H' ρ' x hr hv => h H' ρ' x hr v hv
  | raise c σ S => exact fun σ' H' ρ' x hr he => h H' ρ' x hr
  | bk σ S => exact h.elim
  | ct σ S => exact h.elim
  | stuck => exact h.elim
section
variable {P : Program} {w : World} {K : PySem.W.Frag} {mg : Str → Option Value} {base : Heap}
theorem fn_d {x qual : Str} {st : Stmt} {f : Addr} {fd : FuncData} {N ps : List Str} {k : Nat} {g : FS} (F : L2.Fun K x qual st f fd) (SC : FnScope N ps (defScope st))
    (hb : ∀ (cdv : Value) (A : Around) (outer : List Env) (s : Shared) (H : Hp) (E : XK), Room k (A.deeper (envOfC qual (defScope st) s.heap.objs.size f cdv)) →
      Ctx (cxOf (L2.CX P w) P w K mg base N qual (defScope st) f cdv A outer s H E) (fun cls d _ H => E cls d H) →
      PassesOwn (model P w) (A.deeper (envOfC qual (defScope st) s.heap.objs.size f cdv)) (envOfC qual (defScope st) s.heap.objs.size f cdv) (cxOf (L2.CX P w) P w K mg base N qual (defScope st) f cdv A outer s H E).xe →
      DSs (cxOf (L2.CX P w) P w K mg base N qual (defScope st) f cdv A outer s H E) (fun cls d _ H => E cls d H) (defBody st) g) :
    FnG P w K mg base (k + 1) f fd ps (spD K ps.length (runF N.length g)) := by
  obtain ⟨oc, od, kV, doc, pm, an, cdv, ct, osl, rfl, lk, hcd⟩ := F.ex
  refine fnG_of lk hcd SC (fun vs H Q E h => ?_) fun A outer s H vs Q E hr hgd hsp => ?_
  · obtain ⟨ρ, ds, S, h, _⟩ := h
    exact h
  · have cx : Ctx (cxOf (L2.CX P w) P w K mg base N qual (defScope st) f cdv A outer s H E) (fun cls d _ H => E cls d H) :=
      ⟨by have := hr.un; show (A.deeper (envOfC qual (defScope st) s.heap.objs.size f cdv)).units + 65 < cLine; omega, rfl, hgd, takes_of rfl rfl rfl rfl, SC.nd⟩
    refine ⟨_, (hb cdv A outer s H E hr cx (passes_of rfl)).pss, ?_⟩
    obtain ⟨ρ, ds, S, h1, h2, h3, h4⟩ := hsp
    exact ⟨ρ, startD N.length ds, S, start_rep h2, h3, endF_imp h4⟩
end

/-! ### what a def made is let go: a list that it hands back is not changed any more -/
mutual
/-- no thing of the store from n on -/
def clean (n : Nat) : D → Bool
  | .ref m => decide (m < n)
  | .tup ds => cleans n ds
  | .lst ds => cleans n ds
  | .frz ds => cleans n ds
  | _ => true
def cleans (n : Nat) : List D → Bool
  | [] => true
  | d :: ds => clean n d && cleans n ds
end
def cleanO (n : Nat) : SO → Bool
  | .lst ds => cleans n ds
  | .ins _ fs => cleans n (fs.map (·.2))
def cleanS (n : Nat) (S : Sto) : Bool := S.all (cleanO n)
/-- what is handed back -/
def letGo (n : Nat) (d : D) (S : Sto) : Option D := match d with
  | .ref m => if m < n then some (.ref m) else match S[m]? with
    | some (.lst ds) => if cleans n ds = true then some (.lst ds) else none
    | _ => none
  | d => if clean n d = true then some d else none
def frz (F : Fn) : Fn := fun ds S => match F ds S with
  | .ok d S' => if cleanS S.length (S'.take S.length) = true then (match letGo S.length d S' with
    | some d' => .ok d' (S'.take S.length)
    | none => .stuck) else .stuck
  | .raise c S' => if cleanS S.length (S'.take S.length) = true then .raise c (S'.take S.length) else .stuck
  | .stuck => .stuck
section
variable {K : PySem.W.Frag} {H : Hp} {ρ ρ' : Rho}
/-- back from a wider store -/
structure Nar (n : Nat) (ρ ρ' : Rho) : Prop where
  len : ρ.l.length = n
  l : ∃ e, ρ'.l = ρ.l ++ e
  x : ∃ y, ρ'.x = y ++ ρ.x
theorem Nar.off {n : Nat} {a : Addr} (h : Nar n ρ ρ') (o : ρ'.off a) : ρ.off a := by
  obtain ⟨_, ⟨e, he⟩, ⟨y, hy⟩⟩ := h
  exact ⟨fun hm => o.1 (by rw [he]; exact List.mem_append_left _ hm), fun hm => o.2 (by rw [hy]; exact List.mem_append_right _ hm)⟩
mutual
theorem clean_rep {n : Nat} (h : Nar n ρ ρ') : ∀ {d : D} {v : V}, clean n d = true → RepV K H ρ' d v → RepV K H ρ d v
  | .non, _, _, r => r
  | .bl _, _, _, r => r
  | .int _, _, _, r => r
  | .str _, _, _, r => r
  | .tup ds, v, c, r => by
    unfold clean at c
    unfold RepV at r ⊢
    obtain ⟨a, vs, e, ha, hs⟩ := r
    refine ⟨a, vs, e, ?_, cleans_rep h c hs⟩
    rcases ha with ⟨hn, ha⟩ | ha
    · exact .inl ⟨h.off hn, ha⟩
    · exact .inr ha
  | .lst ds, v, c, r => by
    unfold clean at c
    unfold RepV at r ⊢
    obtain ⟨a, vs, e, ha, hs⟩ := r
    exact ⟨a, vs, e, ⟨h.off ha.1, ha.2⟩, cleans_rep h c hs⟩
  | .frz ds, v, c, r => by
    unfold clean at c
    unfold RepV at r ⊢
    obtain ⟨a, vs, e, ha, hs⟩ := r
    refine ⟨a, vs, e, ?_, cleans_rep h c hs⟩
    rcases ha with ⟨hn, ha⟩ | ha
    · exact .inl ⟨h.off hn, ha⟩
    · exact .inr ha
  | .emp, v, c, r => by
    unfold RepV at r ⊢
    obtain ⟨a, e, ha⟩ := r
    exact ⟨a, e, h.off ha.1, ha.2⟩
  | .ref m, v, c, r => by
    unfold clean at c
    unfold RepV at r ⊢
    obtain ⟨a, e, ha⟩ := r
    obtain ⟨hl, ⟨e', he⟩, _⟩ := h
    have hm : m < n := of_decide_eq_true c
    rw [he, List.getElem?_append_left (by omega)] at ha
    exact ⟨a, e, ha⟩
  | .cst _, _, _, r => r
theorem cleans_rep {n : Nat} (h : Nar n ρ ρ') : ∀ {ds : List D} {vs : List V}, cleans n ds = true → RepVs K H ρ' ds vs → RepVs K H ρ ds vs
  | [], _, _, r => r
  | d :: ds, vs, c, r => by
    unfold cleans at c
    unfold RepVs at r ⊢
    obtain ⟨v, vr, e, h1, h2⟩ := r
    have c' := Bool.and_eq_true_iff.mp c
    exact ⟨v, vr, e, clean_rep h c'.1 h1, cleans_rep h c'.2 h2⟩
end
theorem cleanS_rep {n : Nat} {S : Sto} (h : Nar n ρ ρ') (hr : HRep K H ρ' S) (hn : n ≤ S.length) (c : cleanS n (S.take n) = true) : HRep K H ρ (S.take n) := by
  obtain ⟨hl, ⟨e, he⟩, ⟨y, hy⟩⟩ := id h
  refine ⟨by rw [hl, List.length_take]; omega, ?_, fun m o a e1 e2 => ?_, fun a ha => ?_⟩
  · have := hr.nd
    rw [he] at this
    exact (List.nodup_append.mp this).1
  · have hm : m < n := by
      have := (List.getElem?_eq_some_iff.mp e1).1
      rw [List.length_take] at this; omega
    rw [List.getElem?_take_of_lt hm] at e1
    have e3 : ρ'.l[m]? = some a := by rw [he, List.getElem?_append_left (by omega)]; exact e2
    have q := hr.all m o a e1 e3
    have co : cleanO n o = true := List.all_eq_true.mp c o (by
      refine List.mem_iff_getElem?.mpr ⟨m, ?_⟩
      rw [List.getElem?_take_of_lt hm]; exact e1)
    cases o with
    | lst ds =>
      obtain ⟨vs, h1, h2⟩ := q
      exact ⟨vs, h1, cleans_rep h co h2⟩
    | ins C fs =>
      obtain ⟨dx, ws, h1, h2, h3⟩ := q
      exact ⟨dx, ws, h1, h2, cleans_rep h co h3⟩
  · obtain ⟨h1, h2⟩ := hr.ex a (by rw [hy]; exact List.mem_append_right _ ha)
    exact ⟨fun hm => h1 (by rw [he]; exact List.mem_append_left _ hm), h2⟩
theorem frz_sp {n : Nat} {F : Fn} {vs : List V} {Q : VK} {E : XK} (h : spD K n (frz F) vs H Q E) : spD K n F vs H Q E := by
  obtain ⟨ρ, ds, S, h1, h2, h3, h4⟩ := h
  refine ⟨ρ, ds, S, h1, h2, h3, ?_⟩
  unfold frz at h4
  have nar : ∀ {H' : Hp} {ρ' : Rho}, Ext H ρ H' ρ' → Nar S.length ρ ρ' := fun {H' ρ'} x => ⟨h3.len, let ⟨e, r, _⟩ := x.pre; ⟨e, r⟩, let ⟨y, r, _⟩ := x.more; ⟨y, r⟩⟩
  have ext : ∀ {H' : Hp} {ρ' : Rho}, Ext H ρ H' ρ' → Ext H ρ H' ρ := fun {H' ρ'} x => ⟨⟨[], by simp, by simp⟩, ⟨[], by simp, by simp⟩, x.keep, x.there⟩
  have sz : ∀ {H' : Hp} {ρ' : Rho} {S' : Sto}, Ext H ρ H' ρ' → HRep K H' ρ' S' → S.length ≤ S'.length := fun {H' ρ' S'} x hr => by
    obtain ⟨e, r, _⟩ := x.pre
    rw [← hr.len, r, List.length_append, h3.len]
    omega
  cases e : F ds S with
  | stuck => rw [e] at h4; exact h4
  | raise c S' =>
    rw [e] at h4
    simp only at h4
    intro H' ρ' x hr
    split at h4
    · rename_i cl
      exact h4 H' ρ (ext x) (cleanS_rep (nar x) hr (sz x hr) cl)
    · exact h4.elim
  | ok d S' =>
    rw [e] at h4
    simp only at h4
    intro H' ρ' x hr v hv
    split at h4
    · rename_i cl
      cases el : letGo S.length d S' with
      | none => rw [el] at h4; exact h4.elim
      | some d' =>
        rw [el] at h4
        refine h4 H' ρ (ext x) (cleanS_rep (nar x) hr (sz x hr) cl) v ?_
        have other : (if clean S.length d = true then some d else none) = some d' → RepV K H' ρ d' v := fun el => by
          split at el
          · rename_i c2
            cases el
            exact clean_rep (nar x) c2 hv
          · cases el
        cases d with
        | ref m =>
          simp only [letGo] at el
          split at el
          · rename_i hm
            cases el
            exact clean_rep (nar x) (by unfold clean; exact decide_eq_true hm) hv
          · split at el
            · rename_i o es
              split at el
              · rename_i c2
                cases el
                unfold RepV at hv
                obtain ⟨a, rfl, ha⟩ := hv
                obtain ⟨ws, k1, k2⟩ := hr.all m _ a es ha
                unfold RepV
                refine ⟨a, ws, rfl, ⟨⟨fun hm' => ?_, fun hm' => ?_⟩, k1⟩, cleans_rep (nar x) c2 k2⟩
                · obtain ⟨j, ej⟩ := List.mem_iff_getElem?.mp hm'
                  obtain ⟨e', r, _⟩ := x.pre
                  have hj := (List.getElem?_eq_some_iff.mp ej).1
                  have ej' : ρ'.l[j]? = some a := by rw [r, List.getElem?_append_left hj]; exact ej
                  obtain ⟨g1, q1⟩ := List.getElem?_eq_some_iff.mp ha
                  obtain ⟨g2, q2⟩ := List.getElem?_eq_some_iff.mp ej'
                  have := (List.getElem_inj hr.nd).mp (q1.trans q2.symm)
                  rw [h3.len] at hj
                  omega
                · obtain ⟨y, r, _⟩ := x.more
                  exact (hr.ex a (by rw [r]; exact List.mem_append_right _ hm')).1 (List.mem_iff_getElem?.mpr ⟨m, ha⟩)
              · cases el
            · cases el
        | _ => exact other el
    · exact h4.elim
theorem FnG.frz {P : Program} {w : World} {mg : Str → Option Value} {base : Heap} {k n : Nat} {f : Addr} {fd : FuncData} {ps : List Str} {F : Fn} (G : FnG P w K mg base k f fd ps (spD K n F)) : FnG P w K mg base k f fd ps (spD K n (frz F)) := G.imp fun _ _ _ _ h => frz_sp h
end

/-! ### a comprehension's block; repr -/
theorem Ctx.blk {X : Cx} {W : WX} (cx : Ctx X W) (s : Shared) (H : Hp) (scope : Scope) (cenv : Env) (fp : List Addr) : Ctx (X.blk s H scope cenv fp) W0 :=
  ⟨cx.units, cx.calm, cx.guards, fun u s' ⟨_, _, _, _, _, _, _, _, _, _, _, _, _, _, _, _, w⟩ => w.elim, cx.nd⟩
def dRepr (x : D) : Option D := match x with
  | .tup _ => (toPy x).bind fun p => if p.showable = true ∧ p.hasDict = false ∧ p.shown.length ≤ BIG ∧ p.depth ≤ 60 then some (.str p.shown) else none
  | .lst _ => (toPy x).bind fun p => if p.showable = true ∧ p.hasDict = false ∧ p.shown.length ≤ BIG ∧ p.depth ≤ 60 then some (.str p.shown) else none
  | .non => some (.str "None")
  | .bl b => some (.str (if b then "True" else "False"))
  | .int i => if i.natAbs.log2 < 1920 then some (.str (toString i)) else none
  | .str x => if (reprText x).length ≤ BIG then some (.str (reprText x)) else none
  | _ => none
def cRepr : List D → Sto → Option D
  | [x], _ => dRepr x
  | _, _ => none
def rRepr (K : PySem.W.Frag) : List V → Hp → VK → Prop := fun xs H Q => ∃ v, xs = [v] ∧ ((∃ p, Dp K H v p ∧ (∃ a, v = .ref a) ∧ p.showable = true ∧ p.hasDict = false ∧ p.shown.length ≤ sizeLine ∧ p.depth ≤ 60 ∧ Q (.str p.shown) H) ∨ (v = .non ∧ Q (.str "None") H) ∨ (∃ b, v = .bl b ∧ Q (.str (if b then "True" else "False")) H) ∨
  (∃ i, v = .int i ∧ i.natAbs.log2 < 1920 ∧ Q (.str (toString i)) H) ∨ ∃ x, v = .str x ∧ (reprText x).length ≤ sizeLine ∧ Q (.str (reprText x)) H)
theorem call_repr {X : Cx} (hg : X.A.guards = some []) (hu : X.A.units + 65 < cLine) : CallR X (.builtin "repr") (rRepr X.K) := by
  intro pins s σ H xs us Q I r h
  obtain ⟨v, rfl, h⟩ := h
  obtain ⟨u, rfl, ru⟩ := Vals.one r
  rcases h with ⟨p, hd, ⟨a, rfl⟩, h1, h2, h3, h4, q⟩ | ⟨rfl, q⟩ | ⟨b, rfl, q⟩ | ⟨i, rfl, hi, q⟩ | ⟨x, rfl, hx, q⟩
  · obtain ⟨as, rd⟩ := Dp.reads I p _ u hd ru
    cases ru
    exact PySem.repr_of_reads' rd h1 (fun z => by rw [h2] at z; cases z) hg (by omega) (fun _ _ e => e) (fun h' u tk k => ⟨.str p.shown, H, I.kept (t' := tk) k, ⟨u, rfl⟩, q⟩) h3
  · cases ru
    exact PySem.P.repr_of_none ⟨.str "None", H, I.tok _, ⟨_, rfl⟩, q⟩
  · cases ru
    exact PySem.P.repr_of_bool ⟨.str (if b then "True" else "False"), H, I.tok _, ⟨_, rfl⟩, q⟩
  · obtain ⟨t, rfl⟩ := ru
    exact PySem.P.repr_of_int hi ⟨.str (toString i), H, I.tok _, ⟨_, rfl⟩, q⟩
  · obtain ⟨t, rfl⟩ := ru
    exact PySem.P.repr_of_str ⟨.str (reprText x), H, I.tok _, ⟨_, rfl⟩, q⟩ hx
theorem callD_repr {K : PySem.W.Frag} : CallD K (rRepr K) cRepr := by
  intro vs H ρ S ds d Q hr hvs e q
  match ds, e with
  | [x], e =>
    obtain ⟨v, vr, rfl, h1, h2⟩ := hvs.of_cons
    rw [h2.of_nil]
    refine ⟨v, rfl, ?_⟩
    have deep : ((toPy x).bind fun p => if p.showable = true ∧ p.hasDict = false ∧ p.shown.length ≤ BIG ∧ p.depth ≤ 60 then some (D.str p.shown) else none) = some d → (∃ a, v = .ref a) → ∃ p, Dp K H v p ∧ (∃ a, v = .ref a) ∧ p.showable = true ∧ p.hasDict = false ∧ p.shown.length ≤ sizeLine ∧ p.depth ≤ 60 ∧ Q (.str p.shown) H := fun e ha => by
      obtain ⟨p, e1, e2⟩ := Option.bind_eq_some_iff.mp e
      split at e2
      · rename_i c
        cases e2
        exact ⟨p, toPy_dp h1 e1, ha, c.1, c.2.1, by rw [← big_line]; exact c.2.2.1, c.2.2.2, q _ H .refl hr (by unfold RepV; rfl)⟩
      · cases e2
    replace e : dRepr x = some d := e
    cases x with
    | tup xs =>
      refine .inl (deep e ?_)
      unfold RepV at h1
      obtain ⟨a, _, e, _⟩ := h1
      exact ⟨a, e⟩
    | lst xs =>
      refine .inl (deep e ?_)
      unfold RepV at h1
      obtain ⟨a, _, e, _⟩ := h1
      exact ⟨a, e⟩
    | non =>
      unfold RepV at h1
      cases e
      exact .inr (.inl ⟨h1, q _ H .refl hr (by unfold RepV; rfl)⟩)
    | bl b =>
      unfold RepV at h1
      cases e
      exact .inr (.inr (.inl ⟨b, h1, q _ H .refl hr (by unfold RepV; rfl)⟩))
    | int i =>
      unfold RepV at h1
      simp only [dRepr] at e
      split at e
      · rename_i c
        cases e
        exact .inr (.inr (.inr (.inl ⟨i, h1, c, q _ H .refl hr (by unfold RepV; rfl)⟩)))
      · cases e
    | str y =>
      unfold RepV at h1
      simp only [dRepr] at e
      split at e
      · rename_i c
        cases e
        exact .inr (.inr (.inr (.inr ⟨y, h1, by rw [← big_line]; exact c, q _ H .refl hr (by unfold RepV; rfl)⟩)))
      · cases e
    | _ => cases e

/-! ### the law's end -/
theorem frz_ints (ns : List Int) {K : PySem.W.Frag} {H : Hp} {ρ : Rho} : RepVs K H ρ (ns.map .int) (ns.map V.int) := by
  induction ns with
  | nil => exact .nil
  | cons n ns ih => exact .cons (by unfold RepV; rfl) ih
theorem law_end {l : PySem.W.OpenLaw} {n k : Nat} {q : Program} {loose : List Str} {XP : (Str → Option Value) → Heap → Prop} {YP : World → Heap → Prop} {d : DefRec} {K : Params → PySem.W.Frag} {x : Str}
    (hn : l.most = some n) (hn2 : n ≤ sizeLine) (hdf : d.params.defaults = []) (hr : Room k callerA) (hY : ∀ (w : World) (h : Heap), YP w h → (K w.params).In h)
    (F : ∀ (w : World) (mg : Str → Option Value) (fa : Addr) (h : Heap), (K w.params).In h → h.Ns mainGlobals mg → mg d.name = some (.ref fa) →
      ∃ fd : FuncData, (∀ (s : Shared) (u : Value), BindsTo s fd ⟨[u], []⟩ [(x, u)]) ∧ ∃ Fn : Fn, (∀ ns : List Int, ns.length ≤ n → ∃ S', Fn [.frz (ns.map .int)] [] = .ok (.bl true) S') ∧
        ∀ base : Heap, (K w.params).In base → base.Ns mainGlobals mg → FnG l.prog w (K w.params) mg base k fa fd [x] (spD (K w.params) 1 Fn)) :
    PySem.W.WalkO q loose XP YP l.row.toRowW d [] (fun f vs => PySem.call f vs) := by
  refine Att.attach_call hn hdf ?_
  intro w s0 s1 mg mb fa o pm cd doc a vs ns G Y ho hd hcd hmg hobj hints hlen hg
  have KX := hY w _ Y
  obtain ⟨fd, hbind, Fn, hans, hF⟩ := F w mg fa _ KX G.T.g hmg
  have hlv := hints.length
  have relv := vals_ints hints
  -- with an abstract heap that knows the script at most
  have run : ∀ H : Hp, (∀ b, H b = none ∨ b = a) → (∀ u, H a = some u → ∃ o xs, u = .frz o (.lst xs)) → HOk l.prog w H s1.heap → LAt (K w.params) H ⟨[], []⟩ a (ns.map V.int) → (H a ≠ none → (K w.params).lookup a = none) →
      codeAny (model l.prog w) callerA (.call (.ref fa) ⟨[.ref a], []⟩) (fun r s' => r = .ok (.ret (.bool true)) ∧ OldK s1.heap s'.heap ∧ s'.os = s1.os ∧ AllBare s'.gens) s1 := by
    intro H hone hfrz hok hat hkn
    have onlyA : ∀ b u, H b = some u → b = a := fun b u e => (hone b).resolve_left fun z => by rw [z] at e; cases e
    have free : ∀ {b ob}, s1.heap.get? b = some ob → ob ≠ { cls := .type "list", data := .seq vs.toArray } → H b = none := fun {b ob} e ne => by
      cases eh : H b with
      | none => rfl
      | some u =>
        have := onlyA b u eh
        subst this
        rw [hobj] at e
        exact absurd (Option.some.inj e).symm ne
    have dictFree : ∀ {b ob es ep}, s1.heap.get? b = some ob → ob.data = .dict es ep → H b = none := fun {b ob es ep} e dd => free e fun z => by
      rw [z] at dd
      cases dd
    have ns' : ∀ {b : Addr} {m : Str → Option Value}, s1.heap.Ns b m → (hidT s1.heap H).Ns b m := by
      rintro b m ⟨ob, es, ep, e, dd, r⟩
      exact ⟨ob, es, ep, hidT_get e (dictFree e dd), dd, r⟩
    have kin : (K w.params).In (hidT s1.heap H) := by
      intro b ob e
      refine hidT_get (KX b ob e) ?_
      cases eh : H b with
      | none => rfl
      | some u =>
        have := onlyA b u eh
        subst this
        rw [hkn (by rw [eh]; simp)] at e
        cases e
    have modl : Mod (K w.params) mg (hidT s1.heap H) := by
      refine ⟨kin, ns' G.T.g, ⟨mb, ns' G.T.b, G.T.builtins⟩, ?_⟩
      obtain ⟨mc, e1, e2⟩ := G.T.nolimit
      exact ⟨mc, ns' e1, e2⟩
    have env : Env0 l.prog w (K w.params) mg (hidT s1.heap H) callerA [] s1 H :=
      ⟨rfl, modl, fun b ob e => of_hidT e, Nat.le_of_eq (hidT_size _ _), trivial, fun b hb => absurd (show b ∈ ([] : List Addr) from hb) (by simp), hok, .of_eq hg⟩
    have rel : Vals [V.ref a] [Value.ref a] := .cons rfl .nil
    obtain ⟨S', eS⟩ := hans ns hlen
    have want : spD (K w.params) 1 Fn [V.ref a] H (fun v _ => v = .bl true) (fun _ _ _ => False) := by
      refine ⟨⟨[], []⟩, [.frz (ns.map .int)], [], rfl, .cons ?_ .nil, ⟨rfl, by simp, fun n o b e => by simp at e, fun b hb => absurd hb (by simp)⟩, ?_⟩
      · unfold RepV
        exact ⟨a, _, rfl, hat, frz_ints ns⟩
      · rw [eS]
        intro H' ρ' _ _ v hv
        unfold RepV at hv
        exact hv
    refine codeAny_mono ((hF _ kin (ns' G.T.g)).run callerA [] s1 H ⟨[.ref a], []⟩ [.ref a] [.ref a] _ _ hr rfl env (hbind s1 (.ref a)) rel want) ?_
    intro r s' z
    match r, z with
    | .error e, ⟨_, _, _, _, _, _, _, _, _, _, _, _, q⟩ => exact q.elim
    | .ok .next, z => exact z.elim
    | .ok .brk, z => exact z.elim
    | .ok .cont, z => exact z.elim
    | .ok (.ret u), ⟨v, H', eos, bare, un, hok', rv, hv⟩ =>
      subst hv
      obtain rfl : u = Value.bool true := rv
      refine ⟨rfl, OldK.of_keep ?_, eos, bare⟩
      intro b ob e
      cases eh : H b with
      | none => exact un.keep b ob e eh (by simp [frs]) (by simp)
      | some u =>
        have eb := onlyA b u eh
        subst eb
        obtain ⟨oo, xs, rfl⟩ := hfrz u eh
        obtain ⟨g1, _⟩ := hok b _ eh
        obtain ⟨g2, _⟩ := hok' b _ (un.frzs b oo _ eh)
        rw [e] at g1
        cases g1
        exact g2
  cases ek : (K w.params).lookup a with
  | some oa =>
    have eo := KX a oa ek
    rw [hobj] at eo
    cases eo
    refine run (fun _ => none) (fun _ => .inl rfl) (fun u e => by cases e) (fun b u z => by cases z) (.inr (.inr ⟨_, vs.toArray, _, ek, rfl, rfl, rfl, ?_, by simpa using relv⟩)) fun z => absurd rfl z
    rw [List.size_toArray, hlv]
    exact Nat.le_trans hlen hn2
  | none =>
    have at1 : (fun b => if b = a then some (HO.frz { cls := .type "list", data := .seq vs.toArray } (.lst (ns.map V.int))) else none : Hp) a = some (HO.frz { cls := .type "list", data := .seq vs.toArray } (.lst (ns.map V.int))) := if_pos rfl
    refine run (fun b => if b = a then some (.frz { cls := .type "list", data := .seq vs.toArray } (.lst (ns.map V.int))) else none) (fun b => ?_) (fun u e => ?_) (fun b u z => ?_) (.inl ⟨⟨by simp, by simp⟩, .inr ⟨_, at1⟩⟩) fun _ => ek
    · by_cases c : b = a
      · exact .inr c
      · exact .inl (if_neg c)
    · have e' := at1.symm.trans e
      cases e'
      exact ⟨_, _, rfl⟩
    · by_cases c : b = a
      · subst c
        have z' := at1.symm.trans z
        cases z'
        exact ⟨hobj, by rw [List.length_map]; exact Nat.le_trans hlen hn2, vs, _, relv, hobj⟩
      · have z' := (if_neg c).symm.trans z
        cases z'
end DL
end

section
set_option Elab.async false
set_option linter.all false
set_option maxRecDepth 100000
set_option maxHeartbeats 4000000
/-! a caught error that has a name -/
namespace DL
open PySem PySem.Spec PyProof.Rows L2
def clsVal : D → Option Value
  | .cst (.ref a) => some (.ref a)
  | .cst (.ty n) => some (.type n)
  | _ => none
def kmAny (km : Value → Value → Option Bool) (c : Value) : List D → Option Bool
  | [] => some false
  | d :: ds => (clsVal d).bind fun v => (km c v).bind fun b => (kmAny km c ds).map fun r => b || r
def isE (km : Value → Value → Option Bool) (c : Value) : D → Option Bool
  | .tup (d :: ds) => kmAny km c (d :: ds)
  | d => (clsVal d).bind fun v => km c v
def cIsE (km : Value → Value → Option Bool) (c : Value) (a : Addr) : List D → Sto → Option D
  | [.cst (.ref b), d], _ => if b = a then (isE km c d).map .bl else none
  | _, _ => none
open Classical in
/-- isinstance of an error, where its class says what it must -/
noncomputable def kmE (K : PySem.W.Frag) : Value → Value → Option Bool := fun c v => match c with
  | .ref D => if ExcC K D then PySem.W.kitOne K (.ref D) v else none
  | _ => none
theorem kmE_of {K : PySem.W.Frag} {D : Addr} {v : Value} {b : Bool} (h : ExcC K D) (e : PySem.W.kitOne K (.ref D) v = some b) : kmE K (.ref D) v = some b := by
  unfold kmE
  simp only [if_pos h]
  exact e
theorem kmE_some {K : PySem.W.Frag} {c v : Value} {b : Bool} (h : kmE K c v = some b) : ∃ D, c = .ref D ∧ ExcC K D ∧ PySem.W.kitOne K (.ref D) v = some b := by
  unfold kmE at h
  split at h
  · rename_i D
    split at h
    · rename_i k
      exact ⟨D, rfl, k, h⟩
    · cases h
  · cases h
def rIsEE (K : PySem.W.Frag) (c : Value) (a : Addr) : List V → Hp → VK → Prop := fun xs H Q => ∃ (x : V) (b : Bool), xs = [.ref a, x] ∧ ((∃ D u, c = .ref D ∧ ExcC K D ∧ ClsV x u ∧ PySem.W.kitOne K (.ref D) u = some b) ∨
  (∃ D tp cs us, c = .ref D ∧ ExcC K D ∧ x = .ref tp ∧ SqT K H tp cs ∧ Paired ClsV cs us ∧ PySem.W.kitAny K (.ref D) us = some b)) ∧ Q (.bl b) H
theorem call_isEE {X : Cx} {a : Addr} {c : Value} {oe : Obj} {pn : List (Addr × Obj)} (hz : Zc c none oe) (hf : ∃ vs, oe.data = .fields vs) : CallR (X.suite a ((a, oe) :: pn)) (.builtin "isinstance") (rIsEE X.K c a) := by
  intro pins s σ H xs us Q I r h
  obtain ⟨x, b, rfl, e, q⟩ := h
  obtain ⟨u1, u2, rfl, r1, r2⟩ := vals2 r
  cases (show u1 = Value.ref a from r1)
  have inst : ∀ D, c = .ref D → PySem.W.InstAt s.heap a oe D none := fun D ec => by
    obtain ⟨hget, _⟩ := I.pin (a, oe) (List.mem_append.mpr (.inl List.mem_cons_self))
    obtain ⟨vs, hv⟩ := hf
    obtain ⟨oc, od, oda, osl⟩ := oe
    obtain ⟨h1, h2⟩ := hz
    dsimp only at h1 h2 hv
    subst ec
    subst h1 h2 hv
    exact ⟨hget, rfl, rfl, trivial⟩
  rcases e with ⟨D, u, ec, C, k, e⟩ | ⟨D, tp, cs, ws, ec, C, rfl, hT, k, e⟩
  · have e2 := k.eq r2
    subst e2
    exact PySem.W.kia_one (PySem.W.handS_kitx_exc C.hg C.hk C.hs C.hd C.ha C.hn C.ht C.hm) I.kIn (inst D ec) e (fun z => nomatch z) fun tk => ⟨.bl b, H, I.kept (t' := tk) fun _ _ z => z, rfl, q⟩
  · cases (show u2 = Value.ref tp from r2)
    rcases hT with hT | ⟨o, its, n, hk, h2, h3, _, rv⟩
    · obtain ⟨_, its, rv, o, h1, h2, n, h3⟩ := (show ObjOk X.prog X.w H s.heap tp (.tup cs) from hT.ok I.hok)
      have e3 := ClsV.all k rv
      subst e3
      obtain ⟨oc, od, dt, sl⟩ := o
      simp only at h2 h3
      subst h2 h3
      exact PySem.W.kia_tup (PySem.W.handS_kitx_exc C.hg C.hk C.hs C.hd C.ha C.hn C.ht C.hm) I.kIn (inst D ec) h1 e (fun z => nomatch z) fun tk => ⟨.bl b, H, I.kept (t' := tk) fun _ _ z => z, rfl, q⟩
    · have e3 := ClsV.all k rv
      obtain ⟨oc, od, dt, sl⟩ := o
      simp only at h2 h3
      subst h2 h3
      have h1 := I.kIn _ _ hk
      have e4 : its = ws.toArray := by rw [← e3]
      subst e4
      exact PySem.W.kia_tup (PySem.W.handS_kitx_exc C.hg C.hk C.hs C.hd C.ha C.hn C.ht C.hm) I.kIn (inst D ec) h1 e (fun z => nomatch z) fun tk => ⟨.bl b, H, I.kept (t' := tk) fun _ _ z => z, rfl, q⟩
theorem clsVal_rep {K : PySem.W.Frag} {H : Hp} {ρ : Rho} {d : D} {v : V} {u : Value} (h : RepV K H ρ d v) (e : clsVal d = some u) : ClsV v u := by
  cases d with
  | cst c =>
    unfold RepV at h
    subst h
    cases v <;> simp [clsVal] at e
    · subst e; exact .own _
    · subst e; exact .ty _
  | _ => simp [clsVal] at e
theorem kmAny_rep {K : PySem.W.Frag} {H : Hp} {ρ : Rho} {C : Addr} : ∀ {ds : List D} {vs : List V} {b : Bool}, RepVs K H ρ ds vs → kmAny (kmE K) (.ref C) ds = some b → ∃ us, Paired ClsV vs us ∧ PySem.W.kitAny K (.ref C) us = some b := by
  intro ds
  induction ds with
  | nil =>
    intro vs b h e
    rw [h.of_nil]
    exact ⟨[], .nil, e⟩
  | cons d ds ih =>
    intro vs b h e
    obtain ⟨v, vr, rfl, h1, h2⟩ := h.of_cons
    unfold kmAny at e
    obtain ⟨u, e1, e⟩ := Option.bind_eq_some_iff.mp e
    obtain ⟨b1, e2, e⟩ := Option.bind_eq_some_iff.mp e
    obtain ⟨r, e4, e⟩ := Option.map_eq_some_iff.mp e
    obtain ⟨D', ed, _, e3⟩ := kmE_some e2
    cases ed
    obtain ⟨us, p, q⟩ := ih h2 e4
    refine ⟨u :: us, .cons (clsVal_rep h1 e1) p, kitAny_cons e3 (fun z => ?_) (fun z => ?_)⟩
    · subst z; rw [q, ← e]; rfl
    · subst z; exact e.symm
theorem callD_isEE {K : PySem.W.Frag} {c : Value} {a : Addr} : CallD K (rIsEE K c a) (cIsE (kmE K) c a) := by
  intro vs H ρ S ds d Q hr hvs e q
  match ds, e with
  | [.cst (.ref b), x], e =>
    obtain ⟨v, vr, rfl, h1, h2⟩ := hvs.of_cons
    obtain ⟨u, vr, rfl, h3, h4⟩ := h2.of_cons
    rw [h4.of_nil]
    unfold RepV at h1
    subst h1
    have h0 : (if b = a then (isE (kmE K) c x).map D.bl else none) = some d := e
    clear e
    split at h0
    · rename_i ab
      subst ab
      obtain ⟨r, e1, rfl⟩ := Option.map_eq_some_iff.mp h0
      refine ⟨u, r, rfl, ?_, q _ H .refl hr (by unfold RepV; rfl)⟩
      have one : ∀ w, clsVal x = some w → kmE K c w = some r → ∃ D u', c = .ref D ∧ ExcC K D ∧ ClsV u u' ∧ PySem.W.kitOne K (.ref D) u' = some r := fun w k1 k2 => by
        obtain ⟨C, ec, k, k3⟩ := kmE_some k2
        exact ⟨C, w, ec, k, clsVal_rep h3 k1, k3⟩
      cases x with
      | tup xs =>
        unfold RepV at h3
        obtain ⟨p, ws, rfl, hT, h5⟩ := h3
        cases xs with
        | nil => simp [isE, clsVal] at e1
        | cons x0 xs =>
          have e1' : kmAny (kmE K) c (x0 :: xs) = some r := e1
          have e2 := e1'
          unfold kmAny at e2
          obtain ⟨w, k1, e2⟩ := Option.bind_eq_some_iff.mp e2
          obtain ⟨b1, k2, e2⟩ := Option.bind_eq_some_iff.mp e2
          obtain ⟨C, rfl, k, _⟩ := kmE_some k2
          obtain ⟨us, p1, p2⟩ := kmAny_rep h5 e1'
          exact .inr ⟨C, p, ws, us, rfl, k, rfl, hT.sq, p1, p2⟩
      | _ =>
        have e1' := e1
        unfold isE at e1'
        obtain ⟨w, k1, k2⟩ := Option.bind_eq_some_iff.mp e1'
        exact .inl (one w k1 k2)
    · cases h0
/-! ### try with one clause that has a name -/
def RS.clr (i : Nat) : RS → RS
  | .nx σ S => .nx (σ.set i none) S
  | .bk σ S => .bk (σ.set i none) S
  | .ct σ S => .ct (σ.set i none) S
  | r => r
open Classical in
/-- what the suite does is the same wherever the error lies -/
noncomputable def sTryAs (m : Value → Value → Option Bool) (g : FS) (k : Value) (i : Nat) (h : Value → Addr → FS) : FS := fun σ S => match g σ S with
  | .raise c σ1 S1 => match m c k with
    | some true => if ∀ a, ((h c a (σ1.set i (some (.cst (.ref a)))) S1).noR.clr i) = ((h c 0 (σ1.set i (some (.cst (.ref 0)))) S1).noR.clr i) then ((h c 0 (σ1.set i (some (.cst (.ref 0)))) S1).noR.clr i) else .stuck
    | some false => .raise c σ1 S1
    | none => .stuck
  | r => r
theorem RepE.unset {K : PySem.W.Frag} {H : Hp} {ρ : Rho} {σd : En} {σ : L2.St} {i : Nat} (h : RepE K H ρ σd σ) : RepE K H ρ (σd.set i none) (σ.set i none) := by
  refine ⟨by simp [h.1], fun j d' e => ?_⟩
  by_cases hj : i = j
  · subst hj
    by_cases hl : i < σd.length
    · rw [List.getElem?_set_self hl] at e; cases e
    · rw [List.getElem?_eq_none (by simpa using hl)] at e; cases e
  · rw [List.getElem?_set_ne hj] at e ⊢
    exact h.2 j d' e
section
variable {X : Cx} {W : WX} {body suite : List Stmt} {b₀ : Stmt} {x n : Str} {c : Value} {i : Nat} {np pos pos' : Pos} {g : FS} {h : Value → Addr → FS}
theorem ds_try_as (cx : Ctx X W) (hs : X.stack = X.env :: X.outer) (hf : X.env.frame = some X.env.locals) (hi : X.N[i]? = some n) (hln : X.env.kindOf n = some .local) (hc : Names X x c)
    (hb : ∀ (W' : WX) (pn : List (Addr × Obj)) (xe : Value → Shared → Prop), Ctx (X.tr pn xe) W' → PassesOwn (model X.prog X.w) X.A X.env xe → DSs (X.tr pn xe) W' body g)
    (hsu : ∀ (v : Value) (a : Addr) (oe : Obj) (pn : List (Addr × Obj)), Zc v none oe → (∃ vs, oe.data = .fields vs) → DSs (X.suite a ((a, oe) :: pn)) W0 (b₀ :: suite) (h v a)) :
    DS X W (.Try body [.ExceptHandler (some (.Name x np)) (some n) (b₀ :: suite) pos'] [] [] pos) (sTryAs (PySem.W.exmOne X.K) g c i h) := by
  refine ⟨PS.imp (L2.ps_try_as (tb := fun W' => tS X.K W' g) (ts := fun a cls d Z σ H => d = none ∧ tS X.K W0 (h cls a) Z σ H) (Wout := W) hs hf cx.nd hi hln hc cx.takes (fun W' pn xe tk ow => (hb W' pn xe ⟨cx.units, cx.calm, cx.guards, tk, cx.nd⟩ ow).pss)
    (fun a oe cls d pn hz hv => ?_)) fun Z σ H hq => ?_⟩
  · refine ⟨fun pins s σ H Z I hq => ?_⟩
    obtain ⟨rfl, hq⟩ := hq
    exact (hsu cls a oe pn hz hv).pss.run pins s σ H Z I hq
  obtain ⟨ρ, σd, S, he, hr, q⟩ := hq
  refine ⟨ρ, σd, S, he, hr, ?_⟩
  unfold sTryAs at q
  cases e1 : g σd S with
  | raise v σ1 S1 =>
    rw [e1] at q
    simp only at q
    intro σ' H' ρ' x' hr' he'
    cases em : PySem.W.exmOne X.K v c with
    | none => rw [em] at q; exact q.elim
    | some b =>
      rw [em] at q
      refine ⟨b, em, fun eb a ha => ⟨rfl, ?_⟩, fun eb => ?_⟩
      · subst eb
        simp only at q
        split at q
        · rename_i same
          rw [← same a] at q
          have q' := PRS.ext x' q
          refine ⟨ρ', σ1.set i (some (.cst (.ref a))), S1, he'.set (by unfold RepV; rfl), hr', ?_⟩
          cases e7 : h v a (σ1.set i (some (.cst (.ref a)))) S1 with
          | raise c2 σ2 S2 => rw [e7] at q'; exact q'.elim
          | stuck => rw [e7] at q'; exact q'
          | nx σ2 S2 => rw [e7] at q'; exact fun σ3 H3 ρ3 y1 y2 y3 => q' _ H3 ρ3 y1 y2 y3.unset
          | bk σ2 S2 => rw [e7] at q'; exact fun σ3 H3 ρ3 y1 y2 y3 => q' _ H3 ρ3 y1 y2 y3.unset
          | ct σ2 S2 => rw [e7] at q'; exact fun σ3 H3 ρ3 y1 y2 y3 => q' _ H3 ρ3 y1 y2 y3.unset
          | rt d S2 => rw [e7] at q'; exact q'
        · exact q.elim
      · subst eb
        exact q σ' H' ρ' x' hr' he'
  | _ => rw [e1] at q; exact q
end

section
variable {X : Cx} {W : WX} {body suite : List Stmt} {b₀ : Stmt} {x n : Str} {c : Value} {i : Nat} {np pos pos' : Pos} {g : FS} {h : Value → Addr → FS}
theorem ds_tryAsE {em : Value → Value → Option Bool} (hem : em = PySem.W.exmOne X.K) (cx : Ctx X W) (hs : X.stack = X.env :: X.outer) (hf : X.env.frame = some X.env.locals) (hi : X.N[i]? = some n) (hln : X.env.kindOf n = some .local) (hc : Names X x c)
    (hb : ∀ (W' : WX) (pn : List (Addr × Obj)) (xe : Value → Shared → Prop), Ctx (X.tr pn xe) W' → PassesOwn (model X.prog X.w) X.A X.env xe → DSs (X.tr pn xe) W' body g)
    (hsu : ∀ (v : Value) (a : Addr) (oe : Obj) (pn : List (Addr × Obj)), Zc v none oe → (∃ vs, oe.data = .fields vs) → DSs (X.suite a ((a, oe) :: pn)) W0 (b₀ :: suite) (h v a)) :
    DS X W (.Try body [.ExceptHandler (some (.Name x np)) (some n) (b₀ :: suite) pos'] [] [] pos) (sTryAs em g c i h) := by
  rw [hem]
  exact ds_try_as cx hs hf hi hln hc hb hsu
end
theorem callD_isEE_of {K : PySem.W.Frag} {km : Value → Value → Option Bool} {c : Value} {a : Addr} (h : km = kmE K) : CallD K (rIsEE K c a) (cIsE km c a) := by
  rw [h]; exact callD_isEE
/-! ### a local name that holds a def -/
def pick : List (Addr × Fn) → Addr → Option Fn
  | [], _ => none
  | (b, F) :: r, a => if a = b then some F else pick r a
def fCallL (l : List (Addr × Fn)) (i : Nat) (fs : FA) : FE := fun σ S => match σ[i]? with
  | some (some (.cst (.ref a))) => match pick l a with
    | some F => (fs σ S).bind fun ds S1 => F ds S1
    | none => .stuck
  | _ => .stuck
inductive Cands (X : Cx) (n : Nat) : List (Addr × Fn) → Prop
  | nil : Cands X n []
  | cons {b q : Addr} {k : Nat} {fd : FuncData} {ps : List Str} {F : Fn} {r : List (Addr × Fn)} (e : b = q) (G : FnG X.prog X.w X.K X.mg X.base k q fd ps (spD X.K n F)) (hr : Room k X.A) (hk : PySem.W.keepIn X.K (.ref q) = true) (hb : Binds X.K fd ps []) (t : Cands X n r) : Cands X n ((b, F) :: r)
theorem Cands.pick {X : Cx} {n : Nat} {a : Addr} {F : Fn} : ∀ {l : List (Addr × Fn)}, Cands X n l → DL.pick l a = some F →
    ∃ (k : Nat) (fd : FuncData) (ps : List Str), FnG X.prog X.w X.K X.mg X.base k a fd ps (spD X.K n F) ∧ Room k X.A ∧ PySem.W.keepIn X.K (.ref a) = true ∧ Binds X.K fd ps []
  | _, .nil, e => by cases e
  | _, .cons (b := b) (F := F') e0 G hr hk hb t, e => by
    unfold DL.pick at e
    split at e
    · rename_i ab
      cases e
      rw [ab, e0]
      exact ⟨_, _, _, G, hr, hk, hb⟩
    · exact t.pick e
section
variable {X : Cx} {W : WX} {e : Expr} {es : List Expr} {fs : FA} {p pos : Pos}
theorem de_callL {l : List (Addr × Fn)} {n : Nat} {x : Str} (i : Nat) (cx : Ctx X W) (C : Cands X n l) (ha : DA X W (e :: es) fs) (hN : X.N[i]? = some x := by rfl)
    (hv : Vis X.env.scope x := by first | exact Or.inl rfl | exact Or.inr (Or.inl rfl) | exact Or.inr (Or.inr rfl)) (hn : (e :: es).length = n := by rfl)
    (hdb : (x == ("__debug__" : Str)) = false := by decide) (hcd : (x == ("__classdict__" : Str)) = false := by decide)
    (he : starEach (e :: es) X.env = (false, eval e X.env) :: starEach es X.env := by rfl) (hpl : (backTo pos (starEach es X.env)).any (·.1) = false := by rfl) :
    DE X W (.Call (.Name x p) (e :: es) [] pos) (fCallL l i fs) := by
  refine ⟨⟨fun pins s σ H Q I hq => ?_⟩⟩
  obtain ⟨ρ, σd, S, hee, hre, q0⟩ := hq
  unfold fCallL at q0
  split at q0
  · rename_i a ea
    split at q0
    · rename_i F eF
      obtain ⟨k, fd, ps, G, hr, hk, hb⟩ := C.pick eF
      obtain ⟨v, ev, hrep⟩ := hee.2 i _ ea
      unfold RepV at hrep
      subst hrep
      refine wpAny_Call_Name_kw (thn ((pe_var (pos := p) hN hv hdb hcd).run pins s σ H (fun v H1 => v = .ref a ∧ H1 = H) I ⟨.ref a, ev, rfl, rfl⟩) fun u s1 ⟨v, H1, I1, r1, q1⟩ => ?_)
      obtain ⟨rfl, rfl⟩ := q1
      cases r1
      have q1 : tA X.K W fs σ H1 (fun vs H2 => spD X.K n F vs H2 Q (WE W σ)) := by
        refine ⟨ρ, σd, S, hee, hre, ?_⟩
        cases e1 : fs σd S with
        | stuck => rw [e1] at q0; exact q0.elim
        | raise c S1 => rw [e1] at q0; exact q0
        | ok ds S1 =>
          rw [e1] at q0
          intro H' ρ' x' hr' vs hvs
          exact ⟨ρ', ds, S1, by rw [hvs.length, ha.len _ _ _ _ e1]; exact hn, hvs, hr', PR.ext x' (show PR X.K H1 ρ (F ds S1) _ _ from q0)⟩
      refine PySem.W.callWith_K (h₀ := X.base) I.ok.mod.kin hk (thn (ha.pa.run pos pins s1 σ H1 _ I1 q1) fun us s2 ⟨vs, H2, I2, r, q2⟩ => ⟨I2.kIn, ?_⟩) he hpl
      exact run_g cx G hr hb I2 r q2
    · exact q0.elim
  · exact q0.elim
end
/-- two defs of two names lie at two places -/
theorem fnNe {K : PySem.W.Frag} {f : Addr} {c c' kV kV' dc dc' pm pm' cd cd' ct ct' : Value} {od od' an an' : Option Addr} {sl sl' : Array (Option Value)} {n n' q q' : Str} {a a' b b' s s'} {m m' : Value}
    (h : K.lookup f = some ⟨c, od, .func (PySem.W.fnOf n q a b s m kV dc pm an cd ct), sl⟩) (h' : K.lookup f = some ⟨c', od', .func (PySem.W.fnOf n' q' a' b' s' m' kV' dc' pm' an' cd' ct'), sl'⟩) (hn : n ≠ n') : False := by
  have e := h.symm.trans h'
  simp [PySem.W.fnOf] at e
  exact hn e.2.2.1.1
end DL
end

section
set_option Elab.async false
set_option linter.all false
set_option maxRecDepth 100000
set_option maxHeartbeats 4000000
/-! repr, also of tuples that hold an empty dict -/
namespace DL
open PySem PySem.Spec PyProof.Rows L2
mutual
/-- without lists -/
def toPyE : D → Option PyData
  | .non => some .none
  | .bl b => some (.bool b)
  | .int i => some (.int i)
  | .str x => some (.str x)
  | .tup xs => (toPyEs xs).map .tuple
  | .emp => some (.dict [])
  | .lst _ => none
  | .frz _ => none
  | .ref _ => none
  | .cst _ => none
def toPyEs : List D → Option (List PyData)
  | [] => some []
  | d :: ds => (toPyE d).bind fun x => (toPyEs ds).map fun xs => x :: xs
end
section
variable {X : Cx} {pins : List (Addr × Obj)} {σ : L2.St} {H : Hp} {s : Shared} {ρ : Rho}
mutual
theorem toPyE_reads (I : Inv X pins σ H s) : ∀ {d : D} {v : V} {u : Value} {p : PyData}, RepV X.K H ρ d v → RelV v u → toPyE d = some p → ∃ as, Reads s.heap u p as ∧ sysModules ∉ as
  | .non, v, u, p, h, r, e => by
    unfold RepV at h; unfold toPyE at e; subst h; cases e; cases r
    exact ⟨_, .none, by simp⟩
  | .bl b, v, u, p, h, r, e => by
    unfold RepV at h; unfold toPyE at e; subst h; cases e; cases r
    exact ⟨_, .bool b, by simp⟩
  | .int i, v, u, p, h, r, e => by
    unfold RepV at h; unfold toPyE at e; subst h; cases e
    obtain ⟨t, rfl⟩ := r
    exact ⟨_, .int i t, by simp⟩
  | .str x, v, u, p, h, r, e => by
    unfold RepV at h; unfold toPyE at e; subst h; cases e
    obtain ⟨t, rfl⟩ := r
    exact ⟨_, .str x t, by simp⟩
  | .tup xs, v, u, p, h, r, e => by
    unfold toPyE at e
    obtain ⟨ps, e1, rfl⟩ := Option.map_eq_some_iff.mp e
    unfold RepV at h
    obtain ⟨a, vs, rfl, ha, hs⟩ := h
    cases r
    obtain ⟨its, rv, ⟨o, ho, hc, n, hd⟩, _⟩ := I.tuple ha.sq
    obtain ⟨as, hr, hn⟩ := toPyEs_reads I hs rv e1
    exact ⟨_, .tuple ho hc hd hr, hn⟩
  | .emp, v, u, p, h, r, e => by
    unfold toPyE at e
    cases e
    unfold RepV at h
    obtain ⟨a, rfl, ha⟩ := h
    cases r
    obtain ⟨_, hsys, vs, kv, o, es, ep, ho, hx, hd, _, hp, _⟩ := (show ObjOk X.prog X.w H s.heap a (.dK []) from I.hok a _ ha.2)
    cases kv
    have he : es.toList = [] := by
      have := hp.length
      exact List.eq_nil_of_length_eq_zero (by simpa using this)
    refine ⟨_, .dict (kvs := []) ho hx.1 hd (by rw [he]; exact .nil) (by rw [he]; exact .nil), ?_⟩
    intro hm
    simp at hm
    subst hm
    simp at hsys
  | .lst _, v, u, p, h, r, e => by unfold toPyE at e; cases e
  | .frz _, v, u, p, h, r, e => by unfold toPyE at e; cases e
  | .ref _, v, u, p, h, r, e => by unfold toPyE at e; cases e
  | .cst _, v, u, p, h, r, e => by unfold toPyE at e; cases e
theorem toPyEs_reads (I : Inv X pins σ H s) : ∀ {ds : List D} {vs : List V} {us : List Value} {ps : List PyData}, RepVs X.K H ρ ds vs → Vals vs us → toPyEs ds = some ps → ∃ as, ReadsAll s.heap us ps as ∧ sysModules ∉ as
  | [], vs, us, ps, h, r, e => by
    unfold toPyEs at e; cases e
    rw [h.of_nil] at r
    cases r
    exact ⟨_, .nil, by simp⟩
  | d :: ds, vs, us, ps, h, r, e => by
    unfold toPyEs at e
    obtain ⟨p, e1, e⟩ := Option.bind_eq_some_iff.mp e
    obtain ⟨qs, e2, rfl⟩ := Option.map_eq_some_iff.mp e
    obtain ⟨v, vr, rfl, h1, h2⟩ := h.of_cons
    cases r with
    | cons r1 r2 =>
      obtain ⟨as, q1, n1⟩ := toPyE_reads I h1 r1 e1
      obtain ⟨bs, q2, n2⟩ := toPyEs_reads I h2 r2 e2
      exact ⟨_, .cons q1 q2, by simp [n1, n2]⟩
end
end
def rReprE (K : PySem.W.Frag) : List V → Hp → VK → Prop := fun xs H Q => ∃ (v : V) (ρ : Rho) (d : D) (p : PyData), xs = [v] ∧ RepV K H ρ d v ∧ toPyE d = some p ∧ (∃ a, v = .ref a) ∧ p.showable = true ∧ p.shown.length ≤ sizeLine ∧ p.depth ≤ 60 ∧ Q (.str p.shown) H
theorem call_repr2 {X : Cx} (hg : X.A.guards = some []) (hu : X.A.units + 65 < cLine) : CallR X (.builtin "repr") (fun xs H Q => rRepr X.K xs H Q ∨ rReprE X.K xs H Q) := by
  intro pins s σ H xs us Q I r h
  rcases h with h | h
  · exact call_repr hg hu pins s σ H xs us Q I r h
  · obtain ⟨v, ρ, d, p, rfl, h0, h1, ⟨a, rfl⟩, h2, h3, h4, q⟩ := h
    obtain ⟨u, rfl, ru⟩ := Vals.one r
    obtain ⟨as, rd, hn⟩ := toPyE_reads I h0 ru h1
    cases ru
    exact PySem.repr_of_reads' rd h2 (fun _ => hn) hg (by omega) (fun _ _ e => e) (fun h' u tk k => ⟨.str p.shown, H, I.kept (t' := tk) k, ⟨u, rfl⟩, q⟩) h3
def cReprE : List D → Sto → Option D
  | [.tup xs], _ => (toPyE (.tup xs)).bind fun p => if p.showable = true ∧ p.shown.length ≤ BIG ∧ p.depth ≤ 60 then some (.str p.shown) else none
  | _, _ => none
def cRepr2 : List D → Sto → Option D := fun ds S => (cRepr ds S).or (cReprE ds S)
theorem callD_repr2 {K : PySem.W.Frag} : CallD K (fun xs H Q => rRepr K xs H Q ∨ rReprE K xs H Q) cRepr2 := by
  intro vs H ρ S ds d Q hr hvs e q
  unfold cRepr2 at e
  cases e1 : cRepr ds S with
  | some d1 =>
    rw [e1] at e
    cases e
    exact .inl (callD_repr hr hvs e1 q)
  | none =>
    rw [e1] at e
    replace e : cReprE ds S = some d := e
    refine .inr ?_
    match ds, e with
    | [.tup xs], e =>
      obtain ⟨v, vr, rfl, h1, h2⟩ := hvs.of_cons
      rw [h2.of_nil]
      have e' : ((toPyE (.tup xs)).bind fun p => if p.showable = true ∧ p.shown.length ≤ BIG ∧ p.depth ≤ 60 then some (D.str p.shown) else none) = some d := e
      obtain ⟨p, e2, e3⟩ := Option.bind_eq_some_iff.mp e'
      split at e3
      · rename_i c
        cases e3
        refine ⟨v, ρ, _, p, rfl, h1, e2, ?_, c.1, by rw [← big_line]; exact c.2.1, c.2.2, q _ H .refl hr (by unfold RepV; rfl)⟩
        unfold RepV at h1
        obtain ⟨a, _, e, _⟩ := h1
        exact ⟨a, e⟩
      · cases e3
/-! ### what can be shown -/
def shortS (x : Str) : Bool := decide (x.length ≤ 10) && x.cps.toList.all fun c => decide (c < 16 ^ 8)
/-- few things, not deep, numbers not great -/
def Rp : Nat → D → Bool
  | _, .non => true
  | _, .bl _ => true
  | _, .int i => mid i
  | _, .str x => shortS x
  | k + 1, .tup xs => decide (xs.length ≤ 15) && xs.all (Rp k)
  | k + 1, .lst xs => decide (xs.length ≤ 15) && xs.all (Rp k)
  | _ + 1, .emp => true
  | _, _ => false
mutual
def noEmp : D → Bool
  | .emp => false
  | .tup xs => noEmps xs
  | .lst xs => noEmps xs
  | .frz xs => noEmps xs
  | _ => true
def noEmps : List D → Bool
  | [] => true
  | d :: ds => noEmp d && noEmps ds
end
mutual
def noLst : D → Bool
  | .lst _ => false
  | .tup xs => noLsts xs
  | .frz _ => false
  | _ => true
def noLsts : List D → Bool
  | [] => true
  | d :: ds => noLst d && noLsts ds
end
def Wk : Nat → Nat
  | 0 => 10
  | k + 1 => 15 * (Wk k + 1) + 10
structure Sh (k : Nat) (p : PyData) : Prop where
  a : p.showable = true
  b : p.leavesShort 210 = true
  c : p.bulk ≤ Wk k
  d : p.depth ≤ k
theorem mid_log {i : Int} (h : mid i = true) : i.natAbs.log2 < 1920 := by
  have := mid_ok h
  by_cases h0 : i.natAbs = 0
  · rw [h0]; decide
  · exact Nat.lt_trans ((Nat.log2_lt h0).mpr this) (by decide)
theorem mid_len {i : Int} (h : mid i = true) : (PyData.shown (.int i)).length ≤ 210 := by
  unfold mid at h
  simp only [Bool.and_eq_true, decide_eq_true_eq] at h
  have : i.natAbs < 10 ^ 200 := by omega
  have e := PySem.int_text_length_le10 (k := 200) (by decide) this
  have e2 : (PyData.shown (.int i)).length = (toString i).length := by
    show (Str.ofString (toString i)).length = _
    exact PySem.ofString_length _
  omega
theorem Sh.mono {k : Nat} {p : PyData} (h : Sh k p) : Sh (k + 1) p := ⟨h.a, h.b, by have := h.c; show p.bulk ≤ 15 * (Wk k + 1) + 10; omega, by have := h.d; omega⟩
structure ShAll (k n : Nat) (ps : List PyData) : Prop where
  a : PyData.showableAll ps = true
  b : PyData.leavesShortAll 210 ps = true
  c : PyData.bulkAll ps ≤ n * (Wk k + 1)
  d : PyData.depthAll ps ≤ k
theorem ShAll.nil {k : Nat} : ShAll k 0 [] := ⟨rfl, rfl, by simp [PyData.bulkAll], by simp [PyData.depthAll]⟩
theorem ShAll.cons {k n : Nat} {p : PyData} {ps : List PyData} (h : Sh k p) (t : ShAll k n ps) : ShAll k (n + 1) (p :: ps) :=
  ⟨by simp [PyData.showableAll, h.a, t.a], by simp [PyData.leavesShortAll, h.b, t.b], by
    have h1 := h.c
    have h2 := t.c
    simp only [PyData.bulkAll]
    rw [Nat.add_mul]; omega, by
    have h1 := h.d
    have h2 := t.d
    simp only [PyData.depthAll]; omega⟩
theorem Sh.tup {k n : Nat} {ps : List PyData} (t : ShAll k n ps) (hn : n ≤ 15) : Sh (k + 1) (.tuple ps) :=
  ⟨by simp only [PyData.showable]; exact t.a, by simp only [PyData.leavesShort]; exact t.b, by
    have := t.c
    have h2 : n * (Wk k + 1) ≤ 15 * (Wk k + 1) := Nat.mul_le_mul_right _ hn
    simp only [PyData.bulk, Wk]; omega, by have := t.d; simp only [PyData.depth]; omega⟩
theorem Sh.lst {k n : Nat} {ps : List PyData} (t : ShAll k n ps) (hn : n ≤ 15) : Sh (k + 1) (.list ps) :=
  ⟨by simp only [PyData.showable]; exact t.a, by simp only [PyData.leavesShort]; exact t.b, by
    have := t.c
    have h2 : n * (Wk k + 1) ≤ 15 * (Wk k + 1) := Nat.mul_le_mul_right _ hn
    simp only [PyData.bulk, Wk]; omega, by have := t.d; simp only [PyData.depth]; omega⟩
theorem Sh.leaf {k : Nat} {p : PyData} (h : Sh 0 p) : Sh k p := by
  induction k with
  | zero => exact h
  | succ k ih => exact ih.mono
theorem sh_int {i : Int} (h : mid i = true) : Sh 0 (.int i) := ⟨by simp only [PyData.showable, decide_eq_true_eq]; exact mid_log h, by simp only [PyData.leavesShort, decide_eq_true_eq]; exact mid_len h, by simp [PyData.bulk], by simp [PyData.depth]⟩
theorem sh_str {x : Str} (h : shortS x = true) : Sh 0 (.str x) := by
  unfold shortS at h
  simp only [Bool.and_eq_true, decide_eq_true_eq] at h
  exact ⟨rfl, h.2, by simp only [PyData.bulk, Wk]; exact h.1, by simp [PyData.depth]⟩
theorem sh_non : Sh 0 .none := ⟨rfl, rfl, by simp [PyData.bulk], by simp [PyData.depth]⟩
theorem sh_bl {b : Bool} : Sh 0 (.bool b) := ⟨rfl, rfl, by simp [PyData.bulk], by simp [PyData.depth]⟩
theorem Rp_sh : ∀ (k : Nat) (d : D), Rp k d = true → noEmp d = true → ∃ p, toPy d = some p ∧ p.hasDict = false ∧ Sh k p := by
  intro k
  induction k with
  | zero =>
    intro d h h'
    cases d with
    | non => exact ⟨_, rfl, rfl, sh_non⟩
    | bl b => exact ⟨_, rfl, rfl, sh_bl⟩
    | int i => exact ⟨_, rfl, rfl, sh_int h⟩
    | str x => exact ⟨_, rfl, rfl, sh_str h⟩
    | _ => simp [Rp] at h
  | succ k ih =>
    have go : ∀ xs : List D, xs.all (Rp k) = true → noEmps xs = true → ∃ ps, toPys xs = some ps ∧ PyData.hasDictAll ps = false ∧ ShAll k xs.length ps := by
      intro xs
      induction xs with
      | nil => exact fun _ _ => ⟨[], rfl, rfl, .nil⟩
      | cons x xs ih2 =>
        intro h h'
        simp only [List.all_cons, Bool.and_eq_true] at h
        simp only [noEmps, Bool.and_eq_true] at h'
        obtain ⟨p, e1, e2, e3⟩ := ih x h.1 h'.1
        obtain ⟨ps, g1, g2, g3⟩ := ih2 h.2 h'.2
        exact ⟨p :: ps, by simp [toPys, e1, g1], by simp [PyData.hasDictAll, e2, g2], .cons e3 g3⟩
    intro d h h'
    cases d with
    | non => exact ⟨_, rfl, rfl, sh_non.leaf⟩
    | bl b => exact ⟨_, rfl, rfl, sh_bl.leaf⟩
    | int i => exact ⟨_, rfl, rfl, (sh_int h).leaf⟩
    | str x => exact ⟨_, rfl, rfl, (sh_str h).leaf⟩
    | tup xs =>
      simp only [Rp, Bool.and_eq_true, decide_eq_true_eq] at h
      obtain ⟨ps, g1, g2, g3⟩ := go xs h.2 h'
      exact ⟨.tuple ps, by simp [toPy, g1], g2, .tup g3 h.1⟩
    | lst xs =>
      simp only [Rp, Bool.and_eq_true, decide_eq_true_eq] at h
      obtain ⟨ps, g1, g2, g3⟩ := go xs h.2 h'
      exact ⟨.list ps, by simp [toPy, g1], g2, .lst g3 h.1⟩
    | emp => simp [noEmp] at h'
    | _ => simp [Rp] at h
theorem Rp_shE : ∀ (k : Nat) (d : D), Rp k d = true → noLst d = true → ∃ p, toPyE d = some p ∧ Sh k p := by
  intro k
  induction k with
  | zero =>
    intro d h h'
    cases d with
    | non => exact ⟨_, rfl, sh_non⟩
    | bl b => exact ⟨_, rfl, sh_bl⟩
    | int i => exact ⟨_, rfl, sh_int h⟩
    | str x => exact ⟨_, rfl, sh_str h⟩
    | _ => simp [Rp] at h
  | succ k ih =>
    have go : ∀ xs : List D, xs.all (Rp k) = true → noLsts xs = true → ∃ ps, toPyEs xs = some ps ∧ ShAll k xs.length ps := by
      intro xs
      induction xs with
      | nil => exact fun _ _ => ⟨[], rfl, .nil⟩
      | cons x xs ih2 =>
        intro h h'
        simp only [List.all_cons, Bool.and_eq_true] at h
        simp only [noLsts, Bool.and_eq_true] at h'
        obtain ⟨p, e1, e3⟩ := ih x h.1 h'.1
        obtain ⟨ps, g1, g3⟩ := ih2 h.2 h'.2
        exact ⟨p :: ps, by simp [toPyEs, e1, g1], .cons e3 g3⟩
    intro d h h'
    cases d with
    | non => exact ⟨_, rfl, sh_non.leaf⟩
    | bl b => exact ⟨_, rfl, sh_bl.leaf⟩
    | int i => exact ⟨_, rfl, (sh_int h).leaf⟩
    | str x => exact ⟨_, rfl, (sh_str h).leaf⟩
    | tup xs =>
      simp only [Rp, Bool.and_eq_true, decide_eq_true_eq] at h
      obtain ⟨ps, g1, g3⟩ := go xs h.2 h'
      exact ⟨.tuple ps, by simp [toPyE, g1], .tup g3 h.1⟩
    | lst xs => simp [noLst] at h'
    | emp => exact ⟨.dict [], rfl, by
        refine ⟨rfl, rfl, ?_, ?_⟩
        · show PyData.bulkKv [] ≤ _
          simp [PyData.bulkKv]
        · show PyData.depthKv [] + 1 ≤ _
          simp [PyData.depthKv]⟩
    | _ => simp [Rp] at h
theorem Sh.len {p : PyData} (h : Sh 3 p) : p.shown.length ≤ BIG := by
  have h1 := PySem.PyData.shown_le_bulk 210 (by decide) p h.b
  have h2 : p.bulk ≤ 39775 := Nat.le_trans h.c (by decide)
  have h3 : 212 * p.bulk ≤ 212 * 39775 := Nat.mul_le_mul_left _ h2
  have h4 : BIG = 16777216 := rfl
  omega
/-- repr answers, and answers the same again -/
theorem repr_ok {d : D} (h : Rp 3 d = true) (hx : noEmp d = true ∨ noLst d = true) (he : ∀ x, d = x → x ≠ .emp) : ∃ t : Str, ∀ S : Sto, cRepr2 [d] S = some (.str t) := by
  by_cases hn : noEmp d = true
  · obtain ⟨p, e1, e2, sh⟩ := Rp_sh 3 d h hn
    have c : p.showable = true ∧ p.hasDict = false ∧ p.shown.length ≤ BIG ∧ p.depth ≤ 60 := ⟨sh.a, e2, sh.len, Nat.le_trans sh.d (by decide)⟩
    cases d with
    | non => exact ⟨_, fun S => rfl⟩
    | bl b => exact ⟨_, fun S => rfl⟩
    | int i => exact ⟨toString i, fun S => by
        have h' : mid i = true := h
        show ((if i.natAbs.log2 < 1920 then some (D.str (toString i)) else none).or _) = _
        rw [if_pos (mid_log h')]; rfl⟩
    | str x =>
      refine ⟨reprText x, fun S => ?_⟩
      cases e1
      show ((if (reprText x).length ≤ BIG then some (D.str (reprText x)) else none).or _) = _
      rw [if_pos (show (reprText x).length ≤ BIG from c.2.2.1)]; rfl
    | tup xs => exact ⟨p.shown, fun S => by
        show ((((toPy (.tup xs)).bind fun p => if p.showable = true ∧ p.hasDict = false ∧ p.shown.length ≤ BIG ∧ p.depth ≤ 60 then some (D.str p.shown) else none)).or _) = _
        rw [e1, Option.bind_some, if_pos c]; rfl⟩
    | lst xs => exact ⟨p.shown, fun S => by
        show ((((toPy (.lst xs)).bind fun p => if p.showable = true ∧ p.hasDict = false ∧ p.shown.length ≤ BIG ∧ p.depth ≤ 60 then some (D.str p.shown) else none)).or _) = _
        rw [e1, Option.bind_some, if_pos c]; rfl⟩
    | emp => simp [noEmp] at hn
    | _ => simp [Rp] at h
  · have hl : noLst d = true := hx.resolve_left hn
    obtain ⟨p, e1, sh⟩ := Rp_shE 3 d h hl
    have c : p.showable = true ∧ p.shown.length ≤ BIG ∧ p.depth ≤ 60 := ⟨sh.a, sh.len, Nat.le_trans sh.d (by decide)⟩
    cases d with
    | tup xs =>
      have e2 : ∀ S, cReprE [.tup xs] S = some (.str p.shown) := fun S => by
        show ((toPyE (.tup xs)).bind fun p => if p.showable = true ∧ p.shown.length ≤ BIG ∧ p.depth ≤ 60 then some (D.str p.shown) else none) = _
        rw [e1, Option.bind_some, if_pos c]
      cases e3 : dRepr (.tup xs) with
      | none => exact ⟨p.shown, fun S => by
          show ((dRepr (.tup xs)).or _) = _
          rw [e3]; exact e2 S⟩
      | some y =>
        have : ∃ t, y = .str t := by
          have e4 : ((toPy (.tup xs)).bind fun p => if p.showable = true ∧ p.hasDict = false ∧ p.shown.length ≤ BIG ∧ p.depth ≤ 60 then some (D.str p.shown) else none) = some y := e3
          obtain ⟨p', _, e5⟩ := Option.bind_eq_some_iff.mp e4
          split at e5
          · cases e5; exact ⟨_, rfl⟩
          · cases e5
        obtain ⟨t, rfl⟩ := this
        exact ⟨t, fun S => by
          show ((dRepr (.tup xs)).or _) = _
          rw [e3]; rfl⟩
    | emp => exact absurd rfl (he _ rfl)
    | lst xs => simp [noLst] at hl
    | frz xs => simp [noLst] at hl
    | non => simp [noEmp] at hn
    | bl b => simp [noEmp] at hn
    | int i => simp [noEmp] at hn
    | str x => simp [noEmp] at hn
    | ref n => simp [Rp] at h
    | cst n => simp [Rp] at h
end DL
end

section
set_option Elab.async false
set_option linter.all false
set_option maxRecDepth 100000
set_option maxHeartbeats 4000000
/-! a comprehension whose list may be changed later; defs that call each other -/
namespace DL
open PySem PySem.Spec PyProof.Rows L2
section
variable {K : PySem.W.Frag} {H : Hp} {ρ : Rho} {S : Sto}
theorem off_turn {a p : Addr} {x : List Addr} (hp : p ∈ ρ.x) (hx : ∀ b ∈ x, b ∈ ρ.x) (h : ρ.off a) : Rho.off ⟨ρ.l ++ [p], x⟩ a := ⟨fun hm => by
    rcases List.mem_append.mp hm with hm | hm
    · exact h.1 hm
    · exact h.2 (by rw [List.mem_singleton.mp hm]; exact hp), fun hm => h.2 (hx a hm)⟩
mutual
theorem RepV.turn {p : Addr} {x : List Addr} (hp : p ∈ ρ.x) (hx : ∀ b ∈ x, b ∈ ρ.x) : ∀ {d : D} {v : V}, RepV K H ρ d v → RepV K H ⟨ρ.l ++ [p], x⟩ d v
  | .non, _, h => h
  | .bl _, _, h => h
  | .int _, _, h => h
  | .str _, _, h => h
  | .tup ds, v, h => by
    unfold RepV at h ⊢
    obtain ⟨a, vs, e, ha, hs⟩ := h
    refine ⟨a, vs, e, ?_, RepVs.turn hp hx hs⟩
    rcases ha with ⟨hn, ha⟩ | ha
    · exact .inl ⟨off_turn hp hx hn, ha⟩
    · exact .inr ha
  | .lst ds, v, h => by
    unfold RepV at h ⊢
    obtain ⟨a, vs, e, ha, hs⟩ := h
    exact ⟨a, vs, e, ⟨off_turn hp hx ha.1, ha.2⟩, RepVs.turn hp hx hs⟩
  | .frz ds, v, h => by
    unfold RepV at h ⊢
    obtain ⟨a, vs, e, ha, hs⟩ := h
    refine ⟨a, vs, e, ?_, RepVs.turn hp hx hs⟩
    rcases ha with ⟨hn, ha⟩ | ha
    · exact .inl ⟨off_turn hp hx hn, ha⟩
    · exact .inr ha
  | .emp, v, h => by
    unfold RepV at h ⊢
    obtain ⟨a, e, ha⟩ := h
    exact ⟨a, e, off_turn hp hx ha.1, ha.2⟩
  | .ref n, v, h => by
    unfold RepV at h ⊢
    obtain ⟨a, e, ha⟩ := h
    exact ⟨a, e, by show (ρ.l ++ [p])[n]? = some a; rw [List.getElem?_append_left (List.getElem?_eq_some_iff.mp ha).1]; exact ha⟩
  | .cst _, _, h => h
theorem RepVs.turn {p : Addr} {x : List Addr} (hp : p ∈ ρ.x) (hx : ∀ b ∈ x, b ∈ ρ.x) : ∀ {ds : List D} {vs : List V}, RepVs K H ρ ds vs → RepVs K H ⟨ρ.l ++ [p], x⟩ ds vs
  | [], _, h => h
  | d :: ds, vs, h => by
    unfold RepVs at h ⊢
    obtain ⟨v, vr, e, h1, h2⟩ := h
    exact ⟨v, vr, e, RepV.turn hp hx h1, RepVs.turn hp hx h2⟩
end
/-- what was being made is a thing of the store from now on -/
theorem HRep.turn (h : HRep K H ρ S) {p : Addr} {x : List Addr} {ds : List D} {ws : List V} (hp : p ∈ ρ.x) (hx : ∀ b ∈ x, b ∈ ρ.x) (hn : ∀ b ∈ x, b ≠ p) (hw : H p = some (.lst ws)) (r : RepVs K H ρ ds ws) :
    HRep K H ⟨ρ.l ++ [p], x⟩ (S ++ [.lst ds]) := by
  have np := (h.ex p hp).1
  refine ⟨by simp [h.len], ?_, fun n so a e1 e2 => ?_, fun a ha => ?_⟩
  · show (ρ.l ++ [p]).Nodup
    rw [List.nodup_append]
    refine ⟨h.nd, by simp, fun a ha b hb z => ?_⟩
    rw [List.mem_singleton.mp hb] at z
    exact np (z ▸ ha)
  · replace e2 : (ρ.l ++ [p])[n]? = some a := e2
    by_cases hl : n < S.length
    · rw [List.getElem?_append_left hl] at e1
      rw [List.getElem?_append_left (by rw [h.len]; exact hl)] at e2
      exact (h.all n so a e1 e2).map (fun _ q => q) fun ds vs r => r.turn hp hx
    · have en : n = S.length := by
        have := (List.getElem?_eq_some_iff.mp e1).1
        simp at this; omega
      subst en
      simp at e1
      rw [← h.len] at e2
      simp at e2
      subst e1; subst e2
      exact ⟨ws, hw, r.turn hp hx⟩
  · obtain ⟨h1, u, h2⟩ := h.ex a (hx a ha)
    refine ⟨fun hm => ?_, u, h2⟩
    rcases List.mem_append.mp hm with hm | hm
    · exact h1 hm
    · exact hn a ha (List.mem_singleton.mp hm)
end
noncomputable def fCompN (fi : FI) (gt : FG) (t : FT) (f : FE) (vs : List Nat) : FE := fun σ S => (fi σ S).bind fun it S1 => (compF it gt t f (wipeD σ vs) it.ds S1 []).bind fun ds S2 => .ok (.ref S2.length) (S2 ++ [SO.lst ds])
section
variable {X : Cx} {W : WX} {elt tg iter : Expr} {ifs : List Expr} {fi : FI} {gt : FG} {t : FT} {f : FE} {pos : Pos} {scope : Scope} {own : List (Str × Nat)} {vs : List Nat}
/-- the reading of a comprehension whose list may be changed later -/
theorem lc_impN {σ : L2.St} {H : Hp} {Q : VK} (hq : tE X.K W (fCompN fi gt t f vs) σ H Q) : tLc (tI X.K W fi) (tGo X.K vs gt) (tT X.K W0 t) (tE X.K W0 f) vs σ H Q := by
  obtain ⟨ρ, σd, S, he, hr, q⟩ := hq
  refine ⟨ρ, σd, S, he, hr, PR.imp (PR.bind q) (fun it S1 H1 ρ1 x1 hr1 q1 => ?_) fun _ _ _ _ _ _ q => q⟩
  intro J hJ Da hDa
  have xB : Ext H1 ρ1 (upd H1 Da (.lst [])) ⟨ρ1.l, Da :: ρ1.x⟩ := ext_begin hDa
  have hrB : HRep X.K (upd H1 Da (.lst [])) ⟨ρ1.l, Da :: ρ1.x⟩ S1 := hr1.begin hDa
  have heB := (wipe_rep (he.ext x1) vs).ext xB
  -- at turn i: the list so far at Da
  refine ⟨fun i m H => m = it.ds.length - i ∧ i ≤ it.ds.length ∧ ∃ ρ S acc ws, Ext H1 ρ1 H ρ ∧ HRep X.K H ρ S ∧ RepE X.K H ρ (wipeD σd vs) (wipe σ vs) ∧ Da ∈ ρ.x ∧ H Da = some (.lst ws) ∧ RepVs X.K H ρ acc ws ∧
      PR X.K H1 ρ1 ((compF it gt t f (wipeD σd vs) (it.ds.drop i) S acc).bind fun ds S2 => .ok (D.ref S2.length) (S2 ++ [SO.lst ds])) (fun d _ H' ρ' => ∀ v, RepV X.K H' ρ' d v → Q v H') (fun c _ H' _ => W c none σ H'),
    ⟨it.ds.length, by simp, Nat.zero_le _, ⟨ρ1.l, Da :: ρ1.x⟩, S1, [], [], xB, hrB, heB, List.mem_cons_self, upd_same, .nil, q1⟩, ?_⟩
  rintro i m H2 ⟨rfl, hi, ρ2, S2, acc, ws, x2, hr2, he2, hD2, hw2, ra2, q2⟩
  by_cases hlt : i < it.ds.length
  · rw [List.drop_eq_getElem_cons hlt] at q2
    unfold compF at q2
    by_cases hw : watchOk it.w it.ds S2
    · rw [if_pos hw] at q2
      have hd : it.ds[i]? = some it.ds[i] := List.getElem?_eq_getElem hlt
      obtain ⟨h1, h2⟩ := (hJ i H2 ρ2 S2 x2 hr2 hw).1 _ hd
      refine .inr ⟨h1, fun H => ∃ ρ S acc ws, Ext H1 ρ1 H ρ ∧ HRep X.K H ρ S ∧ RepE X.K H ρ (wipeD σd vs) (wipe σ vs) ∧ Da ∈ ρ.x ∧ H Da = some (.lst ws) ∧ RepVs X.K H ρ acc ws ∧
        PR X.K H1 ρ1 ((compF it gt t f (wipeD σd vs) (it.ds.drop (i + 1)) S acc).bind fun ds S2 => .ok (D.ref S2.length) (S2 ++ [SO.lst ds])) (fun d _ H' ρ' => ∀ v, RepV X.K H' ρ' d v → Q v H') (fun c _ H' _ => W c none σ H'),
        fun H' n => ⟨it.ds.length - (i + 1), by omega, rfl, hlt, n⟩, fun v H3 y => ?_⟩
      obtain ⟨x3, hr3, hv⟩ := h2 v H3 y
      cases e1 : gt it.ds[i] (wipeD σd vs) S2 with
      | none => simp only [e1] at q2; exact q2.elim
      | some σ4 =>
        simp only [e1] at q2
        have stayD : ∀ {Ha Hb : Hp} {ρa ρb : Rho} {Sa : Sto}, Ext Ha ρa Hb ρb → HRep X.K Ha ρa Sa → Da ∈ ρa.x → Da ∈ ρb.x ∧ ∀ w, Ha Da = some w → Hb Da = some w := fun {Ha Hb ρa ρb Sa} x h hm => by
          obtain ⟨y, r, _⟩ := x.more
          exact ⟨by rw [r]; exact List.mem_append_right _ hm, fun w hw => x.keep Da w hw (h.ex Da hm).1⟩
        obtain ⟨hD3, hk3⟩ := stayD x3 hr2 hD2
        refine ⟨ρ2, wipeD σd vs, S2, it.ds[i], he2.ext x3, hr3, hv, σ4, e1, fun σ5 he5 w5 => ⟨w5.trans wipe_wipe, ?_⟩⟩
        refine ⟨ρ2, σ4, S2, he5, hr3, ?_⟩
        -- the test
        cases e6 : t σ4 S2 with
        | stuck => rw [e6] at q2; exact q2.elim
        | raise c S6 => rw [e6] at q2; exact q2.elim
        | ok k S6 =>
          rw [e6] at q2
          intro H6 ρ6 x6 hr6
          have x26 := x3.trans x6
          obtain ⟨hD6, hk6⟩ := stayD x6 hr3 hD3
          cases k with
          | false =>
            simp only [Res.noR_ok, Res.bind_ok, Bool.false_eq_true, if_false] at q2
            simp only [Bool.false_eq_true, if_false]
            exact ⟨ρ6, S6, acc, ws, x2.trans x26, hr6, he2.ext x26, hD6, hk6 _ (hk3 _ hw2), ra2.ext x26, q2⟩
          | true =>
            simp only [Res.noR_ok, Res.bind_ok, if_true] at q2
            simp only [if_true]
            refine ⟨ρ6, σ4, S6, he5.ext x6, hr6, ?_⟩
            cases e7 : f σ4 S6 with
            | stuck => rw [e7] at q2; exact q2.elim
            | raise c S7 => rw [e7] at q2; exact q2.elim
            | ok d7 S7 =>
              rw [e7] at q2
              simp only [Res.noR_ok, Res.bind_ok] at q2
              intro H7 ρ7 x7 hr7 v7 hv7
              have x27 := x26.trans x7
              obtain ⟨hD7, hk7⟩ := stayD x7 hr6 hD6
              have hw7 := hk7 _ (hk6 _ (hk3 _ hw2))
              by_cases c : acc.length < BIG
              · rw [if_pos c] at q2
                have ra7 := ra2.ext x27
                refine ⟨ws, hw7, by rw [ra7.length, ← big_line]; exact c, ?_⟩
                have xm : Ext H1 ρ1 (upd H7 Da (.lst (ws ++ [v7]))) ρ7 := by
                  obtain ⟨z1, z2, z3, z4⟩ := x2.trans x27
                  have nD : ∀ a u, H1 a = some u → a ≠ Da := fun a u e z => by rw [z, hDa] at e; cases e
                  exact ⟨z1, z2, fun a u e hn => by rw [upd_ne (nD a u e)]; exact z3 a u e hn, fun a u e => by rw [upd_ne (nD a u e)]; exact z4 a u e⟩
                refine ⟨ρ7, S7, acc ++ [d7], ws ++ [v7], xm, hr7.made hD7, ?_, hD7, upd_same, (ra7.append (.cons hv7 .nil)).made hD7, q2⟩
                obtain ⟨g1, g2⟩ := he2.ext x27
                exact ⟨g1, fun j d e => let ⟨v, a, b⟩ := g2 j d e; ⟨v, a, b.made hD7⟩⟩
              · rw [if_neg c] at q2; exact q2.elim
    · rw [if_neg hw] at q2; exact q2.elim
  · have hi' : i = it.ds.length := by omega
    subst hi'
    rw [List.drop_length] at q2
    unfold compF at q2
    by_cases hw : watchOk it.w it.ds S2
    · rw [if_pos hw] at q2
      refine .inl ⟨(hJ _ H2 ρ2 S2 x2 hr2 hw).2 (Nat.le_refl _), ?_⟩
      have sub : ∀ b ∈ ρ1.x, b ∈ ρ2.x := fun b hb => by
        obtain ⟨y, r, _⟩ := x2.more
        rw [r]; exact List.mem_append_right _ hb
      have nm : Da ∉ ρ2.l := (hr2.ex Da hD2).1
      obtain ⟨e2, r2, n2⟩ := x2.pre
      have xE : Ext H1 ρ1 H2 ⟨ρ2.l ++ [Da], ρ1.x⟩ := ⟨⟨e2 ++ [Da], by rw [r2, List.append_assoc], fun a ha => by
        rcases List.mem_append.mp ha with ha | ha
        · exact n2 a ha
        · rw [List.mem_singleton.mp ha]; exact hDa⟩, ⟨[], by simp, by simp⟩, x2.keep, x2.there⟩
      refine q2 H2 ⟨ρ2.l ++ [Da], ρ1.x⟩ xE (hr2.turn hD2 sub (fun b hb => ?_) hw2 ra2) _ ?_
      · intro z
        subst z
        exact (hr1.out hDa).2 hb
      · unfold RepV
        exact ⟨Da, rfl, by show (ρ2.l ++ [Da])[S2.length]? = some Da; rw [← hr2.len]; simp⟩
    · rw [if_neg hw] at q2; exact q2.elim
/-- [elt for target in iter if ..], to be changed later -/
theorem de_compN (cx : Ctx X W) (hi : DI X W tg iter fi) (ok : BlkOk X.N X.env.scope scope own)
    (hg : ∀ (s : Shared) (H : Hp) (C : Addr) (cl : List (Str × Addr)) (fp : List Addr), DGo (X.blk s H scope (compEnvC scope cl C X.env) fp) (own.map (·.2)) tg gt)
    (ht : ∀ (s : Shared) (H : Hp) (C : Addr) (cl : List (Str × Addr)) (fp : List Addr), DTs (X.blk s H scope (compEnvC scope cl C X.env) fp) W0 ifs t)
    (he : ∀ (s : Shared) (H : Hp) (C : Addr) (cl : List (Str × Addr)) (fp : List Addr), DE (X.blk s H scope (compEnvC scope cl C X.env) fp) W0 elt f)
    (hs : ∀ x, foldedSetIterable iter X.env x = pure x := by intro _; rfl) : DE X W (.ListComp elt [⟨tg, iter, ifs, 0⟩] scope pos) (fCompN fi gt t f (own.map (·.2))) :=
  ⟨PE.imp (pe_lc (g := tGo X.K (own.map (·.2)) gt) (tt := tT X.K W0 t) (te := tE X.K W0 f) cx.calm cx.nd hi.pi ok (fun s H C cl fp => (hg s H C cl fp).pg) (fun s H C cl fp => (ht s H C cl fp).pts) (fun s H C cl fp => (he s H C cl fp).pe) hs) fun _ _ _ q => lc_impN q⟩
end
/-- nothing is said of a function that is stuck -/
def fnStuck : Fn := fun _ _ => .stuck
theorem FnG.stuck {P : Program} {w : World} {K : PySem.W.Frag} {mg : Str → Option Value} {base : Heap} {k : Nat} {f : Addr} {fd : FuncData} {ps : List Str} : FnG P w K mg base k f fd ps (spD K ps.length fnStuck) := by
  have no : ∀ vs H Q E, spD K ps.length fnStuck vs H Q E → False := fun vs H Q E h => by
    obtain ⟨ρ, ds, S, h1, h2, h3, h4⟩ := h
    exact h4
  exact ⟨fun vs H Q E h => (no vs H Q E h).elim, fun A outer s H args us vs Q E hr hg he hb hv hs => (no vs H Q E hs).elim⟩
end DL
end

section
set_option Elab.async false
set_option linter.all false
set_option maxRecDepth 100000
set_option maxHeartbeats 4000000
/-! the empty tuple, some times -/
namespace DL
open PySem PySem.Spec PyProof.Rows L2
theorem tuple_mul0 (l : Addr) (n : Nat) (dd : Option Addr) (sl : Array (Option Value)) (x : Int) (u : Tok) (c0 : (decide (x < -(2 ^ 63)) || decide (x ≥ 2 ^ 63)) = false) :
    Meets (Builtin.«tuple.__mul__» ⟨[.ref l, .int x u], []⟩) (fun _ R s => s.heap.get? l = some { cls := .type "tuple", dict := dd, data := .seq #[] n, slots := sl } ∧ R (.ok (.ret (Value.ref l))) s) :=
  .of_wp fun prog w A R s h => by
    obtain ⟨hp, g, d, tk, os⟩ := s
    obtain ⟨hl, h⟩ := h
    have f1 := AutoSeq1.idx_int
    wp_walk using wpAny_loadPart' hl
    repeat (first
      | (refine wpAny_ite_false (decide_eq_false (by rw [c0]; exact Bool.false_ne_true)) ?_; wp_walk using wpAny_loadPart' hl))
    exact ⟨_, rfl, h⟩
def rRepT0 (K : PySem.W.Frag) : R2 := fun x y H Q => ∃ l k, x = .ref l ∧ y = .int k ∧ SqT K H l [] ∧ 0 ≤ k ∧ k ≤ 1000 ∧ Q (.ref l) H
theorem op_repT0 {X : Cx} : OpR X (binaryOp .Mult) (rRepT0 X.K) := by
  intro pins s σ H x y v u Q I rx ry h
  obtain ⟨l, k, rfl, rfl, hT, h1, h2, q⟩ := h
  cases rx
  obtain ⟨t, rfl⟩ := ry
  obtain ⟨its, r, ⟨⟨cls, dd, data, sl⟩, ho, hc, n, hd⟩, hs⟩ := I.tuple hT
  simp only at hc hd
  subst hc hd
  cases r
  have c0 : (decide (k < -(2 ^ 63)) || decide (k ≥ 2 ^ 63)) = false := by
    rw [decide_eq_false (by omega), decide_eq_false (by omega)] <;> rfl
  refine wpAny_binaryOp_repeat_ref (T := "tuple") (U := "int") (by decide) ⟨_, ho, rfl⟩ (fun s' => typeIs_int s' k t) noFill_tuple_mul F.fills_int_mul F.slot_int_rmul repeat_tuple F.slot_int_index.lookup
    (call_meets F.slot_int_rmul (typeIs_int s k t) F.entry_int_rmul (F.args_int_rmul_2 _ _) (int_rmul_tuple k t l #[] n dd sl)
      ⟨ho, rfl, ⟨_, ho, rfl⟩, call_meets F.slot_tuple_mul ⟨_, ho, rfl⟩ F.entry_tuple_mul (F.args_tuple_mul_2 _ _) (tuple_mul0 l n dd sl k t c0) ⟨ho, ?_⟩⟩)
  exact ⟨.ref l, H, I, rfl, q⟩
def dMulT0 : D → D → Sto → Option D
  | .tup [], .int k, _ => if 0 ≤ k ∧ k ≤ 1000 then some (.tup []) else none
  | _, _, _ => none
theorem opD_mulT0 {K : PySem.W.Frag} : OpD K (rRepT0 K) dMulT0 := by
  intro x y H ρ S dx dy d Q hr hx hy e q
  match dx, dy, e with
  | .tup [], .int k, e =>
    simp only [dMulT0] at e
    split at e
    · rename_i c
      cases e
      obtain ⟨a, vs, rfl, h1, t1, r1⟩ := tup_rep hx
      unfold RepV at hy
      subst hy
      have := r1.of_nil
      subst this
      exact ⟨a, k, rfl, rfl, h1, c.1, c.2, q _ _ .refl hr hx⟩
    · cases e
def dMulE (x y : D) (S : Sto) : Option D := (dMul x y S).or (dMulT0 x y S)
section
variable {X : Cx} {W : WX} {a b : Expr} {f g : FE} {pos : Pos}
theorem de_mulE (ha : DE X W a f) (hb : DE X W b g) : DE X W (.BinOp a .Mult b pos) (fBin dMulE f g) := de_op (pe_op (op_mul_all.or op_repT0) ha.pe hb.pe) (opD_mul_all.or opD_mulT0)
end
end DL
end

section
set_option Elab.async false
set_option linter.all false
set_option maxRecDepth 100000
set_option maxHeartbeats 4000000
/-! divisors below 0; repr of a list of the store -/
namespace DL
open PySem PySem.Spec PyProof.Rows L2
def dModN : D → D → Sto → Option D := dI (fun _ j => decide (j ≠ 0)) fun i j => .int (i.fmod j)
def dDivN : D → D → Sto → Option D := dI (fun _ j => decide (j ≠ 0) && mid j) fun i j => .int (i.fdiv j)
theorem op_fdivNW {X : Cx} : OpR X (binaryOp .FloorDiv) (rI (fun _ j => j ≠ 0 ∧ j.natAbs.log2 < 9000) fun i j => .int (i.fdiv j)) := opI fun i j _ _ _ _ _ hc q =>
  floordiv_int hc.1 q (.inl (PyProof.noPylong_of_log2 hc.2))
section
variable {X : Cx} {W : WX} {a b : Expr} {f g : FE} {pos : Pos}
theorem de_modN (ha : DE X W a f) (hb : DE X W b g) : DE X W (.BinOp a .Mod b pos) (fBin dModN f g) := de_op (pe_op op_modN ha.pe hb.pe) (opD_I (Cb := fun _ j => decide (j ≠ 0)) fun i j c => of_decide_eq_true c)
theorem de_divN (ha : DE X W a f) (hb : DE X W b g) : DE X W (.BinOp a .FloorDiv b pos) (fBin dDivN f g) := de_op (pe_op op_fdivNW ha.pe hb.pe) (opD_I (Cb := fun _ j => decide (j ≠ 0) && mid j) fun i j c => by
  simp only [Bool.and_eq_true, decide_eq_true_eq] at c
  have h := mid_ok c.2
  exact ⟨c.1, by
    by_cases h0 : j.natAbs = 0
    · rw [h0]; decide
    · exact Nat.lt_trans ((Nat.log2_lt h0).mpr h) (by decide)⟩)
end
def cReprR : List D → Sto → Option D
  | [.ref n], S => (lstOf (.ref n) S).bind fun xs => (toPys xs).bind fun ps => if (PyData.list ps).showable = true ∧ (PyData.list ps).hasDict = false ∧ (PyData.list ps).shown.length ≤ BIG ∧ (PyData.list ps).depth ≤ 60 then some (.str (PyData.list ps).shown) else none
  | _, _ => none
def cRepr3 : List D → Sto → Option D := fun ds S => (cRepr2 ds S).or (cReprR ds S)
theorem callD_repr3 {K : PySem.W.Frag} : CallD K (fun xs H Q => rRepr K xs H Q ∨ rReprE K xs H Q) cRepr3 := by
  intro vs H ρ S ds d Q hr hvs e q
  unfold cRepr3 at e
  cases e1 : cRepr2 ds S with
  | some d1 =>
    rw [e1] at e
    cases e
    exact callD_repr2 hr hvs e1 q
  | none =>
    rw [e1] at e
    replace e : cReprR ds S = some d := e
    match ds, e with
    | [.ref n], e =>
      obtain ⟨v, vr, rfl, h1, h2⟩ := hvs.of_cons
      rw [h2.of_nil]
      have e' : ((lstOf (.ref n) S).bind fun xs => (toPys xs).bind fun ps => if (PyData.list ps).showable = true ∧ (PyData.list ps).hasDict = false ∧ (PyData.list ps).shown.length ≤ BIG ∧ (PyData.list ps).depth ≤ 60 then some (D.str (PyData.list ps).shown) else none) = some d := e
      obtain ⟨xs, e2, e'⟩ := Option.bind_eq_some_iff.mp e'
      obtain ⟨ps, e3, e'⟩ := Option.bind_eq_some_iff.mp e'
      split at e'
      · rename_i c
        cases e'
        obtain ⟨a, vs, rfl, h3, h4⟩ := lstOf_rep hr h1 e2
        exact .inl ⟨.ref a, rfl, .inl ⟨.list ps, .lst (.inl (.inl h3)) (toPys_dp h4 e3), ⟨a, rfl⟩, c.1, c.2.1, by rw [← big_line]; exact c.2.2.1, c.2.2.2, q _ H .refl hr (by unfold RepV; rfl)⟩⟩
      · cases e'
def sPar3 (i j l : Nat) (fs : FA) : FS := fun σ S => RS.of (fs σ S) σ fun ds S1 => match ds with
  | [d1, d2, d3] => .nx (((σ.set i (some d1)).set j (some d2)).set l (some d3)) S1
  | _ => .stuck
@[simp] theorem ap_sPar3 {i j l : Nat} {fs : FA} {σ : En} {S : Sto} : sPar3 i j l fs σ S = RS.of (fs σ S) σ fun ds S1 => match ds with | [d1, d2, d3] => .nx (((σ.set i (some d1)).set j (some d2)).set l (some d3)) S1 | _ => .stuck := rfl
section
variable {X : Cx} {W : WX} {a b c : Expr} {pos : Pos}
theorem ds_par3 (i j l : Nat) {x y z : Str} {fs : FA} {px py pz pt : Pos} {kt k2 pt2} (cx : Ctx X W) (ha : DA X W [a, b, c] fs) (hi : X.N[i]? = some x := by rfl) (hj : X.N[j]? = some y := by rfl) (hl : X.N[l]? = some z := by rfl) (hij : i ≠ j := by decide) (hil : i ≠ l := by decide) (hjl : j ≠ l := by decide)
    (hx : X.env.scope.names.lookup x = some .local := by rfl) (hy : X.env.scope.names.lookup y = some .local := by rfl) (hz : X.env.scope.names.lookup z = some .local := by rfl)
    (hw : swappedStores [.Tuple [.Name x px, .Name y py, .Name z pz] kt pt] (.Tuple [a, b, c] k2 pt2) X.env = pure (some [x, y, z]) := by rfl)
    (hs : swapsWithSole [.Tuple [.Name x px, .Name y py, .Name z pz] kt pt] (.Tuple [a, b, c] k2 pt2) pos.line X.env = pure false := by rfl) :
    DS X W (.Assign [.Tuple [.Name x px, .Name y py, .Name z pz] kt pt] (.Tuple [a, b, c] k2 pt2) pos) (sPar3 i j l fs) := by
  refine ⟨PS.imp (ps_par3 cx.calm cx.nd hi hj hl hij hil hjl hx hy hz ha.pa hw hs) fun Z σ H hq => ?_⟩
  obtain ⟨ρ, σd, S, he, hr, q⟩ := hq
  refine ⟨ρ, σd, S, he, hr, PR.imp (PRS.of he q) (fun ds S1 H1 ρ1 x1 hr1 q1 vs hvs => ?_) fun _ _ _ _ _ _ q => q⟩
  match ds, q1 with
  | [d1, d2, d3], q1 =>
    obtain ⟨v, vr, rfl, h1, h2⟩ := hvs.of_cons
    obtain ⟨u, vr, rfl, h3, h4⟩ := h2.of_cons
    obtain ⟨w, vr, rfl, h5, h6⟩ := h4.of_cons
    rw [h6.of_nil]
    exact ⟨v, u, w, rfl, q1 _ H1 ρ1 .refl hr1 ((((he.ext x1).set h1).set h3).set h5)⟩
end
end DL
end

section
set_option Elab.async false
set_option linter.all false
set_option maxRecDepth 100000
set_option maxHeartbeats 4000000
/-! != where a list of the store stands on a side -/
namespace DL
open PySem PySem.Spec PyProof.Rows L2
def toPyR (d : D) (S : Sto) : Option PyData := match d with
  | .ref n => ((lstOf (.ref n) S).bind toPys).map .list
  | d => toPy d
theorem toPyR_dp {K : PySem.W.Frag} {H : Hp} {ρ : Rho} {S : Sto} {d : D} {v : V} {p : PyData} (hr : HRep K H ρ S) (h : RepV K H ρ d v) (e : toPyR d S = some p) : Dp K H v p := by
  cases d with
  | ref n =>
    have e' : ((lstOf (.ref n) S).bind toPys).map PyData.list = some p := e
    obtain ⟨ps, e1, rfl⟩ := Option.map_eq_some_iff.mp e'
    obtain ⟨xs, e2, e3⟩ := Option.bind_eq_some_iff.mp e1
    obtain ⟨a, vs, rfl, h3, h4⟩ := lstOf_rep hr h e2
    exact .lst (.inl (.inl h3)) (toPys_dp h4 e3)
  | _ => exact toPy_dp h e
def dNeR (x y : D) (S : Sto) : Option D := (toPyR x S).bind fun a => (toPyR y S).bind fun b => if SeqAt.shaped a = true ∧ SeqAt.shaped b = true then some (.bl (!PyData.eqv a b)) else none
theorem opD_neR {K : PySem.W.Frag} : OpD K (rNeD K) dNeR := by
  intro x y H ρ S dx dy d Q hr hx hy e q
  unfold dNeR at e
  obtain ⟨a, e1, e⟩ := Option.bind_eq_some_iff.mp e
  obtain ⟨b, e2, e⟩ := Option.bind_eq_some_iff.mp e
  split at e
  · rename_i c
    cases e
    exact ⟨a, b, toPyR_dp hr hx e1, toPyR_dp hr hy e2, c.1, c.2, q _ H .refl hr (by unfold RepV; rfl)⟩
  · cases e
def dNeE (x y : D) (S : Sto) : Option D := (dNe x y S).or (dNeR x y S)
section
variable {X : Cx} {W : WX} {a b : Expr} {f g : FE} {pos : Pos}
theorem de_neE (hu : X.A.units + 65 < cLine) (ha : DE X W a f) (hb : DE X W b g) : DE X W (.Compare a [.NotEq] [b] pos) (fBin dNeE f g) := de_op (pe_cmpR ((op_ne_all (by omega)).or (op_neD (by omega))) ha.pe hb.pe (nomark _)) (opD_ne.or opD_neR)
theorem dt_neE (hu : X.A.units + 65 < cLine) (ha : DE X W a f) (hb : DE X W b g) : DT X W (.Compare a [.NotEq] [b] pos) (tBl (fBin dNeE f g)) := dt_op (op := .NotEq) (pt_cmpR ((op_ne_all (by omega)).or (op_neD (by omega))) ha.pe hb.pe (nomark _)) (opD_ne.or opD_neR)
end
end DL
end

section
set_option Elab.async false
set_option linter.all false
set_option maxRecDepth 100000
namespace DL
open PySem PySem.Spec PyProof.Rows L2
/-- the own errors -/
inductive XN where
  | TwinpurseError | BadProgram | BadStanding | BadFan | BadRoad | BadArgument | BadText | TooLarge | BadLine
  deriving DecidableEq
/-- what the functions of data ask of the text: the test of except clauses, the errors' classes, the defs' places, the turns of a while -/
structure EX where
  em : Value → Value → Option Bool
  km : Value → Value → Option Bool
  x : XN → Addr
  f : String → Addr
  nW : Nat
theorem ds_tryE {X : Cx} {W : WX} {body : List Stmt} {h₀ : ExceptHandler} {hds : List ExceptHandler} {l : List HD} {g : FS} {pos : Pos} {em : Value → Value → Option Bool} (hem : em = PySem.W.exmOne X.K) (cx : Ctx X W) (hs : X.stack = X.env :: X.outer) (hf : X.env.frame = some X.env.locals)
    (hb : ∀ (W' : WX) (pn : List (Addr × Obj)) (xe : Value → Shared → Prop), Ctx (X.tr pn xe) W' → PassesOwn (model X.prog X.w) X.A X.env xe → DSs (X.tr pn xe) W' body g) (hh : HdsD X (h₀ :: hds) l) :
    DS X W (.Try body (h₀ :: hds) [] [] pos) (sTry em g l) := by
  rw [hem]
  exact ds_try cx hs hf hb hh
end DL
open DL PySem L2
noncomputable def M.b__law_mixed (e : EX) : FS := (sSeq (sSet 2 (fBin dMod (fBin dAdd (fBin dAdd (fBin dMul (fVar 0) (fC (.int 48271))) (fBin dMul (fVar 1) (fC (.int 69621)))) (fC (.int 12345))) (fC (.int 2147483647)))) (sRet (fBin dMod (fBin dAdd (fBin dMul (fVar 2) (fBin dAdd (fBin dDiv (fVar 2) (fC (.int 65536))) (fC (.int 3)))) (fVar 1)) (fC (.int 2147483647)))))
noncomputable def M._law_mixed (e : EX) : Fn := (runF 3 (M.b__law_mixed e))
noncomputable def M.b__law_draw (e : EX) : FS := (sSeq (sSet 1 (fBin dIx (fVar 0) (fC (.int 1)))) (sSeq (sPut (fVar 0) (fC (.int 1)) (fBin dAdd (fVar 1) (fC (.int 1)))) (sSeq (sIf (tBl (fBin dLt (fVar 1) (fB cLen (aCons (fBin dIx (fVar 0) (fC (.int 0))) aNil)))) (sRet (fBin dIx (fBin dIx (fVar 0) (fC (.int 0))) (fVar 1))) sNil) (sSeq (sSet 2 (fBin dAdd (fC (.int 1)) (fVar 1))) (sSeq (sIf (tBl (fBin dGt (fB cLen (aCons (fBin dIx (fVar 0) (fC (.int 0))) aNil)) (fC (.int 0)))) (sSet 2 (fBin dAdd (fVar 2) (fBin dMul (fC (.int 1009)) (fBin dIx (fBin dIx (fVar 0) (fC (.int 0))) (fC (.int 0)))))) sNil) (sRet (fBin dMod (fCall (M._law_mixed e) (aCons (fCall (M._law_mixed e) (aCons (fVar 2) (aCons (fVar 1) aNil))) (aCons (fC (.int 5)) aNil))) (fC (.int 1000000)))))))))
noncomputable def M._law_draw (e : EX) : Fn := (runF 3 (M.b__law_draw e))
noncomputable def M._law_program_1 (e : EX) : FS := (sSeq (sSet 4 (fBin dMod (fCall (M._law_draw e) (aCons (fVar 0) aNil)) (fVar 1))) (sSeq (sSet 5 (fBin dMod (fCall (M._law_draw e) (aCons (fVar 0) aNil)) (fVar 1))) (sExpr (fM mAppend (fVar 2) (aCons (fTup (aCons (fVar 4) (aCons (fVar 5) (aCons (fBin dSub (fBin dMod (fCall (M._law_draw e) (aCons (fVar 0) aNil)) (fC (.int 5))) (fC (.int 2))) (aCons (fBin dSub (fBin dMod (fCall (M._law_draw e) (aCons (fVar 0) aNil)) (fC (.int 5))) (fC (.int 2))) aNil))))) aNil)))))
noncomputable def M._law_program_2 (e : EX) : FS := (sExpr (fM mAppend (fVar 6) (aCons (fTup (aCons (fBin dMod (fCall (M._law_draw e) (aCons (fVar 0) aNil)) (fVar 1)) (aCons (fBin dMod (fCall (M._law_draw e) (aCons (fVar 0) aNil)) (fVar 1)) aNil))) aNil)))
noncomputable def M.b__law_program (e : EX) : FS := (sSeq (sSet 1 (fBin dIx (fLst (aCons (fC (.int 1)) (aCons (fC (.int 2)) (aCons (fC (.int 1)) (aCons (fC (.int 3)) (aCons (fC (.int 2)) aNil)))))) (fBin dMod (fCall (M._law_draw e) (aCons (fVar 0) aNil)) (fC (.int 5))))) (sSeq (sSet 2 (fNew aNil)) (sSeq (sFor (iRg1 (aCons (fBin dIx (fLst (aCons (fC (.int 2)) (aCons (fC (.int 3)) (aCons (fC (.int 1)) (aCons (fC (.int 4)) (aCons (fC (.int 4)) (aCons (fC (.int 3)) (aCons (fC (.int 0)) aNil)))))))) (fBin dMod (fCall (M._law_draw e) (aCons (fVar 0) aNil)) (fC (.int 7)))) aNil)) (gNm 3) (M._law_program_1 e)) (sSeq (sSet 6 (fNew aNil)) (sSeq (sFor (iRg1 (aCons (fBin dIx (fLst (aCons (fC (.int 0)) (aCons (fC (.int 1)) (aCons (fC (.int 0)) (aCons (fC (.int 2)) (aCons (fC (.int 1)) aNil)))))) (fBin dMod (fCall (M._law_draw e) (aCons (fVar 0) aNil)) (fC (.int 5)))) aNil)) (gNm 3) (M._law_program_2 e)) (sRet (fTup (aCons (fVar 1) (aCons (fB cTup (aCons (fVar 2) aNil)) (aCons (fB cTup (aCons (fVar 6) aNil)) aNil))))))))))
noncomputable def M._law_program (e : EX) : Fn := frz (runF 7 (M.b__law_program e))
noncomputable def M.b__law_spoilt (e : EX) : FS := (sSeq (sAsg (gTp 3 (gsCons (gNm 3) (gsCons (gNm 4) (gsCons (gNm 5) gsNil)))) (fVar 2)) (sSeq (sSet 6 (fBin dMod (fCall (M._law_draw e) (aCons (fVar 0) aNil)) (fC (.int 4)))) (sSeq (sIf (tBl (fBin dEq (fVar 6) (fC (.int 0)))) (sRet (fTup (aCons (fBin dIx (fLst (aCons (fUn dNeg (fC (.int 1))) (aCons (fVar 1) (aCons (fC (.int 3)) (aCons (fC (.bl true)) (aCons (fC .non) (aCons (fC (.str "0")) (aCons (fBin dPow (fC (.int 10)) (fC (.int 9))) (aCons (fC (.bl false)) aNil))))))))) (fBin dMod (fCall (M._law_draw e) (aCons (fVar 0) aNil)) (fC (.int 8)))) (aCons (fVar 4) (aCons (fVar 5) aNil))))) sNil) (sSeq (sIf (tBl (fBin dEq (fVar 6) (fC (.int 1)))) (sRet (fTup (aCons (fVar 3) (aCons (fBin dIx (fLst (aCons (fUn dNeg (fC (.int 1))) (aCons (fUn dNeg (fBin dPow (fC (.int 10)) (fC (.int 30)))) (aCons (fC (.bl true)) (aCons (fC .non) (aCons (fC (.str "0")) (aCons (fC (.bl false)) aNil))))))) (fBin dMod (fCall (M._law_draw e) (aCons (fVar 0) aNil)) (fC (.int 6)))) (aCons (fVar 5) aNil))))) sNil) (sSeq (sIf (tBl (fBin dEq (fVar 6) (fC (.int 2)))) (sRet (fTup (aCons (fVar 3) (aCons (fVar 4) (aCons (fBin dIx (fLst (aCons (fUn dNeg (fC (.int 1))) (aCons (fUn dNeg (fBin dPow (fC (.int 10)) (fC (.int 30)))) (aCons (fC (.bl true)) (aCons (fC .non) (aCons (fC (.str "0")) (aCons (fC (.bl false)) aNil))))))) (fBin dMod (fCall (M._law_draw e) (aCons (fVar 0) aNil)) (fC (.int 6)))) aNil))))) sNil) (sRet (fBin dIx (fLst (aCons (fTup (aCons (fVar 3) (aCons (fVar 4) aNil))) (aCons (fTup (aCons (fVar 3) (aCons (fVar 4) (aCons (fVar 5) (aCons (fC (.int 0)) aNil))))) (aCons (fLst (aCons (fVar 3) (aCons (fVar 4) (aCons (fVar 5) aNil)))) (aCons (fC .non) (aCons (fC (.int 0)) (aCons (fTup aNil) (aCons (fTup (aCons (fVar 3) (aCons (fTup (aCons (fVar 4) (aCons (fVar 5) aNil))) aNil))) aNil)))))))) (fBin dMod (fCall (M._law_draw e) (aCons (fVar 0) aNil)) (fC (.int 7))))))))))
noncomputable def M._law_spoilt (e : EX) : Fn := (runF 7 (M.b__law_spoilt e))
noncomputable def M._law_numbers_1 (e : EX) : FS := (sIf (tBl (fBin dGt (fVar 3) (fC (.int 0)))) (sSeq (sExpr (fM mAppend (fVar 1) (aCons (fBin dMod (fVar 3) (fC (.int 1000000))) aNil))) (sSet 3 (fBin dDiv (fVar 3) (fC (.int 1000000))))) sNil)
noncomputable def M._law_numbers_2 (e : EX) : FS := (sExpr (fM mAppend (fVar 1) (aCons (fBin dMod (fCall (M._law_mixed e) (aCons (fCall (M._law_mixed e) (aCons (fBin dMod (fVar 2) (fC (.int 2147483647))) (aCons (fVar 4) aNil))) (aCons (fBin dAdd (fVar 4) (fC (.int 7))) aNil))) (fC (.int 1000000))) aNil)))
noncomputable def M._law_numbers_3 (e : EX) : FS := (sIf (tBl (fBin dGe (fVar 2) (fBin dPow (fC (.int 10)) (fC (.int 18))))) (sSeq (sSet 3 (fVar 2)) (sFor (iRg1 (aCons (fC (.int 60)) aNil)) (gNm 4) (M._law_numbers_1 e))) (sSeq (sExpr (fM mAppend (fVar 1) (aCons (fBin dMod (fVar 2) (fC (.int 1000000))) aNil))) (sFor (iRg1 (aCons (fC (.int 5)) aNil)) (gNm 4) (M._law_numbers_2 e))))
noncomputable def M.b__law_numbers (e : EX) : FS := (sSeq (sSet 1 (fNew aNil)) (sSeq (sFor (iSeq (fVar 0)) (gNm 2) (M._law_numbers_3 e)) (sRet (fVar 1))))
noncomputable def M._law_numbers (e : EX) : Fn := frz (runF 5 (M.b__law_numbers e))
noncomputable def M.b__law_purse (e : EX) : FS := (sRet (fBin dIx (fLst (aCons (fBin dMod (fCall (M._law_draw e) (aCons (fVar 0) aNil)) (fC (.int 5))) (aCons (fC (.int 0)) (aCons (fBin dAdd (fBin dPow (fC (.int 10)) (fC (.int 30))) (fCall (M._law_draw e) (aCons (fVar 0) aNil))) (aCons (fCall (M._law_draw e) (aCons (fVar 0) aNil)) aNil))))) (fBin dMod (fCall (M._law_draw e) (aCons (fVar 0) aNil)) (fC (.int 4)))))
noncomputable def M._law_purse (e : EX) : Fn := (runF 1 (M.b__law_purse e))
noncomputable def M.b_is_tuple (e : EX) : FS := (sRet (fAnd (fB cIsi (aCons (fVar 0) (aCons (fC (.cst (.ty "tuple"))) aNil))) (fBin dEq (fB cLen (aCons (fVar 0) aNil)) (fVar 1))))
noncomputable def M.is_tuple (e : EX) : Fn := (runF 2 (M.b_is_tuple e))
noncomputable def M.b_is_within (e : EX) : FS := (sRet (fAnd (fB cIsi (aCons (fVar 0) (aCons (fC (.cst (.ty "int"))) aNil))) (fAnd (fUn dNot (fB cIsi (aCons (fVar 0) (aCons (fC (.cst (.ty "bool"))) aNil)))) (fChain dLe dLe (fVar 1) (fVar 0) (fVar 2)))))
noncomputable def M.is_within (e : EX) : Fn := (runF 3 (M.b_is_within e))
noncomputable def M.check_program_1 (e : EX) : FS := (sSeq (sIf (tOrD (tNotD (tTru (fCall (M.is_tuple e) (aCons (fVar 4) (aCons (fC (.int 4)) aNil))))) (tOrD (tNotD (tTru (fCall (M.is_within e) (aCons (fBin dIx (fVar 4) (fC (.int 0))) (aCons (fC (.int 0)) (aCons (fBin dSub (fVar 1) (fC (.int 1))) aNil)))))) (tNotD (tTru (fCall (M.is_within e) (aCons (fBin dIx (fVar 4) (fC (.int 1))) (aCons (fC (.int 0)) (aCons (fBin dSub (fVar 1) (fC (.int 1))) aNil)))))))) (sRaise (e.x .BadProgram)) sNil) (sIf (tOrD (tNotD (tTru (fCall (M.is_within e) (aCons (fBin dIx (fVar 4) (fC (.int 2))) (aCons (fUn dNeg (fC (.int 2))) (aCons (fC (.int 2)) aNil)))))) (tNotD (tTru (fCall (M.is_within e) (aCons (fBin dIx (fVar 4) (fC (.int 3))) (aCons (fUn dNeg (fC (.int 2))) (aCons (fC (.int 2)) aNil))))))) (sRaise (e.x .BadProgram)) sNil))
noncomputable def M.check_program_2 (e : EX) : FS := (sIf (tOrD (tNotD (tTru (fCall (M.is_tuple e) (aCons (fVar 5) (aCons (fC (.int 2)) aNil))))) (tOrD (tNotD (tTru (fCall (M.is_within e) (aCons (fBin dIx (fVar 5) (fC (.int 0))) (aCons (fC (.int 0)) (aCons (fBin dSub (fVar 1) (fC (.int 1))) aNil)))))) (tNotD (tTru (fCall (M.is_within e) (aCons (fBin dIx (fVar 5) (fC (.int 1))) (aCons (fC (.int 0)) (aCons (fBin dSub (fVar 1) (fC (.int 1))) aNil)))))))) (sRaise (e.x .BadProgram)) sNil)
noncomputable def M.b_check_program (e : EX) : FS := (sSeq (sIf (tNotD (tTru (fCall (M.is_tuple e) (aCons (fVar 0) (aCons (fC (.int 3)) aNil))))) (sRaise (e.x .BadProgram)) sNil) (sSeq (sAsg (gTp 3 (gsCons (gNm 1) (gsCons (gNm 2) (gsCons (gNm 3) gsNil)))) (fVar 0)) (sSeq (sIf (tNotD (tTru (fCall (M.is_within e) (aCons (fVar 1) (aCons (fC (.int 1)) (aCons (fC (.int 3)) aNil)))))) (sRaise (e.x .BadProgram)) sNil) (sSeq (sIf (tOrD (tNotD (tTru (fB cIsi (aCons (fVar 2) (aCons (fC (.cst (.ty "tuple"))) aNil))))) (tBl (fBin dGt (fB cLen (aCons (fVar 2) aNil)) (fC (.int 4))))) (sRaise (e.x .BadProgram)) sNil) (sSeq (sFor (iSeq (fVar 2)) (gNm 4) (M.check_program_1 e)) (sSeq (sIf (tOrD (tNotD (tTru (fB cIsi (aCons (fVar 3) (aCons (fC (.cst (.ty "tuple"))) aNil))))) (tBl (fBin dGt (fB cLen (aCons (fVar 3) aNil)) (fC (.int 2))))) (sRaise (e.x .BadProgram)) sNil) (sFor (iSeq (fVar 3)) (gNm 5) (M.check_program_2 e))))))))
noncomputable def M.check_program (e : EX) : Fn := (runF 6 (M.b_check_program e))
noncomputable def M.b_is_natural (e : EX) : FS := (sRet (fAnd (fB cIsi (aCons (fVar 0) (aCons (fC (.cst (.ty "int"))) aNil))) (fAnd (fUn dNot (fB cIsi (aCons (fVar 0) (aCons (fC (.cst (.ty "bool"))) aNil)))) (fBin dGe (fVar 0) (fC (.int 0))))))
noncomputable def M.is_natural (e : EX) : Fn := (runF 1 (M.b_is_natural e))
noncomputable def M.b_is_place (e : EX) : FS := (sSeq (sIf (tOrD (tNotD (tTru (fCall (M.is_tuple e) (aCons (fVar 0) (aCons (fC (.int 3)) aNil))))) (tNotD (tTru (fCall (M.is_within e) (aCons (fBin dIx (fVar 0) (fC (.int 0))) (aCons (fC (.int 0)) (aCons (fBin dSub (fC (.int 3)) (fC (.int 1))) aNil))))))) (sRet (fC (.bl false))) sNil) (sRet (fAnd (fCall (M.is_natural e) (aCons (fBin dIx (fVar 0) (fC (.int 1))) aNil)) (fCall (M.is_natural e) (aCons (fBin dIx (fVar 0) (fC (.int 2))) aNil)))))
noncomputable def M.is_place (e : EX) : Fn := (runF 1 (M.b_is_place e))
noncomputable def M.b_check_standing (e : EX) : FS := (sSeq (sExpr (fCall (M.check_program e) (aCons (fVar 0) aNil))) (sIf (tOrD (tNotD (tTru (fCall (M.is_place e) (aCons (fVar 1) aNil)))) (tBl (fBin dGe (fBin dIx (fVar 1) (fC (.int 0))) (fBin dIx (fVar 0) (fC (.int 0)))))) (sRaise (e.x .BadStanding)) sNil))
noncomputable def M.check_standing (e : EX) : Fn := (runF 2 (M.b_check_standing e))
noncomputable def M.b__law_told (e : EX) : FS := (sSeq (sTry e.em (sIf (tBl (fBin dIsNot (fCall (M.check_standing e) (aCons (fVar 0) (aCons (fVar 1) aNil))) (fC .non))) (sRet (fC (.str "other"))) sNil) ((.ref (e.x .BadProgram), (sRet (fC (.str "program")))) :: ((.ref (e.x .BadStanding), (sRet (fC (.str "standing")))) :: []))) (sRet (fC (.str "right"))))
noncomputable def M._law_told (e : EX) : Fn := (runF 2 (M.b__law_told e))
noncomputable def M.b_law (e : EX) : FS := (sSeq (sSet 1 (fNew (aCons (fCall (M._law_numbers e) (aCons (fVar 0) aNil)) (aCons (fC (.int 0)) aNil)))) (sSeq (sSet 2 (fCall (M._law_program e) (aCons (fVar 1) aNil))) (sSeq (sSet 3 (fTup (aCons (fBin dMod (fCall (M._law_draw e) (aCons (fVar 1) aNil)) (fBin dIx (fVar 2) (fC (.int 0)))) (aCons (fCall (M._law_purse e) (aCons (fVar 1) aNil)) (aCons (fCall (M._law_purse e) (aCons (fVar 1) aNil)) aNil))))) (sSeq (sIf (tBl (fBin dNe (fCall (M._law_told e) (aCons (fVar 2) (aCons (fVar 3) aNil))) (fC (.str "right")))) (sRet (fC (.bl false))) sNil) (sSeq (sSet 4 (fCall (M._law_spoilt e) (aCons (fVar 1) (aCons (fBin dIx (fVar 2) (fC (.int 0))) (aCons (fVar 3) aNil))))) (sSeq (sIf (tBl (fBin dNe (fCall (M._law_told e) (aCons (fVar 2) (aCons (fVar 4) aNil))) (fC (.str "standing")))) (sRet (fC (.bl false))) sNil) (sSeq (sSet 5 (fBin dIx (fLst (aCons (fC .non) (aCons (fTup (aCons (fC (.int 0)) (aCons (fTup aNil) (aCons (fTup aNil) aNil)))) (aCons (fLst (aCons (fC (.int 1)) (aCons (fTup aNil) (aCons (fTup aNil) aNil)))) (aCons (fTup (aCons (fC (.int 1)) (aCons (fTup (aCons (fTup (aCons (fC (.int 0)) (aCons (fC (.int 0)) (aCons (fC (.int 3)) (aCons (fC (.int 0)) aNil))))) aNil)) (aCons (fTup aNil) aNil)))) aNil))))) (fBin dMod (fCall (M._law_draw e) (aCons (fVar 1) aNil)) (fC (.int 4))))) (sRet (fAnd (fBin dEq (fCall (M._law_told e) (aCons (fVar 5) (aCons (fVar 4) aNil))) (fC (.str "program"))) (fBin dEq (fCall (M._law_told e) (aCons (fVar 5) (aCons (fVar 3) aNil))) (fC (.str "program"))))))))))))
noncomputable def M.law (e : EX) : Fn := (runF 6 (M.b_law e))
noncomputable def M.b__law_bad (e : EX) : FS := (sSeq (sSet 3 (fBin dMod (fCall (M._law_draw e) (aCons (fVar 0) aNil)) (fC (.int 40)))) (sRet (fBin dIx (fLst (aCons (fBin dSub (fVar 1) (fC (.int 1))) (aCons (fBin dAdd (fVar 2) (fC (.int 1))) (aCons (fC (.bl true)) (aCons (fC .non) (aCons (fC (.str "1")) (aCons (fBin dPow (fC (.int 10)) (fC (.int 20))) (aCons (fUn dNeg (fBin dPow (fC (.int 10)) (fC (.int 20)))) (aCons (fC (.bl false)) (aCons (fBin dSub (fBin dSub (fVar 1) (fC (.int 1))) (fVar 3)) (aCons (fBin dAdd (fBin dAdd (fVar 2) (fC (.int 1))) (fVar 3)) aNil))))))))))) (fBin dMod (fCall (M._law_draw e) (aCons (fVar 0) aNil)) (fC (.int 10))))))
noncomputable def M._law_bad (e : EX) : Fn := (runF 4 (M.b__law_bad e))
noncomputable def M.b__law_put (e : EX) : FS := (sRet (fBin dAdd (fBin dAdd (fCut (fVar 0) oNone (oSome (fVar 1))) (fTup (aCons (fVar 2) aNil))) (fCut (fVar 0) (oSome (fBin dAdd (fVar 1) (fC (.int 1)))) oNone)))
noncomputable def M._law_put (e : EX) : Fn := (runF 3 (M.b__law_put e))
noncomputable def M.b__law_spoilt_row (e : EX) : FS := (sSeq (sSet 3 (fBin dMod (fCall (M._law_draw e) (aCons (fVar 0) aNil)) (fB cLen (aCons (fVar 1) aNil)))) (sSeq (sSet 4 (fBin dMod (fCall (M._law_draw e) (aCons (fVar 0) aNil)) (fC (.int 5)))) (sSeq (sIf (tAndD (tBl (fBin dLt (fVar 4) (fC (.int 3)))) (tBl (fBin dLt (fVar 3) (fC (.int 2))))) (sRet (fCall (M._law_put e) (aCons (fVar 1) (aCons (fVar 3) (aCons (fCall (M._law_bad e) (aCons (fVar 0) (aCons (fC (.int 0)) (aCons (fBin dSub (fVar 2) (fC (.int 1))) aNil)))) aNil))))) sNil) (sSeq (sIf (tBl (fBin dLt (fVar 4) (fC (.int 3)))) (sRet (fCall (M._law_put e) (aCons (fVar 1) (aCons (fVar 3) (aCons (fCall (M._law_bad e) (aCons (fVar 0) (aCons (fUn dNeg (fC (.int 2))) (aCons (fC (.int 2)) aNil)))) aNil))))) sNil) (sRet (fBin dIx (fLst (aCons (fCut (fVar 1) (oSome (fC (.int 1))) oNone) (aCons (fBin dAdd (fVar 1) (fTup (aCons (fC (.int 0)) aNil))) (aCons (fB cLst (aCons (fVar 1) aNil)) (aCons (fC .non) (aCons (fC (.int 0)) (aCons (fTup aNil) aNil))))))) (fBin dMod (fCall (M._law_draw e) (aCons (fVar 0) aNil)) (fC (.int 6)))))))))
noncomputable def M._law_spoilt_row (e : EX) : Fn := (runF 5 (M.b__law_spoilt_row e))
noncomputable def M.b__law_spoilt_v2 (e : EX) : FS := (sSeq (sAsg (gTp 3 (gsCons (gNm 2) (gsCons (gNm 3) (gsCons (gNm 4) gsNil)))) (fVar 1)) (sSeq (sSet 5 (fBin dMod (fCall (M._law_draw e) (aCons (fVar 0) aNil)) (fC (.int 7)))) (sSeq (sIf (tBl (fBin dEq (fVar 5) (fC (.int 0)))) (sRet (fTup (aCons (fCall (M._law_bad e) (aCons (fVar 0) (aCons (fC (.int 1)) (aCons (fC (.int 3)) aNil)))) (aCons (fVar 3) (aCons (fVar 4) aNil))))) sNil) (sSeq (sIf (tBl (fBin dEq (fVar 5) (fC (.int 1)))) (sRet (fBin dIx (fLst (aCons (fTup (aCons (fVar 2) (aCons (fVar 3) aNil))) (aCons (fTup (aCons (fVar 2) (aCons (fVar 3) (aCons (fVar 4) (aCons (fTup aNil) aNil))))) (aCons (fB cLst (aCons (fVar 1) aNil)) (aCons (fC .non) (aCons (fC (.int 3)) (aCons (fC (.str "program")) (aCons (fTup aNil) aNil)))))))) (fBin dMod (fCall (M._law_draw e) (aCons (fVar 0) aNil)) (fC (.int 7))))) sNil) (sSeq (sIf (tBl (fBin dEq (fVar 5) (fC (.int 2)))) (sRet (fTup (aCons (fVar 2) (aCons (fBin dIx (fLst (aCons (fBin dMul (fTup (aCons (fTup (aCons (fC (.int 0)) (aCons (fC (.int 0)) (aCons (fC (.int 1)) (aCons (fC (.int 1)) aNil))))) aNil)) (fBin dAdd (fC (.int 5)) (fBin dMod (fCall (M._law_draw e) (aCons (fVar 0) aNil)) (fC (.int 9))))) (aCons (fB cLst (aCons (fVar 3) aNil)) (aCons (fC .non) (aCons (fC (.int 0)) (aCons (fC (.str "")) (aCons (fC .emp) aNil))))))) (fBin dMod (fCall (M._law_draw e) (aCons (fVar 0) aNil)) (fC (.int 6)))) (aCons (fVar 4) aNil))))) sNil) (sSeq (sIf (tBl (fBin dEq (fVar 5) (fC (.int 3)))) (sRet (fTup (aCons (fVar 2) (aCons (fVar 3) (aCons (fBin dIx (fLst (aCons (fBin dMul (fTup (aCons (fTup (aCons (fC (.int 0)) (aCons (fC (.int 0)) aNil))) aNil)) (fBin dAdd (fC (.int 3)) (fBin dMod (fCall (M._law_draw e) (aCons (fVar 0) aNil)) (fC (.int 9))))) (aCons (fB cLst (aCons (fVar 4) aNil)) (aCons (fC .non) (aCons (fC (.int 0)) (aCons (fC (.str "")) (aCons (fC .emp) aNil))))))) (fBin dMod (fCall (M._law_draw e) (aCons (fVar 0) aNil)) (fC (.int 6)))) aNil))))) sNil) (sSeq (sIf (tBl (fBin dLt (fVar 5) (fC (.int 6)))) (sSeq (sSet 6 (fTup (aCons (fBin dMod (fCall (M._law_draw e) (aCons (fVar 0) aNil)) (fVar 2)) (aCons (fBin dMod (fCall (M._law_draw e) (aCons (fVar 0) aNil)) (fVar 2)) (aCons (fC (.int 2)) (aCons (fUn dNeg (fC (.int 2))) aNil)))))) (sSeq (sSet 7 (fBin dMod (fCall (M._law_draw e) (aCons (fVar 0) aNil)) (fC (.int 6)))) (sSeq (sSet 8 (fCut (fVar 3) oNone (oSome (fC (.int 3))))) (sRet (fTup (aCons (fVar 2) (aCons (fBin dAdd (fBin dAdd (fCut (fVar 8) oNone (oSome (fVar 7))) (fTup (aCons (fCall (M._law_spoilt_row e) (aCons (fVar 0) (aCons (fVar 6) (aCons (fVar 2) aNil)))) aNil))) (fCut (fVar 8) (oSome (fVar 7)) oNone)) (aCons (fVar 4) aNil)))))))) sNil) (sSeq (sSet 6 (fTup (aCons (fBin dMod (fCall (M._law_draw e) (aCons (fVar 0) aNil)) (fVar 2)) (aCons (fBin dMod (fCall (M._law_draw e) (aCons (fVar 0) aNil)) (fVar 2)) aNil)))) (sSeq (sSet 8 (fCut (fVar 4) oNone (oSome (fC (.int 1))))) (sSeq (sSet 7 (fBin dMod (fCall (M._law_draw e) (aCons (fVar 0) aNil)) (fC (.int 2)))) (sRet (fTup (aCons (fVar 2) (aCons (fVar 3) (aCons (fBin dAdd (fBin dAdd (fCut (fVar 8) oNone (oSome (fVar 7))) (fTup (aCons (fCall (M._law_spoilt_row e) (aCons (fVar 0) (aCons (fVar 6) (aCons (fVar 2) aNil)))) aNil))) (fCut (fVar 8) (oSome (fVar 7)) oNone)) aNil)))))))))))))))
noncomputable def M._law_spoilt_v2 (e : EX) : Fn := (runF 9 (M.b__law_spoilt_v2 e))
noncomputable def M.b__law_is_program (e : EX) : FS := (sSeq (sTryAs e.em (sIf (tBl (fBin dIsNot (fCall (M.check_program e) (aCons (fVar 0) aNil)) (fC .non))) (sRet (fC .non)) sNil) (.ref (e.x .BadProgram)) 1 (fun v b => (sSeq (sIf (tOrD (tNotD (tTru (fB (cIsE e.km v b) (aCons (fVar 1) (aCons (fC (.cst (.ref (e.x .TwinpurseError)))) aNil))))) (tNotD (tTru (fB (cIsE e.km v b) (aCons (fVar 1) (aCons (fC (.cst (.ty "ValueError"))) aNil)))))) (sRet (fC .non)) sNil) (sSeq (sIf (tTru (fB (cIsE e.km v b) (aCons (fVar 1) (aCons (fTup (aCons (fC (.cst (.ref (e.x .BadArgument)))) (aCons (fC (.cst (.ref (e.x .BadFan)))) (aCons (fC (.cst (.ref (e.x .BadLine)))) (aCons (fC (.cst (.ref (e.x .BadRoad)))) (aCons (fC (.cst (.ref (e.x .BadStanding)))) (aCons (fC (.cst (.ref (e.x .BadText)))) (aCons (fC (.cst (.ref (e.x .TooLarge)))) aNil)))))))) aNil)))) (sRet (fC .non)) sNil) (sRet (fC (.bl false))))))) (sRet (fC (.bl true))))
noncomputable def M._law_is_program (e : EX) : Fn := (runF 2 (M.b__law_is_program e))
noncomputable def M.b_law_v2 (e : EX) : FS := (sSeq (sSet 1 (fNew (aCons (fCall (M._law_numbers e) (aCons (fVar 0) aNil)) (aCons (fC (.int 0)) aNil)))) (sSeq (sSet 2 (fCall (M._law_program e) (aCons (fVar 1) aNil))) (sSeq (sIf (tBl (fBin dIsNot (fCall (M._law_is_program e) (aCons (fVar 2) aNil)) (fC (.bl true)))) (sRet (fC (.bl false))) sNil) (sSeq (sSet 3 (fTup (aCons (fC (.int 3)) (aCons (fBin dMul (fTup (aCons (fTup (aCons (fC (.int 2)) (aCons (fC (.int 2)) (aCons (fUn dNeg (fC (.int 2))) (aCons (fC (.int 2)) aNil))))) aNil)) (fC (.int 4))) (aCons (fTup (aCons (fTup (aCons (fC (.int 0)) (aCons (fC (.int 2)) aNil))) (aCons (fTup (aCons (fC (.int 2)) (aCons (fC (.int 0)) aNil))) aNil))) aNil))))) (sSeq (sIf (tOrD (tBl (fBin dIsNot (fCall (M._law_is_program e) (aCons (fVar 3) aNil)) (fC (.bl true)))) (tBl (fBin dIsNot (fCall (M._law_is_program e) (aCons (fTup (aCons (fC (.int 1)) (aCons (fTup aNil) (aCons (fTup aNil) aNil)))) aNil)) (fC (.bl true))))) (sRet (fC (.bl false))) sNil) (sSeq (sSet 4 (fCall (M._law_spoilt_v2 e) (aCons (fVar 1) (aCons (fVar 2) aNil)))) (sSeq (sSet 5 (fB cRepr2 (aCons (fVar 4) aNil))) (sRet (fAnd (fBin dIs (fCall (M._law_is_program e) (aCons (fVar 4) aNil)) (fC (.bl false))) (fBin dEq (fB cRepr2 (aCons (fVar 4) aNil)) (fVar 5)))))))))))
noncomputable def M.law_v2 (e : EX) : Fn := (runF 6 (M.b_law_v2 e))
noncomputable def M.b__law_number (e : EX) : FS := (sSeq (sSet 2 (fCall (M._law_draw e) (aCons (fVar 0) aNil))) (sSeq (sIf (tBl (fBin dGt (fVar 1) (fBin dPow (fC (.int 10)) (fC (.int 6))))) (sRet (fBin dAdd (fBin dMul (fVar 2) (fBin dPow (fC (.int 10)) (fC (.int 18)))) (fVar 2))) sNil) (sRet (fBin dMod (fVar 2) (fVar 1)))))
noncomputable def M._law_number (e : EX) : Fn := (runF 3 (M.b__law_number e))
noncomputable def M._law_fan_1 (e : EX) : FS := (sSeq (sSet 5 (fTup (aCons (fBin dMod (fCall (M._law_draw e) (aCons (fVar 0) aNil)) (fC (.int 7))) (aCons (fBin dMod (fCall (M._law_draw e) (aCons (fVar 0) aNil)) (fC (.int 7))) aNil)))) (sSeq (sIf (tBl (fBin dEq (fBin dMod (fCall (M._law_draw e) (aCons (fVar 0) aNil)) (fC (.int 3))) (fC (.int 0)))) (sSeq (sSet 6 (fBin dPow (fC (.int 10)) (fC (.int 12)))) (sSeq (sSet 5 (fLst (aCons (fTup (aCons (fC (.int 0)) (aCons (fBin dAdd (fC (.int 1)) (fBin dIx (fVar 5) (fC (.int 1)))) aNil))) (aCons (fTup (aCons (fBin dAdd (fC (.int 1)) (fBin dIx (fVar 5) (fC (.int 0)))) (aCons (fC (.int 0)) aNil))) (aCons (fTup (aCons (fBin dAdd (fBin dMul (fBin dIx (fVar 5) (fC (.int 0))) (fC (.int 5))) (fC (.int 1))) (aCons (fBin dAdd (fBin dMul (fBin dIx (fVar 5) (fC (.int 1))) (fC (.int 5))) (fC (.int 2))) aNil))) (aCons (fTup (aCons (fBin dAdd (fBin dMul (fBin dIx (fVar 5) (fC (.int 0))) (fVar 6)) (fC (.int 1))) (aCons (fBin dAdd (fBin dMul (fBin dIx (fVar 5) (fC (.int 1))) (fVar 6)) (fC (.int 3))) aNil))) aNil)))))) (sSet 5 (fBin dIx (fVar 5) (fBin dMod (fCall (M._law_draw e) (aCons (fVar 0) aNil)) (fC (.int 4))))))) sNil) (sIf (tAndD (tBl (fBin dNe (fVar 5) (fTup (aCons (fC (.int 0)) (aCons (fC (.int 0)) aNil))))) (tOrD (tBl (fBin dEq (fB cLen (aCons (fVar 3) aNil)) (fC (.int 0)))) (tBl (fBin dNe (fBin dMul (fBin dIx (fBin dIx (fVar 3) (fC (.int 0))) (fC (.int 0))) (fBin dIx (fVar 5) (fC (.int 1)))) (fBin dMul (fBin dIx (fBin dIx (fVar 3) (fC (.int 0))) (fC (.int 1))) (fBin dIx (fVar 5) (fC (.int 0)))))))) (sExpr (fM mAppend (fVar 3) (aCons (fVar 5) aNil))) sNil)))
noncomputable def M.b__law_fan (e : EX) : FS := (sSeq (sSet 2 (fTup (aCons (fCall (M._law_number e) (aCons (fVar 0) (aCons (fVar 1) aNil))) (aCons (fCall (M._law_number e) (aCons (fVar 0) (aCons (fVar 1) aNil))) aNil)))) (sSeq (sSet 3 (fNew aNil)) (sSeq (sFor (iRg1 (aCons (fBin dIx (fLst (aCons (fC (.int 2)) (aCons (fC (.int 1)) (aCons (fC (.int 2)) (aCons (fC (.int 0)) (aCons (fC (.int 2)) aNil)))))) (fBin dMod (fCall (M._law_draw e) (aCons (fVar 0) aNil)) (fC (.int 5)))) aNil)) (gNm 4) (M._law_fan_1 e)) (sRet (fTup (aCons (fBin dMod (fCall (M._law_draw e) (aCons (fVar 0) aNil)) (fC (.int 3))) (aCons (fVar 2) (aCons (fB cTup (aCons (fVar 3) aNil)) aNil))))))))
noncomputable def M._law_fan (e : EX) : Fn := frz (runF 7 (M.b__law_fan e))
noncomputable def M.b__law_bad_v2 (e : EX) : FS := (sRet (fBin dIx (fLst (aCons (fUn dNeg (fC (.int 1))) (aCons (fC (.bl true)) (aCons (fC .non) (aCons (fC (.str "1")) (aCons (fUn dNeg (fBin dPow (fC (.int 10)) (fC (.int 30)))) (aCons (fC (.bl false)) aNil))))))) (fBin dMod (fCall (M._law_draw e) (aCons (fVar 0) aNil)) (fC (.int 6)))))
noncomputable def M._law_bad_v2 (e : EX) : Fn := (runF 1 (M.b__law_bad_v2 e))
noncomputable def M.b__law_bad_pair (e : EX) : FS := (sRet (fBin dIx (fLst (aCons (fTup (aCons (fCall (M._law_bad_v2 e) (aCons (fVar 0) aNil)) (aCons (fC (.int 2)) aNil))) (aCons (fTup (aCons (fC (.int 2)) (aCons (fCall (M._law_bad_v2 e) (aCons (fVar 0) aNil)) aNil))) (aCons (fTup (aCons (fC (.int 2)) aNil)) (aCons (fTup (aCons (fC (.int 2)) (aCons (fC (.int 2)) (aCons (fC (.int 2)) aNil)))) (aCons (fLst (aCons (fC (.int 2)) (aCons (fC (.int 2)) aNil))) (aCons (fC .non) (aCons (fTup aNil) aNil)))))))) (fBin dMod (fCall (M._law_draw e) (aCons (fVar 0) aNil)) (fC (.int 7)))))
noncomputable def M._law_bad_pair (e : EX) : Fn := (runF 1 (M.b__law_bad_pair e))
noncomputable def M.b__law_spoilt_v3 (e : EX) : FS := (sSeq (sAsg (gTp 3 (gsCons (gNm 2) (gsCons (gNm 3) (gsCons (gNm 4) gsNil)))) (fVar 1)) (sSeq (sSet 5 (fBin dMod (fCall (M._law_draw e) (aCons (fVar 0) aNil)) (fC (.int 7)))) (sSeq (sIf (tBl (fBin dEq (fVar 5) (fC (.int 0)))) (sRet (fTup (aCons (fBin dIx (fLst (aCons (fUn dNeg (fC (.int 1))) (aCons (fC (.int 3)) (aCons (fC (.bl true)) (aCons (fC .non) (aCons (fC (.str "0")) (aCons (fBin dPow (fC (.int 10)) (fC (.int 30))) (aCons (fC (.bl false)) aNil)))))))) (fBin dMod (fCall (M._law_draw e) (aCons (fVar 0) aNil)) (fC (.int 7)))) (aCons (fVar 3) (aCons (fVar 4) aNil))))) sNil) (sSeq (sIf (tBl (fBin dEq (fVar 5) (fC (.int 1)))) (sRet (fTup (aCons (fVar 2) (aCons (fCall (M._law_bad_pair e) (aCons (fVar 0) aNil)) (aCons (fVar 4) aNil))))) sNil) (sSeq (sIf (tBl (fBin dEq (fVar 5) (fC (.int 2)))) (sRet (fTup (aCons (fVar 2) (aCons (fVar 3) (aCons (fBin dIx (fLst (aCons (fBin dAdd (fCut (fVar 4) oNone (oSome (fC (.int 1)))) (fTup (aCons (fCall (M._law_bad_pair e) (aCons (fVar 0) aNil)) aNil))) (aCons (fBin dAdd (fTup (aCons (fCall (M._law_bad_pair e) (aCons (fVar 0) aNil)) aNil)) (fCut (fVar 4) oNone (oSome (fC (.int 1))))) aNil))) (fBin dMod (fCall (M._law_draw e) (aCons (fVar 0) aNil)) (fC (.int 2)))) aNil))))) sNil) (sSeq (sIf (tBl (fBin dEq (fVar 5) (fC (.int 3)))) (sRet (fTup (aCons (fVar 2) (aCons (fVar 3) (aCons (fBin dIx (fLst (aCons (fTup (aCons (fTup (aCons (fC (.int 0)) (aCons (fC (.int 0)) aNil))) aNil)) (aCons (fTup (aCons (fTup (aCons (fC (.int 1)) (aCons (fC (.int 0)) aNil))) (aCons (fTup (aCons (fC (.int 0)) (aCons (fC (.int 0)) aNil))) aNil))) (aCons (fTup (aCons (fTup (aCons (fC (.int 0)) (aCons (fC (.int 0)) aNil))) (aCons (fTup (aCons (fC (.int 0)) (aCons (fC (.int 1)) aNil))) aNil))) aNil)))) (fBin dMod (fCall (M._law_draw e) (aCons (fVar 0) aNil)) (fC (.int 3)))) aNil))))) sNil) (sSeq (sIf (tBl (fBin dEq (fVar 5) (fC (.int 4)))) (sSeq (sSet 6 (fTup (aCons (fBin dAdd (fC (.int 1)) (fBin dMod (fCall (M._law_draw e) (aCons (fVar 0) aNil)) (fC (.int 4)))) (aCons (fBin dMod (fCall (M._law_draw e) (aCons (fVar 0) aNil)) (fC (.int 4))) aNil)))) (sSeq (sIf (tBl (fBin dEq (fBin dMod (fCall (M._law_draw e) (aCons (fVar 0) aNil)) (fC (.int 3))) (fC (.int 0)))) (sSet 6 (fTup (aCons (fC (.int 0)) (aCons (fBin dIx (fVar 6) (fC (.int 0))) aNil)))) sNil) (sSeq (sSet 7 (fBin dAdd (fC (.int 1)) (fBin dMod (fCall (M._law_draw e) (aCons (fVar 0) aNil)) (fC (.int 3))))) (sSeq (sSet 8 (fBin dAdd (fC (.int 1)) (fBin dMod (fCall (M._law_draw e) (aCons (fVar 0) aNil)) (fC (.int 3))))) (sRet (fTup (aCons (fVar 2) (aCons (fVar 3) (aCons (fTup (aCons (fTup (aCons (fBin dMul (fBin dIx (fVar 6) (fC (.int 0))) (fVar 7)) (aCons (fBin dMul (fBin dIx (fVar 6) (fC (.int 1))) (fVar 7)) aNil))) (aCons (fTup (aCons (fBin dMul (fBin dIx (fVar 6) (fC (.int 0))) (fVar 8)) (aCons (fBin dMul (fBin dIx (fVar 6) (fC (.int 1))) (fVar 8)) aNil))) aNil))) aNil))))))))) sNil) (sSeq (sIf (tBl (fBin dEq (fVar 5) (fC (.int 5)))) (sRet (fTup (aCons (fVar 2) (aCons (fVar 3) (aCons (fBin dIx (fLst (aCons (fTup (aCons (fTup (aCons (fC (.int 1)) (aCons (fC (.int 0)) aNil))) (aCons (fTup (aCons (fC (.int 0)) (aCons (fC (.int 1)) aNil))) (aCons (fTup (aCons (fC (.int 1)) (aCons (fC (.int 1)) aNil))) aNil)))) (aCons (fB cLst (aCons (fVar 4) aNil)) (aCons (fC .non) (aCons (fC (.int 0)) (aCons (fC (.str "")) (aCons (fC .emp) aNil))))))) (fBin dMod (fCall (M._law_draw e) (aCons (fVar 0) aNil)) (fC (.int 6)))) aNil))))) sNil) (sRet (fBin dIx (fLst (aCons (fTup (aCons (fVar 2) (aCons (fVar 3) aNil))) (aCons (fTup (aCons (fVar 2) (aCons (fVar 3) (aCons (fVar 4) (aCons (fC (.int 0)) aNil))))) (aCons (fLst (aCons (fVar 2) (aCons (fVar 3) (aCons (fVar 4) aNil)))) (aCons (fC .non) (aCons (fC (.int 0)) (aCons (fTup aNil) aNil))))))) (fBin dMod (fCall (M._law_draw e) (aCons (fVar 0) aNil)) (fC (.int 6)))))))))))))
noncomputable def M._law_spoilt_v3 (e : EX) : Fn := (runF 9 (M.b__law_spoilt_v3 e))
noncomputable def M.b_is_pair (e : EX) : FS := (sRet (fAnd (fCall (M.is_tuple e) (aCons (fVar 0) (aCons (fC (.int 2)) aNil))) (fAnd (fCall (M.is_natural e) (aCons (fBin dIx (fVar 0) (fC (.int 0))) aNil)) (fCall (M.is_natural e) (aCons (fBin dIx (fVar 0) (fC (.int 1))) aNil)))))
noncomputable def M.is_pair (e : EX) : Fn := (runF 1 (M.b_is_pair e))
noncomputable def M.b_cross (e : EX) : FS := (sRet (fBin dSub (fBin dMul (fBin dIx (fVar 0) (fC (.int 0))) (fBin dIx (fVar 1) (fC (.int 1)))) (fBin dMul (fBin dIx (fVar 0) (fC (.int 1))) (fBin dIx (fVar 1) (fC (.int 0))))))
noncomputable def M.cross (e : EX) : Fn := (runF 2 (M.b_cross e))
noncomputable def M.check_fan_1 (e : EX) : FS := (sIf (tOrD (tNotD (tTru (fCall (M.is_pair e) (aCons (fVar 2) aNil)))) (tBl (fBin dEq (fVar 2) (fTup (aCons (fC (.int 0)) (aCons (fC (.int 0)) aNil)))))) (sRaise (e.x .BadFan)) sNil)
noncomputable def M.b_check_fan (e : EX) : FS := (sSeq (sIf (tOrD (tNotD (tTru (fCall (M.is_tuple e) (aCons (fVar 0) (aCons (fC (.int 3)) aNil))))) (tOrD (tNotD (tTru (fCall (M.is_within e) (aCons (fBin dIx (fVar 0) (fC (.int 0))) (aCons (fC (.int 0)) (aCons (fBin dSub (fC (.int 3)) (fC (.int 1))) aNil)))))) (tNotD (tTru (fCall (M.is_pair e) (aCons (fBin dIx (fVar 0) (fC (.int 1))) aNil)))))) (sRaise (e.x .BadFan)) sNil) (sSeq (sSet 1 (fBin dIx (fVar 0) (fC (.int 2)))) (sSeq (sIf (tOrD (tNotD (tTru (fB cIsi (aCons (fVar 1) (aCons (fC (.cst (.ty "tuple"))) aNil))))) (tBl (fBin dGt (fB cLen (aCons (fVar 1) aNil)) (fC (.int 2))))) (sRaise (e.x .BadFan)) sNil) (sSeq (sFor (iSeq (fVar 1)) (gNm 2) (M.check_fan_1 e)) (sIf (tAndD (tBl (fBin dEq (fB cLen (aCons (fVar 1) aNil)) (fC (.int 2)))) (tBl (fBin dEq (fCall (M.cross e) (aCons (fBin dIx (fVar 1) (fC (.int 0))) (aCons (fBin dIx (fVar 1) (fC (.int 1))) aNil))) (fC (.int 0))))) (sRaise (e.x .BadFan)) sNil)))))
noncomputable def M.check_fan (e : EX) : Fn := (runF 3 (M.b_check_fan e))
noncomputable def M.check_lot_1 (e : EX) : FS := (sExpr (fCall (M.check_fan e) (aCons (fVar 1) aNil)))
noncomputable def M.b_check_lot (e : EX) : FS := (sSeq (sIf (tNotD (tTru (fB cIsi (aCons (fVar 0) (aCons (fC (.cst (.ty "list"))) aNil))))) (sRaise (e.x .BadFan)) sNil) (sFor (iSeq (fVar 0)) (gNm 1) (M.check_lot_1 e)))
noncomputable def M.check_lot (e : EX) : Fn := (runF 2 (M.b_check_lot e))
noncomputable def M.b__law_told_v2 (e : EX) : FS := (sTry e.em (sRet (fBin dIs (fCallL [(e.f "check_lot", M.check_lot e), (e.f "check_fan", M.check_fan e)] 0 (aCons (fVar 1) aNil)) (fC .non))) ((.ref (e.x .BadFan), (sRet (fC (.str "bad")))) :: []))
noncomputable def M._law_told_v2 (e : EX) : Fn := (runF 2 (M.b__law_told_v2 e))
noncomputable def M.law_v3_1 (e : EX) : FE := (fCall (M._law_fan e) (aCons (fVar 1) (aCons (fBin dIx (fLst (aCons (fC (.int 9)) (aCons (fC (.int 13)) (aCons (fBin dPow (fC (.int 10)) (fC (.int 24))) aNil)))) (fBin dMod (fCall (M._law_draw e) (aCons (fVar 1) aNil)) (fC (.int 3)))) aNil)))
noncomputable def M.b_law_v3 (e : EX) : FS := (sSeq (sSet 1 (fNew (aCons (fCall (M._law_numbers e) (aCons (fVar 0) aNil)) (aCons (fC (.int 0)) aNil)))) (sSeq (sSet 2 (fComp (iRg1 (aCons (fBin dMod (fCall (M._law_draw e) (aCons (fVar 1) aNil)) (fC (.int 8))) aNil)) (gNm 8) tYesD (M.law_v3_1 e) [8])) (sSeq (sSet 3 (fCall (M._law_fan e) (aCons (fVar 1) (aCons (fC (.int 9)) aNil)))) (sSeq (sIf (tOrD (tBl (fBin dIsNot (fCall (M._law_told_v2 e) (aCons (fC (.cst (.ref (e.f "check_lot")))) (aCons (fVar 2) aNil))) (fC (.bl true)))) (tOrD (tBl (fBin dIsNot (fCall (M._law_told_v2 e) (aCons (fC (.cst (.ref (e.f "check_fan")))) (aCons (fVar 3) aNil))) (fC (.bl true)))) (tBl (fBin dIsNot (fCall (M._law_told_v2 e) (aCons (fC (.cst (.ref (e.f "check_lot")))) (aCons (fBin dAdd (fLst (aCons (fVar 3) aNil)) (fVar 2)) aNil))) (fC (.bl true)))))) (sRet (fC (.bl false))) sNil) (sSeq (sSet 4 (fB cRepr2 (aCons (fVar 2) aNil))) (sSeq (sSet 5 (fBin dAdd (fCut (fVar 2) (oSome (fC (.int 1))) oNone) (fCut (fVar 2) oNone (oSome (fC (.int 1)))))) (sSeq (sIf (tOrD (tBl (fBin dIsNot (fCall (M._law_told_v2 e) (aCons (fC (.cst (.ref (e.f "check_lot")))) (aCons (fVar 5) aNil))) (fC (.bl true)))) (tBl (fBin dNe (fVar 5) (fBin dAdd (fCut (fVar 2) (oSome (fC (.int 1))) oNone) (fCut (fVar 2) oNone (oSome (fC (.int 1)))))))) (sRet (fC (.bl false))) sNil) (sSeq (sIf (tOrD (tBl (fBin dIsNot (fCall (M._law_told_v2 e) (aCons (fC (.cst (.ref (e.f "check_lot")))) (aCons (fVar 2) aNil))) (fC (.bl true)))) (tBl (fBin dNe (fB cRepr2 (aCons (fVar 2) aNil)) (fVar 4)))) (sRet (fC (.bl false))) sNil) (sSeq (sSet 6 (fCall (M._law_spoilt_v3 e) (aCons (fVar 1) (aCons (fVar 3) aNil)))) (sSeq (sSet 7 (fBin dMod (fCall (M._law_draw e) (aCons (fVar 1) aNil)) (fBin dAdd (fB cLen (aCons (fVar 2) aNil)) (fC (.int 1))))) (sSeq (sIf (tOrD (tBl (fBin dNe (fCall (M._law_told_v2 e) (aCons (fC (.cst (.ref (e.f "check_fan")))) (aCons (fVar 6) aNil))) (fC (.str "bad")))) (tBl (fBin dNe (fCall (M._law_told_v2 e) (aCons (fC (.cst (.ref (e.f "check_lot")))) (aCons (fBin dAdd (fBin dAdd (fCut (fVar 2) oNone (oSome (fVar 7))) (fLst (aCons (fVar 6) aNil))) (fCut (fVar 2) (oSome (fVar 7)) oNone)) aNil))) (fC (.str "bad"))))) (sRet (fC (.bl false))) sNil) (sRet (fBin dEq (fCall (M._law_told_v2 e) (aCons (fC (.cst (.ref (e.f "check_lot")))) (aCons (fBin dIx (fLst (aCons (fB cTup (aCons (fVar 2) aNil)) (aCons (fC .non) (aCons (fC (.int 0)) (aCons (fC (.str "")) (aCons (fC .emp) aNil)))))) (fBin dMod (fCall (M._law_draw e) (aCons (fVar 1) aNil)) (fC (.int 5)))) aNil))) (fC (.str "bad")))))))))))))))
noncomputable def M.law_v3 (e : EX) : Fn := (runF 9 (M.b_law_v3 e))
noncomputable def M.b_move_count (e : EX) : FS := (sRet (fBin dAdd (fB cLen (aCons (fBin dIx (fVar 0) (fC (.int 1))) aNil)) (fB cLen (aCons (fBin dIx (fVar 0) (fC (.int 2))) aNil))))
noncomputable def M.move_count (e : EX) : Fn := (runF 1 (M.b_move_count e))
noncomputable def M.b_is_test (e : EX) : FS := (sRet (fBin dGe (fVar 1) (fB cLen (aCons (fBin dIx (fVar 0) (fC (.int 1))) aNil))))
noncomputable def M.is_test (e : EX) : Fn := (runF 2 (M.b_is_test e))
noncomputable def M.b_source_of (e : EX) : FS := (sSeq (sIf (tTru (fCall (M.is_test e) (aCons (fVar 0) (aCons (fVar 1) aNil)))) (sRet (fBin dIx (fBin dIx (fBin dIx (fVar 0) (fC (.int 2))) (fBin dSub (fVar 1) (fB cLen (aCons (fBin dIx (fVar 0) (fC (.int 1))) aNil)))) (fC (.int 0)))) sNil) (sRet (fBin dIx (fBin dIx (fBin dIx (fVar 0) (fC (.int 1))) (fVar 1)) (fC (.int 0)))))
noncomputable def M.source_of (e : EX) : Fn := (runF 2 (M.b_source_of e))
noncomputable def M.moves_from_1 (e : EX) : FE := (fVar 2)
noncomputable def M.moves_from_2 (e : EX) : FT := (tBl (fBin dEq (fCall (M.source_of e) (aCons (fVar 0) (aCons (fVar 2) aNil))) (fVar 1)))
noncomputable def M.b_moves_from (e : EX) : FS := (sRet (fComp (iRg1 (aCons (fCall (M.move_count e) (aCons (fVar 0) aNil)) aNil)) (gNm 2) (M.moves_from_2 e) (M.moves_from_1 e) [2]))
noncomputable def M.moves_from (e : EX) : Fn := (runF 3 (M.b_moves_from e))
noncomputable def M.b_change_of (e : EX) : FS := (sSeq (sIf (tTru (fCall (M.is_test e) (aCons (fVar 0) (aCons (fVar 1) aNil)))) (sRet (fTup (aCons (fC (.int 0)) (aCons (fC (.int 0)) aNil)))) sNil) (sRet (fTup (aCons (fBin dIx (fBin dIx (fBin dIx (fVar 0) (fC (.int 1))) (fVar 1)) (fC (.int 2))) (aCons (fBin dIx (fBin dIx (fBin dIx (fVar 0) (fC (.int 1))) (fVar 1)) (fC (.int 3))) aNil)))))
noncomputable def M.change_of (e : EX) : Fn := (runF 2 (M.b_change_of e))
noncomputable def M.b_target_of (e : EX) : FS := (sSeq (sIf (tTru (fCall (M.is_test e) (aCons (fVar 0) (aCons (fVar 1) aNil)))) (sRet (fBin dIx (fBin dIx (fBin dIx (fVar 0) (fC (.int 2))) (fBin dSub (fVar 1) (fB cLen (aCons (fBin dIx (fVar 0) (fC (.int 1))) aNil)))) (fC (.int 1)))) sNil) (sRet (fBin dIx (fBin dIx (fBin dIx (fVar 0) (fC (.int 1))) (fVar 1)) (fC (.int 1)))))
noncomputable def M.target_of (e : EX) : Fn := (runF 2 (M.b_target_of e))
noncomputable def M.b_made (e : EX) : FS := (sSeq (sAsg (gTp 3 (gsCons (gNm 3) (gsCons (gNm 4) (gsCons (gNm 5) gsNil)))) (fVar 1)) (sSeq (sIf (tBl (fBin dNe (fCall (M.source_of e) (aCons (fVar 0) (aCons (fVar 2) aNil))) (fVar 3))) (sRet (fC .non)) sNil) (sSeq (sIf (tTru (fCall (M.is_test e) (aCons (fVar 0) (aCons (fVar 2) aNil)))) (sRet (fIf (tBl (fBin dEq (fVar 4) (fC (.int 0)))) (fTup (aCons (fCall (M.target_of e) (aCons (fVar 0) (aCons (fVar 2) aNil))) (aCons (fC (.int 0)) (aCons (fVar 5) aNil)))) (fC .non))) sNil) (sSeq (sSet 6 (fCall (M.change_of e) (aCons (fVar 0) (aCons (fVar 2) aNil)))) (sSeq (sIf (tOrD (tBl (fBin dLt (fBin dAdd (fVar 4) (fBin dIx (fVar 6) (fC (.int 0)))) (fC (.int 0)))) (tBl (fBin dLt (fBin dAdd (fVar 5) (fBin dIx (fVar 6) (fC (.int 1)))) (fC (.int 0))))) (sRet (fC .non)) sNil) (sRet (fTup (aCons (fCall (M.target_of e) (aCons (fVar 0) (aCons (fVar 2) aNil))) (aCons (fBin dAdd (fVar 4) (fBin dIx (fVar 6) (fC (.int 0)))) (aCons (fBin dAdd (fVar 5) (fBin dIx (fVar 6) (fC (.int 1)))) aNil))))))))))
noncomputable def M.made (e : EX) : Fn := (runF 7 (M.b_made e))
noncomputable def M.able_1 (e : EX) : FE := (fVar 2)
noncomputable def M.able_2 (e : EX) : FT := (tBl (fBin dIsNot (fCall (M.made e) (aCons (fVar 0) (aCons (fVar 1) (aCons (fVar 2) aNil)))) (fC .non)))
noncomputable def M.b_able (e : EX) : FS := (sSeq (sExpr (fCall (M.check_standing e) (aCons (fVar 0) (aCons (fVar 1) aNil)))) (sRet (fCompN (iSeq (fCall (M.moves_from e) (aCons (fVar 0) (aCons (fBin dIx (fVar 1) (fC (.int 0))) aNil)))) (gNm 2) (M.able_2 e) (M.able_1 e) [2])))
noncomputable def M.able (e : EX) : Fn := (runF 3 (M.b_able e))
noncomputable def M.b__law_make (e : EX) : FS := (sSeq (sAsg (gTp 3 (gsCons (gNm 3) (gsCons (gNm 4) (gsCons (gNm 5) gsNil)))) (fVar 0)) (sSeq (sAsg (gTp 3 (gsCons (gNm 6) (gsCons (gNm 7) (gsCons (gNm 8) gsNil)))) (fVar 1)) (sSeq (sIf (tBl (fBin dLt (fVar 2) (fB cLen (aCons (fVar 4) aNil)))) (sSeq (sAsg (gTp 4 (gsCons (gNm 9) (gsCons (gNm 10) (gsCons (gNm 11) (gsCons (gNm 12) gsNil))))) (fBin dIx (fVar 4) (fVar 2))) (sSeq (sIf (tOrD (tBl (fBin dNe (fVar 9) (fVar 6))) (tOrD (tBl (fBin dLt (fBin dAdd (fVar 7) (fVar 11)) (fC (.int 0)))) (tBl (fBin dLt (fBin dAdd (fVar 8) (fVar 12)) (fC (.int 0)))))) (sRet (fC .non)) sNil) (sRet (fTup (aCons (fVar 10) (aCons (fBin dAdd (fVar 7) (fVar 11)) (aCons (fBin dAdd (fVar 8) (fVar 12)) aNil))))))) sNil) (sSeq (sAsg (gTp 2 (gsCons (gNm 9) (gsCons (gNm 10) gsNil))) (fBin dIx (fVar 5) (fBin dSub (fVar 2) (fB cLen (aCons (fVar 4) aNil))))) (sSeq (sIf (tOrD (tBl (fBin dNe (fVar 9) (fVar 6))) (tBl (fBin dNe (fVar 7) (fC (.int 0))))) (sRet (fC .non)) sNil) (sRet (fTup (aCons (fVar 10) (aCons (fC (.int 0)) (aCons (fVar 8) aNil))))))))))
noncomputable def M._law_make (e : EX) : Fn := (runF 13 (M.b__law_make e))
noncomputable def M._law_able_1 (e : EX) : FE := (fVar 3)
noncomputable def M._law_able_2 (e : EX) : FT := (tBl (fBin dIsNot (fCall (M._law_make e) (aCons (fVar 0) (aCons (fVar 1) (aCons (fVar 3) aNil)))) (fC .non)))
noncomputable def M.b__law_able (e : EX) : FS := (sSeq (sSet 2 (fBin dAdd (fB cLen (aCons (fBin dIx (fVar 0) (fC (.int 1))) aNil)) (fB cLen (aCons (fBin dIx (fVar 0) (fC (.int 2))) aNil)))) (sRet (fComp (iRg1 (aCons (fVar 2) aNil)) (gNm 3) (M._law_able_2 e) (M._law_able_1 e) [3])))
noncomputable def M._law_able (e : EX) : Fn := (runF 4 (M.b__law_able e))
noncomputable def M._law_run_1 (e : EX) : FS := (sSeq (sSet 5 (fCall (M._law_able e) (aCons (fVar 1) (aCons (fVar 2) aNil)))) (sIf (tBl (fBin dGt (fB cLen (aCons (fVar 5) aNil)) (fC (.int 0)))) (sSeq (sSet 3 (fBin dAdd (fVar 3) (fTup (aCons (fBin dIx (fVar 5) (fBin dMod (fCall (M._law_draw e) (aCons (fVar 0) aNil)) (fB cLen (aCons (fVar 5) aNil)))) aNil)))) (sSet 2 (fCall (M._law_make e) (aCons (fVar 1) (aCons (fVar 2) (aCons (fBin dIx (fVar 3) (fBin dSub (fB cLen (aCons (fVar 3) aNil)) (fC (.int 1)))) aNil)))))) sNil))
noncomputable def M.b__law_run (e : EX) : FS := (sSeq (sSet 3 (fTup aNil)) (sSeq (sFor (iRg1 (aCons (fBin dMod (fCall (M._law_draw e) (aCons (fVar 0) aNil)) (fC (.int 13))) aNil)) (gNm 4) (M._law_run_1 e)) (sRet (fVar 3))))
noncomputable def M._law_run (e : EX) : Fn := (runF 6 (M.b__law_run e))
noncomputable def M.b__law_purse_v2 (e : EX) : FS := (sRet (fBin dIx (fLst (aCons (fBin dMod (fCall (M._law_draw e) (aCons (fVar 0) aNil)) (fC (.int 5))) (aCons (fC (.int 0)) (aCons (fBin dAdd (fBin dPow (fC (.int 10)) (fC (.int 30))) (fBin dMod (fCall (M._law_draw e) (aCons (fVar 0) aNil)) (fC (.int 3)))) (aCons (fC (.int 1)) (aCons (fBin dAdd (fC (.int 6)) (fCall (M._law_draw e) (aCons (fVar 0) aNil))) (aCons (fBin dPow (fC (.int 10)) (fC (.int 18))) aNil))))))) (fBin dMod (fCall (M._law_draw e) (aCons (fVar 0) aNil)) (fC (.int 6)))))
noncomputable def M._law_purse_v2 (e : EX) : Fn := (runF 1 (M.b__law_purse_v2 e))
noncomputable def M._law_all_equal_1 (e : EX) (rec : Fn) : FS := (sIf (tNotD (tTru (fCall rec (aCons (fBin dIx (fVar 0) (fVar 2)) (aCons (fBin dIx (fVar 1) (fVar 2)) aNil))))) (sRet (fC (.bl false))) sNil)
noncomputable def M.b__law_all_equal (e : EX) (rec : Fn) : FS := (sSeq (sFor (iRg1 (aCons (fB cLen (aCons (fVar 1) aNil)) aNil)) (gNm 2) (M._law_all_equal_1 e rec)) (sRet (fC (.bl true))))
noncomputable def M._law_all_equal_r (e : EX) (rec : Fn) : Fn := runF 3 (M.b__law_all_equal e rec)
noncomputable def M.b__law_equal (e : EX) (rec : Fn) : FS := (sSeq (sIf (tTru (fB cIsi (aCons (fVar 1) (aCons (fC (.cst (.ty "list"))) aNil)))) (sRet (fAnd (fB cIsi (aCons (fVar 0) (aCons (fC (.cst (.ty "list"))) aNil))) (fAnd (fBin dEq (fB cLen (aCons (fVar 0) aNil)) (fB cLen (aCons (fVar 1) aNil))) (fCall rec (aCons (fVar 0) (aCons (fVar 1) aNil)))))) sNil) (sSeq (sIf (tTru (fB cIsi (aCons (fVar 1) (aCons (fC (.cst (.ty "tuple"))) aNil)))) (sRet (fAnd (fB cIsi (aCons (fVar 0) (aCons (fC (.cst (.ty "tuple"))) aNil))) (fAnd (fBin dEq (fB cLen (aCons (fVar 0) aNil)) (fB cLen (aCons (fVar 1) aNil))) (fCall rec (aCons (fVar 0) (aCons (fVar 1) aNil)))))) sNil) (sSeq (sIf (tTru (fB cIsi (aCons (fVar 1) (aCons (fC (.cst (.ty "bool"))) aNil)))) (sRet (fAnd (fB cIsi (aCons (fVar 0) (aCons (fC (.cst (.ty "bool"))) aNil))) (fBin dEq (fVar 0) (fVar 1)))) sNil) (sSeq (sIf (tTru (fB cIsi (aCons (fVar 1) (aCons (fC (.cst (.ty "int"))) aNil)))) (sRet (fAnd (fB cIsi (aCons (fVar 0) (aCons (fC (.cst (.ty "int"))) aNil))) (fAnd (fUn dNot (fB cIsi (aCons (fVar 0) (aCons (fC (.cst (.ty "bool"))) aNil)))) (fBin dEq (fVar 0) (fVar 1))))) sNil) (sSeq (sIf (tTru (fB cIsi (aCons (fVar 1) (aCons (fC (.cst (.ty "str"))) aNil)))) (sRet (fAnd (fB cIsi (aCons (fVar 0) (aCons (fC (.cst (.ty "str"))) aNil))) (fBin dEq (fVar 0) (fVar 1)))) sNil) (sRet (fAnd (fBin dIs (fVar 0) (fC .non)) (fBin dIs (fVar 1) (fC .non)))))))))
noncomputable def M._law_equal_n (e : EX) : Nat → Fn
  | 0 => fnStuck
  | n + 1 => runF 2 (M.b__law_equal e (M._law_all_equal_r e (M._law_equal_n e n)))
noncomputable def M._law_equal (e : EX) : Fn := M._law_equal_n e 6
noncomputable def M.b_is_move (e : EX) : FS := (sRet (fCall (M.is_within e) (aCons (fVar 1) (aCons (fC (.int 0)) (aCons (fBin dSub (fCall (M.move_count e) (aCons (fVar 0) aNil)) (fC (.int 1))) aNil)))))
noncomputable def M.is_move (e : EX) : Fn := (runF 2 (M.b_is_move e))
noncomputable def M.b_make (e : EX) : FS := (sSeq (sExpr (fCall (M.check_standing e) (aCons (fVar 0) (aCons (fVar 1) aNil)))) (sSeq (sIf (tNotD (tTru (fCall (M.is_move e) (aCons (fVar 0) (aCons (fVar 2) aNil))))) (sRaise (e.x .BadArgument)) sNil) (sRet (fCall (M.made e) (aCons (fVar 0) (aCons (fVar 1) (aCons (fVar 2) aNil)))))))
noncomputable def M.make (e : EX) : Fn := (runF 3 (M.b_make e))
noncomputable def M.b__law_error_of_make (e : EX) : FS := (sSeq (sTry e.em (sExpr (fCall (M.make e) (aCons (fVar 0) (aCons (fVar 1) (aCons (fVar 2) aNil))))) ((.ref (e.x .BadProgram), (sRet (fC (.str "program")))) :: ((.ref (e.x .BadStanding), (sRet (fC (.str "standing")))) :: ((.ref (e.x .BadArgument), (sRet (fC (.str "argument")))) :: [])))) (sRet (fC (.str "none"))))
noncomputable def M._law_error_of_make (e : EX) : Fn := (runF 3 (M.b__law_error_of_make e))
noncomputable def M.is_word_1 (e : EX) : FS := (sIf (tNotD (tTru (fCall (M.is_move e) (aCons (fVar 0) (aCons (fVar 2) aNil))))) (sRet (fC (.bl false))) sNil)
noncomputable def M.b_is_word (e : EX) : FS := (sSeq (sIf (tNotD (tTru (fB cIsi (aCons (fVar 1) (aCons (fC (.cst (.ty "tuple"))) aNil))))) (sRet (fC (.bl false))) sNil) (sSeq (sFor (iSeq (fVar 1)) (gNm 2) (M.is_word_1 e)) (sRet (fC (.bl true)))))
noncomputable def M.is_word (e : EX) : Fn := (runF 3 (M.b_is_word e))
noncomputable def M.b_check_word (e : EX) : FS := (sIf (tNotD (tTru (fCall (M.is_word e) (aCons (fVar 0) (aCons (fVar 1) aNil))))) (sRaise (e.x .BadArgument)) sNil)
noncomputable def M.check_word (e : EX) : Fn := (runF 2 (M.b_check_word e))
noncomputable def M.played_1 (e : EX) : FS := (sSeq (sSet 1 (fCall (M.made e) (aCons (fVar 0) (aCons (fVar 1) (aCons (fVar 3) aNil))))) (sIf (tBl (fBin dIs (fVar 1) (fC .non))) (sRet (fC .non)) sNil))
noncomputable def M.b_played (e : EX) : FS := (sSeq (sFor (iSeq (fVar 2)) (gNm 3) (M.played_1 e)) (sRet (fVar 1)))
noncomputable def M.played (e : EX) : Fn := (runF 4 (M.b_played e))
noncomputable def M.b_play (e : EX) : FS := (sSeq (sExpr (fCall (M.check_standing e) (aCons (fVar 0) (aCons (fVar 1) aNil)))) (sSeq (sExpr (fCall (M.check_word e) (aCons (fVar 0) (aCons (fVar 2) aNil)))) (sRet (fCall (M.played e) (aCons (fVar 0) (aCons (fVar 1) (aCons (fVar 2) aNil)))))))
noncomputable def M.play (e : EX) : Fn := (runF 3 (M.b_play e))
noncomputable def M._law_play_1 (e : EX) : FS := (sIf (tBl (fBin dIsNot (fVar 1) (fC .non))) (sSet 1 (fCall (M._law_make e) (aCons (fVar 0) (aCons (fVar 1) (aCons (fVar 3) aNil))))) sNil)
noncomputable def M.b__law_play (e : EX) : FS := (sSeq (sFor (iSeq (fVar 2)) (gNm 3) (M._law_play_1 e)) (sRet (fVar 1)))
noncomputable def M._law_play (e : EX) : Fn := (runF 4 (M.b__law_play e))
noncomputable def M.b__law_error (e : EX) : FS := (sSeq (sTry e.em (sExpr (fCall (M.play e) (aCons (fVar 0) (aCons (fVar 1) (aCons (fVar 2) aNil))))) ((.ref (e.x .BadProgram), (sRet (fC (.str "program")))) :: ((.ref (e.x .BadStanding), (sRet (fC (.str "standing")))) :: ((.ref (e.x .BadArgument), (sRet (fC (.str "argument")))) :: [])))) (sRet (fC (.str "none"))))
noncomputable def M._law_error (e : EX) : Fn := (runF 3 (M.b__law_error e))
noncomputable def M.law_v4_1 (e : EX) : FS := (sIf (tNotD (tTru (fCall (M._law_equal e) (aCons (fCall (M.make e) (aCons (fVar 2) (aCons (fVar 4) (aCons (fVar 5) aNil)))) (aCons (fCall (M._law_make e) (aCons (fVar 2) (aCons (fVar 4) (aCons (fVar 5) aNil)))) aNil))))) (sRet (fC (.bl false))) sNil)
noncomputable def M.law_v4_2 (e : EX) : FE := (fBin dMod (fCall (M._law_draw e) (aCons (fVar 1) aNil)) (fVar 3))
noncomputable def M.law_v4_3 (e : EX) : FS := (sSeq (sSet 12 (fB cTup (aCons (fComp (iRg1 (aCons (fBin dMod (fCall (M._law_draw e) (aCons (fVar 1) aNil)) (fC (.int 6))) aNil)) (gNm 18) tYesD (M.law_v4_2 e) [18]) aNil))) (sIf (tNotD (tTru (fCall (M._law_equal e) (aCons (fCall (M.play e) (aCons (fVar 2) (aCons (fVar 4) (aCons (fVar 12) aNil)))) (aCons (fCall (M._law_play e) (aCons (fVar 2) (aCons (fVar 4) (aCons (fVar 12) aNil)))) aNil))))) (sRet (fC (.bl false))) sNil))
noncomputable def M.law_v4_4 (e : EX) : FE := (fVar 5)
noncomputable def M.law_v4_5 (e : EX) : FT := (tBl (fBin dIs (fCall (M._law_make e) (aCons (fVar 2) (aCons (fVar 4) (aCons (fVar 5) aNil)))) (fC .non)))
noncomputable def M.b_law_v4 (e : EX) : FS := (sSeq (sSet 1 (fNew (aCons (fCall (M._law_numbers e) (aCons (fVar 0) aNil)) (aCons (fC (.int 0)) aNil)))) (sSeq (sSet 2 (fCall (M._law_program e) (aCons (fVar 1) aNil))) (sSeq (sSet 3 (fBin dAdd (fB cLen (aCons (fBin dIx (fVar 2) (fC (.int 1))) aNil)) (fB cLen (aCons (fBin dIx (fVar 2) (fC (.int 2))) aNil)))) (sSeq (sSet 4 (fTup (aCons (fBin dMod (fCall (M._law_draw e) (aCons (fVar 1) aNil)) (fBin dIx (fVar 2) (fC (.int 0)))) (aCons (fCall (M._law_purse_v2 e) (aCons (fVar 1) aNil)) (aCons (fCall (M._law_purse_v2 e) (aCons (fVar 1) aNil)) aNil))))) (sSeq (sFor (iRg1 (aCons (fVar 3) aNil)) (gNm 5) (M.law_v4_1 e)) (sSeq (sSet 6 (fCall (M.able e) (aCons (fVar 2) (aCons (fVar 4) aNil)))) (sSeq (sSet 7 (fCall (M._law_able e) (aCons (fVar 2) (aCons (fVar 4) aNil)))) (sSeq (sIf (tNotD (tTru (fCall (M._law_equal e) (aCons (fVar 6) (aCons (fVar 7) aNil))))) (sRet (fC (.bl false))) sNil) (sSeq (sExpr (fM mAppend (fVar 6) (aCons (fC (.int 99)) aNil))) (sSeq (sIf (tNotD (tTru (fCall (M._law_equal e) (aCons (fCall (M.able e) (aCons (fVar 2) (aCons (fVar 4) aNil))) (aCons (fVar 7) aNil))))) (sRet (fC (.bl false))) sNil) (sSeq (sSet 8 (fCall (M._law_run e) (aCons (fVar 1) (aCons (fVar 2) (aCons (fVar 4) aNil))))) (sSeq (sIf (tNotD (tTru (fCall (M._law_equal e) (aCons (fCall (M.play e) (aCons (fVar 2) (aCons (fVar 4) (aCons (fVar 8) aNil)))) (aCons (fCall (M._law_play e) (aCons (fVar 2) (aCons (fVar 4) (aCons (fVar 8) aNil)))) aNil))))) (sRet (fC (.bl false))) sNil) (sSeq (sSet 9 (fTup (aCons (fBin dIx (fVar 4) (fC (.int 0))) (aCons (fBin dAdd (fBin dIx (fVar 4) (fC (.int 1))) (fBin dPow (fC (.int 10)) (fC (.int 30)))) (aCons (fBin dAdd (fBin dIx (fVar 4) (fC (.int 2))) (fBin dPow (fC (.int 10)) (fC (.int 30)))) aNil))))) (sSeq (sSet 10 (fBin dMulE (fCall (M._law_run e) (aCons (fVar 1) (aCons (fVar 2) (aCons (fVar 9) aNil)))) (fC (.int 300)))) (sSeq (sIf (tNotD (tTru (fCall (M._law_equal e) (aCons (fCall (M.play e) (aCons (fVar 2) (aCons (fVar 9) (aCons (fVar 10) aNil)))) (aCons (fCall (M._law_play e) (aCons (fVar 2) (aCons (fVar 9) (aCons (fVar 10) aNil)))) aNil))))) (sRet (fC (.bl false))) sNil) (sSeq (sIf (tNotD (tTru (fCall (M._law_equal e) (aCons (fCall (M.play e) (aCons (fVar 2) (aCons (fVar 4) (aCons (fTup aNil) aNil)))) (aCons (fVar 4) aNil))))) (sRet (fC (.bl false))) sNil) (sSeq (sIf (tBl (fBin dGt (fVar 3) (fC (.int 0)))) (sFor (iRg1 (aCons (fC (.int 3)) aNil)) (gNm 11) (M.law_v4_3 e)) sNil) (sSeq (sSet 13 (fBin dIx (fLst (aCons (fVar 3) (aCons (fUn dNeg (fC (.int 1))) (aCons (fBin dAdd (fVar 3) (fC (.int 7))) (aCons (fUn dNeg (fBin dPow (fC (.int 10)) (fC (.int 30)))) (aCons (fBin dPow (fC (.int 10)) (fC (.int 30))) (aCons (fC (.bl true)) (aCons (fC (.bl false)) aNil)))))))) (fBin dMod (fCall (M._law_draw e) (aCons (fVar 1) aNil)) (fC (.int 7))))) (sSeq (sSet 14 (fBin dMod (fCall (M._law_draw e) (aCons (fVar 1) aNil)) (fBin dAdd (fB cLen (aCons (fVar 8) aNil)) (fC (.int 1))))) (sSeq (sSet 15 (fBin dAdd (fBin dAdd (fCut (fVar 8) oNone (oSome (fVar 14))) (fTup (aCons (fVar 13) aNil))) (fCut (fVar 8) (oSome (fVar 14)) oNone))) (sSeq (sIf (tOrD (tBl (fBin dNe (fCall (M._law_error e) (aCons (fVar 2) (aCons (fVar 4) (aCons (fVar 15) aNil)))) (fC (.str "argument")))) (tBl (fBin dNe (fCall (M._law_error e) (aCons (fVar 2) (aCons (fVar 4) (aCons (fTup (aCons (fVar 13) aNil)) aNil)))) (fC (.str "argument"))))) (sRet (fC (.bl false))) sNil) (sSeq (sIf (tBl (fBin dNe (fCall (M._law_error_of_make e) (aCons (fVar 2) (aCons (fVar 4) (aCons (fVar 13) aNil)))) (fC (.str "argument")))) (sRet (fC (.bl false))) sNil) (sSeq (sSet 16 (fComp (iRg1 (aCons (fVar 3) aNil)) (gNm 5) (M.law_v4_5 e) (M.law_v4_4 e) [5])) (sSeq (sIf (tAndD (tBl (fBin dGt (fB cLen (aCons (fVar 16) aNil)) (fC (.int 0)))) (tBl (fBin dNe (fCall (M._law_error e) (aCons (fVar 2) (aCons (fVar 4) (aCons (fTup (aCons (fBin dIx (fVar 16) (fBin dMod (fCall (M._law_draw e) (aCons (fVar 1) aNil)) (fB cLen (aCons (fVar 16) aNil)))) (aCons (fVar 13) aNil))) aNil)))) (fC (.str "argument"))))) (sRet (fC (.bl false))) sNil) (sSeq (sSet 17 (fBin dIx (fLst (aCons (fTup (aCons (fBin dIx (fVar 2) (fC (.int 0))) (aCons (fC (.int 0)) (aCons (fC (.int 0)) aNil)))) (aCons (fTup (aCons (fC (.int 0)) (aCons (fUn dNeg (fC (.int 1))) (aCons (fC (.int 0)) aNil)))) (aCons (fTup (aCons (fC (.int 0)) (aCons (fC (.int 0)) (aCons (fUn dNeg (fC (.int 1))) aNil)))) (aCons (fTup (aCons (fC (.int 0)) (aCons (fC (.int 0)) aNil))) (aCons (fC .non) aNil)))))) (fBin dMod (fCall (M._law_draw e) (aCons (fVar 1) aNil)) (fC (.int 5))))) (sSeq (sIf (tOrD (tBl (fBin dNe (fCall (M._law_error e) (aCons (fVar 2) (aCons (fVar 17) (aCons (fTup (aCons (fVar 13) aNil)) aNil)))) (fC (.str "standing")))) (tBl (fBin dNe (fCall (M._law_error_of_make e) (aCons (fVar 2) (aCons (fVar 17) (aCons (fVar 13) aNil)))) (fC (.str "standing"))))) (sRet (fC (.bl false))) sNil) (sRet (fAnd (fBin dEq (fCall (M._law_error e) (aCons (fTup (aCons (fC (.int 1)) (aCons (fTup aNil) aNil))) (aCons (fVar 17) (aCons (fTup (aCons (fVar 13) aNil)) aNil)))) (fC (.str "program"))) (fBin dEq (fCall (M._law_error_of_make e) (aCons (fC .non) (aCons (fVar 17) (aCons (fVar 13) aNil)))) (fC (.str "program")))))))))))))))))))))))))))))))
noncomputable def M.law_v4 (e : EX) : Fn := (runF 19 (M.b_law_v4 e))
noncomputable def M._law_at_1 (e : EX) : FS := (sSeq (sSet 3 (fBin dAdd (fVar 3) (fBin dMul (fBin dIx (fVar 1) (fVar 5)) (fBin dIx (fBin dIx (fBin dIx (fVar 0) (fC (.int 2))) (fVar 5)) (fC (.int 0)))))) (sSet 4 (fBin dAdd (fVar 4) (fBin dMul (fBin dIx (fVar 1) (fVar 5)) (fBin dIx (fBin dIx (fBin dIx (fVar 0) (fC (.int 2))) (fVar 5)) (fC (.int 1)))))))
noncomputable def M.b__law_at (e : EX) : FS := (sSeq (sPar3 2 3 4 (aCons (fBin dIx (fVar 0) (fC (.int 0))) (aCons (fBin dIx (fBin dIx (fVar 0) (fC (.int 1))) (fC (.int 0))) (aCons (fBin dIx (fBin dIx (fVar 0) (fC (.int 1))) (fC (.int 1))) aNil)))) (sSeq (sFor (iRg1 (aCons (fB cLen (aCons (fVar 1) aNil)) aNil)) (gNm 5) (M._law_at_1 e)) (sRet (fTup (aCons (fVar 2) (aCons (fVar 3) (aCons (fVar 4) aNil)))))))
noncomputable def M._law_at (e : EX) : Fn := (runF 6 (M.b__law_at e))
noncomputable def M.b_check_place (e : EX) : FS := (sIf (tNotD (tTru (fCall (M.is_place e) (aCons (fVar 0) aNil)))) (sRaise (e.x .BadStanding)) sNil)
noncomputable def M.check_place (e : EX) : Fn := (runF 1 (M.b_check_place e))
noncomputable def M.b_counts_to (e : EX) : FS := (sSeq (sIf (tBl (fBin dEq (fB cLen (aCons (fVar 0) aNil)) (fC (.int 0)))) (sRet (fIf (tAndD (tBl (fBin dEq (fVar 1) (fC (.int 0)))) (tBl (fBin dEq (fVar 2) (fC (.int 0))))) (fTup aNil) (fC .non))) sNil) (sSeq (sIf (tBl (fBin dEq (fB cLen (aCons (fVar 0) aNil)) (fC (.int 1)))) (sSeq (sSet 3 (fBin dIx (fVar 0) (fC (.int 0)))) (sSeq (sSet 4 (fIf (tBl (fBin dGt (fBin dIx (fVar 3) (fC (.int 0))) (fC (.int 0)))) (fBin dDivN (fVar 1) (fBin dIx (fVar 3) (fC (.int 0)))) (fBin dDivN (fVar 2) (fBin dIx (fVar 3) (fC (.int 1)))))) (sSeq (sIf (tAndD (tBl (fBin dGe (fVar 4) (fC (.int 0)))) (tAndD (tBl (fBin dEq (fBin dMul (fVar 4) (fBin dIx (fVar 3) (fC (.int 0)))) (fVar 1))) (tBl (fBin dEq (fBin dMul (fVar 4) (fBin dIx (fVar 3) (fC (.int 1)))) (fVar 2))))) (sRet (fTup (aCons (fVar 4) aNil))) sNil) (sRet (fC .non))))) sNil) (sSeq (sSet 5 (fCall (M.cross e) (aCons (fBin dIx (fVar 0) (fC (.int 0))) (aCons (fBin dIx (fVar 0) (fC (.int 1))) aNil)))) (sSeq (sSet 6 (fCall (M.cross e) (aCons (fTup (aCons (fVar 1) (aCons (fVar 2) aNil))) (aCons (fBin dIx (fVar 0) (fC (.int 1))) aNil)))) (sSeq (sSet 7 (fCall (M.cross e) (aCons (fBin dIx (fVar 0) (fC (.int 0))) (aCons (fTup (aCons (fVar 1) (aCons (fVar 2) aNil))) aNil)))) (sSeq (sIf (tOrD (tBl (fBin dNe (fBin dModN (fVar 6) (fVar 5)) (fC (.int 0)))) (tOrD (tBl (fBin dNe (fBin dModN (fVar 7) (fVar 5)) (fC (.int 0)))) (tOrD (tBl (fBin dLt (fBin dDivN (fVar 6) (fVar 5)) (fC (.int 0)))) (tBl (fBin dLt (fBin dDivN (fVar 7) (fVar 5)) (fC (.int 0))))))) (sRet (fC .non)) sNil) (sRet (fTup (aCons (fBin dDivN (fVar 6) (fVar 5)) (aCons (fBin dDivN (fVar 7) (fVar 5)) aNil))))))))))
noncomputable def M.counts_to (e : EX) : Fn := (runF 8 (M.b_counts_to e))
noncomputable def M.b_found (e : EX) : FS := (sSeq (sIf (tBl (fBin dNe (fBin dIx (fVar 0) (fC (.int 0))) (fBin dIx (fVar 1) (fC (.int 0))))) (sRet (fC .non)) sNil) (sRet (fCall (M.counts_to e) (aCons (fBin dIx (fVar 0) (fC (.int 2))) (aCons (fBin dSub (fBin dIx (fVar 1) (fC (.int 1))) (fBin dIx (fBin dIx (fVar 0) (fC (.int 1))) (fC (.int 0)))) (aCons (fBin dSub (fBin dIx (fVar 1) (fC (.int 2))) (fBin dIx (fBin dIx (fVar 0) (fC (.int 1))) (fC (.int 1)))) aNil))))))
noncomputable def M.found (e : EX) : Fn := (runF 2 (M.b_found e))
noncomputable def M.has_1 (e : EX) : FS := (sIf (tBl (fBin dIsNot (fCall (M.found e) (aCons (fVar 2) (aCons (fVar 1) aNil))) (fC .non))) (sRet (fC (.bl true))) sNil)
noncomputable def M.b_has (e : EX) : FS := (sSeq (sExpr (fCall (M.check_lot e) (aCons (fVar 0) aNil))) (sSeq (sExpr (fCall (M.check_place e) (aCons (fVar 1) aNil))) (sSeq (sFor (iSeq (fVar 0)) (gNm 2) (M.has_1 e)) (sRet (fC (.bl false))))))
noncomputable def M.has (e : EX) : Fn := (runF 3 (M.b_has e))
noncomputable def M.point_at_1 (e : EX) : FS := (sSeq (sAug 3 (dI (fun _ _ => true) fun i j => .int (i + j)) (fBin dMul (fBin dIx (fVar 5) (fC (.int 0))) (fVar 6))) (sAug 4 (dI (fun _ _ => true) fun i j => .int (i + j)) (fBin dMul (fBin dIx (fVar 5) (fC (.int 1))) (fVar 6))))
noncomputable def M.b_point_at (e : EX) : FS := (sSeq (sAsg (gTp 2 (gsCons (gNm 3) (gsCons (gNm 4) gsNil))) (fVar 0)) (sSeq (sFor (iZp (aCons (fVar 1) (aCons (fVar 2) aNil))) (gTp 2 (gsCons (gNm 5) (gsCons (gNm 6) gsNil))) (M.point_at_1 e)) (sRet (fTup (aCons (fVar 3) (aCons (fVar 4) aNil))))))
noncomputable def M.point_at (e : EX) : Fn := (runF 7 (M.b_point_at e))
noncomputable def M.are_counts_1 (e : EX) : FS := (sIf (tNotD (tTru (fCall (M.is_natural e) (aCons (fVar 2) aNil)))) (sRet (fC (.bl false))) sNil)
noncomputable def M.b_are_counts (e : EX) : FS := (sSeq (sIf (tNotD (tTru (fCall (M.is_tuple e) (aCons (fVar 0) (aCons (fVar 1) aNil))))) (sRet (fC (.bl false))) sNil) (sSeq (sFor (iSeq (fVar 0)) (gNm 2) (M.are_counts_1 e)) (sRet (fC (.bl true)))))
noncomputable def M.are_counts (e : EX) : Fn := (runF 3 (M.b_are_counts e))
noncomputable def M.b_standing_at (e : EX) : FS := (sSeq (sExpr (fCall (M.check_fan e) (aCons (fVar 0) aNil))) (sSeq (sIf (tNotD (tTru (fCall (M.are_counts e) (aCons (fVar 1) (aCons (fB cLen (aCons (fBin dIx (fVar 0) (fC (.int 2))) aNil)) aNil))))) (sRaise (e.x .BadArgument)) sNil) (sSeq (sAsg (gTp 2 (gsCons (gNm 2) (gsCons (gNm 3) gsNil))) (fCall (M.point_at e) (aCons (fBin dIx (fVar 0) (fC (.int 1))) (aCons (fBin dIx (fVar 0) (fC (.int 2))) (aCons (fVar 1) aNil))))) (sRet (fTup (aCons (fBin dIx (fVar 0) (fC (.int 0))) (aCons (fVar 2) (aCons (fVar 3) aNil))))))))
noncomputable def M.standing_at (e : EX) : Fn := (runF 4 (M.b_standing_at e))
noncomputable def M.b__law_refused (e : EX) : FS := (sSeq (sTry e.em (sExpr (fCall (M.standing_at e) (aCons (fVar 0) (aCons (fVar 1) aNil)))) ((.ref (e.x .BadArgument), (sRet (fC (.bl true)))) :: [])) (sRet (fC (.bl false))))
noncomputable def M._law_refused (e : EX) : Fn := (runF 2 (M.b__law_refused e))
noncomputable def M.b_counts_of (e : EX) : FS := (sSeq (sExpr (fCall (M.check_fan e) (aCons (fVar 0) aNil))) (sSeq (sExpr (fCall (M.check_place e) (aCons (fVar 1) aNil))) (sRet (fCall (M.found e) (aCons (fVar 0) (aCons (fVar 1) aNil))))))
noncomputable def M.counts_of (e : EX) : Fn := (runF 2 (M.b_counts_of e))
noncomputable def M._law_none_1 (e : EX) : FS := (sTry e.em (sSeq (sIf (tBl (fBin dEq (fVar 2) (fC (.int 0)))) (sExpr (fCall (M.counts_of e) (aCons (fVar 0) (aCons (fVar 1) aNil)))) (sIf (tBl (fBin dEq (fVar 2) (fC (.int 1)))) (sExpr (fCall (M.has e) (aCons (fLst (aCons (fVar 0) aNil)) (aCons (fVar 1) aNil)))) (sExpr (fCall (M.has e) (aCons (fLst aNil) (aCons (fVar 1) aNil)))))) (sRet (fC (.bl false)))) ((.ref (e.x .BadStanding), sNil) :: []))
noncomputable def M.b__law_none (e : EX) : FS := (sSeq (sFor (iRg1 (aCons (fC (.int 3)) aNil)) (gNm 2) (M._law_none_1 e)) (sRet (fC (.bl true))))
noncomputable def M._law_none (e : EX) : Fn := (runF 3 (M.b__law_none e))
noncomputable def M.b__law_count (e : EX) : FS := (sRet (fBin dIx (fLst (aCons (fBin dMod (fCall (M._law_draw e) (aCons (fVar 0) aNil)) (fC (.int 5))) (aCons (fBin dAdd (fBin dPow (fC (.int 10)) (fC (.int 30))) (fCall (M._law_draw e) (aCons (fVar 0) aNil))) (aCons (fC (.int 0)) (aCons (fCall (M._law_draw e) (aCons (fVar 0) aNil)) aNil))))) (fBin dMod (fCall (M._law_draw e) (aCons (fVar 0) aNil)) (fC (.int 4)))))
noncomputable def M._law_count (e : EX) : Fn := (runF 1 (M.b__law_count e))
noncomputable def M.b__law_counts (e : EX) : FS := (sSeq (sAsg (gTp 3 (gsCons (gNm 2) (gsCons (gNm 3) (gsCons (gNm 4) gsNil)))) (fVar 0)) (sSeq (sIf (tBl (fBin dNe (fVar 2) (fBin dIx (fVar 1) (fC (.int 0))))) (sRet (fC .non)) sNil) (sSeq (sSet 5 (fBin dSub (fBin dIx (fVar 1) (fC (.int 1))) (fBin dIx (fVar 3) (fC (.int 0))))) (sSeq (sSet 6 (fBin dSub (fBin dIx (fVar 1) (fC (.int 2))) (fBin dIx (fVar 3) (fC (.int 1))))) (sSeq (sIf (tBl (fBin dEq (fB cLen (aCons (fVar 4) aNil)) (fC (.int 0)))) (sRet (fIf (tAndD (tBl (fBin dEq (fVar 5) (fC (.int 0)))) (tBl (fBin dEq (fVar 6) (fC (.int 0))))) (fTup aNil) (fC .non))) sNil) (sSeq (sAsg (gTp 2 (gsCons (gNm 7) (gsCons (gNm 8) gsNil))) (fBin dIx (fVar 4) (fC (.int 0)))) (sSeq (sIf (tBl (fBin dEq (fB cLen (aCons (fVar 4) aNil)) (fC (.int 1)))) (sSeq (sSet 9 (fIf (tBl (fBin dGt (fVar 7) (fC (.int 0)))) (fBin dDiv (fVar 5) (fVar 7)) (fBin dDiv (fVar 6) (fVar 8)))) (sRet (fIf (tAndD (tBl (fBin dGe (fVar 9) (fC (.int 0)))) (tAndD (tBl (fBin dEq (fBin dMul (fVar 9) (fVar 7)) (fVar 5))) (tBl (fBin dEq (fBin dMul (fVar 9) (fVar 8)) (fVar 6))))) (fTup (aCons (fVar 9) aNil)) (fC .non)))) sNil) (sSeq (sAsg (gTp 2 (gsCons (gNm 10) (gsCons (gNm 11) gsNil))) (fBin dIx (fVar 4) (fC (.int 1)))) (sSeq (sSet 12 (fBin dSub (fBin dMul (fVar 7) (fVar 11)) (fBin dMul (fVar 8) (fVar 10)))) (sSeq (sSet 13 (fBin dSub (fBin dMul (fVar 5) (fVar 11)) (fBin dMul (fVar 6) (fVar 10)))) (sSeq (sSet 14 (fBin dSub (fBin dMul (fVar 7) (fVar 6)) (fBin dMul (fVar 8) (fVar 5)))) (sSeq (sIf (tBl (fBin dLt (fVar 12) (fC (.int 0)))) (sSeq (sSet 12 (fUn dNeg (fVar 12))) (sSeq (sSet 13 (fUn dNeg (fVar 13))) (sSet 14 (fUn dNeg (fVar 14))))) sNil) (sSeq (sIf (tOrD (tBl (fBin dLt (fVar 13) (fC (.int 0)))) (tOrD (tBl (fBin dLt (fVar 14) (fC (.int 0)))) (tOrD (tBl (fBin dNe (fBin dMod (fVar 13) (fVar 12)) (fC (.int 0)))) (tBl (fBin dNe (fBin dMod (fVar 14) (fVar 12)) (fC (.int 0))))))) (sRet (fC .non)) sNil) (sRet (fTup (aCons (fBin dDiv (fVar 13) (fVar 12)) (aCons (fBin dDiv (fVar 14) (fVar 12)) aNil)))))))))))))))))
noncomputable def M._law_counts (e : EX) : Fn := (runF 15 (M.b__law_counts e))
noncomputable def M._law_right_1 (e : EX) : FS := (sIf (tNotD (tTru (fCall (M._law_equal e) (aCons (fCall (M.counts_of e) (aCons (fVar 2) (aCons (fVar 1) aNil))) (aCons (fCall (M._law_counts e) (aCons (fVar 2) (aCons (fVar 1) aNil))) aNil))))) (sRet (fC (.bl false))) sNil)
noncomputable def M._law_right_2 (e : EX) : FE := (fVar 2)
noncomputable def M._law_right_3 (e : EX) : FT := (tBl (fBin dIsNot (fCall (M._law_counts e) (aCons (fVar 2) (aCons (fVar 1) aNil))) (fC .non)))
noncomputable def M.b__law_right (e : EX) : FS := (sSeq (sFor (iSeq (fVar 0)) (gNm 2) (M._law_right_1 e)) (sSeq (sSet 3 (fBin dGt (fB cLen (aCons (fComp (iSeq (fVar 0)) (gNm 2) (M._law_right_3 e) (M._law_right_2 e) [2]) aNil)) (fC (.int 0)))) (sSeq (sSet 4 (fB cRepr3 (aCons (fVar 0) aNil))) (sRet (fAnd (fCall (M._law_equal e) (aCons (fCall (M.has e) (aCons (fVar 0) (aCons (fVar 1) aNil))) (aCons (fVar 3) aNil))) (fBin dEq (fB cRepr3 (aCons (fVar 0) aNil)) (fVar 4)))))))
noncomputable def M._law_right (e : EX) : Fn := (runF 5 (M.b__law_right e))
noncomputable def M.b__law_near (e : EX) : FS := (sSeq (sAsg (gTp 3 (gsCons (gNm 2) (gsCons (gNm 3) (gsCons (gNm 4) gsNil)))) (fVar 1)) (sSeq (sSet 5 (fBin dMod (fCall (M._law_draw e) (aCons (fVar 0) aNil)) (fC (.int 4)))) (sSeq (sIf (tBl (fBin dEq (fVar 5) (fC (.int 0)))) (sRet (fTup (aCons (fBin dMod (fBin dAdd (fVar 2) (fC (.int 1))) (fC (.int 3))) (aCons (fVar 3) (aCons (fVar 4) aNil))))) sNil) (sSeq (sSet 6 (fBin dSub (fBin dMod (fCall (M._law_draw e) (aCons (fVar 0) aNil)) (fC (.int 7))) (fC (.int 3)))) (sSeq (sSet 7 (fBin dSub (fBin dMod (fCall (M._law_draw e) (aCons (fVar 0) aNil)) (fC (.int 7))) (fC (.int 3)))) (sRet (fTup (aCons (fVar 2) (aCons (fB cMax2 (aCons (fC (.int 0)) (aCons (fBin dAdd (fVar 3) (fVar 6)) aNil))) (aCons (fB cMax2 (aCons (fC (.int 0)) (aCons (fBin dAdd (fVar 4) (fVar 7)) aNil))) aNil))))))))))
noncomputable def M._law_near (e : EX) : Fn := (runF 8 (M.b__law_near e))
noncomputable def M.law_v5_1 (e : EX) : FS := (sExpr (fM mAppend (fVar 2) (aCons (fCall (M._law_fan e) (aCons (fVar 1) (aCons (fBin dIx (fLst (aCons (fC (.int 13)) (aCons (fBin dPow (fC (.int 10)) (fC (.int 24))) aNil))) (fBin dDiv (fBin dMod (fCall (M._law_draw e) (aCons (fVar 1) aNil)) (fC (.int 4))) (fC (.int 3)))) aNil))) aNil)))
noncomputable def M.law_v5_2 (e : EX) : FE := (fCall (M._law_count e) (aCons (fVar 1) aNil))
noncomputable def M.law_v5_3 (e : EX) : FS := (sIf (tNotD (tTru (fCall (M._law_right e) (aCons (fVar 2) (aCons (fCall (M._law_near e) (aCons (fVar 1) (aCons (fVar 6) aNil))) aNil))))) (sRet (fC (.bl false))) sNil)
noncomputable def M.law_v5_4 (e : EX) : FS := (sSeq (sSet 5 (fB cTup (aCons (fComp (iSeq (fBin dIx (fVar 4) (fC (.int 2)))) (gNm 10) tYesD (M.law_v5_2 e) [10]) aNil))) (sSeq (sSet 6 (fCall (M._law_at e) (aCons (fVar 4) (aCons (fVar 5) aNil)))) (sSeq (sIf (tOrD (tNotD (tTru (fCall (M._law_equal e) (aCons (fCall (M.standing_at e) (aCons (fVar 4) (aCons (fVar 5) aNil))) (aCons (fVar 6) aNil))))) (tNotD (tTru (fCall (M._law_equal e) (aCons (fCall (M.counts_of e) (aCons (fVar 4) (aCons (fVar 6) aNil))) (aCons (fVar 5) aNil)))))) (sRet (fC (.bl false))) sNil) (sSeq (sIf (tOrD (tNotD (tTru (fCall (M._law_right e) (aCons (fVar 2) (aCons (fVar 6) aNil))))) (tNotD (tTru (fCall (M._law_right e) (aCons (fVar 2) (aCons (fBin dAdd (fTup (aCons (fBin dIx (fVar 4) (fC (.int 0))) aNil)) (fBin dIx (fVar 4) (fC (.int 1)))) aNil)))))) (sRet (fC (.bl false))) sNil) (sSeq (sFor (iRg1 (aCons (fC (.int 3)) aNil)) (gNm 3) (M.law_v5_3 e)) (sSeq (sSet 7 (fBin dIx (fLst (aCons (fBin dAdd (fVar 5) (fTup (aCons (fC (.int 0)) aNil))) (aCons (fBin dMul (fTup (aCons (fC (.int 0)) aNil)) (fBin dAdd (fB cLen (aCons (fVar 5) aNil)) (fC (.int 2)))) (aCons (fCut (fVar 5) oNone (oSome (fUn dNeg (fC (.int 1))))) (aCons (fTup aNil) aNil))))) (fBin dMod (fCall (M._law_draw e) (aCons (fVar 1) aNil)) (fBin dIx (fLst (aCons (fC (.int 2)) (aCons (fC (.int 4)) aNil))) (fB cInt (aCons (fBin dGt (fB cLen (aCons (fVar 5) aNil)) (fC (.int 0))) aNil)))))) (sSeq (sIf (tAndD (tBl (fBin dGt (fB cLen (aCons (fVar 5) aNil)) (fC (.int 0)))) (tBl (fBin dGt (fBin dMod (fCall (M._law_draw e) (aCons (fVar 1) aNil)) (fC (.int 4))) (fC (.int 0))))) (sSeq (sSet 8 (fBin dMod (fCall (M._law_draw e) (aCons (fVar 1) aNil)) (fB cLen (aCons (fVar 5) aNil)))) (sSet 7 (fBin dAdd (fBin dAdd (fCut (fVar 5) oNone (oSome (fVar 8))) (fTup (aCons (fBin dIx (fLst (aCons (fUn dNeg (fC (.int 1))) (aCons (fUn dNeg (fBin dPow (fC (.int 10)) (fC (.int 30)))) (aCons (fC (.bl true)) (aCons (fC (.bl false)) aNil))))) (fBin dMod (fCall (M._law_draw e) (aCons (fVar 1) aNil)) (fC (.int 4)))) aNil))) (fCut (fVar 5) (oSome (fBin dAdd (fVar 8) (fC (.int 1)))) oNone)))) sNil) (sSeq (sIf (tNotD (tTru (fCall (M._law_refused e) (aCons (fVar 4) (aCons (fVar 7) aNil))))) (sRet (fC (.bl false))) sNil) (sSeq (sSet 9 (fLst (aCons (fTup (aCons (fC (.int 3)) (aCons (fC (.int 0)) (aCons (fC (.int 0)) aNil)))) (aCons (fTup (aCons (fUn dNeg (fC (.int 1))) (aCons (fC (.int 0)) (aCons (fC (.int 0)) aNil)))) (aCons (fTup (aCons (fC (.int 0)) (aCons (fUn dNeg (fC (.int 1))) (aCons (fC (.int 0)) aNil)))) (aCons (fTup (aCons (fC (.int 0)) (aCons (fC (.int 0)) (aCons (fUn dNeg (fC (.int 1))) aNil)))) (aCons (fTup (aCons (fC (.int 0)) (aCons (fC (.int 0)) aNil))) (aCons (fC .non) (aCons (fTup (aCons (fC (.bl true)) (aCons (fC (.int 0)) (aCons (fC (.int 0)) aNil)))) (aCons (fTup (aCons (fC (.bl false)) (aCons (fC (.int 1)) (aCons (fC (.int 1)) aNil)))) (aCons (fTup (aCons (fC (.int 0)) (aCons (fC (.str "1")) (aCons (fC (.int 0)) aNil)))) (aCons (fTup (aCons (fC (.int 0)) (aCons (fC (.int 0)) (aCons (fC (.bl true)) aNil)))) (aCons (fLst (aCons (fC (.int 0)) (aCons (fC (.int 0)) (aCons (fC (.int 0)) aNil)))) (aCons (fTup (aCons (fC (.int 0)) (aCons (fC (.int 0)) (aCons (fC (.int 0)) (aCons (fC (.int 0)) aNil))))) (aCons (fC (.str "000")) (aCons (fTup aNil) aNil)))))))))))))))) (sSeq (sSet 9 (fBin dIx (fVar 9) (fBin dMod (fCall (M._law_draw e) (aCons (fVar 1) aNil)) (fC (.int 14))))) (sIf (tNotD (tTru (fCall (M._law_none e) (aCons (fVar 4) (aCons (fVar 9) aNil))))) (sRet (fC (.bl false))) sNil)))))))))))
noncomputable def M.b_law_v5 (e : EX) : FS := (sSeq (sSet 1 (fNew (aCons (fCall (M._law_numbers e) (aCons (fVar 0) aNil)) (aCons (fC (.int 0)) aNil)))) (sSeq (sSet 2 (fNew aNil)) (sSeq (sFor (iRg1 (aCons (fBin dAdd (fC (.int 1)) (fBin dMod (fCall (M._law_draw e) (aCons (fVar 1) aNil)) (fC (.int 4)))) aNil)) (gNm 3) (M.law_v5_1 e)) (sSeq (sFor (iSeq (fVar 2)) (gNm 4) (M.law_v5_4 e)) (sRet (fBin dIs (fCall (M.has e) (aCons (fLst aNil) (aCons (fTup (aCons (fC (.int 0)) (aCons (fC (.int 0)) (aCons (fC (.int 0)) aNil)))) aNil))) (fC (.bl false))))))))
noncomputable def M.law_v5 (e : EX) : Fn := (runF 11 (M.b_law_v5 e))
noncomputable def M.b__law_ends (e : EX) : FS := (sSeq (sAsg (gTp 3 (gsCons (gNm 2) (gsCons (gNm 3) (gsCons (gNm 4) gsNil)))) (fVar 0)) (sSeq (sIf (tBl (fBin dLt (fVar 1) (fB cLen (aCons (fVar 3) aNil)))) (sRet (fBin dIx (fVar 3) (fVar 1))) sNil) (sRet (fBin dAdd (fBin dIx (fVar 4) (fBin dSub (fVar 1) (fB cLen (aCons (fVar 3) aNil)))) (fTup (aCons (fC (.int 0)) (aCons (fC (.int 0)) aNil)))))))
noncomputable def M._law_ends (e : EX) : Fn := (runF 5 (M.b__law_ends e))
noncomputable def M._law_walk_1 (e : EX) : FE := (fVar 7)
noncomputable def M._law_walk_2 (e : EX) : FT := (tBl (fBin dEq (fBin dIx (fCall (M._law_ends e) (aCons (fVar 1) (aCons (fVar 7) aNil))) (fC (.int 0))) (fVar 3)))
noncomputable def M._law_walk_3 (e : EX) : FS := (sSeq (sSet 6 (fComp (iRg1 (aCons (fVar 2) aNil)) (gNm 7) (M._law_walk_2 e) (M._law_walk_1 e) [7])) (sIf (tBl (fBin dGt (fB cLen (aCons (fVar 6) aNil)) (fC (.int 0)))) (sSeq (sSet 7 (fBin dIx (fVar 6) (fBin dMod (fCall (M._law_draw e) (aCons (fVar 0) aNil)) (fB cLen (aCons (fVar 6) aNil))))) (sSeq (sSet 4 (fBin dAdd (fVar 4) (fTup (aCons (fVar 7) aNil)))) (sSet 3 (fBin dIx (fCall (M._law_ends e) (aCons (fVar 1) (aCons (fVar 7) aNil))) (fC (.int 1)))))) sNil))
noncomputable def M.b__law_walk (e : EX) : FS := (sSeq (sSet 2 (fBin dAdd (fB cLen (aCons (fBin dIx (fVar 1) (fC (.int 1))) aNil)) (fB cLen (aCons (fBin dIx (fVar 1) (fC (.int 2))) aNil)))) (sSeq (sSet 3 (fBin dMod (fCall (M._law_draw e) (aCons (fVar 0) aNil)) (fBin dIx (fVar 1) (fC (.int 0))))) (sSeq (sSet 4 (fTup aNil)) (sSeq (sFor (iRg1 (aCons (fBin dMod (fCall (M._law_draw e) (aCons (fVar 0) aNil)) (fC (.int 10))) aNil)) (gNm 5) (M._law_walk_3 e)) (sRet (fVar 4))))))
noncomputable def M._law_walk (e : EX) : Fn := (runF 8 (M.b__law_walk e))
noncomputable def M._law_need_1 (e : EX) : FS := (sSeq (sSet 7 (fCall (M._law_ends e) (aCons (fVar 0) (aCons (fVar 6) aNil)))) (sSeq (sIf (tBl (fBin dGe (fVar 6) (fB cLen (aCons (fBin dIx (fVar 0) (fC (.int 1))) aNil)))) (sExpr (fM mAppend (fVar 5) (aCons (fUn dNeg (fVar 2)) aNil))) sNil) (sSeq (sSet 2 (fBin dAdd (fVar 2) (fBin dIx (fVar 7) (fC (.int 2))))) (sSeq (sSet 3 (fBin dAdd (fVar 3) (fBin dIx (fVar 7) (fC (.int 3))))) (sSet 4 (fLst (aCons (fB cMin2 (aCons (fBin dIx (fVar 4) (fC (.int 0))) (aCons (fVar 2) aNil))) (aCons (fB cMin2 (aCons (fBin dIx (fVar 4) (fC (.int 1))) (aCons (fVar 3) aNil))) aNil))))))))
noncomputable def M.b__law_need (e : EX) : FS := (sSeq (sSet 2 (fC (.int 0))) (sSeq (sSet 3 (fC (.int 0))) (sSeq (sSet 4 (fLst (aCons (fC (.int 0)) (aCons (fC (.int 0)) aNil)))) (sSeq (sSet 5 (fNew aNil)) (sSeq (sFor (iSeq (fVar 1)) (gNm 6) (M._law_need_1 e)) (sSeq (sIf (tBl (fBin dEq (fB cLen (aCons (fVar 5) aNil)) (fC (.int 0)))) (sRet (fTup (aCons (fUn dNeg (fBin dIx (fVar 4) (fC (.int 0)))) (aCons (fUn dNeg (fBin dIx (fVar 4) (fC (.int 1)))) (aCons (fC (.bl false)) aNil))))) sNil) (sSeq (sIf (tOrD (tBl (fBin dNeE (fVar 5) (fBin dMul (fLst (aCons (fBin dIx (fVar 5) (fC (.int 0))) aNil)) (fB cLen (aCons (fVar 5) aNil))))) (tBl (fBin dLt (fBin dAdd (fBin dIx (fVar 5) (fC (.int 0))) (fBin dIx (fVar 4) (fC (.int 0)))) (fC (.int 0))))) (sRet (fC .non)) sNil) (sRet (fTup (aCons (fBin dIx (fVar 5) (fC (.int 0))) (aCons (fUn dNeg (fBin dIx (fVar 4) (fC (.int 1)))) (aCons (fC (.bl true)) aNil))))))))))))
noncomputable def M._law_need (e : EX) : Fn := frz (runF 8 (M.b__law_need e))
noncomputable def M._law_is_walk_1 (e : EX) : FS := (sIf (tBl (fBin dNe (fBin dIx (fCall (M._law_ends e) (aCons (fVar 0) (aCons (fBin dIx (fVar 1) (fBin dSub (fVar 2) (fC (.int 1)))) aNil))) (fC (.int 1))) (fBin dIx (fCall (M._law_ends e) (aCons (fVar 0) (aCons (fBin dIx (fVar 1) (fVar 2)) aNil))) (fC (.int 0))))) (sRet (fC (.bl false))) sNil)
noncomputable def M.b__law_is_walk (e : EX) : FS := (sSeq (sFor (iRg2 (aCons (fC (.int 1)) (aCons (fB cLen (aCons (fVar 1) aNil)) aNil))) (gNm 2) (M._law_is_walk_1 e)) (sRet (fC (.bl true))))
noncomputable def M._law_is_walk (e : EX) : Fn := (runF 3 (M.b__law_is_walk e))
noncomputable def M.need_of_1 (e : EX) : FS := (sIf (tTru (fCall (M.is_test e) (aCons (fVar 0) (aCons (fVar 7) aNil)))) (sSeq (sIf (tAndD (tBl (fBin dIsNot (fVar 6) (fC .non))) (tBl (fBin dNe (fVar 6) (fUn dNeg (fVar 2))))) (sRet (fC .non)) sNil) (sSet 6 (fUn dNeg (fVar 2)))) (sSeq (sSet 8 (fCall (M.change_of e) (aCons (fVar 0) (aCons (fVar 7) aNil)))) (sSeq (sAug 2 (dI (fun _ _ => true) fun i j => .int (i + j)) (fBin dIx (fVar 8) (fC (.int 0)))) (sSeq (sAug 3 (dI (fun _ _ => true) fun i j => .int (i + j)) (fBin dIx (fVar 8) (fC (.int 1)))) (sSeq (sSet 4 (fB cMax2 (aCons (fVar 4) (aCons (fUn dNeg (fVar 2)) aNil)))) (sSet 5 (fB cMax2 (aCons (fVar 5) (aCons (fUn dNeg (fVar 3)) aNil)))))))))
noncomputable def M.b_need_of (e : EX) : FS := (sSeq (sSet 2 (fC (.int 0))) (sSeq (sSet 3 (fC (.int 0))) (sSeq (sSet 4 (fC (.int 0))) (sSeq (sSet 5 (fC (.int 0))) (sSeq (sSet 6 (fC .non)) (sSeq (sFor (iSeq (fVar 1)) (gNm 7) (M.need_of_1 e)) (sSeq (sIf (tBl (fBin dIs (fVar 6) (fC .non))) (sRet (fTup (aCons (fVar 4) (aCons (fVar 5) (aCons (fC (.bl false)) aNil))))) sNil) (sSeq (sIf (tBl (fBin dLt (fVar 6) (fVar 4))) (sRet (fC .non)) sNil) (sRet (fTup (aCons (fVar 6) (aCons (fVar 5) (aCons (fC (.bl true)) aNil)))))))))))))
noncomputable def M.need_of (e : EX) : Fn := (runF 9 (M.b_need_of e))
noncomputable def M.walks_1 (e : EX) : FS := (sIf (tBl (fBin dNe (fCall (M.source_of e) (aCons (fVar 0) (aCons (fBin dIx (fVar 1) (fVar 2)) aNil))) (fCall (M.target_of e) (aCons (fVar 0) (aCons (fBin dIx (fVar 1) (fBin dSub (fVar 2) (fC (.int 1)))) aNil))))) (sRet (fC (.bl false))) sNil)
noncomputable def M.b_walks (e : EX) : FS := (sSeq (sFor (iRg2 (aCons (fC (.int 1)) (aCons (fB cLen (aCons (fVar 1) aNil)) aNil))) (gNm 2) (M.walks_1 e)) (sRet (fC (.bl true))))
noncomputable def M.walks (e : EX) : Fn := (runF 3 (M.b_walks e))
noncomputable def M.b_need (e : EX) : FS := (sSeq (sExpr (fCall (M.check_program e) (aCons (fVar 0) aNil))) (sSeq (sExpr (fCall (M.check_word e) (aCons (fVar 0) (aCons (fVar 1) aNil)))) (sSeq (sIf (tNotD (tTru (fCall (M.walks e) (aCons (fVar 0) (aCons (fVar 1) aNil))))) (sRaise (e.x .BadArgument)) sNil) (sRet (fCall (M.need_of e) (aCons (fVar 0) (aCons (fVar 1) aNil)))))))
noncomputable def M.need (e : EX) : Fn := (runF 2 (M.b_need e))
noncomputable def M.effect_of_1 (e : EX) : FS := (sSeq (sSet 5 (fCall (M.change_of e) (aCons (fVar 0) (aCons (fVar 4) aNil)))) (sSeq (sAug 2 (dI (fun _ _ => true) fun i j => .int (i + j)) (fBin dIx (fVar 5) (fC (.int 0)))) (sAug 3 (dI (fun _ _ => true) fun i j => .int (i + j)) (fBin dIx (fVar 5) (fC (.int 1))))))
noncomputable def M.b_effect_of (e : EX) : FS := (sSeq (sSet 2 (fC (.int 0))) (sSeq (sSet 3 (fC (.int 0))) (sSeq (sFor (iSeq (fVar 1)) (gNm 4) (M.effect_of_1 e)) (sRet (fTup (aCons (fVar 2) (aCons (fVar 3) aNil)))))))
noncomputable def M.effect_of (e : EX) : Fn := (runF 6 (M.b_effect_of e))
noncomputable def M.b_effect (e : EX) : FS := (sSeq (sExpr (fCall (M.check_program e) (aCons (fVar 0) aNil))) (sSeq (sExpr (fCall (M.check_word e) (aCons (fVar 0) (aCons (fVar 1) aNil)))) (sRet (fCall (M.effect_of e) (aCons (fVar 0) (aCons (fVar 1) aNil))))))
noncomputable def M.effect (e : EX) : Fn := (runF 2 (M.b_effect e))
noncomputable def M.b_is_walk (e : EX) : FS := (sSeq (sExpr (fCall (M.check_program e) (aCons (fVar 0) aNil))) (sSeq (sExpr (fCall (M.check_word e) (aCons (fVar 0) (aCons (fVar 1) aNil)))) (sRet (fCall (M.walks e) (aCons (fVar 0) (aCons (fVar 1) aNil))))))
noncomputable def M.is_walk (e : EX) : Fn := (runF 2 (M.b_is_walk e))
noncomputable def M.b_rings (e : EX) : FS := (sRet (fAnd (fBin dGt (fB cLen (aCons (fVar 1) aNil)) (fC (.int 0))) (fAnd (fCall (M.walks e) (aCons (fVar 0) (aCons (fVar 1) aNil))) (fBin dEq (fCall (M.target_of e) (aCons (fVar 0) (aCons (fBin dIx (fVar 1) (fUn dNeg (fC (.int 1)))) aNil))) (fCall (M.source_of e) (aCons (fVar 0) (aCons (fBin dIx (fVar 1) (fC (.int 0))) aNil)))))))
noncomputable def M.rings (e : EX) : Fn := (runF 2 (M.b_rings e))
noncomputable def M.b_is_ring (e : EX) : FS := (sSeq (sExpr (fCall (M.check_program e) (aCons (fVar 0) aNil))) (sSeq (sExpr (fCall (M.check_word e) (aCons (fVar 0) (aCons (fVar 1) aNil)))) (sRet (fCall (M.rings e) (aCons (fVar 0) (aCons (fVar 1) aNil))))))
noncomputable def M.is_ring (e : EX) : Fn := (runF 2 (M.b_is_ring e))
noncomputable def M.b__law_refused_v2 (e : EX) : FS := (sSeq (sTry e.em (sIf (tBl (fBin dEq (fVar 0) (fC (.str "need")))) (sExpr (fCall (M.need e) (aCons (fVar 1) (aCons (fVar 2) aNil)))) (sIf (tBl (fBin dEq (fVar 0) (fC (.str "effect")))) (sExpr (fCall (M.effect e) (aCons (fVar 1) (aCons (fVar 2) aNil)))) (sIf (tBl (fBin dEq (fVar 0) (fC (.str "walk")))) (sExpr (fCall (M.is_walk e) (aCons (fVar 1) (aCons (fVar 2) aNil)))) (sExpr (fCall (M.is_ring e) (aCons (fVar 1) (aCons (fVar 2) aNil))))))) ((.ref (e.x .BadArgument), (sRet (fC (.bl true)))) :: [])) (sRet (fC (.bl false))))
noncomputable def M._law_refused_v2 (e : EX) : Fn := (runF 3 (M.b__law_refused_v2 e))
noncomputable def M.b__law_least (e : EX) : FS := (sSeq (sSet 3 (fBin dIx (fCall (M._law_ends e) (aCons (fVar 0) (aCons (fBin dIx (fVar 1) (fC (.int 0))) aNil))) (fC (.int 0)))) (sSeq (sAsg (gTp 3 (gsCons (gNm 4) (gsCons (gNm 5) (gsCons (gNm 6) gsNil)))) (fVar 2)) (sSeq (sSet 7 (fBin dPow (fC (.int 10)) (fC (.int 20)))) (sSeq (sIf (tOrD (tBl (fBin dIs (fCall (M.play e) (aCons (fVar 0) (aCons (fTup (aCons (fVar 3) (aCons (fVar 4) (aCons (fVar 5) aNil)))) (aCons (fVar 1) aNil)))) (fC .non))) (tBl (fBin dIs (fCall (M.play e) (aCons (fVar 0) (aCons (fTup (aCons (fVar 3) (aCons (fVar 4) (aCons (fBin dAdd (fVar 5) (fVar 7)) aNil)))) (aCons (fVar 1) aNil)))) (fC .non)))) (sRet (fC (.bl false))) sNil) (sSeq (sIf (tAndD (tBl (fBin dGt (fVar 4) (fC (.int 0)))) (tBl (fBin dIsNot (fCall (M.play e) (aCons (fVar 0) (aCons (fTup (aCons (fVar 3) (aCons (fBin dSub (fVar 4) (fC (.int 1))) (aCons (fBin dAdd (fVar 5) (fC (.int 9))) aNil)))) (aCons (fVar 1) aNil)))) (fC .non)))) (sRet (fC (.bl false))) sNil) (sSeq (sIf (tAndD (tBl (fBin dGt (fVar 5) (fC (.int 0)))) (tBl (fBin dIsNot (fCall (M.play e) (aCons (fVar 0) (aCons (fTup (aCons (fVar 3) (aCons (fVar 4) (aCons (fBin dSub (fVar 5) (fC (.int 1))) aNil)))) (aCons (fVar 1) aNil)))) (fC .non)))) (sRet (fC (.bl false))) sNil) (sRet (fBin dEq (fBin dIs (fCall (M.play e) (aCons (fVar 0) (aCons (fTup (aCons (fVar 3) (aCons (fBin dAdd (fVar 4) (fVar 7)) (aCons (fVar 5) aNil)))) (aCons (fVar 1) aNil)))) (fC .non)) (fVar 6)))))))))
noncomputable def M._law_least (e : EX) : Fn := (runF 8 (M.b__law_least e))
noncomputable def M.b__law_is_ring (e : EX) : FS := (sSeq (sIf (tOrD (tBl (fBin dEq (fB cLen (aCons (fVar 1) aNil)) (fC (.int 0)))) (tNotD (tTru (fCall (M._law_is_walk e) (aCons (fVar 0) (aCons (fVar 1) aNil)))))) (sRet (fC (.bl false))) sNil) (sRet (fBin dEq (fBin dIx (fCall (M._law_ends e) (aCons (fVar 0) (aCons (fBin dIx (fVar 1) (fC (.int 0))) aNil))) (fC (.int 0))) (fBin dIx (fCall (M._law_ends e) (aCons (fVar 0) (aCons (fBin dIx (fVar 1) (fBin dSub (fB cLen (aCons (fVar 1) aNil)) (fC (.int 1)))) aNil))) (fC (.int 1))))))
noncomputable def M._law_is_ring (e : EX) : Fn := (runF 2 (M.b__law_is_ring e))
noncomputable def M._law_effect_1 (e : EX) : FS := (sSeq (sSet 5 (fCall (M._law_ends e) (aCons (fVar 0) (aCons (fVar 4) aNil)))) (sSeq (sSet 2 (fBin dAdd (fVar 2) (fBin dIx (fVar 5) (fC (.int 2))))) (sSet 3 (fBin dAdd (fVar 3) (fBin dIx (fVar 5) (fC (.int 3)))))))
noncomputable def M.b__law_effect (e : EX) : FS := (sSeq (sSet 2 (fC (.int 0))) (sSeq (sSet 3 (fC (.int 0))) (sSeq (sFor (iSeq (fVar 1)) (gNm 4) (M._law_effect_1 e)) (sRet (fTup (aCons (fVar 2) (aCons (fVar 3) aNil)))))))
noncomputable def M._law_effect (e : EX) : Fn := (runF 6 (M.b__law_effect e))
noncomputable def M.b__law_right_v2 (e : EX) : FS := (sSeq (sIf (tNotD (tTru (fCall (M._law_equal e) (aCons (fCall (M.is_walk e) (aCons (fVar 0) (aCons (fVar 1) aNil))) (aCons (fCall (M._law_is_walk e) (aCons (fVar 0) (aCons (fVar 1) aNil))) aNil))))) (sRet (fC (.bl false))) sNil) (sSeq (sIf (tNotD (tTru (fCall (M._law_equal e) (aCons (fCall (M.is_ring e) (aCons (fVar 0) (aCons (fVar 1) aNil))) (aCons (fCall (M._law_is_ring e) (aCons (fVar 0) (aCons (fVar 1) aNil))) aNil))))) (sRet (fC (.bl false))) sNil) (sSeq (sIf (tNotD (tTru (fCall (M._law_equal e) (aCons (fCall (M.effect e) (aCons (fVar 0) (aCons (fVar 1) aNil))) (aCons (fCall (M._law_effect e) (aCons (fVar 0) (aCons (fVar 1) aNil))) aNil))))) (sRet (fC (.bl false))) sNil) (sSeq (sIf (tNotD (tTru (fCall (M._law_is_walk e) (aCons (fVar 0) (aCons (fVar 1) aNil))))) (sRet (fCall (M._law_refused_v2 e) (aCons (fC (.str "need")) (aCons (fVar 0) (aCons (fVar 1) aNil))))) sNil) (sSeq (sSet 2 (fCall (M._law_need e) (aCons (fVar 0) (aCons (fVar 1) aNil)))) (sSeq (sIf (tNotD (tTru (fCall (M._law_equal e) (aCons (fCall (M.need e) (aCons (fVar 0) (aCons (fVar 1) aNil))) (aCons (fVar 2) aNil))))) (sRet (fC (.bl false))) sNil) (sRet (fOr (fBin dIs (fVar 2) (fC .non)) (fOr (fBin dEq (fB cLen (aCons (fVar 1) aNil)) (fC (.int 0))) (fCall (M._law_least e) (aCons (fVar 0) (aCons (fVar 1) (aCons (fVar 2) aNil)))))))))))))
noncomputable def M._law_right_v2 (e : EX) : Fn := (runF 3 (M.b__law_right_v2 e))
noncomputable def M.law_v6_1 (e : EX) : FE := (fBin dMod (fCall (M._law_draw e) (aCons (fVar 1) aNil)) (fVar 3))
noncomputable def M.law_v6_2 (e : EX) : FS := (sIf (tNotD (tTru (fCall (M._law_right_v2 e) (aCons (fVar 2) (aCons (fVar 5) aNil))))) (sRet (fC (.bl false))) sNil)
noncomputable def M.law_v6_3 (e : EX) : FS := (sIf (tNotD (tTru (fCall (M._law_refused_v2 e) (aCons (fVar 8) (aCons (fVar 2) (aCons (fVar 7) aNil)))))) (sRet (fC (.bl false))) sNil)
noncomputable def M.b_law_v6 (e : EX) : FS := (sSeq (sSet 1 (fNew (aCons (fCall (M._law_numbers e) (aCons (fVar 0) aNil)) (aCons (fC (.int 0)) aNil)))) (sSeq (sSet 2 (fCall (M._law_program e) (aCons (fVar 1) aNil))) (sSeq (sSet 3 (fBin dAdd (fB cLen (aCons (fBin dIx (fVar 2) (fC (.int 1))) aNil)) (fB cLen (aCons (fBin dIx (fVar 2) (fC (.int 2))) aNil)))) (sSeq (sSet 4 (fNew (aCons (fTup aNil) (aCons (fCall (M._law_walk e) (aCons (fVar 1) (aCons (fVar 2) aNil))) (aCons (fCall (M._law_walk e) (aCons (fVar 1) (aCons (fVar 2) aNil))) (aCons (fCall (M._law_walk e) (aCons (fVar 1) (aCons (fVar 2) aNil))) aNil)))))) (sSeq (sIf (tBl (fBin dGt (fVar 3) (fC (.int 0)))) (sExpr (fM mAppend (fVar 4) (aCons (fB cTup (aCons (fComp (iRg1 (aCons (fBin dMod (fCall (M._law_draw e) (aCons (fVar 1) aNil)) (fC (.int 6))) aNil)) (gNm 9) tYesD (M.law_v6_1 e) [9]) aNil)) aNil))) sNil) (sSeq (sExpr (fM mAppend (fVar 4) (aCons (fBin dMulE (fBin dIx (fVar 4) (fC (.int 2))) (fC (.int 300))) aNil))) (sSeq (sFor (iSeq (fVar 4)) (gNm 5) (M.law_v6_2 e)) (sSeq (sSet 5 (fBin dIx (fVar 4) (fBin dAdd (fC (.int 1)) (fBin dMod (fCall (M._law_draw e) (aCons (fVar 1) aNil)) (fBin dSub (fB cLen (aCons (fVar 4) aNil)) (fC (.int 2))))))) (sSeq (sSet 6 (fBin dMod (fCall (M._law_draw e) (aCons (fVar 1) aNil)) (fBin dAdd (fB cLen (aCons (fVar 5) aNil)) (fC (.int 1))))) (sSeq (sSet 7 (fBin dAdd (fBin dAdd (fCut (fVar 5) oNone (oSome (fVar 6))) (fTup (aCons (fBin dIx (fLst (aCons (fVar 3) (aCons (fUn dNeg (fC (.int 1))) (aCons (fBin dPow (fC (.int 10)) (fC (.int 30))) (aCons (fC (.bl true)) (aCons (fC (.bl false)) aNil)))))) (fBin dMod (fCall (M._law_draw e) (aCons (fVar 1) aNil)) (fC (.int 5)))) aNil))) (fCut (fVar 5) (oSome (fVar 6)) oNone))) (sSeq (sFor (iSeq (fLst (aCons (fC (.str "effect")) (aCons (fC (.str "walk")) (aCons (fC (.str "ring")) (aCons (fC (.str "need")) aNil)))))) (gNm 8) (M.law_v6_3 e)) (sRet (fC (.bl true))))))))))))))
noncomputable def M.law_v6 (e : EX) : Fn := (runF 10 (M.b_law_v6 e))
end

section
set_option Elab.async false
set_option linter.all false
set_option maxRecDepth 100000
set_option maxHeartbeats 1000000
/-! evaluation by simp -/
namespace DL
open PySem L2
section
variable {b o o' : D → D → Sto → Option D} {f g h : FE} {fs : FA} {t u : FT} {p q : FS} {l m : FO} {F : Fn} {σ : En} {S : Sto} {d : D} {i j : Nat} {x y : Int} {c : List D → Sto → Option D} {gt : FG} {gs : FGs} {em : Value → Value → Option Bool}
@[simp] theorem ap_fVar : fVar i σ S = match σ[i]? with | some (some d) => .ok d S | _ => .stuck := rfl
@[simp] theorem ap_fC : fC d σ S = .ok d S := rfl
@[simp] theorem ap_fBin : fBin b f g σ S = (f σ S).bind fun x S1 => (g σ S1).bind fun y S2 => ofO (b x y S2) S2 := rfl
@[simp] theorem ap_fUn {u : D → Sto → Option D} : fUn u f σ S = (f σ S).bind fun x S1 => ofO (u x S1) S1 := rfl
@[simp] theorem ap_fAnd : fAnd f g σ S = (f σ S).bind fun x S1 => (ofO (dTruth x S1) S1).bind fun k S1 => if k = true then g σ S1 else .ok x S1 := rfl
@[simp] theorem ap_fOr : fOr f g σ S = (f σ S).bind fun x S1 => (ofO (dTruth x S1) S1).bind fun k S1 => if k = true then .ok x S1 else g σ S1 := rfl
@[simp] theorem ap_aNil : aNil σ S = .ok [] S := rfl
@[simp] theorem ap_aCons : aCons f fs σ S = (f σ S).bind fun d S1 => (fs σ S1).bind fun ds S2 => .ok (d :: ds) S2 := rfl
@[simp] theorem ap_fTup : fTup fs σ S = (fs σ S).bind fun ds S1 => if ds.length ≤ BIG then .ok (.tup ds) S1 else .stuck := rfl
@[simp] theorem ap_fLst : fLst fs σ S = (fs σ S).bind fun ds S1 => if ds.length ≤ BIG then .ok (.lst ds) S1 else .stuck := rfl
@[simp] theorem ap_fNew : fNew fs σ S = (fs σ S).bind fun ds S1 => if ds.length ≤ BIG then .ok (.ref S1.length) (S1 ++ [.lst ds]) else .stuck := rfl
@[simp] theorem ap_oNone : oNone σ S = .ok none S := rfl
@[simp] theorem ap_oSome : oSome f σ S = (f σ S).bind fun d S1 => match d with | .int i => .ok (some i) S1 | _ => .stuck := rfl
@[simp] theorem ap_fCut : fCut f l m σ S = (f σ S).bind fun x S1 => (l σ S1).bind fun lo S2 => (m σ S2).bind fun hi S3 => ofO (dCut x lo hi S3) S3 := rfl
@[simp] theorem ap_tTru : tTru f σ S = (f σ S).bind fun d S1 => ofO (dTruth d S1) S1 := rfl
@[simp] theorem ap_tBl : tBl f σ S = (f σ S).bind fun d S1 => match d with | .bl k => .ok k S1 | _ => .stuck := rfl
@[simp] theorem ap_tAndD : tAndD t u σ S = (t σ S).bind fun k S1 => if k = true then u σ S1 else .ok false S1 := rfl
@[simp] theorem ap_tOrD : tOrD t u σ S = (t σ S).bind fun k S1 => if k = true then .ok true S1 else u σ S1 := rfl
@[simp] theorem ap_tNotD : tNotD t σ S = (t σ S).bind fun k S1 => .ok (!k) S1 := rfl
@[simp] theorem ap_fIf : fIf t f g σ S = (t σ S).bind fun k S1 => if k = true then f σ S1 else g σ S1 := rfl
@[simp] theorem ap_fCall : fCall F fs σ S = (fs σ S).bind fun ds S1 => F ds S1 := rfl
@[simp] theorem ap_fB : fB c fs σ S = (fs σ S).bind fun ds S1 => ofO (c ds S1) S1 := rfl
@[simp] theorem ap_fChain : fChain o o' f g h σ S = (f σ S).bind fun x S1 => (g σ S1).bind fun y S2 => (ofO (o x y S2) S2).bind fun z S2 => match z with
  | .bl k => if k = true then (h σ S2).bind fun w S3 => ofO (o' y w S3) S3 else .ok (.bl false) S2
  | _ => .stuck := rfl
@[simp] theorem ap_sNil : sNil σ S = .nx σ S := rfl
@[simp] theorem ap_sSeq : sSeq p q σ S = (p σ S).seq q := rfl
@[simp] theorem ap_sExpr : sExpr f σ S = RS.of (f σ S) σ fun _ S1 => .nx σ S1 := rfl
@[simp] theorem ap_sRet : sRet f σ S = RS.of (f σ S) σ fun d S1 => .rt d S1 := rfl
@[simp] theorem ap_sRetN : sRetN σ S = .rt .non S := rfl
@[simp] theorem ap_sBreak : sBreak σ S = .bk σ S := rfl
@[simp] theorem ap_sCont : sCont σ S = .ct σ S := rfl
@[simp] theorem ap_sSet : sSet i f σ S = RS.of (f σ S) σ fun d S1 => .nx (σ.set i (some d)) S1 := rfl
@[simp] theorem ap_sIf : sIf t p q σ S = RS.of (t σ S) σ fun k S1 => if k = true then p σ S1 else q σ S1 := rfl
@[simp] theorem ap_sRaise {a : Addr} : sRaise a σ S = .raise (.ref a) σ S := rfl
@[simp] theorem ap_sAsg : sAsg gt f σ S = RS.of (f σ S) σ fun d S1 => match gt d σ S1 with | some σ1 => .nx σ1 S1 | none => .stuck := rfl
@[simp] theorem ap_sPar : sPar i j fs σ S = RS.of (fs σ S) σ fun ds S1 => match ds with | [d1, d2] => .nx ((σ.set i (some d1)).set j (some d2)) S1 | _ => .stuck := rfl
@[simp] theorem ap_sPut : sPut f g h σ S = RS.of (h σ S) σ fun d S1 => RS.of (f σ S1) σ fun o S2 => RS.of (g σ S2) σ fun i S3 => match putL o i d S3 with | some S4 => .nx σ S4 | none => .stuck := rfl
@[simp] theorem ap_sAug : sAug i o f σ S = match σ[i]? with
  | some (some d) => RS.of (f σ S) σ fun d2 S1 => match o d d2 S1 with | some d3 => .nx (σ.set i (some d3)) S1 | none => .stuck
  | _ => .stuck := rfl
@[simp] theorem ap_gNm : gNm i d σ S = some (σ.set i (some d)) := rfl
@[simp] theorem ap_gTp {n : Nat} {xs : List D} : gTp n gs (.tup xs) σ S = if xs.length = n then gs xs σ S else none := rfl
@[simp] theorem ap_gsNil : gsNil [] σ S = some σ := rfl
@[simp] theorem ap_gsCons {r : List D} : gsCons gt gs (d :: r) σ S = (gt d σ S).bind fun σ1 => gs r σ1 S := rfl
@[simp] theorem ap_runF {n : Nat} {ds : List D} : runF n p ds S = endF (p (startD n ds) S) := rfl
@[simp] theorem ap_startD {n : Nat} {ds : List D} : startD n ds = ds.map some ++ List.replicate (n - ds.length) none := rfl
@[simp] theorem ap_sTry {hs : List HD} : sTry em p hs σ S = match p σ S with | .raise c σ1 S1 => catchF em hs c σ1 S1 | r => r := rfl
@[simp] theorem ap_catch0 {v : Value} : catchF em [] v σ S = .raise v σ S := rfl
@[simp] theorem ap_catch1 {v k : Value} {r : List HD} : catchF em ((k, p) :: r) v σ S = match em v k with | some true => (p σ S).noR | some false => catchF em r v σ S | none => .stuck := rfl
@[simp] theorem noR_nx : (RS.nx σ S).noR = .nx σ S := rfl
@[simp] theorem noR_rt : (RS.rt d S).noR = .rt d S := rfl
/-! values -/
@[simp] theorem v_add : dAdd (.int x) (.int y) S = some (.int (x + y)) := rfl
@[simp] theorem v_sub : dSub (.int x) (.int y) S = some (.int (x - y)) := rfl
theorem v_mul : dMul (.int x) (.int y) S = if mulOk x y = true then some (.int (x * y)) else none := dMul_int x y S
@[simp] theorem v_mulL (hy : in64 y = true) : dMul (.int x) (.int y) S = some (.int (x * y)) := by
  rw [v_mul, if_pos]; unfold mulOk; rw [hy]; simp
@[simp] theorem v_mulR (hx : in64 x = true) : dMul (.int x) (.int y) S = some (.int (x * y)) := by
  rw [v_mul, if_pos]; unfold mulOk; rw [hx]; simp
theorem v_mulM (hx : mid x = true) (hy : mid y = true) : dMul (.int x) (.int y) S = some (.int (x * y)) := by
  rw [v_mul, if_pos]; unfold mulOk; rw [hx, hy]; simp
@[simp] theorem v_div (hy : 0 < y) (hm : mid y = true) : dDiv (.int x) (.int y) S = some (.int (x / y)) := by
  show (if divOk x y = true then some (D.int (x / y)) else none) = _
  rw [if_pos]; unfold divOk; rw [hm]; simp [hy]
@[simp] theorem v_mod (hy : 0 < y) : dMod (.int x) (.int y) S = some (.int (x % y)) := by
  show (if decide (0 < y) = true then some (D.int (x % y)) else none) = _
  rw [if_pos]; simpa using hy
@[simp] theorem v_lt : dLt (.int x) (.int y) S = some (.bl (decide (x < y))) := rfl
@[simp] theorem v_le : dLe (.int x) (.int y) S = some (.bl (decide (x ≤ y))) := rfl
@[simp] theorem v_gt : dGt (.int x) (.int y) S = some (.bl (decide (y < x))) := rfl
@[simp] theorem v_ge : dGe (.int x) (.int y) S = some (.bl (decide (y ≤ x))) := rfl
@[simp] theorem v_neg : dNeg (.int x) S = some (.int (-x)) := rfl
@[simp] theorem in64_18 : in64 1000000 = true := by decide
theorem in64_of (h1 : -(18446744073709551616) < x) (h2 : x < 18446744073709551616) : in64 x = true := by
  unfold in64; simp [h1, h2]
theorem eqv_ii (a b : Int) : PyData.eqv (.int a) (.int b) = decide (a = b) := by
  rw [PyData.eqv]; rfl
theorem shaped_int (a : Int) : SeqAt.shaped (.int a) = true := by simp [SeqAt.shaped, PyData.canLay0, PyData.depth]
@[simp] theorem v_eq : dEq (.int x) (.int y) S = some (.bl (decide (x = y))) := by
  unfold dEq dEqS dEqD
  simp [toPy, shaped_int, eqv_ii]
@[simp] theorem v_ne : dNe (.int x) (.int y) S = some (.bl (!decide (x = y))) := by
  unfold dNe dNeS dNeD
  simp [toPy, shaped_int, eqv_ii]
@[simp] theorem v_eqS {s r : Str} : dEq (.str s) (.str r) S = some (.bl (decide (s = r))) := rfl
@[simp] theorem v_neS {s r : Str} : dNe (.str s) (.str r) S = some (.bl (!decide (s = r))) := rfl
@[simp] theorem v_isN : dIs .non .non S = some (.bl true) := rfl
@[simp] theorem v_isNotN : dIsNot .non .non S = some (.bl false) := rfl
@[simp] theorem v_isB {k k' : Bool} : dIs (.bl k) (.bl k') S = some (.bl (k == k')) := rfl
@[simp] theorem v_isNotB {k k' : Bool} : dIsNot (.bl k) (.bl k') S = some (.bl (!(k == k'))) := rfl
@[simp] theorem v_ixT {xs : List D} : dIx (.tup xs) (.int x) S = atI xs x := rfl
@[simp] theorem v_ixL {xs : List D} : dIx (.lst xs) (.int x) S = atI xs x := rfl
@[simp] theorem v_ixF {xs : List D} : dIx (.frz xs) (.int x) S = atI xs x := rfl
@[simp] theorem v_truB {k : Bool} : dTruth (.bl k) S = some k := rfl
@[simp] theorem v_truN : dTruth .non S = some false := rfl
@[simp] theorem v_truI : dTruth (.int x) S = some (x != 0) := rfl
@[simp] theorem v_not {k : Bool} : dNot (.bl k) S = some (.bl (!k)) := rfl
@[simp] theorem v_lenT {xs : List D} : cLen [.tup xs] S = some (.int xs.length) := rfl
@[simp] theorem v_lenL {xs : List D} : cLen [.lst xs] S = some (.int xs.length) := rfl
@[simp] theorem v_lenF {xs : List D} : cLen [.frz xs] S = some (.int xs.length) := rfl
@[simp] theorem v_tupL {xs : List D} : cTup [.lst xs] S = some (.tup xs) := rfl
@[simp] theorem v_tupT {xs : List D} : cTup [.tup xs] S = some (.tup xs) := rfl
@[simp] theorem v_lstT {xs : List D} : cLst [.tup xs] S = some (.lst xs) := rfl
theorem atI_cons0 {a : D} {xs : List D} : atI (a :: xs) 0 = some a := by
  have : atI (a :: xs) ((0 : Nat) : Int) = some a := atI_nat rfl
  exact this
@[simp] theorem atI_0 {a : D} {xs : List D} : atI (a :: xs) 0 = some a := atI_cons0
@[simp] theorem atI_1 {a b : D} {xs : List D} : atI (a :: b :: xs) 1 = some b := by
  have : atI (a :: b :: xs) ((1 : Nat) : Int) = some b := atI_nat rfl
  exact this
@[simp] theorem atI_2 {a b c : D} {xs : List D} : atI (a :: b :: c :: xs) 2 = some c := by
  have : atI (a :: b :: c :: xs) ((2 : Nat) : Int) = some c := atI_nat rfl
  exact this
@[simp] theorem atI_3 {a b c d : D} {xs : List D} : atI (a :: b :: c :: d :: xs) 3 = some d := by
  have : atI (a :: b :: c :: d :: xs) ((3 : Nat) : Int) = some d := atI_nat rfl
  exact this
end
/-- isinstance, by the built-in classes that are asked -/
def isA (d : D) (n : String) : Option Bool := match d, n with
  | _, _ => none
@[simp] theorem k_int_int : kitB "int" "int" = some true := by decide +kernel
@[simp] theorem k_int_bool : kitB "int" "bool" = some false := by decide +kernel
@[simp] theorem k_int_str : kitB "int" "str" = some false := by decide +kernel
@[simp] theorem k_int_tuple : kitB "int" "tuple" = some false := by decide +kernel
@[simp] theorem k_int_list : kitB "int" "list" = some false := by decide +kernel
@[simp] theorem k_bool_int : kitB "bool" "int" = some true := by decide +kernel
@[simp] theorem k_bool_bool : kitB "bool" "bool" = some true := by decide +kernel
@[simp] theorem k_bool_str : kitB "bool" "str" = some false := by decide +kernel
@[simp] theorem k_bool_tuple : kitB "bool" "tuple" = some false := by decide +kernel
@[simp] theorem k_bool_list : kitB "bool" "list" = some false := by decide +kernel
@[simp] theorem k_str_int : kitB "str" "int" = some false := by decide +kernel
@[simp] theorem k_str_bool : kitB "str" "bool" = some false := by decide +kernel
@[simp] theorem k_str_str : kitB "str" "str" = some true := by decide +kernel
@[simp] theorem k_str_tuple : kitB "str" "tuple" = some false := by decide +kernel
@[simp] theorem k_str_list : kitB "str" "list" = some false := by decide +kernel
@[simp] theorem k_tuple_int : kitB "tuple" "int" = some false := by decide +kernel
@[simp] theorem k_tuple_bool : kitB "tuple" "bool" = some false := by decide +kernel
@[simp] theorem k_tuple_str : kitB "tuple" "str" = some false := by decide +kernel
@[simp] theorem k_tuple_tuple : kitB "tuple" "tuple" = some true := by decide +kernel
@[simp] theorem k_tuple_list : kitB "tuple" "list" = some false := by decide +kernel
@[simp] theorem k_list_int : kitB "list" "int" = some false := by decide +kernel
@[simp] theorem k_list_bool : kitB "list" "bool" = some false := by decide +kernel
@[simp] theorem k_list_str : kitB "list" "str" = some false := by decide +kernel
@[simp] theorem k_list_tuple : kitB "list" "tuple" = some false := by decide +kernel
@[simp] theorem k_list_list : kitB "list" "list" = some true := by decide +kernel
@[simp] theorem k_none_int : kitB "NoneType" "int" = some false := by decide +kernel
@[simp] theorem k_none_bool : kitB "NoneType" "bool" = some false := by decide +kernel
@[simp] theorem k_none_str : kitB "NoneType" "str" = some false := by decide +kernel
@[simp] theorem k_none_tuple : kitB "NoneType" "tuple" = some false := by decide +kernel
@[simp] theorem k_none_list : kitB "NoneType" "list" = some false := by decide +kernel
@[simp] theorem k_dict_int : kitB "dict" "int" = some false := by decide +kernel
@[simp] theorem k_dict_bool : kitB "dict" "bool" = some false := by decide +kernel
@[simp] theorem k_dict_str : kitB "dict" "str" = some false := by decide +kernel
@[simp] theorem k_dict_tuple : kitB "dict" "tuple" = some false := by decide +kernel
@[simp] theorem k_dict_list : kitB "dict" "list" = some false := by decide +kernel
section
variable {S : Sto} {n : String} {d : D}
@[simp] theorem v_isi : cIsi [d, .cst (.ty n)] S = (clsOf d S).bind fun t => (kitB t n).map fun b => .bl b := rfl
@[simp] theorem cls_non : clsOf .non S = some "NoneType" := rfl
@[simp] theorem cls_bl {b : Bool} : clsOf (.bl b) S = some "bool" := rfl
@[simp] theorem cls_int {i : Int} : clsOf (.int i) S = some "int" := rfl
@[simp] theorem cls_str {x : Str} : clsOf (.str x) S = some "str" := rfl
@[simp] theorem cls_tup {xs : List D} : clsOf (.tup xs) S = some "tuple" := rfl
@[simp] theorem cls_lst {xs : List D} : clsOf (.lst xs) S = some "list" := rfl
@[simp] theorem cls_frz {xs : List D} : clsOf (.frz xs) S = some "list" := rfl
@[simp] theorem cls_emp : clsOf .emp S = some "dict" := rfl
end
end DL
end

section
set_option Elab.async false
set_option linter.all false
set_option maxRecDepth 100000
set_option maxHeartbeats 1000000
namespace DL
open PySem L2
/-! ### the laws' draws -/
def mixedZ (n k : Int) : Int := ((n * 48271 + k * 69621 + 12345) % 2147483647 * ((n * 48271 + k * 69621 + 12345) % 2147483647 / 65536 + 3) + k) % 2147483647
theorem mixed_eq (e : EX) (n k : Int) (S : Sto) : M._law_mixed e [.int n, .int k] S = .ok (.int (mixedZ n k)) S := by
  have hm : in64 ((n * 48271 + k * 69621 + 12345) % 2147483647) = true := in64_of (by omega) (by omega)
  have a1 : in64 48271 = true := by decide
  have a2 : in64 69621 = true := by decide
  have a3 : mid 65536 = true := by decide +kernel
  simp [M._law_mixed, M.b__law_mixed, mixedZ, a1, a2, a3, hm]
end DL
namespace DL
open PySem L2
theorem mixedZ_nonneg (n k : Int) : 0 ≤ mixedZ n k := by unfold mixedZ; omega
/-- the store: the numbers and the place -/
def DSt (ns : List Int) (k : Int) : Sto := [.lst [.lst (ns.map .int), .int k]]
/-- what is drawn -/
def drw (ns : List Int) (k : Int) : Int := if k < ns.length then ns.getD k.toNat 0 else
  mixedZ (mixedZ (if 0 < ns.length then 1 + k + 1009 * ns.getD 0 0 else 1 + k) k) 5 % 1000000
theorem atI_map {ns : List Int} {k : Int} (h0 : 0 ≤ k) (h : k < ns.length) : atI (ns.map D.int) k = some (.int (ns.getD k.toNat 0)) := by
  obtain ⟨m, rfl⟩ := Int.eq_ofNat_of_zero_le h0
  have hm : m < ns.length := by omega
  have : (ns.map D.int)[m]? = some (.int (ns.getD m 0)) := by
    rw [List.getElem?_map, List.getElem?_eq_getElem hm, List.getD_eq_getElem?_getD, List.getElem?_eq_getElem hm]
    rfl
  exact atI_nat this
theorem draw_eq (e : EX) (ns : List Int) (k : Int) (R : Sto) (hk : 0 ≤ k) : M._law_draw e [.ref 0] (DSt ns k ++ R) = .ok (.int (drw ns k)) (DSt ns (k + 1) ++ R) := by
  have hp : putL (.ref 0) (.int 1) (.int (k + 1)) (DSt ns k ++ R) = some (DSt ns (k + 1) ++ R) := by
    simp [putL, DSt, ixN]
  by_cases c : k < ns.length
  · simp [M._law_draw, M.b__law_draw, drw, DSt, dIx, anyL, lstOf, c, atI_map hk c, putL, ixN]
  · have a1 : in64 1009 = true := by decide
    by_cases c0 : 0 < ns.length
    · have h00 := atI_map (ns := ns) (k := 0) (by omega) (by omega)
      simp [M._law_draw, M.b__law_draw, drw, DSt, dIx, anyL, lstOf, c, c0, h00, mixed_eq, a1, putL, ixN]
    · simp [M._law_draw, M.b__law_draw, drw, DSt, dIx, anyL, lstOf, c, c0, mixed_eq, putL, ixN]
end DL
namespace DL
open PySem L2
/-! ### loops that append to the last list of the store -/
theorem lstOf_last {S : Sto} {xs : List D} : lstOf (.ref S.length) (S ++ [.lst xs]) = some xs := by simp [lstOf]
theorem set_last {S : Sto} {o o' : SO} : (S ++ [o]).set S.length o' = S ++ [o'] := by
  rw [List.set_append_right _ _ (Nat.le_refl _)]; simp
theorem ap_fM {m : FM} {f : FE} {fs : FA} {σ : En} {S : Sto} : fM m f fs σ S = (f σ S).bind fun x S1 => match x with
  | .ref n => (ofO (lstOf (.ref n) S1) S1).bind fun _ S1 => (fs σ S1).bind fun ys S2 => (ofO (lstOf (.ref n) S2) S2).bind fun xs S2 => match m xs ys S2 with
    | some (xs', d) => .ok d (S2.set n (.lst xs'))
    | none => .stuck
  | _ => .stuck := rfl
theorem ap_mAppend {xs : List D} {y : D} {S : Sto} (h : xs.length < BIG) : mAppend xs [y] S = some (xs ++ [y], .non) := by simp [mAppend, h]
/-- a number that the laws keep -/
def small (m : Int) : Prop := 0 ≤ m ∧ m < 1000000
theorem watch_none {ds : List D} {S : Sto} : watchOk none ds S := trivial
theorem loop_nil {it : Items} {gt : FG} {g : FS} {σ : En} {S : Sto} (h : watchOk it.w it.ds S) : loopF it gt g [] σ S = .nx σ S := by
  unfold loopF; rw [if_pos h]
theorem loop_cons {it : Items} {gt : FG} {g : FS} {σ σ1 : En} {S : Sto} {d : D} {r : List D} (h : watchOk it.w it.ds S) (hg : gt d σ S = some σ1) : loopF it gt g (d :: r) σ S = (g σ1 S).turn (loopF it gt g r) := by
  rw [loopF, if_pos h, hg]
/-- a loop whose turns all go on -/
theorem loop_ok {it : Items} {gt : FG} {g : FS} (hw : it.w = none) (I : Nat → En → Sto → Prop) : ∀ (ds : List D) (i : Nat) (σ : En) (S : Sto), I i σ S →
    (∀ (j : Nat) (d : D) (σ : En) (S : Sto), ds[j]? = some d → I (i + j) σ S → ∃ σ1 σ2 S2, gt d σ S = some σ1 ∧ g σ1 S = .nx σ2 S2 ∧ I (i + j + 1) σ2 S2) →
    ∃ σ' S', loopF it gt g ds σ S = .nx σ' S' ∧ I (i + ds.length) σ' S'
  | [], i, σ, S, h, _ => ⟨σ, S, loop_nil (by rw [hw]; trivial), h⟩
  | d :: ds, i, σ, S, h, hs => by
    obtain ⟨σ1, σ2, S2, e1, e2, h2⟩ := hs 0 d σ S rfl h
    obtain ⟨σ', S', e3, h3⟩ := loop_ok hw I ds (i + 1) σ2 S2 h2 (fun j d σ S e hI => by
      obtain ⟨a, b, c, k1, k2, k3⟩ := hs (j + 1) d σ S (by simpa using e) (by rw [show i + (j + 1) = i + 1 + j by omega]; exact hI)
      exact ⟨a, b, c, k1, k2, by rw [show i + 1 + j + 1 = i + (j + 1) + 1 by omega]; exact k3⟩)
    refine ⟨σ', S', ?_, by rw [List.length_cons, show i + (ds.length + 1) = i + 1 + ds.length by omega]; exact h3⟩
    rw [loop_cons (by rw [hw]; trivial) e1, e2, RS.turn_nx, e3]
theorem big_lt {n : Nat} (h : n < 100000) : n < BIG := Nat.lt_trans h (by decide)
/-- within the loops over the script's cells -/
def NumI (S : Sto) (b : Nat) (i : Nat) (σ : En) (T : Sto) : Prop := ∃ (sc : D) (c r k : Option D) (acc : List Int), σ = [some sc, some (.ref S.length), c, r, k] ∧ T = S ++ [.lst (acc.map .int)] ∧ acc.length ≤ b + i ∧ ∀ m ∈ acc, small m
theorem num1 (e : EX) (it : Items) (hw : it.w = none) (S : Sto) (ds : List D) (sc : D) (c : Option D) (rest : Int) (k : Option D) (acc : List Int) (hb : acc.length + ds.length < 100000) (hs : ∀ m ∈ acc, small m) :
    ∃ σ' S', loopF it (gNm 4) (M._law_numbers_1 e) ds [some sc, some (.ref S.length), c, some (.int rest), k] (S ++ [.lst (acc.map .int)]) = .nx σ' S' ∧
      ∃ (r' k' : Option D) (acc' : List Int), σ' = [some sc, some (.ref S.length), c, r', k'] ∧ S' = S ++ [.lst (acc'.map .int)] ∧ acc'.length ≤ acc.length + ds.length ∧ ∀ m ∈ acc', small m := by
  obtain ⟨σ', S', e1, r', k', acc', e2, e3, e4, e5⟩ := loop_ok (it := it) (gt := gNm 4) (g := M._law_numbers_1 e) hw
    (fun i σ T => ∃ (r : Int) (k' : Option D) (acc' : List Int), σ = [some sc, some (.ref S.length), c, some (.int r), k'] ∧ T = S ++ [.lst (acc'.map .int)] ∧ acc'.length ≤ acc.length + i ∧ ∀ m ∈ acc', small m)
    ds 0 _ _ ⟨rest, k, acc, rfl, rfl, by omega, hs⟩ (by
      rintro j d σ T ed ⟨r, k', acc', rfl, rfl, hl, hsm⟩
      have hj : j < ds.length := (List.getElem?_eq_some_iff.mp ed).1
      by_cases c0 : 0 < r
      · have hbb : (acc'.map D.int).length < BIG := big_lt (by simp; omega)
        have a1 : mid 1000000 = true := by decide +kernel
        refine ⟨_, _, _, rfl, ?_, r / 1000000, some d, acc' ++ [r % 1000000], rfl, rfl, by simp; omega, ?_⟩
        · simp [M._law_numbers_1, c0, ap_fM, lstOf_last, ap_mAppend hbb, set_last, a1]
        · intro m hm
          rcases List.mem_append.mp hm with hm | hm
          · exact hsm m hm
          · rw [List.mem_singleton.mp hm]; constructor <;> omega
      · refine ⟨_, _, _, rfl, ?_, r, some d, acc', rfl, rfl, by omega, hsm⟩
        simp [M._law_numbers_1, c0])
  exact ⟨σ', S', e1, some (.int r'), k', acc', e2, e3, by omega, e5⟩
theorem num2 (e : EX) (it : Items) (hw : it.w = none) (S : Sto) (sc : D) (cell : Int) (r k : Option D) (acc : List Int) (n : Nat) (hb : acc.length + n < 100000) (hs : ∀ m ∈ acc, small m) :
    ∃ σ' S', loopF it (gNm 4) (M._law_numbers_2 e) (rgD 0 n) [some sc, some (.ref S.length), some (.int cell), r, k] (S ++ [.lst (acc.map .int)]) = .nx σ' S' ∧
      ∃ (k' : Option D) (acc' : List Int), σ' = [some sc, some (.ref S.length), some (.int cell), r, k'] ∧ S' = S ++ [.lst (acc'.map .int)] ∧ acc'.length ≤ acc.length + n ∧ ∀ m ∈ acc', small m := by
  have hn : (rgD 0 n).length = n := by simp [rgD]
  obtain ⟨σ', S', e1, k', acc', e2, e3, e4, e5⟩ := loop_ok (it := it) (gt := gNm 4) (g := M._law_numbers_2 e) hw
    (fun i σ T => ∃ (k' : Option D) (acc' : List Int), σ = [some sc, some (.ref S.length), some (.int cell), r, k'] ∧ T = S ++ [.lst (acc'.map .int)] ∧ acc'.length ≤ acc.length + i ∧ ∀ m ∈ acc', small m)
    (rgD 0 n) 0 _ _ ⟨k, acc, rfl, rfl, by omega, hs⟩ (by
      rintro j d σ T ed ⟨k', acc', rfl, rfl, hl, hsm⟩
      have hj : j < n := by rw [← hn]; exact (List.getElem?_eq_some_iff.mp ed).1
      have hd : d = .int j := by
        simp [rgD, List.getElem?_map, List.getElem?_range hj] at ed
        exact ed.symm
      subst hd
      have hbb : (acc'.map D.int).length < BIG := big_lt (by simp; omega)
      refine ⟨_, _, _, rfl, ?_, some (.int j), acc' ++ [mixedZ (mixedZ (cell % 2147483647) j) (j + 7) % 1000000], rfl, rfl, by simp; omega, ?_⟩
      · simp [M._law_numbers_2, ap_fM, lstOf_last, ap_mAppend hbb, set_last, mixed_eq]
      · intro m hm
        rcases List.mem_append.mp hm with hm | hm
        · exact hsm m hm
        · rw [List.mem_singleton.mp hm]; constructor <;> omega)
  exact ⟨σ', S', e1, k', acc', e2, e3, by rw [hn] at e4; omega, e5⟩
theorem numbers_eq (e : EX) (ns : List Int) (S : Sto) (hl : ns.length ≤ 63) (hc : cleanS S.length S = true) : ∃ ms : List Int, (∀ m ∈ ms, small m) ∧ ms.length ≤ 4000 ∧ M._law_numbers e [.frz (ns.map .int)] S = .ok (.lst (ms.map .int)) S := by
  obtain ⟨σ', S', e1, c', r', k', acc', e2, e3, e4, e5⟩ := loop_ok (it := ⟨ns.map .int, none⟩) (gt := gNm 2) (g := M._law_numbers_3 e) rfl
    (fun i σ T => ∃ (c r k : Option D) (acc : List Int), σ = [some (.frz (ns.map .int)), some (.ref S.length), c, r, k] ∧ T = S ++ [.lst (acc.map .int)] ∧ acc.length ≤ 60 * i ∧ ∀ m ∈ acc, small m)
    (ns.map .int) 0 [some (.frz (ns.map .int)), some (.ref S.length), none, none, none] (S ++ [.lst []]) ⟨none, none, none, [], rfl, rfl, by simp, by simp⟩ (by
      rintro j d σ T ed ⟨c, r, k, acc, rfl, rfl, hl2, hsm⟩
      obtain ⟨cell, hcell, rfl⟩ : ∃ cell, ns[j]? = some cell ∧ d = .int cell := by
        rw [List.getElem?_map] at ed
        obtain ⟨x, h1, h2⟩ := Option.map_eq_some_iff.mp ed
        exact ⟨x, h1, h2.symm⟩
      have hj : j < 63 := Nat.lt_of_lt_of_le (List.getElem?_eq_some_iff.mp hcell).1 hl
      have i60 : in62 60 = true := by decide
      have i5 : in62 5 = true := by decide
      have p18 : dPow (.int 10) (.int 18) = fun _ => some (.int 1000000000000000000) := by
        funext S
        simp [dPow, dI]
      have l60 : (rgD 0 60).length = 60 := by simp [rgD]
      by_cases c18 : 1000000000000000000 ≤ cell
      · obtain ⟨σ2, S2, k1, r2, k2, acc2, rfl, rfl, k5, k6⟩ := num1 e ⟨rgD 0 60, none⟩ rfl S (rgD 0 60) (.frz (ns.map .int)) (some (.int cell)) cell k acc (by rw [l60]; omega) hsm
        refine ⟨_, _, _, rfl, ?_, some (.int cell), r2, k2, acc2, rfl, rfl, by rw [l60] at k5; omega, k6⟩
        simp [M._law_numbers_3, p18, c18, sFor, iRg1, i60, k1]
      · have hbb : (acc.map D.int).length < BIG := big_lt (by simp; omega)
        obtain ⟨σ2, S2, k1, k2, acc2, rfl, rfl, k5, k6⟩ := num2 e ⟨rgD 0 5, none⟩ rfl S (.frz (ns.map .int)) cell r k (acc ++ [cell % 1000000]) 5 (by simp; omega) (by
          intro m hm
          rcases List.mem_append.mp hm with hm | hm
          · exact hsm m hm
          · rw [List.mem_singleton.mp hm]; constructor <;> omega)
        refine ⟨_, _, _, rfl, ?_, some (.int cell), r, k2, acc2, rfl, rfl, by simp at k5; omega, k6⟩
        simp only [List.map_append, List.map_cons, List.map_nil] at k1
        have k1' : loopF ⟨rgD 0 5, none⟩ (gNm 4) (M._law_numbers_2 e) (rgD 0 5) _ _ = _ := k1
        simp [M._law_numbers_3, p18, c18, sFor, iRg1, i5, ap_fM, lstOf_last, ap_mAppend hbb, set_last, k1'])
  refine ⟨acc', e5, by simp at e4; omega, ?_⟩
  subst e2 e3
  have cl : cleans S.length (acc'.map D.int) = true := by
    clear e1 e4 e5
    induction acc' with
    | nil => rfl
    | cons a l ih => simp [cleans, clean, ih]
  simp [M._law_numbers, M.b__law_numbers, frz, sFor, iSeq, e1, hc, letGo, cl]
end DL
end

section
set_option Elab.async false
set_option linter.all false
set_option maxRecDepth 100000
set_option maxHeartbeats 1000000
namespace DL
open PySem L2
/-! ### programs and standings are checked -/
mutual
/-- no changeable thing within -/
def plain : D → Bool
  | .tup xs => plains xs
  | .lst xs => plains xs
  | .frz xs => plains xs
  | .ref _ => false
  | .cst _ => false
  | _ => true
def plains : List D → Bool
  | [] => true
  | d :: ds => plain d && plains ds
end
theorem plains_mem : ∀ {ds : List D} {d : D}, plains ds = true → d ∈ ds → plain d = true
  | [], d, _, h => by cases h
  | x :: ds, d, h, hm => by
    unfold plains at h
    have h' := Bool.and_eq_true_iff.mp h
    rcases List.mem_cons.mp hm with rfl | hm
    · exact h'.1
    · exact plains_mem h'.2 hm
def isTup (d : D) (n : Int) : Bool := match d with
  | .tup xs => decide ((xs.length : Int) = n)
  | _ => false
def isIn (d : D) (lo hi : Int) : Bool := match d with
  | .int i => decide (lo ≤ i) && decide (i ≤ hi)
  | _ => false
def isNat (d : D) : Bool := match d with
  | .int i => decide (0 ≤ i)
  | _ => false
theorem is_tuple_eq (e : EX) (d : D) (n : Int) (S : Sto) (h : plain d = true) : M.is_tuple e [d, .int n] S = .ok (.bl (isTup d n)) S := by
  cases d <;> first
    | (exfalso; simp [plain] at h; done)
    | (simp [M.is_tuple, M.b_is_tuple, isTup]; done)
theorem is_within_eq (e : EX) (d : D) (lo hi : Int) (S : Sto) (h : plain d = true) : M.is_within e [d, .int lo, .int hi] S = .ok (.bl (isIn d lo hi)) S := by
  cases d with
  | int i =>
    by_cases c : lo ≤ i
    · simp [M.is_within, M.b_is_within, isIn, c]
    · simp [M.is_within, M.b_is_within, isIn, c]
  | ref n => simp [plain] at h
  | cst n => simp [plain] at h
  | _ => simp [M.is_within, M.b_is_within, isIn]
theorem is_natural_eq (e : EX) (d : D) (S : Sto) (h : plain d = true) : M.is_natural e [d] S = .ok (.bl (isNat d)) S := by
  cases d with
  | ref n => simp [plain] at h
  | cst n => simp [plain] at h
  | _ => simp [M.is_natural, M.b_is_natural, isNat]
def isStepB (r : Int) (d : D) : Bool := match d with
  | .tup [a, b, f, g] => isIn a 0 (r - 1) && isIn b 0 (r - 1) && isIn f (-2) 2 && isIn g (-2) 2
  | _ => false
def isTestB (r : Int) (d : D) : Bool := match d with
  | .tup [a, b] => isIn a 0 (r - 1) && isIn b 0 (r - 1)
  | _ => false
def isProgB (d : D) : Bool := match d with
  | .tup [r, ss, ts] => isIn r 1 3 && (match r, ss, ts with
    | .int r, .tup ss, .tup ts => decide (ss.length ≤ 4) && ss.all (isStepB r) && decide (ts.length ≤ 2) && ts.all (isTestB r)
    | _, _, _ => false)
  | _ => false
theorem len4 {xs : List D} (h : xs.length = 4) : ∃ a b c d, xs = [a, b, c, d] := by
  match xs, h with
  | [a, b, c, d], _ => exact ⟨a, b, c, d, rfl⟩
theorem len3 {xs : List D} (h : xs.length = 3) : ∃ a b c, xs = [a, b, c] := by
  match xs, h with
  | [a, b, c], _ => exact ⟨a, b, c, rfl⟩
theorem len2 {xs : List D} (h : xs.length = 2) : ∃ a b, xs = [a, b] := by
  match xs, h with
  | [a, b], _ => exact ⟨a, b, rfl⟩
theorem step_body (e : EX) (S : Sto) (p s t x : Option D) (r : Int) (d : D) (hd : plain d = true) :
    M.check_program_1 e [p, some (.int r), s, t, some d, x] S = if isStepB r d = true then .nx [p, some (.int r), s, t, some d, x] S else .raise (.ref (e.x .BadProgram)) [p, some (.int r), s, t, some d, x] S := by
  cases d with
  | tup xs =>
    by_cases hl : xs.length = 4
    · obtain ⟨a, b, f, g, rfl⟩ := len4 hl
      simp only [plain, plains, Bool.and_eq_true, Bool.and_true] at hd
      have hp : plain (.tup [a, b, f, g]) = true := by simp [plain, plains, hd]
      simp only [M.check_program_1]
      cases h1 : isIn a 0 (r - 1) <;> cases h2 : isIn b 0 (r - 1) <;> cases h3 : isIn f (-2) 2 <;> cases h4 : isIn g (-2) 2 <;>
        simp [is_tuple_eq, hp, is_within_eq, hd, isTup, isStepB, h1, h2, h3, h4]
    · have hp : plain (.tup xs) = true := hd
      have h0 : isStepB r (.tup xs) = false := by
        match xs, hl with
        | [a, b, c, d], hl => simp at hl
        | [], _ => rfl
        | [_], _ => rfl
        | [_, _], _ => rfl
        | [_, _, _], _ => rfl
        | _ :: _ :: _ :: _ :: _ :: _, _ => rfl
      have h1 : isTup (.tup xs) 4 = false := by simp [isTup]; omega
      simp [M.check_program_1, is_tuple_eq, hp, h0, h1]
  | ref n => simp [plain] at hd
  | cst n => simp [plain] at hd
  | _ => simp [M.check_program_1, is_tuple_eq, hd, isTup, isStepB]
end DL
namespace DL
open PySem L2
theorem test_body (e : EX) (S : Sto) (p s t x : Option D) (r : Int) (d : D) (hd : plain d = true) :
    M.check_program_2 e [p, some (.int r), s, t, x, some d] S = if isTestB r d = true then .nx [p, some (.int r), s, t, x, some d] S else .raise (.ref (e.x .BadProgram)) [p, some (.int r), s, t, x, some d] S := by
  cases d with
  | tup xs =>
    by_cases hl : xs.length = 2
    · obtain ⟨a, b, rfl⟩ := len2 hl
      simp only [plain, plains, Bool.and_eq_true, Bool.and_true] at hd
      have hp : plain (.tup [a, b]) = true := by simp [plain, plains, hd]
      simp only [M.check_program_2]
      cases h1 : isIn a 0 (r - 1) <;> cases h2 : isIn b 0 (r - 1) <;>
        simp [is_tuple_eq, hp, is_within_eq, hd, isTup, isTestB, h1, h2]
    · have hp : plain (.tup xs) = true := hd
      have h0 : isTestB r (.tup xs) = false := by
        match xs, hl with
        | [a, b], hl => simp at hl
        | [], _ => rfl
        | [_], _ => rfl
        | _ :: _ :: _ :: _, _ => rfl
      have h1 : isTup (.tup xs) 2 = false := by simp [isTup]; omega
      simp [M.check_program_2, is_tuple_eq, hp, h0, h1]
  | ref n => simp [plain] at hd
  | cst n => simp [plain] at hd
  | _ => simp [M.check_program_2, is_tuple_eq, hd, isTup, isTestB]
/-- a loop that checks each item -/
theorem loop_chk {it : Items} {gt : FG} {g : FS} (hw : it.w = none) (c : Value) (p : D → Bool) (σf : Option D → En) (hg : ∀ d y S, gt d (σf y) S = some (σf (some d))) :
    ∀ (ds : List D) (y : Option D) (S : Sto), (∀ d ∈ ds, g (σf (some d)) S = if p d = true then .nx (σf (some d)) S else .raise c (σf (some d)) S) →
    (ds.all p = true → ∃ y', loopF it gt g ds (σf y) S = .nx (σf y') S) ∧ (ds.all p = false → ∃ y', loopF it gt g ds (σf y) S = .raise c (σf y') S)
  | [], y, S, _ => ⟨fun _ => ⟨y, loop_nil (by rw [hw]; trivial)⟩, fun h => by simp at h⟩
  | d :: ds, y, S, hb => by
    have ih := loop_chk hw c p σf hg ds (some d) S (fun d' h => hb d' (List.mem_cons_of_mem _ h))
    have hd := hb d List.mem_cons_self
    have e1 : loopF it gt g (d :: ds) (σf y) S = (g (σf (some d)) S).turn (loopF it gt g ds) := loop_cons (by rw [hw]; trivial) (hg d y S)
    constructor
    · intro h
      simp only [List.all_cons, Bool.and_eq_true] at h
      rw [if_pos h.1] at hd
      obtain ⟨y', h'⟩ := ih.1 h.2
      exact ⟨y', by rw [e1, hd, RS.turn_nx, h']⟩
    · intro h
      by_cases hp : p d = true
      · rw [if_pos hp] at hd
        simp only [List.all_cons, hp, Bool.true_and] at h
        obtain ⟨y', h'⟩ := ih.2 h
        exact ⟨y', by rw [e1, hd, RS.turn_nx, h']⟩
      · rw [if_neg hp] at hd
        exact ⟨some d, by rw [e1, hd, RS.turn_raise]⟩
theorem chk_tup (e : EX) (x : D) (hx : plain x = true) (S : Sto) (n : Int) : (∃ xs, x = .tup xs ∧ cIsi [x, .cst (.ty "tuple")] S = some (.bl true)) ∨ ((∀ xs, x ≠ .tup xs) ∧ cIsi [x, .cst (.ty "tuple")] S = some (.bl false)) := by
  cases x with
  | tup xs => exact .inl ⟨xs, rfl, by simp⟩
  | ref n => simp [plain] at hx
  | cst n => simp [plain] at hx
  | _ => exact .inr ⟨(fun xs h => by cases h), (by simp)⟩
theorem check_program_eq (e : EX) (d : D) (S : Sto) (hd : plain d = true) : M.check_program e [d] S = if isProgB d = true then .ok .non S else .raise (.ref (e.x .BadProgram)) S := by
  by_cases h3 : isTup d 3 = true
  · cases d with
    | tup xs =>
      have hl : xs.length = 3 := by simp [isTup] at h3; omega
      obtain ⟨r, ss, ts, rfl⟩ := len3 hl
      have hp := hd
      simp only [plain, plains, Bool.and_eq_true, Bool.and_true] at hp
      obtain ⟨hr, hs, ht⟩ := hp
      by_cases h1 : isIn r 1 3 = true
      · cases r with
        | int r =>
          rcases chk_tup e ss hs S 0 with ⟨ss, rfl, c1⟩ | ⟨n1, c1⟩
          · have hs' : ∀ d ∈ ss, plain d = true := fun d h => plains_mem (by simpa [plain] using hs) h
            by_cases h4 : ss.length ≤ 4
            · have h4' : ¬ (4 : Int) < ss.length := by omega
              have L := loop_chk (it := ⟨ss, none⟩) (gt := gNm 4) (g := M.check_program_1 e) rfl (.ref (e.x .BadProgram)) (isStepB r) (fun y => [some (.tup [.int r, .tup ss, ts]), some (.int r), some (.tup ss), some ts, y, none]) (fun _ _ _ => rfl) ss none S
                (fun d h => step_body e S _ _ _ _ r d (hs' d h))
              by_cases ha : ss.all (isStepB r) = true
              · obtain ⟨y, ey⟩ := L.1 ha
                rcases chk_tup e ts ht S 0 with ⟨ts, rfl, c2⟩ | ⟨n2, c2⟩
                · have ht' : ∀ d ∈ ts, plain d = true := fun d h => plains_mem (by simpa [plain] using ht) h
                  by_cases h2 : ts.length ≤ 2
                  · have h2' : ¬ (2 : Int) < ts.length := by omega
                    have L2 := loop_chk (it := ⟨ts, none⟩) (gt := gNm 5) (g := M.check_program_2 e) rfl (.ref (e.x .BadProgram)) (isTestB r) (fun x => [some (.tup [.int r, .tup ss, .tup ts]), some (.int r), some (.tup ss), some (.tup ts), y, x]) (fun _ _ _ => rfl) ts none S
                      (fun d h => test_body e S _ _ _ _ r d (ht' d h))
                    by_cases hb : ts.all (isTestB r) = true
                    · obtain ⟨x, ex⟩ := L2.1 hb
                      have hB : isProgB (.tup [.int r, .tup ss, .tup ts]) = true := by simp only [isProgB, h1, h4, ha, h2, hb]; simp
                      simp [M.check_program, M.b_check_program, is_tuple_eq, hd, h3, is_within_eq, hr, h1, c1, h4', sFor, iSeq, ey, c2, h2', ex, hB]
                    · have hb' : ts.all (isTestB r) = false := by simpa using hb
                      obtain ⟨x, ex⟩ := L2.2 hb'
                      have hB : isProgB (.tup [.int r, .tup ss, .tup ts]) = false := by simp only [isProgB, hb']; simp
                      simp [M.check_program, M.b_check_program, is_tuple_eq, hd, h3, is_within_eq, hr, h1, c1, h4', sFor, iSeq, ey, c2, h2', ex, hB]
                  · have h2' : (2 : Int) < ts.length := by omega
                    have hB : isProgB (.tup [.int r, .tup ss, .tup ts]) = false := by simp [isProgB, h2]
                    simp [M.check_program, M.b_check_program, is_tuple_eq, hd, h3, is_within_eq, hr, h1, c1, h4', sFor, iSeq, ey, c2, h2', hB]
                · have hB : isProgB (.tup [.int r, .tup ss, ts]) = false := by
                    cases ts <;> first | (exfalso; exact n2 _ rfl) | simp [isProgB]
                  simp [M.check_program, M.b_check_program, is_tuple_eq, hd, h3, is_within_eq, hr, h1, c1, h4', sFor, iSeq, ey, c2, hB]
              · have ha' : ss.all (isStepB r) = false := by simpa using ha
                obtain ⟨y, ey⟩ := L.2 ha'
                have hB : isProgB (.tup [.int r, .tup ss, ts]) = false := by
                  cases ts <;> simp only [isProgB, ha'] <;> simp
                simp [M.check_program, M.b_check_program, is_tuple_eq, hd, h3, is_within_eq, hr, h1, c1, h4', sFor, iSeq, ey, hB]
            · have h4' : (4 : Int) < ss.length := by omega
              have hB : isProgB (.tup [.int r, .tup ss, ts]) = false := by
                cases ts <;> simp [isProgB, h4]
              simp [M.check_program, M.b_check_program, is_tuple_eq, hd, h3, is_within_eq, hr, h1, c1, h4', hB]
          · have hB : isProgB (.tup [.int r, ss, ts]) = false := by
              cases ss <;> first | (exfalso; exact n1 _ rfl) | simp [isProgB]
            simp [M.check_program, M.b_check_program, is_tuple_eq, hd, h3, is_within_eq, hr, h1, c1, hB]
        | _ => simp [isIn] at h1
      · have h1' : isIn r 1 3 = false := by simpa using h1
        have hB : isProgB (.tup [r, ss, ts]) = false := by simp only [isProgB, h1']; simp
        simp [M.check_program, M.b_check_program, is_tuple_eq, hd, h3, is_within_eq, hr, h1', hB]
    | _ => simp [isTup] at h3
  · have h3' : isTup d 3 = false := by simpa using h3
    have hB : isProgB d = false := by
      cases d with
      | tup xs =>
        match xs, h3' with
        | [a, b, c], h => simp [isTup] at h
        | [], _ => rfl
        | [_], _ => rfl
        | [_, _], _ => rfl
        | _ :: _ :: _ :: _ :: _, _ => rfl
      | _ => rfl
    simp [M.check_program, M.b_check_program, is_tuple_eq, hd, h3', hB]
def isPlaceB (d : D) : Bool := match d with
  | .tup [r, a, b] => isIn r 0 2 && isNat a && isNat b
  | _ => false
theorem is_place_eq (e : EX) (d : D) (S : Sto) (hd : plain d = true) : M.is_place e [d] S = .ok (.bl (isPlaceB d)) S := by
  by_cases h3 : isTup d 3 = true
  · cases d with
    | tup xs =>
      have hl : xs.length = 3 := by simp [isTup] at h3; omega
      obtain ⟨r, a, b, rfl⟩ := len3 hl
      have hp := hd
      simp only [plain, plains, Bool.and_eq_true, Bool.and_true] at hp
      obtain ⟨hr, ha, hb⟩ := hp
      cases h1 : isIn r 0 2 <;> cases h2 : isNat a <;> cases h4 : isNat b <;>
        simp [M.is_place, M.b_is_place, is_tuple_eq, hd, h3, is_within_eq, hr, is_natural_eq, ha, hb, isPlaceB, h1, h2, h4]
    | _ => simp [isTup] at h3
  · have h3' : isTup d 3 = false := by simpa using h3
    have hB : isPlaceB d = false := by
      cases d with
      | tup xs =>
        match xs, h3' with
        | [a, b, c], h => simp [isTup] at h
        | [], _ => rfl
        | [_], _ => rfl
        | [_, _], _ => rfl
        | _ :: _ :: _ :: _ :: _, _ => rfl
      | _ => rfl
    simp [M.is_place, M.b_is_place, is_tuple_eq, hd, h3', hB]
end DL
end

section
set_option Elab.async false
set_option linter.all false
set_option maxRecDepth 100000
set_option maxHeartbeats 1000000
namespace DL
open PySem L2
/-! ### what is drawn, by the number of draws -/
def DN (ns : List Int) (k : Nat) : Sto := [.lst [.lst (ns.map .int), .int k]]
def dr (ns : List Int) (k : Nat) : Int := drw ns k
theorem DN_eq {ns : List Int} {k : Nat} : DN ns k = DSt ns (k : Int) := rfl
@[simp] theorem draw_nR (e : EX) (ns : List Int) (k : Nat) (R : Sto) : M._law_draw e [.ref 0] (DN ns k ++ R) = .ok (.int (dr ns k)) (DN ns (k + 1) ++ R) := by
  have h := draw_eq e ns k R (by omega)
  rw [DN_eq, DN_eq, h]; rfl
@[simp] theorem draw_n (e : EX) (ns : List Int) (k : Nat) : M._law_draw e [.ref 0] (DN ns k) = .ok (.int (dr ns k)) (DN ns (k + 1)) := by
  have h := draw_nR e ns k []
  simpa using h
theorem dr_small {ns : List Int} (h : ∀ m ∈ ns, small m) (k : Nat) : small (dr ns k) := by
  unfold dr drw
  by_cases c : (k : Int) < ns.length
  · rw [if_pos c]
    have hk : k < ns.length := by omega
    rw [show (k : Int).toNat = k by omega, List.getD_eq_getElem?_getD, List.getElem?_eq_getElem hk]
    exact h _ (List.getElem_mem hk)
  · rw [if_neg c]
    constructor
    · omega
    · omega
@[simp] theorem atI_4 {a b c d f : D} {xs : List D} : atI (a :: b :: c :: d :: f :: xs) 4 = some f := by
  have : atI (a :: b :: c :: d :: f :: xs) ((4 : Nat) : Int) = some f := atI_nat rfl
  exact this
@[simp] theorem atI_5 {a b c d f g : D} {xs : List D} : atI (a :: b :: c :: d :: f :: g :: xs) 5 = some g := by
  have : atI (a :: b :: c :: d :: f :: g :: xs) ((5 : Nat) : Int) = some g := atI_nat rfl
  exact this
@[simp] theorem atI_6 {a b c d f g h : D} {xs : List D} : atI (a :: b :: c :: d :: f :: g :: h :: xs) 6 = some h := by
  have : atI (a :: b :: c :: d :: f :: g :: h :: xs) ((6 : Nat) : Int) = some h := atI_nat rfl
  exact this
@[simp] theorem atI_7 {a b c d f g h i : D} {xs : List D} : atI (a :: b :: c :: d :: f :: g :: h :: i :: xs) 7 = some i := by
  have : atI (a :: b :: c :: d :: f :: g :: h :: i :: xs) ((7 : Nat) : Int) = some i := atI_nat rfl
  exact this
/-- one of a list's items, by a rest -/
theorem atI_pick (xs : List D) (x : Int) (n : Nat) (hn : xs.length = n) (h0 : 0 < n) : ∃ d ∈ xs, atI xs (x % n) = some d := by
  have h1 : 0 ≤ x % (n : Int) := Int.emod_nonneg _ (by omega)
  have h2 : x % (n : Int) < n := Int.emod_lt_of_pos _ (by omega)
  obtain ⟨m, hm⟩ := Int.eq_ofNat_of_zero_le h1
  have hml : m < xs.length := by omega
  exact ⟨xs[m], List.getElem_mem hml, by rw [hm]; exact atI_nat (List.getElem?_eq_getElem hml)⟩
theorem pick_rooms (x : Int) : ∃ r : Int, 1 ≤ r ∧ r ≤ 3 ∧ atI [D.int 1, .int 2, .int 1, .int 3, .int 2] (x % 5) = some (.int r) := by
  obtain ⟨d, h1, h2⟩ := atI_pick [D.int 1, .int 2, .int 1, .int 3, .int 2] x 5 rfl (by omega)
  simp only [List.mem_cons, List.not_mem_nil, or_false] at h1
  rcases h1 with rfl | rfl | rfl | rfl | rfl <;> exact ⟨_, by decide, by decide, h2⟩
theorem pick_steps (x : Int) : ∃ r : Nat, r ≤ 4 ∧ atI [D.int 2, .int 3, .int 1, .int 4, .int 4, .int 3, .int 0] (x % 7) = some (.int r) := by
  obtain ⟨d, h1, h2⟩ := atI_pick [D.int 2, .int 3, .int 1, .int 4, .int 4, .int 3, .int 0] x 7 rfl (by omega)
  simp only [List.mem_cons, List.not_mem_nil, or_false] at h1
  rcases h1 with rfl | rfl | rfl | rfl | rfl | rfl | rfl <;> first | exact ⟨2, by decide, h2⟩ | exact ⟨3, by decide, h2⟩ | exact ⟨1, by decide, h2⟩ | exact ⟨4, by decide, h2⟩ | exact ⟨0, by decide, h2⟩
theorem pick_tests (x : Int) : ∃ r : Nat, r ≤ 2 ∧ atI [D.int 0, .int 1, .int 0, .int 2, .int 1] (x % 5) = some (.int r) := by
  obtain ⟨d, h1, h2⟩ := atI_pick [D.int 0, .int 1, .int 0, .int 2, .int 1] x 5 rfl (by omega)
  simp only [List.mem_cons, List.not_mem_nil, or_false] at h1
  rcases h1 with rfl | rfl | rfl | rfl | rfl <;> first | exact ⟨2, by decide, h2⟩ | exact ⟨1, by decide, h2⟩ | exact ⟨0, by decide, h2⟩
/-! ### the laws' programs -/
def stepD (a b f g : Int) : D := .tup [.int a, .int b, .int f, .int g]
theorem isIn_of {i lo hi : Int} (h1 : lo ≤ i) (h2 : i ≤ hi) : isIn (.int i) lo hi = true := by simp [isIn, h1, h2]
theorem lstOf_lastR {A S : Sto} {xs : List D} {n : Nat} (h : A.length = n) : lstOf (.ref n) (A ++ [.lst xs]) = some xs := by subst h; exact lstOf_last
@[simp] theorem DN_len {ns : List Int} {k : Nat} : (DN ns k).length = 1 := rfl
theorem lstOf_1 {ns : List Int} {k : Nat} {xs : List D} {R : Sto} : lstOf (.ref 1) (DN ns k ++ .lst xs :: R) = some xs := rfl
theorem lstOf_2 {ns : List Int} {k : Nat} {o : SO} {xs : List D} {R : Sto} : lstOf (.ref 2) (DN ns k ++ o :: .lst xs :: R) = some xs := rfl
theorem set_1 {ns : List Int} {k : Nat} {o o' : SO} {R : Sto} : (DN ns k ++ o :: R).set 1 o' = DN ns k ++ o' :: R := rfl
theorem set_2 {ns : List Int} {k : Nat} {o p o' : SO} {R : Sto} : (DN ns k ++ p :: o :: R).set 2 o' = DN ns k ++ p :: o' :: R := rfl
theorem plains_app {xs ys : List D} (h : plains xs = true) (h' : plains ys = true) : plains (xs ++ ys) = true := by
  induction xs with
  | nil => exact h'
  | cons a l ih =>
    simp only [plains, Bool.and_eq_true] at h
    simp only [List.cons_append, plains, h.1, ih h.2]
    rfl
theorem emod_in (x : Int) {r : Int} (r1 : 1 ≤ r) : isIn (.int (x % r)) 0 (r - 1) = true := by
  have h1 : 0 ≤ x % r := Int.emod_nonneg _ (by omega)
  have h2 : x % r < r := Int.emod_lt_of_pos _ (by omega)
  exact isIn_of h1 (by omega)
theorem emod5_in (x : Int) : isIn (.int (x % 5 - 2)) (-2) 2 = true := isIn_of (by omega) (by omega)
@[simp] theorem big_ok {n : Nat} (h : n ≤ 100000) : n ≤ BIG := Nat.le_trans h (by decide +kernel)
theorem big4 : (4 : Nat) ≤ BIG := by decide +kernel
theorem big2 : (2 : Nat) ≤ BIG := by decide +kernel
theorem big3 : (3 : Nat) ≤ BIG := by decide +kernel
theorem big5 : (5 : Nat) ≤ BIG := by decide +kernel
theorem big6 : (6 : Nat) ≤ BIG := by decide +kernel
theorem big7 : (7 : Nat) ≤ BIG := by decide +kernel
theorem big8 : (8 : Nat) ≤ BIG := by decide +kernel
theorem in62_nat {n : Nat} (h : n ≤ 1000000) : in62 (n : Int) = true := by
  unfold in62
  have h1 : -(4611686018427387904) ≤ (n : Int) := by omega
  have h2 : (n : Int) < 4611686018427387904 := by omega
  simp only [h1, h2, decide_true, Bool.and_self]
theorem rgD_len {n : Nat} : (rgD 0 (n : Int)).length = n := by simp [rgD]
def StepI (ns : List Int) (r : Int) (i : Nat) (σ : En) (T : Sto) : Prop := ∃ (v3 v4 v5 : Option D) (k' : Nat) (acc : List D), σ = [some (.ref 0), some (.int r), some (.ref 1), v3, v4, v5, none] ∧ T = DN ns k' ++ [.lst acc] ∧ acc.length = i ∧ acc.all (isStepB r) = true ∧ plains acc = true
theorem prog_steps (e : EX) (ns : List Int) (k : Nat) (r : Int) (r1 : 1 ≤ r) (n : Nat) (hn : n ≤ 4) : ∃ σ' S', loopF ⟨rgD 0 (n : Int), none⟩ (gNm 3) (M._law_program_1 e) (rgD 0 (n : Int)) [some (.ref 0), some (.int r), some (.ref 1), none, none, none, none] (DN ns k ++ [.lst []]) = .nx σ' S' ∧ StepI ns r (0 + (rgD 0 (n : Int)).length) σ' S' := by
  refine loop_ok rfl (StepI ns r) (rgD 0 (n : Int)) 0 _ _ ⟨none, none, none, k, [], rfl, rfl, rfl, rfl, rfl⟩ ?_
  rintro j d σ T ed ⟨v3, v4, v5, k', acc, rfl, rfl, hl, hs, hp⟩
  have hj : j < n := by
    have := (List.getElem?_eq_some_iff.mp ed).1
    rwa [rgD_len] at this
  have hb : acc.length < BIG := big_lt (by omega)
  have r0 : 0 < r := by omega
  refine ⟨_, _, _, rfl, ?_, some d, some (.int (dr ns k' % r)), some (.int (dr ns (k' + 1) % r)), k' + 1 + 1 + 1 + 1, acc ++ [stepD (dr ns k' % r) (dr ns (k' + 1) % r) (dr ns (k' + 1 + 1) % 5 - 2) (dr ns (k' + 1 + 1 + 1) % 5 - 2)], rfl, rfl, by simp; omega, ?_, plains_app hp rfl⟩
  · simp [M._law_program_1, r0, ap_fM, lstOf_1, ap_mAppend hb, set_1, stepD, big4]
  · have : isStepB r (stepD (dr ns k' % r) (dr ns (k' + 1) % r) (dr ns (k' + 1 + 1) % 5 - 2) (dr ns (k' + 1 + 1 + 1) % 5 - 2)) = true := by
      simp only [isStepB, stepD, emod_in _ r1, emod5_in, Bool.and_self]
    simp only [List.all_append, hs, List.all_cons, this, List.all_nil, Bool.and_self]
def TestI (ns : List Int) (r : Int) (v4 v5 : Option D) (ss : List D) (i : Nat) (σ : En) (T : Sto) : Prop := ∃ (v3 : Option D) (k' : Nat) (acc : List D), σ = [some (.ref 0), some (.int r), some (.ref 1), v3, v4, v5, some (.ref 2)] ∧ T = DN ns k' ++ [.lst ss, .lst acc] ∧ acc.length = i ∧ acc.all (isTestB r) = true ∧ plains acc = true
theorem prog_tests (e : EX) (ns : List Int) (k : Nat) (r : Int) (r1 : 1 ≤ r) (n : Nat) (hn : n ≤ 2) (v3 v4 v5 : Option D) (ss : List D) : ∃ σ' S', loopF ⟨rgD 0 (n : Int), none⟩ (gNm 3) (M._law_program_2 e) (rgD 0 (n : Int)) [some (.ref 0), some (.int r), some (.ref 1), v3, v4, v5, some (.ref 2)] (DN ns k ++ [.lst ss, .lst []]) = .nx σ' S' ∧ TestI ns r v4 v5 ss (0 + (rgD 0 (n : Int)).length) σ' S' := by
  refine loop_ok rfl (TestI ns r v4 v5 ss) (rgD 0 (n : Int)) 0 _ _ ⟨v3, k, [], rfl, rfl, rfl, rfl, rfl⟩ ?_
  rintro j d σ T ed ⟨v3, k', acc, rfl, rfl, hl, hs, hp⟩
  have hj : j < n := by
    have := (List.getElem?_eq_some_iff.mp ed).1
    rwa [rgD_len] at this
  have hb : acc.length < BIG := big_lt (by omega)
  have r0 : 0 < r := by omega
  refine ⟨_, _, _, rfl, ?_, some d, k' + 1 + 1, acc ++ [.tup [.int (dr ns k' % r), .int (dr ns (k' + 1) % r)]], rfl, rfl, by simp; omega, ?_, plains_app hp rfl⟩
  · simp [M._law_program_2, r0, ap_fM, lstOf_2, ap_mAppend hb, set_2, big2]
  · have : isTestB r (.tup [.int (dr ns k' % r), .int (dr ns (k' + 1) % r)]) = true := by
      simp only [isTestB, emod_in _ r1, Bool.and_self]
    simp only [List.all_append, hs, List.all_cons, this, List.all_nil, Bool.and_self]
mutual
theorem plain_clean (n : Nat) : ∀ d : D, plain d = true → clean n d = true
  | .tup xs, h => by unfold plain at h; unfold clean; exact plains_cleans n xs h
  | .lst xs, h => by unfold plain at h; unfold clean; exact plains_cleans n xs h
  | .frz xs, h => by unfold plain at h; unfold clean; exact plains_cleans n xs h
  | .ref _, h => by simp [plain] at h
  | .cst _, h => by simp [plain] at h
  | .non, _ => by unfold clean; rfl
  | .bl _, _ => by unfold clean; rfl
  | .int _, _ => by unfold clean; rfl
  | .str _, _ => by unfold clean; rfl
  | .emp, _ => by unfold clean; rfl
theorem plains_cleans (n : Nat) : ∀ ds : List D, plains ds = true → cleans n ds = true
  | [], _ => by unfold cleans; rfl
  | d :: ds, h => by
    unfold plains at h
    have h' := Bool.and_eq_true_iff.mp h
    unfold cleans
    rw [plain_clean n d h'.1, plains_cleans n ds h'.2]
    rfl
end
theorem letGo_plain {n : Nat} {d : D} {S : Sto} (h : plain d = true) : letGo n d S = some d := by
  cases d with
  | ref m => simp [plain] at h
  | _ => have hc := plain_clean n _ h; simp [letGo, hc]
theorem plains_ints (ns : List Int) : plains (ns.map D.int) = true := by
  induction ns with
  | nil => rfl
  | cons a l ih => simp only [List.map_cons, plains, plain, ih, Bool.and_self]
@[simp] theorem clean_DN {ns : List Int} {k : Nat} : cleanS 1 (DN ns k) = true := by
  have h : plains [D.lst (ns.map .int), .int k] = true := by simp only [plains, plain, plains_ints, Bool.and_self]
  have := plains_cleans 1 _ h
  simp only [cleanS, DN, List.all_cons, cleanO, this, List.all_nil, Bool.and_self]
@[simp] theorem take_DN {ns : List Int} {k : Nat} {R : Sto} : List.take 1 (DN ns k ++ R) = DN ns k := rfl
theorem program_eq (e : EX) (ns : List Int) (k : Nat) : ∃ (r : Int) (ss ts : List D) (k' : Nat), 1 ≤ r ∧ r ≤ 3 ∧ isProgB (.tup [.int r, .tup ss, .tup ts]) = true ∧ plain (.tup [.int r, .tup ss, .tup ts]) = true ∧
    M._law_program e [.ref 0] (DN ns k) = .ok (.tup [.int r, .tup ss, .tup ts]) (DN ns k') := by
  obtain ⟨r, r1, r2, er⟩ := pick_rooms (dr ns k)
  obtain ⟨n, hn, en⟩ := pick_steps (dr ns (k + 1))
  have i62 : in62 (n : Int) = true := in62_nat (by omega)
  obtain ⟨σ1, S1, e1, v3, v4, v5, k1, ss, rfl, rfl, hs1, hs2, hs3⟩ := prog_steps e ns (k + 1 + 1) r r1 n hn
  obtain ⟨m, hm, em⟩ := pick_tests (dr ns k1)
  have i62' : in62 (m : Int) = true := in62_nat (by omega)
  obtain ⟨σ2, S2, e2, w3, k2, ts, rfl, rfl, ht1, ht2, ht3⟩ := prog_tests e ns (k1 + 1) r r1 m hm v3 v4 v5 ss
  rw [rgD_len] at hs1 ht1
  have hp1 : isProgB (.tup [.int r, .tup ss, .tup ts]) = true := by
    have q1 : ss.length ≤ 4 := by omega
    have q2 : ts.length ≤ 2 := by omega
    simp only [isProgB, isIn_of r1 r2, q1, q2, hs2, ht2, decide_true, Bool.and_self]
  have hp2 : plain (.tup [.int r, .tup ss, .tup ts]) = true := by
    simp only [plain, plains, hs3, ht3, Bool.and_self]
  refine ⟨r, ss, ts, k2, r1, r2, hp1, hp2, ?_⟩
  have cS : cTup [.ref 1] (DN ns k2 ++ [.lst ss, .lst ts]) = some (.tup ss) := rfl
  have cT : cTup [.ref 2] (DN ns k2 ++ [.lst ss, .lst ts]) = some (.tup ts) := rfl
  simp -implicitDefEqProofs [M._law_program, M.b__law_program, frz, big5, big7, big3, er, en, sFor, iRg1, i62, e1, em, i62', e2, cS, cT, letGo_plain hp2]
end DL
end

section
set_option Elab.async false
set_option linter.all false
set_option maxRecDepth 100000
set_option maxHeartbeats 1000000
namespace DL
open PySem L2
/-! ### standings are checked -/
def roomsOf (d : D) : Int := match d with
  | .tup (.int r :: _) => r
  | _ => 0
def isStandB (r : Int) (d : D) : Bool := match d with
  | .tup [.int a, b, c] => isPlaceB (.tup [.int a, b, c]) && decide (a < r)
  | _ => false
theorem prog_shape {d : D} (h : isProgB d = true) : ∃ r ss ts, d = .tup [.int r, .tup ss, .tup ts] := by
  cases d with
  | tup xs =>
    match xs, h with
    | [r, ss, ts], h =>
      cases r with
      | int r =>
        cases ss with
        | tup ss =>
          cases ts with
          | tup ts => exact ⟨r, ss, ts, rfl⟩
          | _ => simp [isProgB] at h
        | _ => simp [isProgB] at h
      | _ => simp [isProgB, isIn] at h
    | [], h => simp [isProgB] at h
    | [_], h => simp [isProgB] at h
    | [_, _], h => simp [isProgB] at h
    | _ :: _ :: _ :: _ :: _, h => simp [isProgB] at h
  | _ => simp [isProgB] at h
theorem place_shape {d : D} (h : isPlaceB d = true) : ∃ r a b, d = .tup [.int r, .int a, .int b] ∧ 0 ≤ r ∧ r ≤ 2 ∧ 0 ≤ a ∧ 0 ≤ b := by
  cases d with
  | tup xs =>
    match xs, h with
    | [r, a, b], h =>
      simp only [isPlaceB, Bool.and_eq_true] at h
      obtain ⟨⟨h1, h2⟩, h3⟩ := h
      cases r with
      | int r =>
        cases a with
        | int a =>
          cases b with
          | int b =>
            simp only [isIn, isNat, Bool.and_eq_true, decide_eq_true_eq] at h1 h2 h3
            exact ⟨r, a, b, rfl, h1.1, h1.2, h2, h3⟩
          | _ => simp [isNat] at h3
        | _ => simp [isNat] at h2
      | _ => simp [isIn] at h1
    | [], h => simp [isPlaceB] at h
    | [_], h => simp [isPlaceB] at h
    | [_, _], h => simp [isPlaceB] at h
    | _ :: _ :: _ :: _ :: _, h => simp [isPlaceB] at h
  | _ => simp [isPlaceB] at h
theorem stand_false {r : Int} {d : D} (h : isPlaceB d = false) : isStandB r d = false := by
  unfold isStandB
  split
  · rw [h]; rfl
  · rfl
theorem check_standing_eq (e : EX) (d s : D) (S : Sto) (hd : plain d = true) (hs : plain s = true) :
    M.check_standing e [d, s] S = if isProgB d = true then (if isStandB (roomsOf d) s = true then .ok .non S else .raise (.ref (e.x .BadStanding)) S) else .raise (.ref (e.x .BadProgram)) S := by
  by_cases h1 : isProgB d = true
  · obtain ⟨r, ss, ts, rfl⟩ := prog_shape h1
    by_cases h2 : isPlaceB s = true
    · obtain ⟨a, b, c, rfl, _⟩ := place_shape h2
      by_cases h3 : a < r
      · have h3' : ¬ r ≤ a := by omega
        have h4 : isStandB r (.tup [.int a, .int b, .int c]) = true := by simp only [isStandB, h2, h3, decide_true, Bool.and_self]
        simp -implicitDefEqProofs [M.check_standing, M.b_check_standing, check_program_eq, hd, h1, is_place_eq, hs, h2, h3, h3', h4, roomsOf]
      · have h3' : r ≤ a := by omega
        have h4 : isStandB r (.tup [.int a, .int b, .int c]) = false := by simp only [isStandB, h2, h3, decide_false, Bool.and_false]
        simp -implicitDefEqProofs [M.check_standing, M.b_check_standing, check_program_eq, hd, h1, is_place_eq, hs, h2, h3, h3', h4, roomsOf]
    · have h2' : isPlaceB s = false := by simpa using h2
      have h4 : isStandB r s = false := stand_false h2'
      simp -implicitDefEqProofs [M.check_standing, M.b_check_standing, check_program_eq, hd, h1, is_place_eq, hs, h2', h4, roomsOf]
  · simp -implicitDefEqProofs [M.check_standing, M.b_check_standing, check_program_eq, hd, h1]
end DL
end

section
set_option Elab.async false
set_option linter.all false
set_option maxRecDepth 100000
set_option maxHeartbeats 1000000
namespace DL
open PySem L2
@[simp] theorem v_cutT {xs : List D} {lo hi : Option Int} {S : Sto} : dCut (.tup xs) lo hi S = some (.tup (cutD xs lo hi)) := rfl
@[simp] theorem v_addT {xs ys : List D} {S : Sto} (h : xs.length + ys.length ≤ 100000) : dAdd (.tup xs) (.tup ys) S = some (.tup (xs ++ ys)) := by
  show (none.or ((none : Option D).or ((if xs.length + ys.length ≤ BIG then some (D.tup (xs ++ ys)) else none).or _))) = _
  rw [if_pos (big_ok h)]; rfl
theorem v_mulT {xs : List D} {k : Int} {S : Sto} (h0 : xs ≠ []) (h1 : 2 ≤ k) (h2 : k ≤ 1000) (h3 : xs.length ≤ 1000) : dMul (.tup xs) (.int k) S = some (.tup (List.replicate k.toNat xs).flatten) := by
  show ((none : Option D).or ((if xs ≠ [] ∧ 2 ≤ k ∧ k ≤ 1000 ∧ xs.length ≤ 1000 then some (D.tup (List.replicate k.toNat xs).flatten) else none).or _)) = _
  rw [if_pos ⟨h0, h1, h2, h3⟩]; rfl
theorem cut_mem {xs : List D} {lo hi : Option Int} {d : D} (h : d ∈ cutD xs lo hi) : d ∈ xs := by
  unfold cutD at h
  exact List.mem_of_mem_drop (List.mem_of_mem_take h)
theorem cut_len {xs : List D} {lo hi : Option Int} : (cutD xs lo hi).length ≤ xs.length := by
  unfold cutD
  rw [List.length_take, List.length_drop]
  omega
theorem tryAs_raise {m : Value → Value → Option Bool} {g : FS} {k c : Value} {i : Nat} {h : Value → Addr → FS} {σ σ1 : En} {S S1 : Sto} {r : RS} (h1 : g σ S = .raise c σ1 S1) (h2 : m c k = some true)
    (h3 : ∀ a, ((h c a (σ1.set i (some (.cst (.ref a)))) S1).noR.clr i) = r) : sTryAs m g k i h σ S = r := by
  unfold sTryAs
  rw [h1]
  simp only [h2]
  rw [if_pos (fun a => by rw [h3 a, h3 0])]
  exact h3 0
theorem tryAs_nx {m : Value → Value → Option Bool} {g : FS} {k : Value} {i : Nat} {h : Value → Addr → FS} {σ σ1 : En} {S S1 : Sto} (h1 : g σ S = .nx σ1 S1) : sTryAs m g k i h σ S = .nx σ1 S1 := by
  unfold sTryAs; rw [h1]
/-! what can be shown and is plain -/
structure G (k : Nat) (d : D) : Prop where
  p : plain d = true
  r : Rp k d = true
  e : noEmp d = true
theorem Rp_mono : ∀ (k : Nat) (d : D), Rp k d = true → Rp (k + 1) d = true := by
  intro k
  induction k with
  | zero => intro d h; cases d <;> first | exact h | (simp [Rp] at h)
  | succ k ih =>
    intro d h
    cases d with
    | tup xs =>
      simp only [Rp, Bool.and_eq_true, List.all_eq_true] at h ⊢
      exact ⟨h.1, fun x hx => ih x (h.2 x hx)⟩
    | lst xs =>
      simp only [Rp, Bool.and_eq_true, List.all_eq_true] at h ⊢
      exact ⟨h.1, fun x hx => ih x (h.2 x hx)⟩
    | _ => exact h
theorem G.up {k : Nat} {d : D} (h : G k d) : G (k + 1) d := ⟨h.p, Rp_mono k d h.r, h.e⟩
theorem plains_of {xs : List D} (h : ∀ x ∈ xs, plain x = true) : plains xs = true := by
  induction xs with
  | nil => rfl
  | cons a l ih =>
    simp only [plains, h a List.mem_cons_self, ih (fun x hx => h x (List.mem_cons_of_mem _ hx)), Bool.and_self]
theorem noEmps_of {xs : List D} (h : ∀ x ∈ xs, noEmp x = true) : noEmps xs = true := by
  induction xs with
  | nil => rfl
  | cons a l ih =>
    simp only [noEmps, h a List.mem_cons_self, ih (fun x hx => h x (List.mem_cons_of_mem _ hx)), Bool.and_self]
theorem noLsts_of {xs : List D} (h : ∀ x ∈ xs, noLst x = true) : noLsts xs = true := by
  induction xs with
  | nil => rfl
  | cons a l ih =>
    simp only [noLsts, h a List.mem_cons_self, ih (fun x hx => h x (List.mem_cons_of_mem _ hx)), Bool.and_self]
theorem G.tup {k : Nat} {xs : List D} (hl : xs.length ≤ 15) (h : ∀ x ∈ xs, G k x) : G (k + 1) (.tup xs) :=
  ⟨plains_of fun x hx => (h x hx).p, by simp only [Rp, Bool.and_eq_true, List.all_eq_true, decide_eq_true_eq]; exact ⟨hl, fun x hx => (h x hx).r⟩, noEmps_of fun x hx => (h x hx).e⟩
theorem G.lst {k : Nat} {xs : List D} (hl : xs.length ≤ 15) (h : ∀ x ∈ xs, G k x) : G (k + 1) (.lst xs) :=
  ⟨plains_of fun x hx => (h x hx).p, by simp only [Rp, Bool.and_eq_true, List.all_eq_true, decide_eq_true_eq]; exact ⟨hl, fun x hx => (h x hx).r⟩, noEmps_of fun x hx => (h x hx).e⟩
theorem mid_of {i : Int} (h1 : -1000000000000000000000000000000000 < i) (h2 : i < 1000000000000000000000000000000000) : mid i = true := by
  unfold mid
  simp only [Bool.and_eq_true, decide_eq_true_eq]
  constructor <;> omega
theorem G.int {k : Nat} {i : Int} (h1 : -1000000000000000000000000000000000 < i) (h2 : i < 1000000000000000000000000000000000) : G k (.int i) := ⟨rfl, by cases k <;> exact mid_of h1 h2, rfl⟩
theorem G.non {k : Nat} : G k .non := ⟨rfl, by cases k <;> rfl, rfl⟩
theorem G.bl {k : Nat} {b : Bool} : G k (.bl b) := ⟨rfl, by cases k <;> rfl, rfl⟩
theorem G.str {k : Nat} {x : Str} (h : shortS x = true) : G k (.str x) := ⟨rfl, by cases k <;> exact h, rfl⟩
theorem isIn_G {k : Nat} {d : D} {lo hi : Int} (h : isIn d lo hi = true) (h1 : -100 ≤ lo) (h2 : hi ≤ 100) : G k d ∧ noLst d = true := by
  cases d with
  | int i =>
    simp only [isIn, Bool.and_eq_true, decide_eq_true_eq] at h
    exact ⟨.int (by omega) (by omega), rfl⟩
  | _ => simp [isIn] at h
theorem step_G {r : Int} {d : D} (hr : r ≤ 3) (h : isStepB r d = true) : G 1 d ∧ noLst d = true := by
  cases d with
  | tup xs =>
    match xs, h with
    | [a, b, f, g], h =>
      simp only [isStepB, Bool.and_eq_true] at h
      obtain ⟨⟨⟨h1, h2⟩, h3⟩, h4⟩ := h
      have a1 := isIn_G (k := 0) h1 (by omega) (by omega)
      have a2 := isIn_G (k := 0) h2 (by omega) (by omega)
      have a3 := isIn_G (k := 0) h3 (by omega) (by omega)
      have a4 := isIn_G (k := 0) h4 (by omega) (by omega)
      refine ⟨.tup (by simp) fun x hx => ?_, noLsts_of fun x hx => ?_⟩ <;>
        (simp only [List.mem_cons, List.not_mem_nil, or_false] at hx; rcases hx with rfl | rfl | rfl | rfl)
      · exact a1.1
      · exact a2.1
      · exact a3.1
      · exact a4.1
      · exact a1.2
      · exact a2.2
      · exact a3.2
      · exact a4.2
    | [], h => simp [isStepB] at h
    | [_], h => simp [isStepB] at h
    | [_, _], h => simp [isStepB] at h
    | [_, _, _], h => simp [isStepB] at h
    | _ :: _ :: _ :: _ :: _ :: _, h => simp [isStepB] at h
  | _ => simp [isStepB] at h
theorem test_G {r : Int} {d : D} (hr : r ≤ 3) (h : isTestB r d = true) : G 1 d ∧ noLst d = true := by
  cases d with
  | tup xs =>
    match xs, h with
    | [a, b], h =>
      simp only [isTestB, Bool.and_eq_true] at h
      have a1 := isIn_G (k := 0) h.1 (by omega) (by omega)
      have a2 := isIn_G (k := 0) h.2 (by omega) (by omega)
      refine ⟨.tup (by simp) fun x hx => ?_, noLsts_of fun x hx => ?_⟩ <;>
        (simp only [List.mem_cons, List.not_mem_nil, or_false] at hx; rcases hx with rfl | rfl)
      · exact a1.1
      · exact a2.1
      · exact a1.2
      · exact a2.2
    | [], h => simp [isTestB] at h
    | [_], h => simp [isTestB] at h
    | _ :: _ :: _ :: _, h => simp [isTestB] at h
  | _ => simp [isTestB] at h
end DL
namespace Ka
open PySem L2 DL
structure Own (e : EX) : Prop where
  pp : e.em (.ref (e.x .BadProgram)) (.ref (e.x .BadProgram)) = some true
  k1 : e.km (.ref (e.x .BadProgram)) (.ref (e.x .TwinpurseError)) = some true
  k2 : e.km (.ref (e.x .BadProgram)) (.type "ValueError") = some true
  k3 : e.km (.ref (e.x .BadProgram)) (.ref (e.x .BadArgument)) = some false
  k4 : e.km (.ref (e.x .BadProgram)) (.ref (e.x .BadFan)) = some false
  k5 : e.km (.ref (e.x .BadProgram)) (.ref (e.x .BadLine)) = some false
  k6 : e.km (.ref (e.x .BadProgram)) (.ref (e.x .BadRoad)) = some false
  k7 : e.km (.ref (e.x .BadProgram)) (.ref (e.x .BadStanding)) = some false
  k8 : e.km (.ref (e.x .BadProgram)) (.ref (e.x .BadText)) = some false
  k9 : e.km (.ref (e.x .BadProgram)) (.ref (e.x .TooLarge)) = some false
theorem is_prog_eq {e : EX} (o : Own e) (d : D) (S : Sto) (hd : DL.plain d = true) : M._law_is_program e [d] S = .ok (.bl (isProgB d)) S := by
  cases h1 : isProgB d with
  | true =>
    simp -implicitDefEqProofs only [M._law_is_program, M.b__law_is_program, ap_runF, ap_sSeq, ap_startD]
    rw [tryAs_nx (σ1 := [some d, none]) (S1 := S) (by simp -implicitDefEqProofs [check_program_eq, hd, h1])]
    simp
  | false =>
    simp -implicitDefEqProofs only [M._law_is_program, M.b__law_is_program, ap_runF, ap_sSeq, ap_startD]
    rw [tryAs_raise (c := .ref (e.x .BadProgram)) (σ1 := [some d, none]) (S1 := S) (r := .rt (.bl false) S) (by simp -implicitDefEqProofs [check_program_eq, hd, h1]) o.pp (fun a => by
      simp -implicitDefEqProofs [cIsE, isE, clsVal, kmAny, o.k1, o.k2, o.k3, o.k4, o.k5, o.k6, o.k7, o.k8, o.k9, RS.clr])]
    simp
theorem p20 {S : Sto} : dPow (.int 10) (.int 20) S = some (.int 100000000000000000000) := by simp [dPow, dI]
theorem bad_eq (e : EX) (ns : List Int) (k : Nat) (lo hi : Int) (h1 : -2 ≤ lo) (h2 : hi ≤ 3) (h3 : -2 ≤ hi) (h4 : lo ≤ 3) : ∃ (b : D) (k' : Nat), isIn b lo hi = false ∧ (∀ n, G n b) ∧ noLst b = true ∧ M._law_bad e [.ref 0, .int lo, .int hi] (DN ns k) = .ok b (DN ns k') := by
  have m1 : 0 ≤ dr ns k % 40 := by omega
  have m2 : dr ns k % 40 < 40 := by omega
  obtain ⟨d, g1, g2⟩ := atI_pick [D.int (lo - 1), .int (hi + 1), .bl true, .non, .str "1", .int 100000000000000000000, .int (-100000000000000000000), .bl false, .int (lo - 1 - dr ns k % 40), .int (hi + 1 + dr ns k % 40)] (dr ns (k + 1)) 10 rfl (by omega)
  have g2' : atI [D.int (lo - 1), .int (hi + 1), .bl true, .non, .str "1", .int 100000000000000000000, .int (-100000000000000000000), .bl false, .int (lo - 1 - dr ns k % 40), .int (hi + 1 + dr ns k % 40)] (dr ns (k + 1) % 10) = some d := g2
  refine ⟨d, k + 1 + 1, ?_, ?_, ?_, ?_⟩
  · simp only [List.mem_cons, List.not_mem_nil, or_false] at g1
    rcases g1 with rfl | rfl | rfl | rfl | rfl | rfl | rfl | rfl | rfl | rfl <;> simp [isIn] <;> omega
  · simp only [List.mem_cons, List.not_mem_nil, or_false] at g1
    intro n
    rcases g1 with rfl | rfl | rfl | rfl | rfl | rfl | rfl | rfl | rfl | rfl <;> first | exact .int (by omega) (by omega) | exact .bl | exact .non | exact .str (by decide +kernel)
  · simp only [List.mem_cons, List.not_mem_nil, or_false] at g1
    rcases g1 with rfl | rfl | rfl | rfl | rfl | rfl | rfl | rfl | rfl | rfl <;> rfl
  · simp -implicitDefEqProofs [M._law_bad, M.b__law_bad, p20, g2']
theorem put_eq (e : EX) (row : List D) (at_ : Int) (v : D) (S : Sto) (h : row.length ≤ 100) : M._law_put e [.tup row, .int at_, v] S = .ok (.tup (cutD row none (some at_) ++ [v] ++ cutD row (some (at_ + 1)) none)) S := by
  have c1 := cut_len (xs := row) (lo := none) (hi := some at_)
  have c2 := cut_len (xs := row) (lo := some (at_ + 1)) (hi := none)
  have c3 : (cutD row none (some at_)).length + [v].length ≤ 100000 := by simp; omega
  have c4 : (cutD row none (some at_) ++ [v]).length + (cutD row (some (at_ + 1)) none).length ≤ 100000 := by simp; omega
  simp -implicitDefEqProofs [M._law_put, M.b__law_put, v_addT c3]
  rw [v_addT c4]
  simp

theorem drop_row {k : Nat} {row : List D} {lo hi : Option Int} (h : ∀ x ∈ row, G k x) : ∀ x ∈ cutD row lo hi, G k x := fun x hx => h x (cut_mem hx)
/-- a spoilt row: of a step -/
theorem row4_eq (e : EX) (ns : List Int) (k : Nat) (r x y : Int) (r1 : 1 ≤ r) (r3 : r ≤ 3) (hx : 0 ≤ x ∧ x < r) (hy : 0 ≤ y ∧ y < r) : ∃ (w : D) (k' : Nat), isStepB r w = false ∧ G 1 w ∧
    M._law_spoilt_row e [.ref 0, .tup [.int x, .int y, .int 2, .int (-2)], .int r] (DN ns k) = .ok w (DN ns k') := by
  obtain ⟨at_, ha⟩ : ∃ a, a = dr ns k % 4 := ⟨_, rfl⟩
  obtain ⟨pk, hp⟩ : ∃ a, a = dr ns (k + 1) % 5 := ⟨_, rfl⟩
  have a0 : 0 ≤ at_ := by omega
  have a4 : at_ < 4 := by omega
  by_cases c1 : pk < 3
  · by_cases c2 : at_ < 2
    · obtain ⟨b, k', h1, h2, _, h3⟩ := bad_eq e ns (k + 1 + 1) 0 (r - 1) (by omega) (by omega) (by omega) (by omega)
      refine ⟨.tup (cutD [.int x, .int y, .int 2, .int (-2)] none (some at_) ++ [b] ++ cutD [.int x, .int y, .int 2, .int (-2)] (some (at_ + 1)) none), k', ?_, ?_, ?_⟩
      · have : at_ = 0 ∨ at_ = 1 := by omega
        rcases this with z | z <;> rw [z]
        · show isStepB r (.tup [b, .int y, .int 2, .int (-2)]) = false
          simp [isStepB, h1]
        · show isStepB r (.tup [.int x, b, .int 2, .int (-2)]) = false
          simp [isStepB, h1]
      · have : at_ = 0 ∨ at_ = 1 := by omega
        rcases this with z | z <;> rw [z]
        · show G 1 (.tup [b, .int y, .int 2, .int (-2)])
          refine .tup (by simp) fun w hw => ?_
          simp only [List.mem_cons, List.not_mem_nil, or_false] at hw
          rcases hw with rfl | rfl | rfl | rfl <;> first | exact h2 0 | exact .int (by omega) (by omega)
        · show G 1 (.tup [.int x, b, .int 2, .int (-2)])
          refine .tup (by simp) fun w hw => ?_
          simp only [List.mem_cons, List.not_mem_nil, or_false] at hw
          rcases hw with rfl | rfl | rfl | rfl <;> first | exact h2 0 | exact .int (by omega) (by omega)
      · simp -implicitDefEqProofs [M._law_spoilt_row, M.b__law_spoilt_row, ← ha, ← hp, c1, c2, h3, put_eq]
    · obtain ⟨b, k', h1, h2, _, h3⟩ := bad_eq e ns (k + 1 + 1) (-2) 2 (by omega) (by omega) (by omega) (by omega)
      refine ⟨.tup (cutD [.int x, .int y, .int 2, .int (-2)] none (some at_) ++ [b] ++ cutD [.int x, .int y, .int 2, .int (-2)] (some (at_ + 1)) none), k', ?_, ?_, ?_⟩
      · have : at_ = 2 ∨ at_ = 3 := by omega
        rcases this with z | z <;> rw [z]
        · show isStepB r (.tup [.int x, .int y, b, .int (-2)]) = false
          simp [isStepB, h1]
        · show isStepB r (.tup [.int x, .int y, .int 2, b]) = false
          simp [isStepB, h1]
      · have : at_ = 2 ∨ at_ = 3 := by omega
        rcases this with z | z <;> rw [z]
        · show G 1 (.tup [.int x, .int y, b, .int (-2)])
          refine .tup (by simp) fun w hw => ?_
          simp only [List.mem_cons, List.not_mem_nil, or_false] at hw
          rcases hw with rfl | rfl | rfl | rfl <;> first | exact h2 0 | exact .int (by omega) (by omega)
        · show G 1 (.tup [.int x, .int y, .int 2, b])
          refine .tup (by simp) fun w hw => ?_
          simp only [List.mem_cons, List.not_mem_nil, or_false] at hw
          rcases hw with rfl | rfl | rfl | rfl <;> first | exact h2 0 | exact .int (by omega) (by omega)
      · simp -implicitDefEqProofs [M._law_spoilt_row, M.b__law_spoilt_row, ← ha, ← hp, c1, c2, h3, put_eq]
  · have ec : cutD [.int x, .int y, .int 2, .int (-2)] (some 1) none = [.int y, .int 2, .int (-2)] := rfl
    obtain ⟨d, g1, g2⟩ := atI_pick [D.tup [.int y, .int 2, .int (-2)], .tup [.int x, .int y, .int 2, .int (-2), .int 0], .lst [.int x, .int y, .int 2, .int (-2)], .non, .int 0, .tup []] (dr ns (k + 1 + 1)) 6 rfl (by omega)
    have g2' : atI [D.tup [.int y, .int 2, .int (-2)], .tup [.int x, .int y, .int 2, .int (-2), .int 0], .lst [.int x, .int y, .int 2, .int (-2)], .non, .int 0, .tup []] (dr ns (k + 1 + 1) % 6) = some d := g2
    refine ⟨d, k + 1 + 1 + 1, ?_, ?_, ?_⟩
    · simp only [List.mem_cons, List.not_mem_nil, or_false] at g1
      rcases g1 with rfl | rfl | rfl | rfl | rfl | rfl <;> rfl
    · simp only [List.mem_cons, List.not_mem_nil, or_false] at g1
      rcases g1 with rfl | rfl | rfl | rfl | rfl | rfl
      · refine .tup (by simp) fun w hw => ?_
        simp only [List.mem_cons, List.not_mem_nil, or_false] at hw
        rcases hw with rfl | rfl | rfl <;> exact .int (by omega) (by omega)
      · refine .tup (by simp) fun w hw => ?_
        simp only [List.mem_cons, List.not_mem_nil, or_false] at hw
        rcases hw with rfl | rfl | rfl | rfl | rfl <;> exact .int (by omega) (by omega)
      · refine .lst (by simp) fun w hw => ?_
        simp only [List.mem_cons, List.not_mem_nil, or_false] at hw
        rcases hw with rfl | rfl | rfl | rfl <;> exact .int (by omega) (by omega)
      · exact .non
      · exact .int (by omega) (by omega)
      · exact .tup (by simp) fun w hw => by cases hw
    · simp -implicitDefEqProofs [M._law_spoilt_row, M.b__law_spoilt_row, ← ha, ← hp, c1, g2', ec]
/-- .. of a test -/
theorem row2_eq (e : EX) (ns : List Int) (k : Nat) (r x y : Int) (r1 : 1 ≤ r) (r3 : r ≤ 3) (hx : 0 ≤ x ∧ x < r) (hy : 0 ≤ y ∧ y < r) : ∃ (w : D) (k' : Nat), isTestB r w = false ∧ G 1 w ∧
    M._law_spoilt_row e [.ref 0, .tup [.int x, .int y], .int r] (DN ns k) = .ok w (DN ns k') := by
  obtain ⟨at_, ha⟩ : ∃ a, a = dr ns k % 2 := ⟨_, rfl⟩
  obtain ⟨pk, hp⟩ : ∃ a, a = dr ns (k + 1) % 5 := ⟨_, rfl⟩
  have a0 : 0 ≤ at_ := by omega
  have c2 : at_ < 2 := by omega
  by_cases c1 : pk < 3
  · obtain ⟨b, k', h1, h2, _, h3⟩ := bad_eq e ns (k + 1 + 1) 0 (r - 1) (by omega) (by omega) (by omega) (by omega)
    refine ⟨.tup (cutD [.int x, .int y] none (some at_) ++ [b] ++ cutD [.int x, .int y] (some (at_ + 1)) none), k', ?_, ?_, ?_⟩
    · have : at_ = 0 ∨ at_ = 1 := by omega
      rcases this with z | z <;> rw [z]
      · show isTestB r (.tup [b, .int y]) = false
        simp [isTestB, h1]
      · show isTestB r (.tup [.int x, b]) = false
        simp [isTestB, h1]
    · have : at_ = 0 ∨ at_ = 1 := by omega
      rcases this with z | z <;> rw [z]
      · show G 1 (.tup [b, .int y])
        refine .tup (by simp) fun w hw => ?_
        simp only [List.mem_cons, List.not_mem_nil, or_false] at hw
        rcases hw with rfl | rfl <;> first | exact h2 0 | exact .int (by omega) (by omega)
      · show G 1 (.tup [.int x, b])
        refine .tup (by simp) fun w hw => ?_
        simp only [List.mem_cons, List.not_mem_nil, or_false] at hw
        rcases hw with rfl | rfl <;> first | exact h2 0 | exact .int (by omega) (by omega)
    · simp -implicitDefEqProofs [M._law_spoilt_row, M.b__law_spoilt_row, ← ha, ← hp, c1, c2, h3, put_eq]
  · have ec : cutD [.int x, .int y] (some 1) none = [.int y] := rfl
    obtain ⟨d, g1, g2⟩ := atI_pick [D.tup [.int y], .tup [.int x, .int y, .int 0], .lst [.int x, .int y], .non, .int 0, .tup []] (dr ns (k + 1 + 1)) 6 rfl (by omega)
    have g2' : atI [D.tup [.int y], .tup [.int x, .int y, .int 0], .lst [.int x, .int y], .non, .int 0, .tup []] (dr ns (k + 1 + 1) % 6) = some d := g2
    refine ⟨d, k + 1 + 1 + 1, ?_, ?_, ?_⟩
    · simp only [List.mem_cons, List.not_mem_nil, or_false] at g1
      rcases g1 with rfl | rfl | rfl | rfl | rfl | rfl <;> rfl
    · simp only [List.mem_cons, List.not_mem_nil, or_false] at g1
      rcases g1 with rfl | rfl | rfl | rfl | rfl | rfl
      · refine .tup (by simp) fun w hw => ?_
        simp only [List.mem_cons, List.not_mem_nil, or_false] at hw
        rcases hw with rfl; exact .int (by omega) (by omega)
      · refine .tup (by simp) fun w hw => ?_
        simp only [List.mem_cons, List.not_mem_nil, or_false] at hw
        rcases hw with rfl | rfl | rfl <;> exact .int (by omega) (by omega)
      · refine .lst (by simp) fun w hw => ?_
        simp only [List.mem_cons, List.not_mem_nil, or_false] at hw
        rcases hw with rfl | rfl <;> exact .int (by omega) (by omega)
      · exact .non
      · exact .int (by omega) (by omega)
      · exact .tup (by simp) fun w hw => by cases hw
    · simp -implicitDefEqProofs [M._law_spoilt_row, M.b__law_spoilt_row, ← ha, ← hp, c1, c2, g2', ec]
end Ka
end

section
set_option Elab.async false
set_option linter.all false
set_option maxRecDepth 100000
set_option maxHeartbeats 1000000
namespace Ka
open PySem L2 DL
structure Bad (s : D) : Prop where
  p : DL.plain s = true
  n : isProgB s = false
  t : ∃ t : Str, ∀ S : Sto, cRepr2 [s] S = some (.str t)
theorem Bad.of {s : D} (h : G 3 s) (n : isProgB s = false) : Bad s := ⟨h.p, n, repr_ok h.r (.inl h.e) fun x e z => by subst e; subst z; have := h.e; simp [noEmp] at this⟩
/-- what a right program gives -/
structure Prg (r : Int) (ss ts : List D) : Prop where
  r1 : 1 ≤ r
  r3 : r ≤ 3
  sl : ss.length ≤ 4
  sa : ∀ x ∈ ss, isStepB r x = true
  tl : ts.length ≤ 2
  ta : ∀ x ∈ ts, isTestB r x = true
theorem prg_of {r : Int} {ss ts : List D} (h : isProgB (.tup [.int r, .tup ss, .tup ts]) = true) (r1 : 1 ≤ r) (r3 : r ≤ 3) : Prg r ss ts := by
  simp only [isProgB, Bool.and_eq_true, decide_eq_true_eq, List.all_eq_true] at h
  exact ⟨r1, r3, h.2.1.1.1, h.2.1.1.2, h.2.1.2, h.2.2⟩
section
variable {r : Int} {ss ts : List D}
theorem Prg.gs (h : Prg r ss ts) : ∀ x ∈ ss, G 1 x := fun x hx => (step_G h.r3 (h.sa x hx)).1
theorem Prg.gt (h : Prg r ss ts) : ∀ x ∈ ts, G 1 x := fun x hx => (test_G h.r3 (h.ta x hx)).1
theorem Prg.gS (h : Prg r ss ts) : G 2 (.tup ss) := .tup (by have := h.sl; omega) h.gs
theorem Prg.gT (h : Prg r ss ts) : G 2 (.tup ts) := .tup (by have := h.tl; omega) h.gt
theorem Prg.gR (h : Prg r ss ts) {k : Nat} : G k (.int r) := .int (by have := h.r1; omega) (by have := h.r3; omega)
theorem Prg.nS (h : Prg r ss ts) : noLst (.tup ss) = true := noLsts_of fun x hx => (step_G h.r3 (h.sa x hx)).2
theorem Prg.nT (h : Prg r ss ts) : noLst (.tup ts) = true := noLsts_of fun x hx => (test_G h.r3 (h.ta x hx)).2
end
theorem G3 {a b c : D} (h1 : G 2 a) (h2 : G 2 b) (h3 : G 2 c) : G 3 (.tup [a, b, c]) := .tup (by simp) fun x hx => by
  simp only [List.mem_cons, List.not_mem_nil, or_false] at hx
  rcases hx with rfl | rfl | rfl <;> assumption
theorem prog_bad1 {a b c : D} (h : isIn a 1 3 = false) : isProgB (.tup [a, b, c]) = false := by simp only [isProgB, h, Bool.false_and]
theorem prog_bad2 {r : Int} {b c : D} (h : ∀ xs, b = .tup xs → (decide (xs.length ≤ 4) && xs.all (isStepB r)) = false) : isProgB (.tup [.int r, b, c]) = false := by
  cases b with
  | tup xs => cases c <;> simp only [isProgB, h xs rfl, Bool.false_and, Bool.and_false]
  | _ => simp only [isProgB, Bool.and_false]
theorem prog_bad3 {r : Int} {b c : D} (h : ∀ xs, c = .tup xs → (decide (xs.length ≤ 2) && xs.all (isTestB r)) = false) : isProgB (.tup [.int r, b, c]) = false := by
  cases c with
  | tup xs =>
    have h' := h xs rfl
    cases b with
    | tup ys =>
      simp only [isProgB]
      rw [Bool.and_assoc (decide (ys.length ≤ 4) && ys.all (isStepB r)), h', Bool.and_false, Bool.and_false]
    | _ => simp only [isProgB, Bool.and_false]
  | _ => cases b <;> simp only [isProgB, Bool.and_false]
theorem flat1 {n : Nat} {a : D} : (List.replicate n [a]).flatten = List.replicate n a := by simp
theorem sp0 (e : EX) (ns : List Int) (k : Nat) {r : Int} {ss ts : List D} (P : Prg r ss ts) (c : dr ns k % 7 = 0) : ∃ (s : D) (k' : Nat), Bad s ∧ M._law_spoilt_v2 e [.ref 0, .tup [.int r, .tup ss, .tup ts]] (DN ns k) = .ok s (DN ns k') := by
  obtain ⟨b, k', h1, h2, _, h3⟩ := bad_eq e ns (k + 1) 1 3 (by omega) (by omega) (by omega) (by omega)
  refine ⟨.tup [b, .tup ss, .tup ts], k', .of (G3 (h2 2) P.gS P.gT) (prog_bad1 h1), ?_⟩
  simp -implicitDefEqProofs [M._law_spoilt_v2, M.b__law_spoilt_v2, c, h3]
theorem sp1 (e : EX) (ns : List Int) (k : Nat) {r : Int} {ss ts : List D} (P : Prg r ss ts) (c : dr ns k % 7 = 1) : ∃ (s : D) (k' : Nat), Bad s ∧ M._law_spoilt_v2 e [.ref 0, .tup [.int r, .tup ss, .tup ts]] (DN ns k) = .ok s (DN ns k') := by
  obtain ⟨d, g1, g2⟩ := atI_pick [D.tup [.int r, .tup ss], .tup [.int r, .tup ss, .tup ts, .tup []], .lst [.int r, .tup ss, .tup ts], .non, .int 3, .str "program", .tup []] (dr ns (k + 1)) 7 rfl (by omega)
  have g2' : atI [D.tup [.int r, .tup ss], .tup [.int r, .tup ss, .tup ts, .tup []], .lst [.int r, .tup ss, .tup ts], .non, .int 3, .str "program", .tup []] (dr ns (k + 1) % 7) = some d := g2
  refine ⟨d, k + 1 + 1, .of ?_ ?_, ?_⟩
  · simp only [List.mem_cons, List.not_mem_nil, or_false] at g1
    rcases g1 with rfl | rfl | rfl | rfl | rfl | rfl | rfl
    · refine .tup (by simp) fun x hx => ?_
      simp only [List.mem_cons, List.not_mem_nil, or_false] at hx
      rcases hx with rfl | rfl <;> first | exact P.gR | exact P.gS
    · refine .tup (by simp) fun x hx => ?_
      simp only [List.mem_cons, List.not_mem_nil, or_false] at hx
      rcases hx with rfl | rfl | rfl | rfl <;> first | exact P.gR | exact P.gS | exact P.gT | exact .tup (by simp) fun x hx => by cases hx
    · refine .lst (by simp) fun x hx => ?_
      simp only [List.mem_cons, List.not_mem_nil, or_false] at hx
      rcases hx with rfl | rfl | rfl <;> first | exact P.gR | exact P.gS | exact P.gT
    · exact .non
    · exact .int (by omega) (by omega)
    · exact .str (by decide +kernel)
    · exact .tup (by simp) fun x hx => by cases hx
  · simp only [List.mem_cons, List.not_mem_nil, or_false] at g1
    rcases g1 with rfl | rfl | rfl | rfl | rfl | rfl | rfl <;> rfl
  · simp -implicitDefEqProofs [M._law_spoilt_v2, M.b__law_spoilt_v2, c, g2']
theorem bad_emp2 {r : Int} {ss ts : List D} (P : Prg r ss ts) : Bad (.tup [.int r, .emp, .tup ts]) := by
  refine ⟨?_, prog_bad2 (fun xs e => by cases e), repr_ok ?_ (.inr ?_) (fun x e z => by subst e; cases z)⟩
  · exact plains_of fun x hx => by
      simp only [List.mem_cons, List.not_mem_nil, or_false] at hx
      rcases hx with rfl | rfl | rfl <;> first | rfl | exact P.gT.p
  · show (decide (3 ≤ 15) && (Rp 2 (.int r) && (Rp 2 .emp && (Rp 2 (.tup ts) && true)))) = true
    rw [P.gR.r, P.gT.r]; rfl
  · exact noLsts_of fun x hx => by
      simp only [List.mem_cons, List.not_mem_nil, or_false] at hx
      rcases hx with rfl | rfl | rfl <;> first | rfl | exact P.nT
theorem bad_emp3 {r : Int} {ss ts : List D} (P : Prg r ss ts) : Bad (.tup [.int r, .tup ss, .emp]) := by
  refine ⟨?_, prog_bad3 (fun xs e => by cases e), repr_ok ?_ (.inr ?_) (fun x e z => by subst e; cases z)⟩
  · exact plains_of fun x hx => by
      simp only [List.mem_cons, List.not_mem_nil, or_false] at hx
      rcases hx with rfl | rfl | rfl <;> first | rfl | exact P.gS.p
  · show (decide (3 ≤ 15) && (Rp 2 (.int r) && (Rp 2 (.tup ss) && (Rp 2 .emp && true)))) = true
    rw [P.gR.r, P.gS.r]; rfl
  · exact noLsts_of fun x hx => by
      simp only [List.mem_cons, List.not_mem_nil, or_false] at hx
      rcases hx with rfl | rfl | rfl <;> first | rfl | exact P.nS
theorem sp2 (e : EX) (ns : List Int) (k : Nat) {r : Int} {ss ts : List D} (P : Prg r ss ts) (c : dr ns k % 7 = 2) : ∃ (s : D) (k' : Nat), Bad s ∧ M._law_spoilt_v2 e [.ref 0, .tup [.int r, .tup ss, .tup ts]] (DN ns k) = .ok s (DN ns k') := by
  obtain ⟨n, hn⟩ : ∃ n : Nat, (5 + dr ns (k + 1) % 9).toNat = n := ⟨_, rfl⟩
  have n5 : 5 ≤ n := by omega
  have n13 : n ≤ 13 := by omega
  have mu : ∀ S, dMul (.tup [.tup [.int 0, .int 0, .int 1, .int 1]]) (.int (5 + dr ns (k + 1) % 9)) S = some (.tup (List.replicate n (.tup [.int 0, .int 0, .int 1, .int 1]))) := fun S => by
    rw [v_mulT (by simp) (by omega) (by omega) (by simp), hn, flat1]
  obtain ⟨d, g1, g2⟩ := atI_pick [D.tup (List.replicate n (.tup [.int 0, .int 0, .int 1, .int 1])), .lst ss, .non, .int 0, .str "", .emp] (dr ns (k + 1 + 1)) 6 rfl (by omega)
  have g2' : atI [D.tup (List.replicate n (.tup [.int 0, .int 0, .int 1, .int 1])), .lst ss, .non, .int 0, .str "", .emp] (dr ns (k + 1 + 1) % 6) = some d := g2
  refine ⟨.tup [.int r, d, .tup ts], k + 1 + 1 + 1, ?_, ?_⟩
  · simp only [List.mem_cons, List.not_mem_nil, or_false] at g1
    rcases g1 with rfl | rfl | rfl | rfl | rfl | rfl
    · refine .of (G3 P.gR (.tup (by simp; omega) fun x hx => ?_) P.gT) (prog_bad2 fun xs e => ?_)
      · rw [(List.mem_replicate.mp hx).2]
        refine .tup (by simp) fun x hx => ?_
        simp only [List.mem_cons, List.not_mem_nil, or_false] at hx
        rcases hx with rfl | rfl | rfl | rfl <;> exact .int (by omega) (by omega)
      · cases e
        have : ¬ (List.replicate n (D.tup [.int 0, .int 0, .int 1, .int 1])).length ≤ 4 := by simp; omega
        simp only [this, decide_false, Bool.false_and]
    · exact .of (G3 P.gR (.lst (by have := P.sl; omega) P.gs) P.gT) (prog_bad2 fun xs e => by cases e)
    · exact .of (G3 P.gR .non P.gT) (prog_bad2 fun xs e => by cases e)
    · exact .of (G3 P.gR (.int (by omega) (by omega)) P.gT) (prog_bad2 fun xs e => by cases e)
    · exact .of (G3 P.gR (.str (by decide +kernel)) P.gT) (prog_bad2 fun xs e => by cases e)
    · exact bad_emp2 P
  · simp -implicitDefEqProofs [M._law_spoilt_v2, M.b__law_spoilt_v2, c, mu, g2']
theorem sp3 (e : EX) (ns : List Int) (k : Nat) {r : Int} {ss ts : List D} (P : Prg r ss ts) (c : dr ns k % 7 = 3) : ∃ (s : D) (k' : Nat), Bad s ∧ M._law_spoilt_v2 e [.ref 0, .tup [.int r, .tup ss, .tup ts]] (DN ns k) = .ok s (DN ns k') := by
  obtain ⟨n, hn⟩ : ∃ n : Nat, (3 + dr ns (k + 1) % 9).toNat = n := ⟨_, rfl⟩
  have n5 : 3 ≤ n := by omega
  have n13 : n ≤ 11 := by omega
  have mu : ∀ S, dMul (.tup [.tup [.int 0, .int 0]]) (.int (3 + dr ns (k + 1) % 9)) S = some (.tup (List.replicate n (.tup [.int 0, .int 0]))) := fun S => by
    rw [v_mulT (by simp) (by omega) (by omega) (by simp), hn, flat1]
  obtain ⟨d, g1, g2⟩ := atI_pick [D.tup (List.replicate n (.tup [.int 0, .int 0])), .lst ts, .non, .int 0, .str "", .emp] (dr ns (k + 1 + 1)) 6 rfl (by omega)
  have g2' : atI [D.tup (List.replicate n (.tup [.int 0, .int 0])), .lst ts, .non, .int 0, .str "", .emp] (dr ns (k + 1 + 1) % 6) = some d := g2
  refine ⟨.tup [.int r, .tup ss, d], k + 1 + 1 + 1, ?_, ?_⟩
  · simp only [List.mem_cons, List.not_mem_nil, or_false] at g1
    rcases g1 with rfl | rfl | rfl | rfl | rfl | rfl
    · refine .of (G3 P.gR P.gS (.tup (by simp; omega) fun x hx => ?_)) (prog_bad3 fun xs e => ?_)
      · rw [(List.mem_replicate.mp hx).2]
        refine .tup (by simp) fun x hx => ?_
        simp only [List.mem_cons, List.not_mem_nil, or_false] at hx
        rcases hx with rfl | rfl <;> exact .int (by omega) (by omega)
      · cases e
        have : ¬ (List.replicate n (D.tup [.int 0, .int 0])).length ≤ 2 := by simp; omega
        simp only [this, decide_false, Bool.false_and]
    · exact .of (G3 P.gR P.gS (.lst (by have := P.tl; omega) P.gt)) (prog_bad3 fun xs e => by cases e)
    · exact .of (G3 P.gR P.gS .non) (prog_bad3 fun xs e => by cases e)
    · exact .of (G3 P.gR P.gS (.int (by omega) (by omega))) (prog_bad3 fun xs e => by cases e)
    · exact .of (G3 P.gR P.gS (.str (by decide +kernel))) (prog_bad3 fun xs e => by cases e)
    · exact bad_emp3 P
  · simp -implicitDefEqProofs [M._law_spoilt_v2, M.b__law_spoilt_v2, c, mu, g2']
theorem sp45 (e : EX) (ns : List Int) (k : Nat) {r : Int} {ss ts : List D} (P : Prg r ss ts) (c : dr ns k % 7 = 4 ∨ dr ns k % 7 = 5) : ∃ (s : D) (k' : Nat), Bad s ∧ M._law_spoilt_v2 e [.ref 0, .tup [.int r, .tup ss, .tup ts]] (DN ns k) = .ok s (DN ns k') := by
  have r0 : 0 < r := by have := P.r1; omega
  have m1 : ∀ x : Int, 0 ≤ x % r ∧ x % r < r := fun x => ⟨Int.emod_nonneg _ (by omega), Int.emod_lt_of_pos _ r0⟩
  obtain ⟨w, k', h1, h2, h3⟩ := row4_eq e ns (k + 1 + 1 + 1 + 1) r (dr ns (k + 1) % r) (dr ns (k + 1 + 1) % r) P.r1 P.r3 (m1 _) (m1 _)
  obtain ⟨at_, ha⟩ : ∃ a, dr ns (k + 1 + 1 + 1) % 6 = a := ⟨_, rfl⟩
  have l1 := cut_len (xs := ss) (lo := none) (hi := some 3)
  have l2 := cut_len (xs := cutD ss none (some 3)) (lo := none) (hi := some at_)
  have l3 := cut_len (xs := cutD ss none (some 3)) (lo := some at_) (hi := none)
  have sl := P.sl
  have c3 : (cutD (cutD ss none (some 3)) none (some at_)).length + [w].length ≤ 100000 := by simp; omega
  have c4 : (cutD (cutD ss none (some 3)) none (some at_) ++ [w]).length + (cutD (cutD ss none (some 3)) (some at_) none).length ≤ 100000 := by simp; omega
  refine ⟨.tup [.int r, .tup (cutD (cutD ss none (some 3)) none (some at_) ++ [w] ++ cutD (cutD ss none (some 3)) (some at_) none), .tup ts], k', .of (G3 P.gR (.tup ?_ fun x hx => ?_) P.gT) (prog_bad2 fun xs e => ?_), ?_⟩
  · simp only [List.length_append, List.length_singleton]; omega
  · simp only [List.mem_append, List.mem_singleton] at hx
    rcases hx with (hx | rfl) | hx
    · exact P.gs x (cut_mem (cut_mem hx))
    · exact h2
    · exact P.gs x (cut_mem (cut_mem hx))
  · cases e
    simp only [List.all_append, List.all_cons, h1, Bool.false_and, Bool.and_false]
  · have q1 : ¬ dr ns k % 7 = 0 := by omega
    have q2 : ¬ dr ns k % 7 = 1 := by omega
    have q3 : ¬ dr ns k % 7 = 2 := by omega
    have q4 : ¬ dr ns k % 7 = 3 := by omega
    have q5 : dr ns k % 7 < 6 := by omega
    simp -implicitDefEqProofs [M._law_spoilt_v2, M.b__law_spoilt_v2, q1, q2, q3, q4, q5, r0, ha, h3, v_addT c3]
    rw [v_addT c4]
    simp
theorem sp6 (e : EX) (ns : List Int) (k : Nat) {r : Int} {ss ts : List D} (P : Prg r ss ts) (c : dr ns k % 7 = 6) : ∃ (s : D) (k' : Nat), Bad s ∧ M._law_spoilt_v2 e [.ref 0, .tup [.int r, .tup ss, .tup ts]] (DN ns k) = .ok s (DN ns k') := by
  have r0 : 0 < r := by have := P.r1; omega
  have m1 : ∀ x : Int, 0 ≤ x % r ∧ x % r < r := fun x => ⟨Int.emod_nonneg _ (by omega), Int.emod_lt_of_pos _ r0⟩
  obtain ⟨w, k', h1, h2, h3⟩ := row2_eq e ns (k + 1 + 1 + 1 + 1) r (dr ns (k + 1) % r) (dr ns (k + 1 + 1) % r) P.r1 P.r3 (m1 _) (m1 _)
  obtain ⟨at_, ha⟩ : ∃ a, dr ns (k + 1 + 1 + 1) % 2 = a := ⟨_, rfl⟩
  have l1 := cut_len (xs := ts) (lo := none) (hi := some 1)
  have l2 := cut_len (xs := cutD ts none (some 1)) (lo := none) (hi := some at_)
  have l3 := cut_len (xs := cutD ts none (some 1)) (lo := some at_) (hi := none)
  have tl := P.tl
  have c3 : (cutD (cutD ts none (some 1)) none (some at_)).length + [w].length ≤ 100000 := by simp; omega
  have c4 : (cutD (cutD ts none (some 1)) none (some at_) ++ [w]).length + (cutD (cutD ts none (some 1)) (some at_) none).length ≤ 100000 := by simp; omega
  refine ⟨.tup [.int r, .tup ss, .tup (cutD (cutD ts none (some 1)) none (some at_) ++ [w] ++ cutD (cutD ts none (some 1)) (some at_) none)], k', .of (G3 P.gR P.gS (.tup ?_ fun x hx => ?_)) (prog_bad3 fun xs e => ?_), ?_⟩
  · simp only [List.length_append, List.length_singleton]; omega
  · simp only [List.mem_append, List.mem_singleton] at hx
    rcases hx with (hx | rfl) | hx
    · exact P.gt x (cut_mem (cut_mem hx))
    · exact h2
    · exact P.gt x (cut_mem (cut_mem hx))
  · cases e
    simp only [List.all_append, List.all_cons, h1, Bool.false_and, Bool.and_false]
  · simp -implicitDefEqProofs [M._law_spoilt_v2, M.b__law_spoilt_v2, c, r0, ha, h3, v_addT c3]
    rw [v_addT c4]
    simp
theorem spoilt_eq (e : EX) (ns : List Int) (k : Nat) {r : Int} {ss ts : List D} (P : Prg r ss ts) : ∃ (s : D) (k' : Nat), Bad s ∧ M._law_spoilt_v2 e [.ref 0, .tup [.int r, .tup ss, .tup ts]] (DN ns k) = .ok s (DN ns k') := by
  have : dr ns k % 7 = 0 ∨ dr ns k % 7 = 1 ∨ dr ns k % 7 = 2 ∨ dr ns k % 7 = 3 ∨ (dr ns k % 7 = 4 ∨ dr ns k % 7 = 5) ∨ dr ns k % 7 = 6 := by omega
  rcases this with c | c | c | c | c | c
  · exact sp0 e ns k P c
  · exact sp1 e ns k P c
  · exact sp2 e ns k P c
  · exact sp3 e ns k P c
  · exact sp45 e ns k P c
  · exact sp6 e ns k P c
theorem fin (e : EX) (o : Own e) (ns : List Int) (hl : ns.length ≤ 63) : ∃ S', M.law_v2 e [.frz (ns.map .int)] [] = .ok (.bl true) S' := by
  obtain ⟨ms, hm, _, en⟩ := numbers_eq e ns [] hl rfl
  obtain ⟨r, ss, ts, k1, r1, r2, hp, pp, ep⟩ := program_eq e ms 0
  obtain ⟨s, k2, B, es⟩ := spoilt_eq e ms k1 (prg_of hp r1 r2)
  obtain ⟨t, et⟩ := B.t
  have f4 : ∀ S, dMul (.tup [.tup [.int 2, .int 2, .int (-2), .int 2]]) (.int 4) S = some (.tup [.tup [.int 2, .int 2, .int (-2), .int 2], .tup [.int 2, .int 2, .int (-2), .int 2], .tup [.int 2, .int 2, .int (-2), .int 2], .tup [.int 2, .int 2, .int (-2), .int 2]]) := fun S => by
    rw [v_mulT (by simp) (by omega) (by omega) (by simp)]; rfl
  have p1 : DL.plain (.tup [.int 3, .tup [.tup [.int 2, .int 2, .int (-2), .int 2], .tup [.int 2, .int 2, .int (-2), .int 2], .tup [.int 2, .int 2, .int (-2), .int 2], .tup [.int 2, .int 2, .int (-2), .int 2]], .tup [.tup [.int 0, .int 2], .tup [.int 2, .int 0]]]) = true := rfl
  have h1 : isProgB (.tup [.int 3, .tup [.tup [.int 2, .int 2, .int (-2), .int 2], .tup [.int 2, .int 2, .int (-2), .int 2], .tup [.int 2, .int 2, .int (-2), .int 2], .tup [.int 2, .int 2, .int (-2), .int 2]], .tup [.tup [.int 0, .int 2], .tup [.int 2, .int 0]]]) = true := rfl
  have p2 : DL.plain (.tup [.int 1, .tup [], .tup []]) = true := rfl
  have h2 : isProgB (.tup [.int 1, .tup [], .tup []]) = true := rfl
  have ep' : M._law_program e [.ref 0] [.lst [.lst (ms.map .int), .int 0]] = _ := ep
  have i1 := fun S => is_prog_eq o _ S pp
  have i2 := fun S => is_prog_eq o _ S p1
  have i3 := fun S => is_prog_eq o _ S p2
  have i4 := fun S => is_prog_eq o _ S B.p
  rw [hp] at i1
  rw [h1] at i2
  rw [h2] at i3
  rw [B.n] at i4
  refine ⟨DN ms k2, ?_⟩
  simp -implicitDefEqProofs [M.law_v2, M.b_law_v2, en, ep', es, i1, i2, i3, i4, f4, et]
end Ka
end

section
set_option Elab.async false
set_option linter.all false
set_option maxRecDepth 100000
set_option maxHeartbeats 1000000
namespace DL
open PySem L2
/-! ### moves -/
/-- a move of a program, by what it is -/
inductive Mv (ss ts : List D) (m : Int) : Type where
  | step (s t f g : Int) (h : m < ss.length) (e : atI ss m = some (.tup [.int s, .int t, .int f, .int g]))
  | test (s t : Int) (h : ¬ m < ss.length) (e : atI ts (m - ss.length) = some (.tup [.int s, .int t]))
theorem step_shape {r : Int} {d : D} (h : isStepB r d = true) : ∃ s t f g, d = .tup [.int s, .int t, .int f, .int g] ∧ 0 ≤ s ∧ s < r ∧ 0 ≤ t ∧ t < r := by
  cases d with
  | tup xs =>
    match xs, h with
    | [a, b, f, g], h =>
      simp only [isStepB, Bool.and_eq_true] at h
      obtain ⟨⟨⟨h1, h2⟩, h3⟩, h4⟩ := h
      cases a with
      | int a =>
        cases b with
        | int b =>
          cases f with
          | int f =>
            cases g with
            | int g =>
              simp only [isIn, Bool.and_eq_true, decide_eq_true_eq] at h1 h2
              exact ⟨a, b, f, g, rfl, by omega, by omega, by omega, by omega⟩
            | _ => simp [isIn] at h4
          | _ => simp [isIn] at h3
        | _ => simp [isIn] at h2
      | _ => simp [isIn] at h1
    | [], h => simp [isStepB] at h
    | [_], h => simp [isStepB] at h
    | [_, _], h => simp [isStepB] at h
    | [_, _, _], h => simp [isStepB] at h
    | _ :: _ :: _ :: _ :: _ :: _, h => simp [isStepB] at h
  | _ => simp [isStepB] at h
theorem test_shape {r : Int} {d : D} (h : isTestB r d = true) : ∃ s t, d = .tup [.int s, .int t] ∧ 0 ≤ s ∧ s < r ∧ 0 ≤ t ∧ t < r := by
  cases d with
  | tup xs =>
    match xs, h with
    | [a, b], h =>
      simp only [isTestB, Bool.and_eq_true] at h
      cases a with
      | int a =>
        cases b with
        | int b =>
          simp only [isIn, Bool.and_eq_true, decide_eq_true_eq] at h
          exact ⟨a, b, rfl, by omega, by omega, by omega, by omega⟩
        | _ => simp [isIn] at h
      | _ => simp [isIn] at h
    | [], h => simp [isTestB] at h
    | [_], h => simp [isTestB] at h
    | _ :: _ :: _ :: _, h => simp [isTestB] at h
  | _ => simp [isTestB] at h
theorem atI_lt {xs : List D} {m : Int} (h0 : 0 ≤ m) (h : m < xs.length) : ∃ d ∈ xs, atI xs m = some d := by
  obtain ⟨k, rfl⟩ := Int.eq_ofNat_of_zero_le h0
  have hk : k < xs.length := by omega
  exact ⟨xs[k], List.getElem_mem hk, atI_nat (List.getElem?_eq_getElem hk)⟩
/-- where a move begins and what it makes of the purses: none where it can't be made -/
structure MvF where
  s : Int
  t : Int
  go : Int → Int → Option (Int × Int)
def stepF (s t f g : Int) : MvF := ⟨s, t, fun a b => if a + f < 0 ∨ b + g < 0 then none else some (a + f, b + g)⟩
def testF (s t : Int) : MvF := ⟨s, t, fun a b => if a = 0 then some (0, b) else none⟩
/-- the standing behind a move -/
def MvF.res (F : MvF) (x a b : Int) : D := if F.s = x then (match F.go a b with
  | some (a', b') => .tup [.int F.t, .int a', .int b']
  | none => .non) else .non
section
variable {r : Int} {ss ts : List D}
theorem mv_ex (P : Ka.Prg r ss ts) (m : Int) (h0 : 0 ≤ m) (h1 : m < ss.length + ts.length) :
    (∃ s t f g, m < ss.length ∧ atI ss m = some (.tup [.int s, .int t, .int f, .int g]) ∧ 0 ≤ t ∧ t < r) ∨ (∃ s t, ¬ m < ss.length ∧ atI ts (m - ss.length) = some (.tup [.int s, .int t]) ∧ 0 ≤ t ∧ t < r) := by
  by_cases h : m < ss.length
  · obtain ⟨d, hd, e⟩ := atI_lt h0 h
    obtain ⟨s, t, f, g, rfl, h3⟩ := step_shape (P.sa d hd)
    exact .inl ⟨s, t, f, g, h, e, h3.2.2.1, h3.2.2.2⟩
  · obtain ⟨d, hd, e⟩ := atI_lt (xs := ts) (m := m - ss.length) (by omega) (by omega)
    obtain ⟨s, t, rfl, h3⟩ := test_shape (P.ta d hd)
    exact .inr ⟨s, t, h, e, h3.2.2.1, h3.2.2.2⟩
/-- a standing of the program -/
def StOk (r x a b : Int) : Prop := 0 ≤ x ∧ x < r ∧ 0 ≤ a ∧ 0 ≤ b
theorem move_ex (e : EX) (P : Ka.Prg r ss ts) (m : Int) (h0 : 0 ≤ m) (h1 : m < ss.length + ts.length) : ∃ F : MvF, (0 ≤ F.t ∧ F.t < r) ∧ (∀ a b a' b', 0 ≤ a → 0 ≤ b → F.go a b = some (a', b') → 0 ≤ a' ∧ 0 ≤ b') ∧
    (∀ S, M.source_of e [.tup [.int r, .tup ss, .tup ts], .int m] S = .ok (.int F.s) S) ∧
    (∀ x a b S, M.made e [.tup [.int r, .tup ss, .tup ts], .tup [.int x, .int a, .int b], .int m] S = .ok (F.res x a b) S) ∧
    (∀ x a b S, M._law_make e [.tup [.int r, .tup ss, .tup ts], .tup [.int x, .int a, .int b], .int m] S = .ok (F.res x a b) S) := by
  rcases mv_ex P m h0 h1 with ⟨s, t, f, g, h, em, t0, t1⟩ | ⟨s, t, h, em, t0, t1⟩
  · have h' : ¬ ((ss.length : Int) ≤ m) := by omega
    have hs : ∀ S, M.source_of e [.tup [.int r, .tup ss, .tup ts], .int m] S = .ok (.int s) S := fun S => by
      simp -implicitDefEqProofs [M.source_of, M.b_source_of, M.is_test, M.b_is_test, h', em]
    refine ⟨stepF s t f g, ⟨t0, t1⟩, fun a b a' b' ha hb hg => ?_, hs, fun x a b S => ?_, fun x a b S => ?_⟩
    · simp only [stepF] at hg
      split at hg
      · cases hg
      · cases hg; omega
    · by_cases c : s = x
      · subst c
        by_cases c1 : a + f < 0
        · simp -implicitDefEqProofs [M.made, M.b_made, hs, M.is_test, M.b_is_test, h', em, M.change_of, M.b_change_of, M.target_of, M.b_target_of, MvF.res, stepF, c1]
        · by_cases c2 : b + g < 0
          · simp -implicitDefEqProofs [M.made, M.b_made, hs, M.is_test, M.b_is_test, h', em, M.change_of, M.b_change_of, M.target_of, M.b_target_of, MvF.res, stepF, c1, c2]
          · simp -implicitDefEqProofs [M.made, M.b_made, hs, M.is_test, M.b_is_test, h', em, M.change_of, M.b_change_of, M.target_of, M.b_target_of, MvF.res, stepF, c1, c2]
      · simp -implicitDefEqProofs [M.made, M.b_made, hs, MvF.res, stepF, c]
    · by_cases c : s = x
      · subst c
        by_cases c1 : a + f < 0
        · simp -implicitDefEqProofs [M._law_make, M.b__law_make, h, em, MvF.res, stepF, c1]
        · by_cases c2 : b + g < 0
          · simp -implicitDefEqProofs [M._law_make, M.b__law_make, h, em, MvF.res, stepF, c1, c2]
          · simp -implicitDefEqProofs [M._law_make, M.b__law_make, h, em, MvF.res, stepF, c1, c2]
      · simp -implicitDefEqProofs [M._law_make, M.b__law_make, h, em, MvF.res, stepF, c]
  · have h' : (ss.length : Int) ≤ m := by omega
    have hs : ∀ S, M.source_of e [.tup [.int r, .tup ss, .tup ts], .int m] S = .ok (.int s) S := fun S => by
      simp -implicitDefEqProofs [M.source_of, M.b_source_of, M.is_test, M.b_is_test, h', em]
    refine ⟨testF s t, ⟨t0, t1⟩, fun a b a' b' ha hb hg => ?_, hs, fun x a b S => ?_, fun x a b S => ?_⟩
    · simp only [testF] at hg
      split at hg
      · cases hg; omega
      · cases hg
    · by_cases c : s = x
      · subst c
        by_cases c1 : a = 0
        · simp -implicitDefEqProofs [M.made, M.b_made, hs, M.is_test, M.b_is_test, h', em, M.target_of, M.b_target_of, MvF.res, testF, c1]
        · simp -implicitDefEqProofs [M.made, M.b_made, hs, M.is_test, M.b_is_test, h', em, M.target_of, M.b_target_of, MvF.res, testF, c1]
      · simp -implicitDefEqProofs [M.made, M.b_made, hs, MvF.res, testF, c]
    · by_cases c : s = x
      · subst c
        by_cases c1 : a = 0
        · simp -implicitDefEqProofs [M._law_make, M.b__law_make, h, em, MvF.res, testF, c1]
        · simp -implicitDefEqProofs [M._law_make, M.b__law_make, h, em, MvF.res, testF, c1]
      · simp -implicitDefEqProofs [M._law_make, M.b__law_make, h, em, MvF.res, testF, c]
end
end DL
end

section
set_option Elab.async false
set_option linter.all false
set_option maxRecDepth 100000
set_option maxHeartbeats 1000000
namespace DL
open PySem L2
abbrev Stn := Int × Int × Int
def stD : Option Stn → D
  | none => .non
  | some (x, a, b) => .tup [.int x, .int a, .int b]
def MvF.nx (F : MvF) (x a b : Int) : Option Stn := if F.s = x then (F.go a b).map (fun p => (F.t, p.1, p.2)) else none
theorem res_nx (F : MvF) (x a b : Int) : F.res x a b = stD (F.nx x a b) := by
  unfold MvF.res MvF.nx
  by_cases h : F.s = x
  · rw [if_pos h, if_pos h]
    cases F.go a b <;> rfl
  · rw [if_neg h, if_neg h]; rfl
/-- the moves of a program -/
structure Mvs (e : EX) (r : Int) (ss ts : List D) (Fm : Int → MvF) : Prop where
  t : ∀ m : Int, 0 ≤ m → m < ss.length + ts.length → 0 ≤ (Fm m).t ∧ (Fm m).t < r
  nn : ∀ m : Int, 0 ≤ m → m < ss.length + ts.length → ∀ a b a' b', 0 ≤ a → 0 ≤ b → (Fm m).go a b = some (a', b') → 0 ≤ a' ∧ 0 ≤ b'
  src : ∀ m : Int, 0 ≤ m → m < ss.length + ts.length → ∀ S, M.source_of e [.tup [.int r, .tup ss, .tup ts], .int m] S = .ok (.int (Fm m).s) S
  made : ∀ m : Int, 0 ≤ m → m < ss.length + ts.length → ∀ x a b S, M.made e [.tup [.int r, .tup ss, .tup ts], .tup [.int x, .int a, .int b], .int m] S = .ok (stD ((Fm m).nx x a b)) S
  make : ∀ m : Int, 0 ≤ m → m < ss.length + ts.length → ∀ x a b S, M._law_make e [.tup [.int r, .tup ss, .tup ts], .tup [.int x, .int a, .int b], .int m] S = .ok (stD ((Fm m).nx x a b)) S
section
variable {e : EX} {r : Int} {ss ts : List D} {Fm : Int → MvF}
theorem mvs_ex (e : EX) (P : Ka.Prg r ss ts) : ∃ Fm, Mvs e r ss ts Fm := by
  classical
  refine ⟨fun m => if h : 0 ≤ m ∧ m < ss.length + ts.length then Classical.choose (move_ex e P m h.1 h.2) else stepF 0 0 0 0, ?_, ?_, ?_, ?_, ?_⟩
  all_goals
    intro m h0 h1
    simp only [dif_pos (And.intro h0 h1)]
    have q := Classical.choose_spec (move_ex e P m h0 h1)
  · exact q.1
  · exact q.2.1
  · exact q.2.2.1
  · intro x a b S; rw [← res_nx]; exact q.2.2.2.1 x a b S
  · intro x a b S; rw [← res_nx]; exact q.2.2.2.2 x a b S
def plays (Fm : Int → MvF) : List Int → Option Stn → Option Stn
  | [], st => st
  | _ :: _, none => none
  | m :: ms, some (x, a, b) => plays Fm ms ((Fm m).nx x a b)
theorem plays_none (ms : List Int) : plays Fm ms none = none := by cases ms <;> rfl
def InR (ss ts : List D) (m : Int) : Prop := 0 ≤ m ∧ m < ss.length + ts.length
@[simp] theorem v_isT {xs : List D} {S : Sto} : dIs (.tup xs) .non S = some (.bl false) := rfl
@[simp] theorem v_isNotT {xs : List D} {S : Sto} : dIsNot (.tup xs) .non S = some (.bl true) := rfl
theorem played_1 (h : Mvs e r ss ts Fm) {m : Int} (hm : InR ss ts m) (x a b : Int) (w : D) (S : Sto) :
    M.played_1 e [some (.tup [.int r, .tup ss, .tup ts]), some (.tup [.int x, .int a, .int b]), some w, some (.int m)] S = match (Fm m).nx x a b with
      | some st => .nx [some (.tup [.int r, .tup ss, .tup ts]), some (stD (some st)), some w, some (.int m)] S
      | none => .rt .non S := by
  have q := h.made m hm.1 hm.2 x a b S
  cases c : (Fm m).nx x a b with
  | none =>
    rw [c] at q
    simp -implicitDefEqProofs [M.played_1, q, stD]
  | some st =>
    obtain ⟨x', a', b'⟩ := st
    rw [c] at q
    simp -implicitDefEqProofs [M.played_1, q, stD]
theorem played_loop (h : Mvs e r ss ts Fm) {it : Items} (hw : it.w = none) (w : D) (S : Sto) : ∀ (ms : List Int) (x a b : Int) (k : Option D), (∀ m ∈ ms, InR ss ts m) →
    ∃ k', loopF it (gNm 3) (M.played_1 e) (ms.map .int) [some (.tup [.int r, .tup ss, .tup ts]), some (.tup [.int x, .int a, .int b]), some w, k] S = match plays Fm ms (some (x, a, b)) with
      | some st => .nx [some (.tup [.int r, .tup ss, .tup ts]), some (stD (some st)), some w, k'] S
      | none => .rt .non S
  | [], x, a, b, k, _ => ⟨k, loop_nil (by rw [hw]; trivial)⟩
  | m :: ms, x, a, b, k, hm => by
    have e1 : loopF it (gNm 3) (M.played_1 e) ((m :: ms).map D.int) [some (.tup [.int r, .tup ss, .tup ts]), some (.tup [.int x, .int a, .int b]), some w, k] S = (M.played_1 e [some (.tup [.int r, .tup ss, .tup ts]), some (.tup [.int x, .int a, .int b]), some w, some (.int m)] S).turn (loopF it (gNm 3) (M.played_1 e) (ms.map .int)) := loop_cons (by rw [hw]; trivial) rfl
    rw [e1, played_1 h (hm m List.mem_cons_self) x a b w S]
    cases c : (Fm m).nx x a b with
    | none =>
      refine ⟨k, ?_⟩
      simp only [plays, c, plays_none]
      rfl
    | some st =>
      obtain ⟨x', a', b'⟩ := st
      obtain ⟨k', ih⟩ := played_loop h hw w S ms x' a' b' (some (.int m)) (fun y hy => hm y (List.mem_cons_of_mem _ hy))
      refine ⟨k', ?_⟩
      simp only [plays, c, RS.turn_nx, stD]
      exact ih
theorem played_eq (h : Mvs e r ss ts Fm) (ms : List Int) (hm : ∀ m ∈ ms, InR ss ts m) (x a b : Int) (S : Sto) : M.played e [.tup [.int r, .tup ss, .tup ts], .tup [.int x, .int a, .int b], .tup (ms.map .int)] S = .ok (stD (plays Fm ms (some (x, a, b)))) S := by
  obtain ⟨k', ek⟩ := played_loop h (it := ⟨ms.map .int, none⟩) rfl (.tup (ms.map .int)) S ms x a b none hm
  cases c : plays Fm ms (some (x, a, b)) with
  | none =>
    rw [c] at ek
    simp -implicitDefEqProofs [M.played, M.b_played, sFor, iSeq, ek, stD]
  | some st =>
    rw [c] at ek
    simp -implicitDefEqProofs [M.played, M.b_played, sFor, iSeq, ek]
theorem lplay_1 (h : Mvs e r ss ts Fm) {m : Int} (hm : InR ss ts m) (st : Option Stn) (w : D) (S : Sto) :
    M._law_play_1 e [some (.tup [.int r, .tup ss, .tup ts]), some (stD st), some w, some (.int m)] S = .nx [some (.tup [.int r, .tup ss, .tup ts]), some (stD (plays Fm [m] st)), some w, some (.int m)] S := by
  cases st with
  | none => simp -implicitDefEqProofs [M._law_play_1, stD, plays]
  | some st =>
    obtain ⟨x, a, b⟩ := st
    have q := h.make m hm.1 hm.2 x a b S
    simp -implicitDefEqProofs [M._law_play_1, stD, plays, q]
theorem lplay_loop (h : Mvs e r ss ts Fm) {it : Items} (hw : it.w = none) (w : D) (S : Sto) : ∀ (ms : List Int) (st : Option Stn) (k : Option D), (∀ m ∈ ms, InR ss ts m) →
    ∃ k', loopF it (gNm 3) (M._law_play_1 e) (ms.map .int) [some (.tup [.int r, .tup ss, .tup ts]), some (stD st), some w, k] S = .nx [some (.tup [.int r, .tup ss, .tup ts]), some (stD (plays Fm ms st)), some w, k'] S
  | [], st, k, _ => ⟨k, loop_nil (by rw [hw]; trivial)⟩
  | m :: ms, st, k, hm => by
    have e1 : loopF it (gNm 3) (M._law_play_1 e) ((m :: ms).map D.int) [some (.tup [.int r, .tup ss, .tup ts]), some (stD st), some w, k] S = (M._law_play_1 e [some (.tup [.int r, .tup ss, .tup ts]), some (stD st), some w, some (.int m)] S).turn (loopF it (gNm 3) (M._law_play_1 e) (ms.map .int)) := loop_cons (by rw [hw]; trivial) rfl
    obtain ⟨k', ih⟩ := lplay_loop h hw w S ms (plays Fm [m] st) (some (.int m)) (fun y hy => hm y (List.mem_cons_of_mem _ hy))
    refine ⟨k', ?_⟩
    rw [e1, lplay_1 h (hm m List.mem_cons_self), RS.turn_nx, ih]
    cases st with
    | none => rw [plays_none, plays_none, plays_none]
    | some st => rfl
theorem lplay_eq (h : Mvs e r ss ts Fm) (ms : List Int) (hm : ∀ m ∈ ms, InR ss ts m) (x a b : Int) (S : Sto) : M._law_play e [.tup [.int r, .tup ss, .tup ts], .tup [.int x, .int a, .int b], .tup (ms.map .int)] S = .ok (stD (plays Fm ms (some (x, a, b)))) S := by
  obtain ⟨k', ek⟩ := lplay_loop h (it := ⟨ms.map .int, none⟩) rfl (.tup (ms.map .int)) S ms (some (x, a, b)) none hm
  have ek' : loopF ⟨ms.map .int, none⟩ (gNm 3) (M._law_play_1 e) (ms.map .int) [some (.tup [.int r, .tup ss, .tup ts]), some (.tup [.int x, .int a, .int b]), some (.tup (ms.map .int)), none] S = _ := ek
  simp -implicitDefEqProofs [M._law_play, M.b__law_play, sFor, iSeq, ek']
/-! ### words are checked -/
theorem loop_rt {it : Items} {gt : FG} {g : FS} (hw : it.w = none) (c : D) (p : D → Bool) (σf : Option D → En) (S : Sto) (hg : ∀ d y S, gt d (σf y) S = some (σf (some d))) :
    ∀ (ds : List D) (y : Option D), (∀ d ∈ ds, g (σf (some d)) S = if p d = true then .nx (σf (some d)) S else .rt c S) →
    (ds.all p = true → ∃ y', loopF it gt g ds (σf y) S = .nx (σf y') S) ∧ (ds.all p = false → loopF it gt g ds (σf y) S = .rt c S)
  | [], y, _ => ⟨fun _ => ⟨y, loop_nil (by rw [hw]; trivial)⟩, fun h => by simp at h⟩
  | d :: ds, y, hb => by
    have ih := loop_rt hw c p σf S hg ds (some d) (fun d' h => hb d' (List.mem_cons_of_mem _ h))
    have hd := hb d List.mem_cons_self
    have e1 : loopF it gt g (d :: ds) (σf y) S = (g (σf (some d)) S).turn (loopF it gt g ds) := loop_cons (by rw [hw]; trivial) (hg d y S)
    constructor
    · intro h
      simp only [List.all_cons, Bool.and_eq_true] at h
      rw [if_pos h.1] at hd
      obtain ⟨y', h'⟩ := ih.1 h.2
      exact ⟨y', by rw [e1, hd, RS.turn_nx, h']⟩
    · intro h
      by_cases hp : p d = true
      · rw [if_pos hp] at hd
        simp only [List.all_cons, hp, Bool.true_and] at h
        rw [e1, hd, RS.turn_nx, ih.2 h]
      · rw [if_neg hp] at hd
        rw [e1, hd]; rfl
theorem count_eq (ss ts : List D) (r : D) (S : Sto) : M.move_count e [.tup [r, .tup ss, .tup ts]] S = .ok (.int (ss.length + ts.length)) S := by
  simp -implicitDefEqProofs [M.move_count, M.b_move_count]
def isMvB (ss ts : List D) (d : D) : Bool := isIn d 0 ((ss.length : Int) + ts.length - 1)
theorem is_move_eq (ss ts : List D) (r d : D) (S : Sto) (hd : plain d = true) : M.is_move e [.tup [r, .tup ss, .tup ts], d] S = .ok (.bl (isMvB ss ts d)) S := by
  simp -implicitDefEqProofs [M.is_move, M.b_is_move, count_eq, is_within_eq, hd, isMvB]
theorem isMvB_int {m : Int} (h : InR ss ts m) : isMvB ss ts (.int m) = true := by
  obtain ⟨h1, h2⟩ := h
  exact isIn_of h1 (by omega)
theorem word_1 (r : D) (w : Option D) (d : D) (S : Sto) (hd : plain d = true) : M.is_word_1 e [some (.tup [r, .tup ss, .tup ts]), w, some d] S = if isMvB ss ts d = true then .nx [some (.tup [r, .tup ss, .tup ts]), w, some d] S else .rt (.bl false) S := by
  cases h : isMvB ss ts d <;> simp -implicitDefEqProofs [M.is_word_1, is_move_eq, hd, h]
theorem is_word_eq (r : D) (ws : List D) (S : Sto) (hd : ∀ d ∈ ws, plain d = true) : M.is_word e [.tup [r, .tup ss, .tup ts], .tup ws] S = .ok (.bl (ws.all (isMvB ss ts))) S := by
  have L := loop_rt (it := ⟨ws, none⟩) (gt := gNm 2) (g := M.is_word_1 e) rfl (.bl false) (isMvB ss ts) (fun y => [some (.tup [r, .tup ss, .tup ts]), some (.tup ws), y]) S (fun _ _ _ => rfl) ws none (fun d h => word_1 r _ d S (hd d h))
  cases h : ws.all (isMvB ss ts) with
  | true =>
    obtain ⟨y, ey⟩ := L.1 h
    simp -implicitDefEqProofs [M.is_word, M.b_is_word, sFor, iSeq, ey]
  | false =>
    have ey := L.2 h
    simp -implicitDefEqProofs [M.is_word, M.b_is_word, sFor, iSeq, ey]
theorem check_word_eq (r : D) (ws : List D) (S : Sto) (hd : ∀ d ∈ ws, plain d = true) : M.check_word e [.tup [r, .tup ss, .tup ts], .tup ws] S = if ws.all (isMvB ss ts) = true then .ok .non S else .raise (.ref (e.x .BadArgument)) S := by
  have q := is_word_eq (e := e) (ss := ss) (ts := ts) r ws S hd
  cases h : ws.all (isMvB ss ts) <;> rw [h] at q <;> simp -implicitDefEqProofs [M.check_word, M.b_check_word, q]
end
end DL
end

section
set_option Elab.async false
set_option linter.all false
set_option maxRecDepth 100000
set_option maxHeartbeats 1000000
namespace DL
open PySem L2
/-! ### the laws' equality, on what is the same -/
theorem eqn_n (e : EX) (n : Nat) : M._law_equal_n e (n + 1) = runF 2 (M.b__law_equal e (M._law_all_equal_r e (M._law_equal_n e n))) := rfl
theorem eqn_0 (e : EX) : M._law_equal e = M._law_equal_n e (5 + 1) := rfl
theorem eq_int (e : EX) (n : Nat) (i : Int) (S : Sto) : M._law_equal_n e (n + 1) [.int i, .int i] S = .ok (.bl true) S := by
  rw [eqn_n]
  simp -implicitDefEqProofs [M.b__law_equal]
theorem eq_non (e : EX) (n : Nat) (S : Sto) : M._law_equal_n e (n + 1) [.non, .non] S = .ok (.bl true) S := by
  rw [eqn_n]
  simp -implicitDefEqProofs [M.b__law_equal]
/-- item by item -/
theorem all_eq (e : EX) (rec : Fn) (a d : D) (S : Sto) (n : Nat) (hn : n ≤ 1000000) (hl : cLen [d] S = some (.int n)) (hi : ∀ j : Nat, j < n → ∃ x y, dIx a (.int j) S = some x ∧ dIx d (.int j) S = some y ∧ rec [x, y] S = .ok (.bl true) S) :
    M._law_all_equal_r e rec [a, d] S = .ok (.bl true) S := by
  have L := loop_ok (it := ⟨rgD 0 (n : Int), none⟩) (gt := gNm 2) (g := M._law_all_equal_1 e rec) rfl (fun _ σ T => ∃ k, σ = [some a, some d, k] ∧ T = S) (rgD 0 (n : Int)) 0 [some a, some d, none] S ⟨none, rfl, rfl⟩ (by
    rintro j v σ T ev ⟨k, rfl, rfl⟩
    have hj : j < n := by
      have := (List.getElem?_eq_some_iff.mp ev).1
      rwa [rgD_len] at this
    have hv : v = .int j := by
      simp [rgD, List.getElem?_map, List.getElem?_range hj] at ev
      exact ev.symm
    subst hv
    obtain ⟨x, y, h1, h2, h3⟩ := hi j hj
    refine ⟨_, _, _, rfl, ?_, some (.int j), rfl, rfl⟩
    simp -implicitDefEqProofs [M._law_all_equal_1, h1, h2, h3])
  obtain ⟨σ', S', e1, k, rfl, rfl⟩ := L
  have i62 : in62 (n : Int) = true := in62_nat hn
  simp -implicitDefEqProofs [M._law_all_equal_r, M.b__law_all_equal, sFor, iRg1, hl, i62, e1]
theorem eq_tup3 (e : EX) (x a b : Int) (S : Sto) : M._law_equal e [.tup [.int x, .int a, .int b], .tup [.int x, .int a, .int b]] S = .ok (.bl true) S := by
  have q := all_eq e (M._law_equal_n e (4 + 1)) (.tup [.int x, .int a, .int b]) (.tup [.int x, .int a, .int b]) S 3 (by omega) rfl (fun j hj => by
    have : j = 0 ∨ j = 1 ∨ j = 2 := by omega
    rcases this with rfl | rfl | rfl
    · exact ⟨_, _, atI_0, atI_0, eq_int e 4 _ S⟩
    · exact ⟨_, _, atI_1, atI_1, eq_int e 4 _ S⟩
    · exact ⟨_, _, atI_2, atI_2, eq_int e 4 _ S⟩)
  rw [eqn_0, eqn_n]
  simp -implicitDefEqProofs [M.b__law_equal, q]
theorem eq_st (e : EX) (st : Option Stn) (S : Sto) : M._law_equal e [stD st, stD st] S = .ok (.bl true) S := by
  cases st with
  | none => rw [eqn_0]; exact eq_non e 5 S
  | some st => obtain ⟨x, a, b⟩ := st; exact eq_tup3 e x a b S
@[simp] theorem cls_refL {S : Sto} {n : Nat} {xs : List D} (h : S[n]? = some (.lst xs)) : clsOf (.ref n) S = some "list" := by
  have q : anyL (.ref n) S = some xs := by
    show (match S[n]? with | some (.lst xs) => some xs | _ => none) = _
    rw [h]
  simp [clsOf, q]
theorem len_ref {S : Sto} {n : Nat} {xs : List D} (h : S[n]? = some (.lst xs)) : cLen [.ref n] S = some (.int xs.length) := by
  show (anyL (.ref n) S).map _ = _
  show (match S[n]? with | some (.lst xs) => some xs | _ => none).map _ = _
  rw [h]; rfl
theorem ix_ref {S : Sto} {n : Nat} {xs : List D} {i : Int} (h : S[n]? = some (.lst xs)) : dIx (.ref n) (.int i) S = atI xs i := by
  show (match S[n]? with | some (.lst xs) => some xs | _ => none).bind _ = _
  rw [h]; rfl
/-- a list of the store and the same numbers -/
theorem eq_lst (e : EX) (n : Nat) (is : List Int) (S : Sto) (hl : is.length ≤ 1000000) (h : S[n]? = some (.lst (is.map .int))) : M._law_equal e [.ref n, .lst (is.map .int)] S = .ok (.bl true) S := by
  have q := all_eq e (M._law_equal_n e (4 + 1)) (.ref n) (.lst (is.map .int)) S is.length hl (by simp) (fun j hj => by
    have hx : atI (is.map D.int) (j : Int) = some (.int is[j]) := by
      apply atI_nat
      rw [List.getElem?_map, List.getElem?_eq_getElem hj]; rfl
    exact ⟨_, _, (ix_ref h).trans hx, hx, eq_int e 4 _ S⟩)
  have l1 := len_ref h
  have c1 := cls_refL h
  rw [eqn_0, eqn_n]
  simp -implicitDefEqProofs [M.b__law_equal, q, l1, c1]
/-! ### comprehensions that choose -/
theorem comp_filter {it : Items} {gt : FG} {t : FT} {f : FE} {σ0 : En} {S : Sto} (hw : it.w = none) (p : D → Bool) : ∀ (ds acc : List D), acc.length + ds.length < 100000 →
    (∀ d ∈ ds, ∃ σ1, gt d σ0 S = some σ1 ∧ t σ1 S = .ok (p d) S ∧ f σ1 S = .ok d S) → compF it gt t f σ0 ds S acc = .ok (acc ++ ds.filter p) S
  | [], acc, _, _ => by unfold compF; rw [if_pos (by rw [hw]; trivial)]; simp
  | d :: ds, acc, hl, hs => by
    obtain ⟨σ1, e1, e2, e3⟩ := hs d List.mem_cons_self
    have hb : acc.length < BIG := big_lt (by simp at hl; omega)
    rw [compF, if_pos (by rw [hw]; trivial), e1]
    simp only [e2, Res.noR_ok, Res.bind_ok]
    cases hp : p d with
    | true =>
      simp only [if_true, e3, Res.noR_ok, Res.bind_ok]
      rw [if_pos hb, comp_filter hw p ds (acc ++ [d]) (by simp at hl ⊢; omega) (fun d' h => hs d' (List.mem_cons_of_mem _ h)), List.filter_cons_of_pos hp]
      simp
    | false =>
      simp only [Bool.false_eq_true, if_false]
      rw [comp_filter hw p ds acc (by simp at hl ⊢; omega) (fun d' h => hs d' (List.mem_cons_of_mem _ h)), List.filter_cons_of_neg (by rw [hp]; decide)]
section
variable {e : EX} {r : Int} {ss ts : List D} {Fm : Int → MvF}
/-- the moves that can be made -/
def okM (Fm : Int → MvF) (x a b m : Int) : Bool := ((Fm m).nx x a b).isSome
def ofI (p : Int → Bool) : D → Bool
  | .int i => p i
  | _ => false
def rgI (n : Nat) : List Int := (List.range n).map fun i : Nat => (i : Int)
theorem rgD_I (n : Nat) : rgD 0 (n : Int) = (rgI n).map .int := by
  simp [rgD, rgI]
theorem filter_I (p : Int → Bool) (is : List Int) : (is.map D.int).filter (ofI p) = (is.filter p).map .int := by
  induction is with
  | nil => rfl
  | cons i is ih =>
    by_cases h : p i = true
    · rw [List.map_cons, List.filter_cons_of_pos (by exact h), List.filter_cons_of_pos h, ih]; rfl
    · rw [List.map_cons, List.filter_cons_of_neg (by exact h), List.filter_cons_of_neg h, ih]
theorem rgI_mem {n : Nat} {m : Int} (h : m ∈ rgI n) : 0 ≤ m ∧ m < n := by
  simp only [rgI, List.mem_map, List.mem_range] at h
  obtain ⟨i, h1, rfl⟩ := h
  omega
theorem rgI_inR {m : Int} (h : m ∈ rgI (ss.length + ts.length)) : InR ss ts m := by
  have := rgI_mem h
  exact ⟨this.1, by have := this.2; omega⟩
theorem isNot_st (st : Option Stn) (S : Sto) : dIsNot (stD st) .non S = some (.bl st.isSome) := by cases st <;> rfl
theorem is_st (st : Option Stn) (S : Sto) : dIs (stD st) .non S = some (.bl (!st.isSome)) := by cases st <;> rfl
/-- what can be made in a standing -/
def can (Fm : Int → MvF) (n : Nat) (x a b : Int) : List Int := (rgI n).filter (okM Fm x a b)
theorem can_len {n : Nat} {x a b : Int} : (can Fm n x a b).length ≤ n := by
  have h := List.length_filter_le (okM Fm x a b) (rgI n)
  simp [rgI] at h
  exact h
theorem lable_eq (h : Mvs e r ss ts Fm) (P : Ka.Prg r ss ts) (x a b : Int) (S : Sto) : M._law_able e [.tup [.int r, .tup ss, .tup ts], .tup [.int x, .int a, .int b]] S = .ok (.lst ((can Fm (ss.length + ts.length) x a b).map .int)) S := by
  have hs := P.sl
  have ht := P.tl
  have c := comp_filter (it := ⟨rgD 0 ((ss.length + ts.length : Nat) : Int), none⟩) (gt := gNm 3) (t := M._law_able_2 e) (f := M._law_able_1 e)
    (σ0 := [some (.tup [.int r, .tup ss, .tup ts]), some (.tup [.int x, .int a, .int b]), some (.int ((ss.length : Int) + ts.length)), none]) (S := S) rfl (ofI (okM Fm x a b)) (rgD 0 ((ss.length + ts.length : Nat) : Int)) [] (by rw [rgD_len]; simp; omega) (by
      intro d hd
      rw [rgD_I] at hd
      obtain ⟨m, hm, rfl⟩ := List.mem_map.mp hd
      have hi := rgI_inR hm
      have q := h.make m hi.1 hi.2 x a b S
      refine ⟨_, rfl, ?_, ?_⟩
      · simp -implicitDefEqProofs [M._law_able_2, q, isNot_st, ofI, okM]
      · simp -implicitDefEqProofs [M._law_able_1])
  rw [List.nil_append, rgD_I, filter_I, ← rgD_I] at c
  have i62 : in62 ((ss.length : Int) + ts.length) = true := by
    have := in62_nat (n := ss.length + ts.length) (by omega)
    simpa using this
  have c' : compF ⟨rgD 0 ((ss.length : Int) + ts.length), none⟩ (gNm 3) (M._law_able_2 e) (M._law_able_1 e) [some (.tup [.int r, .tup ss, .tup ts]), some (.tup [.int x, .int a, .int b]), some (.int ((ss.length : Int) + ts.length)), none] (rgD 0 ((ss.length : Int) + ts.length)) S [] = .ok ((can Fm (ss.length + ts.length) x a b).map .int) S := by
    have := c
    rw [show ((ss.length + ts.length : Nat) : Int) = (ss.length : Int) + ts.length by simp] at this
    exact this
  simp -implicitDefEqProofs [M._law_able, M.b__law_able, fComp, iRg1, i62, wipeD, c']
theorem able_eq (h : Mvs e r ss ts Fm) (P : Ka.Prg r ss ts) (hp : isProgB (.tup [.int r, .tup ss, .tup ts]) = true) (pp : plain (.tup [.int r, .tup ss, .tup ts]) = true) (x a b : Int) (hst : isStandB r (.tup [.int x, .int a, .int b]) = true) (S : Sto) :
    M.able e [.tup [.int r, .tup ss, .tup ts], .tup [.int x, .int a, .int b]] S = .ok (.ref S.length) (S ++ [.lst ((can Fm (ss.length + ts.length) x a b).map .int)]) := by
  have hs := P.sl
  have ht := P.tl
  have i62 : in62 ((ss.length : Int) + ts.length) = true := by
    have := in62_nat (n := ss.length + ts.length) (by omega)
    simpa using this
  have c := comp_filter (it := ⟨rgD 0 ((ss.length : Int) + ts.length), none⟩) (gt := gNm 2) (t := M.moves_from_2 e) (f := M.moves_from_1 e)
    (σ0 := [some (.tup [.int r, .tup ss, .tup ts]), some (.int x), none]) (S := S) rfl (ofI fun m => decide ((Fm m).s = x)) (rgD 0 ((ss.length + ts.length : Nat) : Int)) [] (by rw [rgD_len]; simp; omega) (by
      intro d hd
      rw [rgD_I] at hd
      obtain ⟨m, hm, rfl⟩ := List.mem_map.mp hd
      have hi := rgI_inR hm
      have q := h.src m hi.1 hi.2 S
      refine ⟨_, rfl, ?_, ?_⟩
      · simp -implicitDefEqProofs [M.moves_from_2, q, ofI]
      · simp -implicitDefEqProofs [M.moves_from_1])
  rw [List.nil_append, rgD_I, filter_I, ← rgD_I] at c
  have c' : compF ⟨rgD 0 ((ss.length : Int) + ts.length), none⟩ (gNm 2) (M.moves_from_2 e) (M.moves_from_1 e) [some (.tup [.int r, .tup ss, .tup ts]), some (.int x), none] (rgD 0 ((ss.length : Int) + ts.length)) S [] = .ok (((rgI (ss.length + ts.length)).filter fun m => decide ((Fm m).s = x)).map .int) S := by
    have := c
    rw [show ((ss.length + ts.length : Nat) : Int) = (ss.length : Int) + ts.length by simp] at this
    exact this
  have mf : M.moves_from e [.tup [.int r, .tup ss, .tup ts], .int x] S = .ok (.lst (((rgI (ss.length + ts.length)).filter fun m => decide ((Fm m).s = x)).map .int)) S := by
    simp -implicitDefEqProofs [M.moves_from, M.b_moves_from, fComp, iRg1, count_eq, i62, wipeD, c']
  have l2 : ((rgI (ss.length + ts.length)).filter fun m => decide ((Fm m).s = x)).length ≤ ss.length + ts.length := by
    have h := List.length_filter_le (fun m => decide ((Fm m).s = x)) (rgI (ss.length + ts.length))
    simp [rgI] at h
    exact h
  have c2 := comp_filter (it := ⟨((rgI (ss.length + ts.length)).filter fun m => decide ((Fm m).s = x)).map .int, none⟩) (gt := gNm 2) (t := M.able_2 e) (f := M.able_1 e)
    (σ0 := [some (.tup [.int r, .tup ss, .tup ts]), some (.tup [.int x, .int a, .int b]), none]) (S := S) rfl (ofI (okM Fm x a b)) (((rgI (ss.length + ts.length)).filter fun m => decide ((Fm m).s = x)).map .int) [] (by simp only [List.length_nil, List.length_map]; omega) (by
      intro d hd
      obtain ⟨m, hm, rfl⟩ := List.mem_map.mp hd
      have hi := rgI_inR (List.mem_filter.mp hm).1
      have q := h.made m hi.1 hi.2 x a b S
      refine ⟨_, rfl, ?_, ?_⟩
      · simp -implicitDefEqProofs [M.able_2, q, isNot_st, ofI, okM]
      · simp -implicitDefEqProofs [M.able_1])
  rw [List.nil_append, filter_I, List.filter_filter] at c2
  have same : (rgI (ss.length + ts.length)).filter (fun m => okM Fm x a b m && decide ((Fm m).s = x)) = can Fm (ss.length + ts.length) x a b := by
    unfold can
    refine List.filter_congr fun m _ => ?_
    by_cases hm : (Fm m).s = x
    · simp [hm]
    · have : okM Fm x a b m = false := by unfold okM MvF.nx; rw [if_neg hm]; rfl
      simp [this]
  rw [same] at c2
  have ck := check_standing_eq e (.tup [.int r, .tup ss, .tup ts]) (.tup [.int x, .int a, .int b]) S pp rfl
  rw [if_pos hp, if_pos (show isStandB (roomsOf (.tup [.int r, .tup ss, .tup ts])) _ = true from hst)] at ck
  simp -implicitDefEqProofs [M.able, M.b_able, ck, fCompN, iSeq, mf, wipeD, c2]
end
end DL
end

section
set_option Elab.async false
set_option linter.all false
set_option maxRecDepth 100000
set_option maxHeartbeats 1000000
/-! lists cut and joined; comprehensions whose turns all answer -/
namespace DL
open PySem L2
theorem anyL_lst {xs : List D} {S : Sto} : anyL (.lst xs) S = some xs := rfl
@[simp] theorem v_cutL {xs : List D} {lo hi : Option Int} {S : Sto} : dCut (.lst xs) lo hi S = some (.lst (cutD xs lo hi)) := rfl
@[simp] theorem v_addL {xs ys : List D} {S : Sto} (h : xs.length + ys.length ≤ 100000) : dAdd (.lst xs) (.lst ys) S = some (.lst (xs ++ ys)) := by
  show ((none : Option D).or ((none : Option D).or ((none : Option D).or (if xs.length + ys.length ≤ BIG then some (D.lst (xs ++ ys)) else none)))) = _
  rw [if_pos (big_ok h)]; rfl
/-- a comprehension whose turns all answer -/
theorem comp_ok {it : Items} {gt : FG} {f : FE} {σ0 : En} (hw : it.w = none) (I : Sto → Prop) (P : D → Prop) : ∀ (ds : List D) (S : Sto) (acc : List D), I S → (∀ x ∈ acc, P x) → acc.length + ds.length < 100000 →
    (∀ (d : D) (S : Sto), I S → ∃ σ1 x S2, gt d σ0 S = some σ1 ∧ f σ1 S = .ok x S2 ∧ P x ∧ I S2) → ∃ xs S', compF it gt tYesD f σ0 ds S acc = .ok xs S' ∧ I S' ∧ (∀ x ∈ xs, P x) ∧ xs.length = acc.length + ds.length
  | [], S, acc, h, hp, _, _ => ⟨acc, S, by unfold compF; rw [if_pos (by rw [hw]; trivial)], h, hp, by simp⟩
  | d :: ds, S, acc, h, hp, hl, hs => by
    obtain ⟨σ1, x, S2, e1, e2, px, h2⟩ := hs d S h
    have hl' : (acc ++ [x]).length + ds.length < 100000 := by simp at hl ⊢; omega
    obtain ⟨xs, S', q1, q2, q3, q4⟩ := comp_ok hw I P ds S2 (acc ++ [x]) h2 (fun y hy => by
      rcases List.mem_append.mp hy with hy | hy
      · exact hp y hy
      · rw [List.mem_singleton.mp hy]; exact px) hl' hs
    refine ⟨xs, S', ?_, q2, q3, by rw [q4]; simp; omega⟩
    have hb : acc.length < BIG := big_lt (by simp at hl; omega)
    rw [compF, if_pos (by rw [hw]; trivial), e1]
    simp only [tYesD, Res.noR_ok, Res.bind_ok, if_true, e2]
    rw [if_pos hb]
    exact q1
end DL
end

section
/-! the plain law of needs: no program in sight -/
set_option Elab.async false
set_option linter.all false
namespace Nd
/-- a move: where it begins and ends, what it puts into the purses, whether it is a test -/
structure Rw where
  s : Int
  t : Int
  f : Int
  g : Int
  tst : Bool
abbrev Stn := Int × Int × Int
def nxR (w : Rw) (x a b : Int) : Option Stn := if w.s = x then (if w.tst = true then (if a = 0 then some (w.t, 0, b) else none) else (if a + w.f < 0 ∨ b + w.g < 0 then none else some (w.t, a + w.f, b + w.g))) else none
def playR (rw : Int → Rw) : List Int → Option Stn → Option Stn
  | [], st => st
  | _ :: _, none => none
  | m :: ms, some (x, a, b) => playR rw ms (nxR (rw m) x a b)
/-- each move begins where the one before it ends; the first begins at x -/
def walkF (rw : Int → Rw) : List Int → Int → Bool
  | [], _ => true
  | m :: ms, x => decide ((rw m).s = x) && walkF rw ms (rw m).t
structure NS where
  first : Int
  second : Int
  least : Int
  other : Int
  just : Option Int
def stepN (w : Rw) (st : NS) : Option NS := if w.tst = true then (match st.just with
    | some j => if j ≠ -st.first then none else some { st with just := some (-st.first) }
    | none => some { st with just := some (-st.first) }) else
  some ⟨st.first + w.f, st.second + w.g, max st.least (-(st.first + w.f)), max st.other (-(st.second + w.g)), st.just⟩
def foldN (rw : Int → Rw) : List Int → NS → Option NS
  | [], st => some st
  | m :: ms, st => match stepN (rw m) st with
    | some st' => foldN rw ms st'
    | none => none
def ok (st : NS) (a b : Int) : Prop := st.least ≤ a ∧ st.other ≤ b ∧ ∀ j, st.just = some j → a = j
theorem stepN_mono {w : Rw} {st st' : NS} (h : stepN w st = some st') : st.least ≤ st'.least ∧ st.other ≤ st'.other ∧ ∀ j, st.just = some j → st'.just = some j := by
  unfold stepN at h
  split at h
  · split at h
    · rename_i j hj
      split at h
      · cases h
      · rename_i hn
        cases h
        refine ⟨Int.le_refl _, Int.le_refl _, fun j' e => ?_⟩
        rw [hj] at e
        cases e
        have : j = -st.first := by simpa using hn
        rw [← this]
    · rename_i hj
      cases h
      exact ⟨Int.le_refl _, Int.le_refl _, fun j' e => by rw [hj] at e; cases e⟩
  · cases h
    exact ⟨by show st.least ≤ max _ _; omega, by show st.other ≤ max _ _; omega, fun _ e => e⟩
theorem foldN_mono {rw : Int → Rw} : ∀ {ms : List Int} {st st' : NS}, foldN rw ms st = some st' → st.least ≤ st'.least ∧ st.other ≤ st'.other ∧ ∀ j, st.just = some j → st'.just = some j
  | [], st, st', h => by cases h; exact ⟨Int.le_refl _, Int.le_refl _, fun _ e => e⟩
  | m :: ms, st, st', h => by
    unfold foldN at h
    split at h
    · rename_i s1 e1
      have h1 := stepN_mono e1
      have h2 := foldN_mono h
      exact ⟨Int.le_trans h1.1 h2.1, Int.le_trans h1.2.1 h2.2.1, fun j e => h2.2.2 j (h1.2.2 j e)⟩
    · cases h
theorem ok_mono {st st' : NS} {a b : Int} (h : st.least ≤ st'.least ∧ st.other ≤ st'.other ∧ ∀ j, st.just = some j → st'.just = some j) (o : ok st' a b) : ok st a b :=
  ⟨Int.le_trans h.1 o.1, Int.le_trans h.2.1 o.2.1, fun j e => o.2.2 j (h.2.2 j e)⟩
theorem playR_none {rw : Int → Rw} (ms : List Int) : playR rw ms none = none := by cases ms <;> rfl
/-- a walk can be made from a, b just where the need says so -/
theorem play_need (rw : Int → Rw) : ∀ (ms : List Int) (st : NS) (x a b : Int), walkF rw ms x = true → ok st a b →
    ((playR rw ms (some (x, a + st.first, b + st.second))).isSome = true ↔ ∃ st', foldN rw ms st = some st' ∧ ok st' a b)
  | [], st, x, a, b, _, o => ⟨fun _ => ⟨st, rfl, o⟩, fun _ => rfl⟩
  | m :: ms, st, x, a, b, hw, o => by
    simp only [walkF, Bool.and_eq_true, decide_eq_true_eq] at hw
    obtain ⟨hs, hw⟩ := hw
    obtain ⟨o1, o2, o3⟩ := o
    cases ht : (rw m).tst with
    | true =>
      by_cases c : a + st.first = 0
      · -- the test can be made
        have e1 : nxR (rw m) x (a + st.first) (b + st.second) = some ((rw m).t, a + st.first, b + st.second) := by
          unfold nxR; rw [if_pos hs, if_pos ht, if_pos c, c]
        have e2 : stepN (rw m) st = some { st with just := some (-st.first) } := by
          unfold stepN
          rw [if_pos ht]
          cases hj : st.just with
          | none => rfl
          | some j =>
            have := o3 j hj
            have hn : ¬ j ≠ -st.first := by omega
            simp only
            rw [if_neg hn]
        have ih := play_need rw ms { st with just := some (-st.first) } (rw m).t a b hw ⟨o1, o2, fun j e => by cases e; omega⟩
        simp only [playR, e1, foldN, e2]
        exact ih
      · have e1 : nxR (rw m) x (a + st.first) (b + st.second) = none := by
          unfold nxR; rw [if_pos hs, if_pos ht, if_neg c]
        simp only [playR, e1, playR_none, Option.isSome_none, Bool.false_eq_true, false_iff]
        rintro ⟨st', h1, h2⟩
        unfold foldN at h1
        split at h1
        · rename_i s1 e2
          have h3 := ok_mono (foldN_mono h1) h2
          unfold stepN at e2
          rw [if_pos ht] at e2
          have : s1.just = some (-st.first) := by
            split at e2
            · split at e2
              · cases e2
              · cases e2; rfl
            · cases e2; rfl
          have := h3.2.2 _ this
          omega
        · cases h1
    | false =>
      have ht' : ¬ (rw m).tst = true := by rw [ht]; decide
      have e2 : stepN (rw m) st = some ⟨st.first + (rw m).f, st.second + (rw m).g, max st.least (-(st.first + (rw m).f)), max st.other (-(st.second + (rw m).g)), st.just⟩ := by
        unfold stepN; rw [if_neg ht']
      by_cases c : a + st.first + (rw m).f < 0 ∨ b + st.second + (rw m).g < 0
      · have e1 : nxR (rw m) x (a + st.first) (b + st.second) = none := by
          unfold nxR; rw [if_pos hs, if_neg ht', if_pos c]
        simp only [playR, e1, playR_none, Option.isSome_none, Bool.false_eq_true, false_iff]
        rintro ⟨st', h1, h2⟩
        simp only [foldN, e2] at h1
        have h3 := ok_mono (foldN_mono h1) h2
        have h4 : max st.least (-(st.first + (rw m).f)) ≤ a := h3.1
        have h5 : max st.other (-(st.second + (rw m).g)) ≤ b := h3.2.1
        omega
      · have e1 : nxR (rw m) x (a + st.first) (b + st.second) = some ((rw m).t, a + st.first + (rw m).f, b + st.second + (rw m).g) := by
          unfold nxR; rw [if_pos hs, if_neg ht', if_neg c]
        have ih := play_need rw ms ⟨st.first + (rw m).f, st.second + (rw m).g, max st.least (-(st.first + (rw m).f)), max st.other (-(st.second + (rw m).g)), st.just⟩ (rw m).t a b hw ⟨by show max _ _ ≤ a; omega, by show max _ _ ≤ b; omega, o3⟩
        simp only [playR, e1, foldN, e2]
        simp only [show a + (st.first + (rw m).f) = a + st.first + (rw m).f by omega, show b + (st.second + (rw m).g) = b + st.second + (rw m).g by omega] at ih
        exact ih
/-- what a need says -/
def ns0 : NS := ⟨0, 0, 0, 0, none⟩
def needR (rw : Int → Rw) (ms : List Int) : Option (Int × Int × Bool) := match foldN rw ms ns0 with
  | none => none
  | some st => match st.just with
    | none => some (st.least, st.other, false)
    | some j => if j < st.least then none else some (j, st.other, true)
theorem can_play {rw : Int → Rw} {ms : List Int} {x a b : Int} (hw : walkF rw ms x = true) (ha : 0 ≤ a) (hb : 0 ≤ b) :
    (playR rw ms (some (x, a, b))).isSome = true ↔ ∃ p q e, needR rw ms = some (p, q, e) ∧ q ≤ b ∧ (if e = true then a = p else p ≤ a) := by
  have h := play_need rw ms ns0 x a b hw ⟨ha, hb, fun j e => by cases e⟩
  simp only [ns0, Int.add_zero] at h
  rw [h]
  constructor
  · rintro ⟨st, h1, h2, h3, h4⟩
    cases hj : st.just with
    | none => exact ⟨st.least, st.other, false, by unfold needR; simp only [ns0, h1, hj], h3, h2⟩
    | some j =>
      have := h4 j hj
      have hn : ¬ j < st.least := by omega
      exact ⟨j, st.other, true, by unfold needR; simp only [ns0, h1, hj, if_neg hn], h3, this⟩
  · rintro ⟨p, q, e, h1, h2, h3⟩
    unfold needR at h1
    cases hf : foldN rw ms ns0 with
    | none => rw [hf] at h1; cases h1
    | some st =>
      rw [hf] at h1
      refine ⟨st, hf, ?_⟩
      cases hj : st.just with
      | none =>
        simp only [hj] at h1
        cases h1
        exact ⟨h3, h2, fun j e => by rw [hj] at e; cases e⟩
      | some j =>
        simp only [hj] at h1
        split at h1
        · cases h1
        · rename_i hn
          cases h1
          have h3' : a = p := h3
          exact ⟨by omega, h2, fun j' e => by rw [hj] at e; cases e; exact h3'⟩
theorem need_nn {rw : Int → Rw} {ms : List Int} {p q : Int} {e : Bool} (h : needR rw ms = some (p, q, e)) : 0 ≤ p ∧ 0 ≤ q := by
  unfold needR at h
  cases hf : foldN rw ms ns0 with
  | none => rw [hf] at h; cases h
  | some st =>
    rw [hf] at h
    have m := foldN_mono hf
    have m1 : (0 : Int) ≤ st.least := m.1
    have m2 : (0 : Int) ≤ st.other := m.2.1
    cases hj : st.just with
    | none =>
      simp only [hj] at h
      cases h
      exact ⟨m1, m2⟩
    | some j =>
      simp only [hj] at h
      split at h
      · cases h
      · rename_i hn
        cases h
        exact ⟨by omega, m2⟩
end Nd
end

section
set_option Elab.async false
set_option linter.all false
set_option maxRecDepth 100000
set_option maxHeartbeats 2000000
namespace DL
open PySem L2 Nd
/-! ### moves by their rows -/
structure Row (e : EX) (r : Int) (ss ts : List D) (m : Int) (w : Rw) : Prop where
  src : ∀ S, M.source_of e [.tup [.int r, .tup ss, .tup ts], .int m] S = .ok (.int w.s) S
  tgt : ∀ S, M.target_of e [.tup [.int r, .tup ss, .tup ts], .int m] S = .ok (.int w.t) S
  tst : ∀ S, M.is_test e [.tup [.int r, .tup ss, .tup ts], .int m] S = .ok (.bl w.tst) S
  chg : ∀ S, M.change_of e [.tup [.int r, .tup ss, .tup ts], .int m] S = .ok (.tup [.int w.f, .int w.g]) S
  ends : ∀ S, M._law_ends e [.tup [.int r, .tup ss, .tup ts], .int m] S = .ok (.tup [.int w.s, .int w.t, .int w.f, .int w.g]) S
  ge : decide ((ss.length : Int) ≤ m) = w.tst
  z : w.tst = true → w.f = 0 ∧ w.g = 0
  sr : 0 ≤ w.s ∧ w.s < r
  made : ∀ x a b S, M.made e [.tup [.int r, .tup ss, .tup ts], .tup [.int x, .int a, .int b], .int m] S = .ok (stD (nxR w x a b)) S
theorem row_ex (e : EX) {r : Int} {ss ts : List D} (P : Ka.Prg r ss ts) (m : Int) (h0 : 0 ≤ m) (h1 : m < ss.length + ts.length) : ∃ w, Row e r ss ts m w := by
  by_cases h : m < ss.length
  · obtain ⟨d, hd, em⟩ := atI_lt h0 h
    obtain ⟨s, t, f, g, rfl, q1, q2, q3, q4⟩ := step_shape (P.sa d hd)
    have h' : ¬ ((ss.length : Int) ≤ m) := by omega
    have hs : ∀ S, M.source_of e [.tup [.int r, .tup ss, .tup ts], .int m] S = .ok (.int s) S := fun S => by
      simp -implicitDefEqProofs [M.source_of, M.b_source_of, M.is_test, M.b_is_test, h', em]
    have ht : ∀ S, M.target_of e [.tup [.int r, .tup ss, .tup ts], .int m] S = .ok (.int t) S := fun S => by
      simp -implicitDefEqProofs [M.target_of, M.b_target_of, M.is_test, M.b_is_test, h', em]
    have hi : ∀ S, M.is_test e [.tup [.int r, .tup ss, .tup ts], .int m] S = .ok (.bl false) S := fun S => by
      simp -implicitDefEqProofs [M.is_test, M.b_is_test, h']
    have hc : ∀ S, M.change_of e [.tup [.int r, .tup ss, .tup ts], .int m] S = .ok (.tup [.int f, .int g]) S := fun S => by
      simp -implicitDefEqProofs [M.change_of, M.b_change_of, hi, em]
    refine ⟨⟨s, t, f, g, false⟩, hs, ht, hi, hc, fun S => ?_, decide_eq_false h', (fun z => by cases z), ⟨q1, q2⟩, fun x a b S => ?_⟩
    · simp -implicitDefEqProofs [M._law_ends, M.b__law_ends, h, em]
    · by_cases c : s = x
      · subst c
        by_cases c1 : a + f < 0
        · simp -implicitDefEqProofs [M.made, M.b_made, hs, hi, hc, ht, nxR, stD, c1]
        · by_cases c2 : b + g < 0
          · simp -implicitDefEqProofs [M.made, M.b_made, hs, hi, hc, ht, nxR, stD, c1, c2]
          · simp -implicitDefEqProofs [M.made, M.b_made, hs, hi, hc, ht, nxR, stD, c1, c2]
      · simp -implicitDefEqProofs [M.made, M.b_made, hs, nxR, stD, c]
  · obtain ⟨d, hd, em⟩ := atI_lt (xs := ts) (m := m - ss.length) (by omega) (by omega)
    obtain ⟨s, t, rfl, q1, q2, q3, q4⟩ := test_shape (P.ta d hd)
    have h' : (ss.length : Int) ≤ m := by omega
    have hs : ∀ S, M.source_of e [.tup [.int r, .tup ss, .tup ts], .int m] S = .ok (.int s) S := fun S => by
      simp -implicitDefEqProofs [M.source_of, M.b_source_of, M.is_test, M.b_is_test, h', em]
    have ht : ∀ S, M.target_of e [.tup [.int r, .tup ss, .tup ts], .int m] S = .ok (.int t) S := fun S => by
      simp -implicitDefEqProofs [M.target_of, M.b_target_of, M.is_test, M.b_is_test, h', em]
    have hi : ∀ S, M.is_test e [.tup [.int r, .tup ss, .tup ts], .int m] S = .ok (.bl true) S := fun S => by
      simp -implicitDefEqProofs [M.is_test, M.b_is_test, h']
    have hc : ∀ S, M.change_of e [.tup [.int r, .tup ss, .tup ts], .int m] S = .ok (.tup [.int 0, .int 0]) S := fun S => by
      simp -implicitDefEqProofs [M.change_of, M.b_change_of, hi]
    refine ⟨⟨s, t, 0, 0, true⟩, hs, ht, hi, hc, fun S => ?_, decide_eq_true h', (fun _ => ⟨rfl, rfl⟩), ⟨q1, q2⟩, fun x a b S => ?_⟩
    · simp -implicitDefEqProofs [M._law_ends, M.b__law_ends, h, em]
    · by_cases c : s = x
      · subst c
        by_cases c1 : a = 0
        · simp -implicitDefEqProofs [M.made, M.b_made, hs, hi, ht, nxR, stD, c1]
        · simp -implicitDefEqProofs [M.made, M.b_made, hs, hi, ht, nxR, stD, c1]
      · simp -implicitDefEqProofs [M.made, M.b_made, hs, nxR, stD, c]
def Rows (e : EX) (r : Int) (ss ts : List D) (rw : Int → Rw) : Prop := ∀ m : Int, InR ss ts m → Row e r ss ts m (rw m)
theorem rows_ex (e : EX) {r : Int} {ss ts : List D} (P : Ka.Prg r ss ts) : ∃ rw, Rows e r ss ts rw := by
  classical
  refine ⟨fun m => if h : 0 ≤ m ∧ m < ss.length + ts.length then Classical.choose (row_ex e P m h.1 h.2) else ⟨0, 0, 0, 0, false⟩, ?_⟩
  intro m hm
  simp only [dif_pos (And.intro hm.1 hm.2)]
  exact Classical.choose_spec (row_ex e P m hm.1 hm.2)
theorem stD_inj {p q : Option (Int × Int × Int)} (h : stD p = stD q) : p = q := by
  cases p with
  | none =>
    cases q with
    | none => rfl
    | some q => obtain ⟨x, a, b⟩ := q; cases h
  | some p =>
    obtain ⟨x, a, b⟩ := p
    cases q with
    | none => cases h
    | some q => obtain ⟨x', a', b'⟩ := q; cases h; rfl
section
variable {e : EX} {r : Int} {ss ts : List D} {Fm : Int → MvF} {rw : Int → Rw}
theorem plays_R (h : Mvs e r ss ts Fm) (hr : Rows e r ss ts rw) : ∀ (ms : List Int) (st : Option (Int × Int × Int)), (∀ m ∈ ms, InR ss ts m) → plays Fm ms st = playR rw ms st
  | [], st, _ => rfl
  | m :: ms, none, _ => rfl
  | m :: ms, some (x, a, b), hm => by
    have hi := hm m List.mem_cons_self
    have q1 := h.made m hi.1 hi.2 x a b []
    have q2 := (hr m hi).made x a b []
    rw [q1] at q2
    have q3 : stD ((Fm m).nx x a b) = stD (nxR (rw m) x a b) := by
      injection q2
    rw [plays, playR, stD_inj q3]
    exact plays_R h hr ms _ fun y hy => hm y (List.mem_cons_of_mem _ hy)
/-! walks -/
def atM (ms : List Int) (j : Int) : Int := ms.getD j.toNat 0
theorem atI_M {ms : List Int} {j : Int} (h0 : 0 ≤ j) (h : j < ms.length) : atI (ms.map D.int) j = some (.int (atM ms j)) := by
  obtain ⟨k, rfl⟩ := Int.eq_ofNat_of_zero_le h0
  have hk : k < ms.length := by omega
  have : (ms.map D.int)[k]? = some (.int (ms.getD k 0)) := by
    rw [List.getElem?_map, List.getElem?_eq_getElem hk, List.getD_eq_getElem?_getD, List.getElem?_eq_getElem hk]
    rfl
  exact atI_nat this
theorem atM_mem {ms : List Int} {j : Int} (h0 : 0 ≤ j) (h : j < ms.length) : atM ms j ∈ ms := by
  unfold atM
  have hk : j.toNat < ms.length := by omega
  rw [List.getD_eq_getElem?_getD, List.getElem?_eq_getElem hk]
  exact List.getElem_mem hk
def adjB (rw : Int → Rw) (ms : List Int) (d : D) : Bool := match d with
  | .int j => decide ((rw (atM ms j)).s = (rw (atM ms (j - 1))).t)
  | _ => true
def walkB (rw : Int → Rw) (ms : List Int) : Bool := (rgD 1 ms.length).all (adjB rw ms)
theorem rg1_mem {n : Nat} {d : D} (h : d ∈ rgD 1 (n : Int)) : ∃ j : Int, d = .int j ∧ 1 ≤ j ∧ j < n := by
  simp only [rgD, List.mem_map, List.mem_range] at h
  obtain ⟨i, h1, rfl⟩ := h
  exact ⟨1 + i, rfl, by omega, by omega⟩
theorem walks_eq (hr : Rows e r ss ts rw) (ms : List Int) (hl : ms.length ≤ 1000000) (hm : ∀ m ∈ ms, InR ss ts m) (S : Sto) : M.walks e [.tup [.int r, .tup ss, .tup ts], .tup (ms.map .int)] S = .ok (.bl (walkB rw ms)) S := by
  have L := loop_rt (it := ⟨rgD 1 (ms.length : Int), none⟩) (gt := gNm 2) (g := M.walks_1 e) rfl (.bl false) (adjB rw ms) (fun y => [some (.tup [.int r, .tup ss, .tup ts]), some (.tup (ms.map .int)), y]) S (fun _ _ _ => rfl) (rgD 1 (ms.length : Int)) none (fun d hd => by
    obtain ⟨j, rfl, j1, j2⟩ := rg1_mem hd
    have a1 := atI_M (ms := ms) (j := j) (by omega) j2
    have a2 := atI_M (ms := ms) (j := j - 1) (by omega) (by omega)
    have s1 := (hr _ (hm _ (atM_mem (ms := ms) (j := j) (by omega) j2))).src S
    have t1 := (hr _ (hm _ (atM_mem (ms := ms) (j := j - 1) (by omega) (by omega)))).tgt S
    by_cases c : (rw (atM ms j)).s = (rw (atM ms (j - 1))).t
    · simp -implicitDefEqProofs [M.walks_1, a1, a2, s1, t1, adjB, c]
    · simp -implicitDefEqProofs [M.walks_1, a1, a2, s1, t1, adjB, c])
  have i1 : in62 1 = true := by decide
  have i2 : in62 (ms.length : Int) = true := in62_nat hl
  unfold walkB
  cases h : (rgD 1 (ms.length : Int)).all (adjB rw ms) with
  | true =>
    obtain ⟨y, ey⟩ := L.1 h
    simp -implicitDefEqProofs [M.walks, M.b_walks, sFor, iRg2, i1, i2, ey]
  | false =>
    have ey := L.2 h
    simp -implicitDefEqProofs [M.walks, M.b_walks, sFor, iRg2, i1, i2, ey]
theorem lwalk_eq (hr : Rows e r ss ts rw) (ms : List Int) (hl : ms.length ≤ 1000000) (hm : ∀ m ∈ ms, InR ss ts m) (S : Sto) : M._law_is_walk e [.tup [.int r, .tup ss, .tup ts], .tup (ms.map .int)] S = .ok (.bl (walkB rw ms)) S := by
  have L := loop_rt (it := ⟨rgD 1 (ms.length : Int), none⟩) (gt := gNm 2) (g := M._law_is_walk_1 e) rfl (.bl false) (adjB rw ms) (fun y => [some (.tup [.int r, .tup ss, .tup ts]), some (.tup (ms.map .int)), y]) S (fun _ _ _ => rfl) (rgD 1 (ms.length : Int)) none (fun d hd => by
    obtain ⟨j, rfl, j1, j2⟩ := rg1_mem hd
    have a1 := atI_M (ms := ms) (j := j) (by omega) j2
    have a2 := atI_M (ms := ms) (j := j - 1) (by omega) (by omega)
    have s1 := (hr _ (hm _ (atM_mem (ms := ms) (j := j) (by omega) j2))).ends S
    have t1 := (hr _ (hm _ (atM_mem (ms := ms) (j := j - 1) (by omega) (by omega)))).ends S
    by_cases c : (rw (atM ms j)).s = (rw (atM ms (j - 1))).t
    · simp -implicitDefEqProofs [M._law_is_walk_1, a1, a2, s1, t1, adjB, c]
    · have c' : ¬ (rw (atM ms (j - 1))).t = (rw (atM ms j)).s := fun z => c z.symm
      simp -implicitDefEqProofs [M._law_is_walk_1, a1, a2, s1, t1, adjB, c, c'])
  have i1 : in62 1 = true := by decide
  have i2 : in62 (ms.length : Int) = true := in62_nat hl
  unfold walkB
  cases h : (rgD 1 (ms.length : Int)).all (adjB rw ms) with
  | true =>
    obtain ⟨y, ey⟩ := L.1 h
    simp -implicitDefEqProofs [M._law_is_walk, M.b__law_is_walk, sFor, iRg2, i1, i2, ey]
  | false =>
    have ey := L.2 h
    simp -implicitDefEqProofs [M._law_is_walk, M.b__law_is_walk, sFor, iRg2, i1, i2, ey]
/-- the walk, move by move -/
theorem walkB_F : ∀ (ms : List Int) (m : Int), walkB rw (m :: ms) = walkF rw ms (rw m).t := by
  have key : ∀ (ms : List Int) (m : Int), (∀ j : Nat, j < ms.length → (rw (ms.getD j 0)).s = (rw ((m :: ms).getD j 0)).t) ↔ walkF rw ms (rw m).t = true := by
    intro ms
    induction ms with
    | nil => exact fun m => ⟨fun _ => rfl, fun _ j hj => by simp at hj⟩
    | cons n ms ih =>
      intro m
      simp only [walkF, Bool.and_eq_true, decide_eq_true_eq]
      rw [← ih n]
      constructor
      · intro h
        refine ⟨h 0 (by simp), fun j hj => ?_⟩
        exact h (j + 1) (by simpa using hj)
      · rintro ⟨h1, h2⟩ j hj
        cases j with
        | zero => exact h1
        | succ j => exact h2 j (by simpa using hj)
  intro ms m
  rw [Bool.eq_iff_iff, ← key]
  unfold walkB
  rw [List.all_eq_true]
  have e1 : ∀ i : Nat, atM (m :: ms) (1 + (i : Int)) = ms.getD i 0 := fun i => by
    unfold atM; rw [show (1 + (i : Int)).toNat = i + 1 by omega]; rfl
  have e2 : ∀ i : Nat, atM (m :: ms) (1 + (i : Int) - 1) = (m :: ms).getD i 0 := fun i => by
    unfold atM; rw [show (1 + (i : Int) - 1).toNat = i by omega]
  constructor
  · intro h j hj
    have hd : D.int (1 + (j : Int)) ∈ rgD 1 (((m :: ms).length : Nat) : Int) := by
      simp only [rgD, List.mem_map, List.mem_range]
      exact ⟨j, by simp; omega, rfl⟩
    have q := of_decide_eq_true (h _ hd)
    rw [e1, e2] at q
    exact q
  · intro h d hd
    obtain ⟨j, rfl, j1, j2⟩ := rg1_mem hd
    obtain ⟨i, rfl⟩ : ∃ i : Nat, j = 1 + i := ⟨(j - 1).toNat, by omega⟩
    have hi : i < ms.length := by simp at j2; omega
    have q := h i hi
    rw [← e1, ← e2] at q
    exact decide_eq_true q
end
end DL
end

section
set_option Elab.async false
set_option linter.all false
set_option maxRecDepth 100000
set_option maxHeartbeats 2000000
namespace DL
open PySem L2 Nd
section
variable {e : EX} {r : Int} {ss ts : List D} {rw : Int → Rw}
/-! sums -/
def sumF (rw : Int → Rw) : List Int → Int → Int
  | [], u => u
  | m :: ms, u => sumF rw ms (u + (rw m).f)
def sumG (rw : Int → Rw) : List Int → Int → Int
  | [], u => u
  | m :: ms, u => sumG rw ms (u + (rw m).g)
theorem eff_loop (hr : Rows e r ss ts rw) {it : Items} (hw : it.w = none) (w : D) (S : Sto) : ∀ (ms : List Int) (u v : Int) (k c : Option D), (∀ m ∈ ms, InR ss ts m) →
    ∃ k' c', loopF it (gNm 4) (M.effect_of_1 e) (ms.map .int) [some (.tup [.int r, .tup ss, .tup ts]), some w, some (.int u), some (.int v), k, c] S = .nx [some (.tup [.int r, .tup ss, .tup ts]), some w, some (.int (sumF rw ms u)), some (.int (sumG rw ms v)), k', c'] S
  | [], u, v, k, c, _ => ⟨k, c, loop_nil (by rw [hw]; trivial)⟩
  | m :: ms, u, v, k, c, hm => by
    have q := (hr m (hm m List.mem_cons_self)).chg S
    have b : M.effect_of_1 e [some (.tup [.int r, .tup ss, .tup ts]), some w, some (.int u), some (.int v), some (.int m), c] S = .nx [some (.tup [.int r, .tup ss, .tup ts]), some w, some (.int (u + (rw m).f)), some (.int (v + (rw m).g)), some (.int m), some (.tup [.int (rw m).f, .int (rw m).g])] S := by
      simp -implicitDefEqProofs [M.effect_of_1, q, dI]
    obtain ⟨k', c', ih⟩ := eff_loop hr hw w S ms (u + (rw m).f) (v + (rw m).g) (some (.int m)) (some (.tup [.int (rw m).f, .int (rw m).g])) (fun y hy => hm y (List.mem_cons_of_mem _ hy))
    refine ⟨k', c', ?_⟩
    have e1 : loopF it (gNm 4) (M.effect_of_1 e) ((m :: ms).map D.int) [some (.tup [.int r, .tup ss, .tup ts]), some w, some (.int u), some (.int v), k, c] S = (M.effect_of_1 e [some (.tup [.int r, .tup ss, .tup ts]), some w, some (.int u), some (.int v), some (.int m), c] S).turn (loopF it (gNm 4) (M.effect_of_1 e) (ms.map .int)) := loop_cons (by rw [hw]; trivial) rfl
    rw [e1, b, RS.turn_nx]
    exact ih
theorem leff_loop (hr : Rows e r ss ts rw) {it : Items} (hw : it.w = none) (w : D) (S : Sto) : ∀ (ms : List Int) (u v : Int) (k c : Option D), (∀ m ∈ ms, InR ss ts m) →
    ∃ k' c', loopF it (gNm 4) (M._law_effect_1 e) (ms.map .int) [some (.tup [.int r, .tup ss, .tup ts]), some w, some (.int u), some (.int v), k, c] S = .nx [some (.tup [.int r, .tup ss, .tup ts]), some w, some (.int (sumF rw ms u)), some (.int (sumG rw ms v)), k', c'] S
  | [], u, v, k, c, _ => ⟨k, c, loop_nil (by rw [hw]; trivial)⟩
  | m :: ms, u, v, k, c, hm => by
    have q := (hr m (hm m List.mem_cons_self)).ends S
    have b : M._law_effect_1 e [some (.tup [.int r, .tup ss, .tup ts]), some w, some (.int u), some (.int v), some (.int m), c] S = .nx [some (.tup [.int r, .tup ss, .tup ts]), some w, some (.int (u + (rw m).f)), some (.int (v + (rw m).g)), some (.int m), some (.tup [.int (rw m).s, .int (rw m).t, .int (rw m).f, .int (rw m).g])] S := by
      simp -implicitDefEqProofs [M._law_effect_1, q]
    obtain ⟨k', c', ih⟩ := leff_loop hr hw w S ms (u + (rw m).f) (v + (rw m).g) (some (.int m)) (some (.tup [.int (rw m).s, .int (rw m).t, .int (rw m).f, .int (rw m).g])) (fun y hy => hm y (List.mem_cons_of_mem _ hy))
    refine ⟨k', c', ?_⟩
    have e1 : loopF it (gNm 4) (M._law_effect_1 e) ((m :: ms).map D.int) [some (.tup [.int r, .tup ss, .tup ts]), some w, some (.int u), some (.int v), k, c] S = (M._law_effect_1 e [some (.tup [.int r, .tup ss, .tup ts]), some w, some (.int u), some (.int v), some (.int m), c] S).turn (loopF it (gNm 4) (M._law_effect_1 e) (ms.map .int)) := loop_cons (by rw [hw]; trivial) rfl
    rw [e1, b, RS.turn_nx]
    exact ih
theorem effect_of_eq (hr : Rows e r ss ts rw) (ms : List Int) (hm : ∀ m ∈ ms, InR ss ts m) (S : Sto) : M.effect_of e [.tup [.int r, .tup ss, .tup ts], .tup (ms.map .int)] S = .ok (.tup [.int (sumF rw ms 0), .int (sumG rw ms 0)]) S := by
  obtain ⟨k', c', q⟩ := eff_loop hr (it := ⟨ms.map .int, none⟩) rfl (.tup (ms.map .int)) S ms 0 0 none none hm
  simp -implicitDefEqProofs [M.effect_of, M.b_effect_of, sFor, iSeq, q]
theorem leffect_eq (hr : Rows e r ss ts rw) (ms : List Int) (hm : ∀ m ∈ ms, InR ss ts m) (S : Sto) : M._law_effect e [.tup [.int r, .tup ss, .tup ts], .tup (ms.map .int)] S = .ok (.tup [.int (sumF rw ms 0), .int (sumG rw ms 0)]) S := by
  obtain ⟨k', c', q⟩ := leff_loop hr (it := ⟨ms.map .int, none⟩) rfl (.tup (ms.map .int)) S ms 0 0 none none hm
  simp -implicitDefEqProofs [M._law_effect, M.b__law_effect, sFor, iSeq, q]
/-! needs -/
def jD : Option Int → D
  | some j => .int j
  | none => .non
theorem max2 (x y : Int) (S : Sto) : cMax2 [.int x, .int y] S = some (.int (max x y)) := by
  show some (D.int (if y > x then y else x)) = _
  by_cases h : y > x
  · rw [if_pos h, show max x y = y by omega]
  · rw [if_neg h, show max x y = x by omega]
theorem min2 (x y : Int) (S : Sto) : cMin2 [.int x, .int y] S = some (.int (min x y)) := by
  show some (D.int (if y < x then y else x)) = _
  by_cases h : y < x
  · rw [if_pos h, show min x y = y by omega]
  · rw [if_neg h, show min x y = x by omega]
theorem need_body (hr : Rows e r ss ts rw) {m : Int} (hm : InR ss ts m) (w : D) (st : NS) (c : Option D) (S : Sto) : ∃ c', M.need_of_1 e [some (.tup [.int r, .tup ss, .tup ts]), some w, some (.int st.first), some (.int st.second), some (.int st.least), some (.int st.other), some (jD st.just), some (.int m), c] S =
    match stepN (rw m) st with
    | some st' => .nx [some (.tup [.int r, .tup ss, .tup ts]), some w, some (.int st'.first), some (.int st'.second), some (.int st'.least), some (.int st'.other), some (jD st'.just), some (.int m), c'] S
    | none => .rt .non S := by
  have q1 := (hr m hm).tst S
  have q2 := (hr m hm).chg S
  obtain ⟨fi, se, le, ot, ju⟩ := st
  unfold stepN
  cases ht : (rw m).tst with
  | true =>
    rw [ht] at q1
    cases ju with
    | none =>
      refine ⟨c, ?_⟩
      simp -implicitDefEqProofs [M.need_of_1, q1, jD]
    | some j =>
      refine ⟨c, ?_⟩
      by_cases h : j = -fi
      · subst h
        simp -implicitDefEqProofs [M.need_of_1, q1, jD, show dIsNot (.int (-fi)) .non S = some (.bl true) from rfl]
      · simp -implicitDefEqProofs [M.need_of_1, q1, jD, h, show dIsNot (.int j) .non S = some (.bl true) from rfl]
  | false =>
    rw [ht] at q1
    refine ⟨some (.tup [.int (rw m).f, .int (rw m).g]), ?_⟩
    simp -implicitDefEqProofs [M.need_of_1, q1, q2, dI, max2]
theorem need_loop (hr : Rows e r ss ts rw) {it : Items} (hw : it.w = none) (w : D) (S : Sto) : ∀ (ms : List Int) (st : NS) (k c : Option D), (∀ m ∈ ms, InR ss ts m) →
    ∃ k' c', loopF it (gNm 7) (M.need_of_1 e) (ms.map .int) [some (.tup [.int r, .tup ss, .tup ts]), some w, some (.int st.first), some (.int st.second), some (.int st.least), some (.int st.other), some (jD st.just), k, c] S =
      match foldN rw ms st with
      | some st' => .nx [some (.tup [.int r, .tup ss, .tup ts]), some w, some (.int st'.first), some (.int st'.second), some (.int st'.least), some (.int st'.other), some (jD st'.just), k', c'] S
      | none => .rt .non S
  | [], st, k, c, _ => ⟨k, c, loop_nil (by rw [hw]; trivial)⟩
  | m :: ms, st, k, c, hm => by
    obtain ⟨c1, b⟩ := need_body hr (hm m List.mem_cons_self) w st c S
    have e1 : loopF it (gNm 7) (M.need_of_1 e) ((m :: ms).map D.int) [some (.tup [.int r, .tup ss, .tup ts]), some w, some (.int st.first), some (.int st.second), some (.int st.least), some (.int st.other), some (jD st.just), k, c] S = (M.need_of_1 e [some (.tup [.int r, .tup ss, .tup ts]), some w, some (.int st.first), some (.int st.second), some (.int st.least), some (.int st.other), some (jD st.just), some (.int m), c] S).turn (loopF it (gNm 7) (M.need_of_1 e) (ms.map .int)) := loop_cons (by rw [hw]; trivial) rfl
    cases h : stepN (rw m) st with
    | none =>
      rw [h] at b
      refine ⟨k, c, ?_⟩
      rw [e1, b]
      simp only [foldN, h]
      rfl
    | some st' =>
      rw [h] at b
      obtain ⟨k', c', ih⟩ := need_loop hr hw w S ms st' (some (.int m)) c1 (fun y hy => hm y (List.mem_cons_of_mem _ hy))
      refine ⟨k', c', ?_⟩
      rw [e1, b, RS.turn_nx, ih]
      simp only [foldN, h]
def ndD : Option (Int × Int × Bool) → D
  | some (p, q, k) => .tup [.int p, .int q, .bl k]
  | none => .non
theorem need_of_eq (hr : Rows e r ss ts rw) (ms : List Int) (hm : ∀ m ∈ ms, InR ss ts m) (S : Sto) : M.need_of e [.tup [.int r, .tup ss, .tup ts], .tup (ms.map .int)] S = .ok (ndD (needR rw ms)) S := by
  obtain ⟨k', c', q⟩ := need_loop hr (it := ⟨ms.map .int, none⟩) rfl (.tup (ms.map .int)) S ms ns0 none none hm
  have q' : loopF ⟨ms.map .int, none⟩ (gNm 7) (M.need_of_1 e) (ms.map .int) [some (.tup [.int r, .tup ss, .tup ts]), some (.tup (ms.map .int)), some (.int 0), some (.int 0), some (.int 0), some (.int 0), some .non, none, none] S = _ := q
  unfold needR
  cases h : foldN rw ms ns0 with
  | none =>
    rw [h] at q'
    simp -implicitDefEqProofs [M.need_of, M.b_need_of, sFor, iSeq, q', ndD]
  | some st =>
    rw [h] at q'
    obtain ⟨fi, se, le, ot, ju⟩ := st
    cases ju with
    | none => simp -implicitDefEqProofs [M.need_of, M.b_need_of, sFor, iSeq, q', jD, ndD]
    | some j =>
      have hj : ∀ S, dIs (.int j) .non S = some (.bl false) := fun _ => rfl
      by_cases c : j < le
      · simp -implicitDefEqProofs [M.need_of, M.b_need_of, sFor, iSeq, q', jD, hj, c, ndD]
      · simp -implicitDefEqProofs [M.need_of, M.b_need_of, sFor, iSeq, q', jD, hj, c, ndD]
end
end DL
end

section
set_option Elab.async false
set_option linter.all false
set_option maxRecDepth 100000
set_option maxHeartbeats 2000000
namespace Nd
/-! the law's need, plainly -/
structure LS where
  first : Int
  second : Int
  l0 : Int
  l1 : Int
  wt : List Int
def stepL (w : Rw) (L : LS) : LS := ⟨L.first + w.f, L.second + w.g, min L.l0 (L.first + w.f), min L.l1 (L.second + w.g), if w.tst = true then L.wt ++ [-L.first] else L.wt⟩
def foldL (rw : Int → Rw) : List Int → LS → LS
  | [], L => L
  | m :: ms, L => foldL rw ms (stepL (rw m) L)
structure Rel (st : NS) (L : LS) : Prop where
  a : L.first = st.first
  b : L.second = st.second
  c : L.l0 = -st.least
  d : L.l1 = -st.other
  w : match st.just with
    | none => L.wt = []
    | some j => L.wt ≠ [] ∧ ∀ x ∈ L.wt, x = j
  i : -st.first ≤ st.least
  k : -st.second ≤ st.other
def two (wt : List Int) : Prop := ∃ x ∈ wt, ∃ y ∈ wt, x ≠ y
theorem two_step {w : Rw} {L : LS} (h : two L.wt) : two (stepL w L).wt := by
  obtain ⟨x, hx, y, hy, n⟩ := h
  unfold stepL
  simp only
  split
  · exact ⟨x, List.mem_append_left _ hx, y, List.mem_append_left _ hy, n⟩
  · exact ⟨x, hx, y, hy, n⟩
theorem two_fold {rw : Int → Rw} : ∀ {ms : List Int} {L : LS}, two L.wt → two (foldL rw ms L).wt
  | [], L, h => h
  | m :: ms, L, h => two_fold (ms := ms) (two_step h)
theorem rel_step {w : Rw} {st : NS} {L : LS} (hz : w.tst = true → w.f = 0 ∧ w.g = 0) (h : Rel st L) : match stepN w st with
    | some st' => Rel st' (stepL w L)
    | none => two (stepL w L).wt := by
  obtain ⟨fi, se, le, ot, ju⟩ := st
  obtain ⟨lf, ls, l0, l1, wt⟩ := L
  obtain ⟨a, b, c, d, hw, i, k⟩ := h
  simp only at a b c d hw i k
  subst a b c d
  unfold stepN stepL
  cases ht : w.tst with
  | true =>
    obtain ⟨z1, z2⟩ := hz ht
    have m1 : min (-le) (lf + 0) = -le := by omega
    have m2 : min (-ot) (ls + 0) = -ot := by omega
    cases ju with
    | none =>
      simp only at hw
      subst hw
      simp only [if_true, z1, z2, m1, m2]
      exact ⟨by simp, by simp, rfl, rfl, by simp, i, k⟩
    | some j =>
      simp only at hw
      by_cases e : j = -lf
      · subst e
        simp only [if_true, ne_eq, not_true, if_false, z1, z2, m1, m2]
        refine ⟨by simp, by simp, rfl, rfl, ⟨by simp, fun x hx => ?_⟩, i, k⟩
        rcases List.mem_append.mp hx with hx | hx
        · exact hw.2 x hx
        · exact List.mem_singleton.mp hx
      · simp only [if_true, ne_eq, e, not_false_eq_true]
        cases wt with
        | nil => exact absurd rfl hw.1
        | cons y wt =>
          have := hw.2 y List.mem_cons_self
          exact ⟨y, List.mem_append_left _ List.mem_cons_self, -lf, List.mem_append_right _ List.mem_cons_self, by rw [this]; exact e⟩
  | false =>
    simp only [Bool.false_eq_true, if_false]
    refine ⟨rfl, rfl, ?_, ?_, hw, ?_, ?_⟩
    · show min (-le) (lf + w.f) = -(max le (-(lf + w.f))); omega
    · show min (-ot) (ls + w.g) = -(max ot (-(ls + w.g))); omega
    · show -(lf + w.f) ≤ max le (-(lf + w.f)); omega
    · show -(ls + w.g) ≤ max ot (-(ls + w.g)); omega
theorem rel_fold {rw : Int → Rw} : ∀ {ms : List Int} {st : NS} {L : LS}, (∀ m ∈ ms, (rw m).tst = true → (rw m).f = 0 ∧ (rw m).g = 0) → Rel st L → match foldN rw ms st with
    | some st' => Rel st' (foldL rw ms L)
    | none => two (foldL rw ms L).wt
  | [], st, L, _, h => h
  | m :: ms, st, L, hz, h => by
    have h1 := rel_step (hz m List.mem_cons_self) h
    unfold foldN foldL
    cases e : stepN (rw m) st with
    | none =>
      rw [e] at h1
      exact two_fold h1
    | some st' =>
      rw [e] at h1
      exact rel_fold (fun y hy => hz y (List.mem_cons_of_mem _ hy)) h1
def ls0 : LS := ⟨0, 0, 0, 0, []⟩
/-- the law's answer -/
def needL (rw : Int → Rw) (ms : List Int) : Option (Int × Int × Bool) := match (foldL rw ms ls0).wt with
  | [] => some (-(foldL rw ms ls0).l0, -(foldL rw ms ls0).l1, false)
  | j :: wt => if ¬ (j :: wt) = List.replicate (wt.length + 1) j ∨ j + (foldL rw ms ls0).l0 < 0 then none else some (j, -(foldL rw ms ls0).l1, true)
theorem need_same {rw : Int → Rw} {ms : List Int} (hz : ∀ m ∈ ms, (rw m).tst = true → (rw m).f = 0 ∧ (rw m).g = 0) : needL rw ms = needR rw ms := by
  have h := rel_fold (st := ns0) (L := ls0) hz ⟨rfl, rfl, rfl, rfl, rfl, by decide, by decide⟩
  unfold needL needR
  cases e : foldN rw ms ns0 with
  | none =>
    rw [e] at h
    obtain ⟨x, hx, y, hy, n⟩ := h
    cases hw : (foldL rw ms ls0).wt with
    | nil => rw [hw] at hx; cases hx
    | cons j wt =>
      simp only
      rw [if_pos]
      left
      intro q
      rw [hw, q] at hx hy
      exact n ((List.mem_replicate.mp hx).2.trans (List.mem_replicate.mp hy).2.symm)
  | some st =>
    rw [e] at h
    obtain ⟨fi, se, le, ot, ju⟩ := st
    obtain ⟨a, b, c, d, w, i, k⟩ := h
    simp only at a b c d w i k
    cases ju with
    | none =>
      simp only at w
      rw [w, c, d]
      simp
    | some j =>
      simp only at w
      cases hw : (foldL rw ms ls0).wt with
      | nil => exact absurd hw w.1
      | cons j' wt =>
        rw [hw] at w
        have hj : j' = j := w.2 j' List.mem_cons_self
        subst hj
        have hr : j' :: wt = List.replicate (wt.length + 1) j' := List.eq_replicate_iff.mpr ⟨by simp, w.2⟩
        simp only [c, d]
        by_cases z : j' < le
        · rw [if_pos (.inr (by omega)), if_pos z]
        · rw [if_neg (by rintro (q | q); exact q hr; omega), if_neg z]
          simp
end Nd
end

section
set_option Elab.async false
set_option linter.all false
set_option maxRecDepth 100000
set_option maxHeartbeats 2000000
namespace DL
open PySem L2 Nd
theorem at_last {S : Sto} {o : SO} : (S ++ [o])[S.length]? = some o := by simp
theorem v_mulLst {x : D} {n : Nat} {S : Sto} (h : n ≤ 100000) : dMul (.lst [x]) (.int (n : Int)) S = some (.lst (List.replicate n x)) := by
  show ((none : Option D).or ((none : Option D).or (if -(9223372036854775808) ≤ (n : Int) ∧ (n : Int) < 9223372036854775808 ∧ [x].length * (n : Int).toNat ≤ BIG then some (D.lst (List.replicate (n : Int).toNat [x]).flatten) else none))) = _
  have hb : n ≤ BIG := big_ok h
  rw [if_pos ⟨by omega, by omega, by simpa using hb⟩, show (n : Int).toNat = n by omega, Ka.flat1]
  rfl
theorem toPys_ints (vs : List Int) : toPys (vs.map D.int) = some (vs.map PyData.int) := by
  induction vs with
  | nil => rfl
  | cons v vs ih => simp only [List.map_cons, toPys, toPy, ih]; rfl
theorem lay_ints (vs : List Int) : PyData.canLayAll0 (vs.map PyData.int) = true := by
  induction vs with
  | nil => rfl
  | cons v vs ih => simp only [List.map_cons, PyData.canLayAll0, PyData.canLay0, ih, Bool.and_self]
theorem dep_ints (vs : List Int) : PyData.depthAll (vs.map PyData.int) = 0 := by
  induction vs with
  | nil => rfl
  | cons v vs ih => simp only [List.map_cons, PyData.depthAll, PyData.depth, ih]; rfl
theorem eqv_ints : ∀ (vs ws : List Int), PyData.eqvAll (vs.map PyData.int) (ws.map PyData.int) = decide (vs = ws)
  | [], [] => rfl
  | [], w :: ws => by simp [PyData.eqvAll]
  | v :: vs, [] => by simp [PyData.eqvAll]
  | v :: vs, w :: ws => by
    simp only [List.map_cons, PyData.eqvAll, eqv_ints vs ws, eqv_ii]
    by_cases h : v = w
    · by_cases h2 : vs = ws
      · simp [h, h2]
      · simp [h, h2]
    · simp [h]
theorem shaped_ints (vs : List Int) : SeqAt.shaped (.list (vs.map PyData.int)) = true := by
  unfold SeqAt.shaped
  simp [PyData.canLay0, lay_ints, PyData.depth, dep_ints]
theorem neE_ref {S : Sto} {n : Nat} {wt vs : List Int} (h : S[n]? = some (.lst (wt.map .int))) : dNeE (.ref n) (.lst (vs.map .int)) S = some (.bl (!decide (wt = vs))) := by
  have e1 : toPyR (.ref n) S = some (.list (wt.map PyData.int)) := by
    show (((match S[n]? with | some (.lst xs) => some xs | _ => none) : Option (List D)).bind toPys).map PyData.list = _
    rw [h]
    simp only [Option.bind_some, toPys_ints, Option.map_some]
  have e2 : toPyR (.lst (vs.map .int)) S = some (.list (vs.map PyData.int)) := by
    show toPy (.lst (vs.map .int)) = _
    simp [toPy, toPys_ints]
  have e3 : dNe (.ref n) (.lst (vs.map .int)) S = none := rfl
  unfold dNeE
  rw [e3]
  show dNeR _ _ S = _
  unfold dNeR
  rw [e1, e2]
  simp only [Option.bind_some, shaped_ints, and_self, if_true, PyData.eqv, eqv_ints]
section
variable {e : EX} {r : Int} {ss ts : List D} {rw : Int → Rw}
theorem lneed_body (hr : Rows e r ss ts rw) {m : Int} (hm : InR ss ts m) (w : D) (L : LS) (c : Option D) (S : Sto) (hl : L.wt.length < 100000) :
    M._law_need_1 e [some (.tup [.int r, .tup ss, .tup ts]), some w, some (.int L.first), some (.int L.second), some (.lst [.int L.l0, .int L.l1]), some (.ref S.length), some (.int m), c] (S ++ [.lst (L.wt.map .int)]) =
    .nx [some (.tup [.int r, .tup ss, .tup ts]), some w, some (.int (stepL (rw m) L).first), some (.int (stepL (rw m) L).second), some (.lst [.int (stepL (rw m) L).l0, .int (stepL (rw m) L).l1]), some (.ref S.length), some (.int m), some (.tup [.int (rw m).s, .int (rw m).t, .int (rw m).f, .int (rw m).g])] (S ++ [.lst ((stepL (rw m) L).wt.map .int)]) := by
  have q1 := fun S => (hr m hm).ends S
  have q2 := (hr m hm).ge
  obtain ⟨lf, ls, l0, l1, wt⟩ := L
  have hb : (wt.map D.int).length < BIG := big_lt (by simpa using hl)
  unfold stepL
  cases ht : (rw m).tst with
  | true =>
    rw [ht] at q2
    have q3 : (ss.length : Int) ≤ m := of_decide_eq_true q2
    simp -implicitDefEqProofs [M._law_need_1, q1, q3, ap_fM, lstOf_last, ap_mAppend hb, set_last, min2]
  | false =>
    rw [ht] at q2
    have q3 : ¬ (ss.length : Int) ≤ m := of_decide_eq_false q2
    simp -implicitDefEqProofs [M._law_need_1, q1, q3, min2]
theorem lneed_loop (hr : Rows e r ss ts rw) {it : Items} (hw : it.w = none) (w : D) (S : Sto) : ∀ (ms : List Int) (L : LS) (k c : Option D), (∀ m ∈ ms, InR ss ts m) → L.wt.length + ms.length < 100000 →
    ∃ k' c', loopF it (gNm 6) (M._law_need_1 e) (ms.map .int) [some (.tup [.int r, .tup ss, .tup ts]), some w, some (.int L.first), some (.int L.second), some (.lst [.int L.l0, .int L.l1]), some (.ref S.length), k, c] (S ++ [.lst (L.wt.map .int)]) =
      .nx [some (.tup [.int r, .tup ss, .tup ts]), some w, some (.int (foldL rw ms L).first), some (.int (foldL rw ms L).second), some (.lst [.int (foldL rw ms L).l0, .int (foldL rw ms L).l1]), some (.ref S.length), k', c'] (S ++ [.lst ((foldL rw ms L).wt.map .int)]) ∧ (foldL rw ms L).wt.length ≤ L.wt.length + ms.length
  | [], L, k, c, _, _ => ⟨k, c, loop_nil (by rw [hw]; trivial), by simp [foldL]⟩
  | m :: ms, L, k, c, hm, hl => by
    have b := lneed_body hr (hm m List.mem_cons_self) w L c S (by simp at hl; omega)
    have e1 : loopF it (gNm 6) (M._law_need_1 e) ((m :: ms).map D.int) [some (.tup [.int r, .tup ss, .tup ts]), some w, some (.int L.first), some (.int L.second), some (.lst [.int L.l0, .int L.l1]), some (.ref S.length), k, c] (S ++ [.lst (L.wt.map .int)]) = (M._law_need_1 e [some (.tup [.int r, .tup ss, .tup ts]), some w, some (.int L.first), some (.int L.second), some (.lst [.int L.l0, .int L.l1]), some (.ref S.length), some (.int m), c] (S ++ [.lst (L.wt.map .int)])).turn (loopF it (gNm 6) (M._law_need_1 e) (ms.map .int)) := loop_cons (by rw [hw]; trivial) rfl
    have l1 : (stepL (rw m) L).wt.length ≤ L.wt.length + 1 := by
      unfold stepL; simp only; split <;> simp
    obtain ⟨k', c', ih, l2⟩ := lneed_loop hr hw w S ms (stepL (rw m) L) (some (.int m)) (some (.tup [.int (rw m).s, .int (rw m).t, .int (rw m).f, .int (rw m).g])) (fun y hy => hm y (List.mem_cons_of_mem _ hy)) (by simp at hl; omega)
    refine ⟨k', c', ?_, ?_⟩
    · rw [e1, b, RS.turn_nx]
      exact ih
    · simp only [foldL, List.length_cons]; omega
theorem lneed_eq (hr : Rows e r ss ts rw) (ms : List Int) (hm : ∀ m ∈ ms, InR ss ts m) (hl : ms.length < 90000) (S : Sto) (hc : cleanS S.length S = true) : M._law_need e [.tup [.int r, .tup ss, .tup ts], .tup (ms.map .int)] S = .ok (ndD (needR rw ms)) S := by
  rw [← need_same (rw := rw) (ms := ms) fun m hm' => (hr m (hm m hm')).z]
  obtain ⟨k', c', q, lw⟩ := lneed_loop hr (it := ⟨ms.map .int, none⟩) rfl (.tup (ms.map .int)) S ms ls0 none none hm (by simpa [ls0] using Nat.lt_trans hl (by decide))
  have q' : loopF ⟨ms.map .int, none⟩ (gNm 6) (M._law_need_1 e) (ms.map .int) [some (.tup [.int r, .tup ss, .tup ts]), some (.tup (ms.map .int)), some (.int 0), some (.int 0), some (.lst [.int 0, .int 0]), some (.ref S.length), none, none] (S ++ [.lst []]) = _ := q
  have lw' : (foldL rw ms ls0).wt.length ≤ 90000 := by
    have : ls0.wt.length = 0 := rfl
    omega
  obtain ⟨Lr, hL⟩ : ∃ Lr, foldL rw ms ls0 = Lr := ⟨_, rfl⟩
  obtain ⟨lf, ls, l0, l1, wt⟩ := Lr
  rw [hL] at q' lw'
  unfold needL
  rw [hL]
  have at1 : ∀ xs : List D, (S ++ [SO.lst xs])[S.length]? = some (.lst xs) := fun _ => at_last
  cases wt with
  | nil =>
    have ln := len_ref (at1 (([] : List Int).map D.int))
    have lg : ∀ T, letGo S.length (.tup [.int (-l0), .int (-l1), .bl false]) T = some (.tup [.int (-l0), .int (-l1), .bl false]) := fun T => letGo_plain rfl
    simp only [List.map_nil] at q' ln
    simp -implicitDefEqProofs [M._law_need, M.b__law_need, frz, sFor, iSeq, q', ln, hc, lg, ndD]
  | cons j wt =>
    have ln := len_ref (at1 ((j :: wt).map D.int))
    have ix := ix_ref (i := 0) (at1 ((j :: wt).map D.int))
    have mu : ∀ T, dMul (.lst [.int j]) (.int (((j :: wt).map D.int).length : Int)) T = some (.lst ((List.replicate (wt.length + 1) j).map .int)) := fun T => by
      rw [v_mulLst (by simp at lw' ⊢; omega)]
      simp
    have ne := neE_ref (vs := List.replicate (wt.length + 1) j) (at1 ((j :: wt).map D.int))
    obtain ⟨W, hW⟩ : ∃ W, (j :: wt).map D.int = W := ⟨_, rfl⟩
    have W0 : 0 < W.length := by rw [← hW]; simp
    have Wn : ¬ (W.length : Int) = 0 := by omega
    have a0 : atI W 0 = some (.int j) := by rw [← hW]; exact atI_0
    obtain ⟨V, hV⟩ : ∃ V, (List.replicate (wt.length + 1) j).map D.int = V := ⟨_, rfl⟩
    rw [hW] at q' ln ix ne
    simp only [hW, hV] at mu
    rw [hV] at ne
    rw [a0] at ix
    have Wz : W ≠ [] := fun z => by rw [z] at W0; cases W0
    by_cases c1 : (j :: wt) = List.replicate (wt.length + 1) j
    · rw [decide_eq_true c1] at ne
      by_cases c2 : j + l0 < 0
      · have lg : ∀ T, letGo S.length .non T = some .non := fun T => rfl
        simp only [c1, not_true, false_or, c2, if_true]
        simp -implicitDefEqProofs [M._law_need, M.b__law_need, frz, sFor, iSeq, q', ln, Wn, Wz, ix, mu, ne, c2, hc, lg, ndD]
      · have lg : ∀ T, letGo S.length (.tup [.int j, .int (-l1), .bl true]) T = some (.tup [.int j, .int (-l1), .bl true]) := fun T => letGo_plain rfl
        simp only [c1, not_true, false_or, c2, if_false]
        simp -implicitDefEqProofs [M._law_need, M.b__law_need, frz, sFor, iSeq, q', ln, Wn, Wz, ix, mu, ne, c2, hc, lg, ndD]
    · rw [decide_eq_false c1] at ne
      have lg : ∀ T, letGo S.length .non T = some .non := fun T => rfl
      simp only [c1, not_false_eq_true, true_or, if_true]
      simp -implicitDefEqProofs [M._law_need, M.b__law_need, frz, sFor, iSeq, q', ln, Wn, Wz, ix, mu, ne, hc, lg, ndD]
end
end DL
end

section
set_option Elab.async false
set_option linter.all false
set_option maxRecDepth 100000
set_option maxHeartbeats 1000000
namespace Kc
open PySem L2 DL
structure Own (e : EX) : Prop where
  pp : e.em (.ref (e.x .BadProgram)) (.ref (e.x .BadProgram)) = some true
  sp : e.em (.ref (e.x .BadStanding)) (.ref (e.x .BadProgram)) = some false
  ss : e.em (.ref (e.x .BadStanding)) (.ref (e.x .BadStanding)) = some true
  ap : e.em (.ref (e.x .BadArgument)) (.ref (e.x .BadProgram)) = some false
  as : e.em (.ref (e.x .BadArgument)) (.ref (e.x .BadStanding)) = some false
  aa : e.em (.ref (e.x .BadArgument)) (.ref (e.x .BadArgument)) = some true
section
variable {e : EX} {r : Int} {ss ts : List D} {Fm : Int → MvF}
/-- what a law's program and standing give -/
structure Ok (r : Int) (ss ts : List D) : Prop where
  P : Ka.Prg r ss ts
  hp : isProgB (.tup [.int r, .tup ss, .tup ts]) = true
  pp : DL.plain (.tup [.int r, .tup ss, .tup ts]) = true
theorem stand_ok {x a b : Int} (h : StOk r x a b) (r3 : r ≤ 3) : isStandB r (.tup [.int x, .int a, .int b]) = true := by
  obtain ⟨h1, h2, h3, h4⟩ := h
  have h5 : x ≤ 2 := by omega
  simp only [isStandB, isPlaceB, isIn, isNat, h1, h2, h3, h4, h5, decide_true, Bool.and_self]
theorem cs_ok (o : Ok r ss ts) {x a b : Int} (h : StOk r x a b) (S : Sto) : M.check_standing e [.tup [.int r, .tup ss, .tup ts], .tup [.int x, .int a, .int b]] S = .ok .non S := by
  have ck := check_standing_eq e (.tup [.int r, .tup ss, .tup ts]) (.tup [.int x, .int a, .int b]) S o.pp rfl
  rw [if_pos o.hp, if_pos (show isStandB (roomsOf (.tup [.int r, .tup ss, .tup ts])) _ = true from stand_ok h o.P.r3)] at ck
  exact ck
theorem ints_plain (ms : List Int) : ∀ d ∈ ms.map D.int, DL.plain d = true := fun d hd => by
  obtain ⟨m, _, rfl⟩ := List.mem_map.mp hd
  rfl
theorem cw_ok (ms : List Int) (hm : ∀ m ∈ ms, InR ss ts m) (S : Sto) : M.check_word e [.tup [.int r, .tup ss, .tup ts], .tup (ms.map .int)] S = .ok .non S := by
  rw [check_word_eq (.int r) (ms.map .int) S (ints_plain ms), if_pos]
  refine List.all_eq_true.mpr fun d hd => ?_
  obtain ⟨m, h, rfl⟩ := List.mem_map.mp hd
  exact isMvB_int (hm m h)
theorem make_ok (o : Ok r ss ts) (h : Mvs e r ss ts Fm) {x a b : Int} (hst : StOk r x a b) (m : Int) (hm : InR ss ts m) (S : Sto) : M.make e [.tup [.int r, .tup ss, .tup ts], .tup [.int x, .int a, .int b], .int m] S = .ok (stD ((Fm m).nx x a b)) S := by
  have q1 := cs_ok (e := e) o hst S
  have q2 := is_move_eq (e := e) ss ts (.int r) (.int m) S rfl
  rw [isMvB_int hm] at q2
  have q3 := h.made m hm.1 hm.2 x a b S
  simp -implicitDefEqProofs [M.make, M.b_make, q1, q2, q3]
theorem play_ok (o : Ok r ss ts) (h : Mvs e r ss ts Fm) {x a b : Int} (hst : StOk r x a b) (ms : List Int) (hm : ∀ m ∈ ms, InR ss ts m) (S : Sto) : M.play e [.tup [.int r, .tup ss, .tup ts], .tup [.int x, .int a, .int b], .tup (ms.map .int)] S = .ok (stD (plays Fm ms (some (x, a, b)))) S := by
  have q1 := cs_ok (e := e) o hst S
  have q2 := cw_ok (e := e) (r := r) ms hm S
  have q3 := played_eq h ms hm x a b S
  simp -implicitDefEqProofs [M.play, M.b_play, q1, q2, q3]
/-! errors -/
theorem err_word (ow : Own e) (o : Ok r ss ts) {x a b : Int} (hst : StOk r x a b) (ws : List D) (hp : ∀ d ∈ ws, DL.plain d = true) (hw : ws.all (isMvB ss ts) = false) (S : Sto) : M._law_error e [.tup [.int r, .tup ss, .tup ts], .tup [.int x, .int a, .int b], .tup ws] S = .ok (.str "argument") S := by
  have q1 := cs_ok (e := e) o hst S
  have q2 := check_word_eq (e := e) (ss := ss) (ts := ts) (.int r) ws S hp
  rw [hw] at q2
  simp -implicitDefEqProofs [M._law_error, M.b__law_error, M.play, M.b_play, q1, q2, ow.ap, ow.as, ow.aa]
theorem err_make (ow : Own e) (o : Ok r ss ts) {x a b : Int} (hst : StOk r x a b) (d : D) (hp : DL.plain d = true) (hw : isMvB ss ts d = false) (S : Sto) : M._law_error_of_make e [.tup [.int r, .tup ss, .tup ts], .tup [.int x, .int a, .int b], d] S = .ok (.str "argument") S := by
  have q1 := cs_ok (e := e) o hst S
  have q2 := is_move_eq (e := e) ss ts (.int r) d S hp
  rw [hw] at q2
  simp -implicitDefEqProofs [M._law_error_of_make, M.b__law_error_of_make, M.make, M.b_make, q1, q2, ow.ap, ow.as, ow.aa]
theorem err_st (ow : Own e) (o : Ok r ss ts) (st d : D) (hp : DL.plain st = true) (hs : isStandB r st = false) (S : Sto) : M._law_error e [.tup [.int r, .tup ss, .tup ts], st, d] S = .ok (.str "standing") S ∧ M._law_error_of_make e [.tup [.int r, .tup ss, .tup ts], st, d] S = .ok (.str "standing") S := by
  have ck := check_standing_eq e (.tup [.int r, .tup ss, .tup ts]) st S o.pp hp
  rw [if_pos o.hp, if_neg (show ¬ isStandB (roomsOf (.tup [.int r, .tup ss, .tup ts])) st = true by rw [show roomsOf (.tup [.int r, .tup ss, .tup ts]) = r from rfl, hs]; decide)] at ck
  constructor
  · simp -implicitDefEqProofs [M._law_error, M.b__law_error, M.play, M.b_play, ck, ow.sp, ow.ss]
  · simp -implicitDefEqProofs [M._law_error_of_make, M.b__law_error_of_make, M.make, M.b_make, ck, ow.sp, ow.ss]
theorem err_pr (ow : Own e) (p st d : D) (hp : DL.plain p = true) (hs : DL.plain st = true) (hb : isProgB p = false) (S : Sto) : M._law_error e [p, st, d] S = .ok (.str "program") S ∧ M._law_error_of_make e [p, st, d] S = .ok (.str "program") S := by
  have ck := check_standing_eq e p st S hp hs
  rw [if_neg (by rw [hb]; decide)] at ck
  constructor
  · simp -implicitDefEqProofs [M._law_error, M.b__law_error, M.play, M.b_play, ck, ow.pp]
  · simp -implicitDefEqProofs [M._law_error_of_make, M.b__law_error_of_make, M.make, M.b_make, ck, ow.pp]
/-! runs -/
theorem nx_ok (h : Mvs e r ss ts Fm) {x a b : Int} (hst : StOk r x a b) {m : Int} (hm : InR ss ts m) {x' a' b' : Int} (hn : (Fm m).nx x a b = some (x', a', b')) : StOk r x' a' b' := by
  unfold MvF.nx at hn
  split at hn
  · obtain ⟨p, hp, e1⟩ := Option.map_eq_some_iff.mp hn
    obtain ⟨a1, b1⟩ := p
    cases e1
    have q := h.nn m hm.1 hm.2 a b _ _ hst.2.2.1 hst.2.2.2 hp
    have t := h.t m hm.1 hm.2
    exact ⟨t.1, t.2, q.1, q.2⟩
  · cases hn
def RunI (e : EX) (r : Int) (ss ts : List D) (ns : List Int) (R : Sto) (i : Nat) (σ : En) (T : Sto) : Prop := ∃ (x a b : Int) (ws : List Int) (v4 v5 : Option D) (k : Nat), σ = [some (.ref 0), some (.tup [.int r, .tup ss, .tup ts]), some (.tup [.int x, .int a, .int b]), some (.tup (ws.map .int)), v4, v5] ∧ T = DN ns k ++ R ∧ StOk r x a b ∧ (∀ m ∈ ws, InR ss ts m) ∧ ws.length ≤ i
theorem run_eq (o : Ok r ss ts) (h : Mvs e r ss ts Fm) (ns : List Int) (k : Nat) (R : Sto) {x a b : Int} (hst : StOk r x a b) : ∃ (ws : List Int) (k' : Nat), (∀ m ∈ ws, InR ss ts m) ∧ ws.length ≤ 12 ∧
    M._law_run e [.ref 0, .tup [.int r, .tup ss, .tup ts], .tup [.int x, .int a, .int b]] (DN ns k ++ R) = .ok (.tup (ws.map .int)) (DN ns k' ++ R) := by
  obtain ⟨n, hn⟩ : ∃ n : Nat, dr ns k % 13 = (n : Int) := ⟨(dr ns k % 13).toNat, by omega⟩
  have n12 : n ≤ 12 := by omega
  have i62 : in62 (n : Int) = true := in62_nat (by omega)
  have L := loop_ok (it := ⟨rgD 0 (n : Int), none⟩) (gt := gNm 4) (g := M._law_run_1 e) rfl (RunI e r ss ts ns R) (rgD 0 (n : Int)) 0 [some (.ref 0), some (.tup [.int r, .tup ss, .tup ts]), some (.tup [.int x, .int a, .int b]), some (.tup []), none, none] (DN ns (k + 1) ++ R)
    ⟨x, a, b, [], none, none, k + 1, rfl, rfl, hst, by simp, by simp⟩ (by
      rintro j d σ T ed ⟨x, a, b, ws, v4, v5, k, rfl, rfl, hst, hw, hl⟩
      have hj : j < n := by
        have := (List.getElem?_eq_some_iff.mp ed).1
        rwa [rgD_len] at this
      have la := lable_eq h o.P x a b (DN ns k ++ R)
      obtain ⟨cs, hcs⟩ : ∃ cs, can Fm (ss.length + ts.length) x a b = cs := ⟨_, rfl⟩
      rw [hcs] at la
      by_cases c0 : cs.length = 0
      · have : cs = [] := List.eq_nil_of_length_eq_zero c0
        subst this
        refine ⟨_, _, _, rfl, ?_, x, a, b, ws, some d, some (.lst []), k, rfl, rfl, hst, hw, by omega⟩
        simp -implicitDefEqProofs [M._law_run_1, la]
      · have c1 : 0 < cs.length := by omega
        have c2 : (0 : Int) < cs.length := by omega
        obtain ⟨v, hv, ev⟩ := atI_pick (cs.map D.int) (dr ns k) cs.length (by simp) c1
        obtain ⟨m, hm, rfl⟩ := List.mem_map.mp hv
        rw [← hcs] at hm
        have hmr : InR ss ts m := rgI_inR (List.mem_filter.mp hm).1
        have hok : okM Fm x a b m = true := (List.mem_filter.mp hm).2
        have lm := h.make m hmr.1 hmr.2 x a b (DN ns (k + 1) ++ R)
        cases hn : (Fm m).nx x a b with
        | none => unfold okM at hok; rw [hn] at hok; cases hok
        | some st =>
          obtain ⟨x', a', b'⟩ := st
          rw [hn] at lm
          have lm' : M._law_make e [.tup [.int r, .tup ss, .tup ts], .tup [.int x, .int a, .int b], .int m] (DN ns (k + 1) ++ R) = .ok (.tup [.int x', .int a', .int b']) (DN ns (k + 1) ++ R) := lm
          have ad : ∀ S, dAdd (.tup (ws.map D.int)) (.tup [.int m]) S = some (.tup (ws.map D.int ++ [.int m])) := fun S => v_addT (by simp; omega)
          have ix : atI (ws.map D.int ++ [D.int m]) (ws.length : Int) = some (.int m) := by
            apply atI_nat
            simp
          refine ⟨_, _, _, rfl, ?_, x', a', b', ws ++ [m], some d, some (.lst (cs.map .int)), k + 1, rfl, rfl, nx_ok h hst hmr hn, ?_, by simp; omega⟩
          · simp -implicitDefEqProofs [M._law_run_1, la, c1, c2, ev, ad, ix, lm']
          · intro y hy
            rcases List.mem_append.mp hy with hy | hy
            · exact hw y hy
            · rw [List.mem_singleton.mp hy]; exact hmr)
  obtain ⟨σ', S', e1, x', a', b', ws, v4, v5, k', rfl, rfl, _, hw, hl⟩ := L
  rw [rgD_len] at hl
  refine ⟨ws, k', hw, by omega, ?_⟩
  simp -implicitDefEqProofs [M._law_run, M.b__law_run, hn, sFor, iRg1, i62, e1]
end
end Kc
end

section
set_option Elab.async false
set_option linter.all false
set_option maxRecDepth 100000
set_option maxHeartbeats 2000000
namespace Kd
open PySem L2 DL Nd
theorem atI_m1 {ms : List Int} (h : ms ≠ []) : atI (ms.map D.int) (-1) = some (.int (atM ms ((ms.length : Int) - 1))) := by
  have hl : 0 < ms.length := Nat.pos_of_ne_zero fun z => h (List.eq_nil_of_length_eq_zero z)
  have e1 : atI (ms.map D.int) (-1) = atI (ms.map D.int) ((ms.length : Int) - 1) := by
    unfold atI
    have a1 : ixN (ms.map D.int).length (-1) = some (ms.length - 1) := by
      unfold ixN
      rw [if_neg (by omega), if_pos (by simp; omega)]
      congr 1
      simp; omega
    have a2 : ixN (ms.map D.int).length ((ms.length : Int) - 1) = some (ms.length - 1) := by
      unfold ixN
      rw [if_pos (by omega), if_pos (by simp; omega)]
      congr 1
      omega
    rw [a1, a2]
  rw [e1, atI_M (by omega) (by omega)]
structure Own (e : EX) : Prop where
  aa : e.em (.ref (e.x .BadArgument)) (.ref (e.x .BadArgument)) = some true
section
variable {e : EX} {r : Int} {ss ts : List D} {Fm : Int → MvF} {rw : Int → Rw}
theorem cp_ok (o : Kc.Ok r ss ts) (S : Sto) : M.check_program e [.tup [.int r, .tup ss, .tup ts]] S = .ok .non S := by
  rw [check_program_eq e _ S o.pp, if_pos o.hp]
theorem is_walk_eq (o : Kc.Ok r ss ts) (hr : Rows e r ss ts rw) (ms : List Int) (hl : ms.length ≤ 1000000) (hm : ∀ m ∈ ms, InR ss ts m) (S : Sto) : M.is_walk e [.tup [.int r, .tup ss, .tup ts], .tup (ms.map .int)] S = .ok (.bl (walkB rw ms)) S := by
  have q1 := cp_ok (e := e) o S
  have q2 := Kc.cw_ok (e := e) (r := r) ms hm S
  have q3 := walks_eq hr ms hl hm S
  simp -implicitDefEqProofs [M.is_walk, M.b_is_walk, q1, q2, q3]
def ringB (rw : Int → Rw) (ms : List Int) : Bool := decide (0 < ms.length) && (walkB rw ms && decide ((rw (atM ms ((ms.length : Int) - 1))).t = (rw (atM ms 0)).s))
theorem is_ring_eq (o : Kc.Ok r ss ts) (hr : Rows e r ss ts rw) (ms : List Int) (hl : ms.length ≤ 1000000) (hm : ∀ m ∈ ms, InR ss ts m) (S : Sto) : M.is_ring e [.tup [.int r, .tup ss, .tup ts], .tup (ms.map .int)] S = .ok (.bl (ringB rw ms)) S := by
  have q1 := cp_ok (e := e) o S
  have q2 := Kc.cw_ok (e := e) (r := r) ms hm S
  have q3 := walks_eq hr ms hl hm S
  cases hs : ms with
  | nil =>
    subst hs
    simp only [List.map_nil] at q2
    simp -implicitDefEqProofs [M.is_ring, M.b_is_ring, M.rings, M.b_rings, q1, q2, ringB]
  | cons m0 ms0 =>
    rw [← hs]
    have ne : ms ≠ [] := by rw [hs]; exact List.cons_ne_nil _ _
    have hp : 0 < ms.length := by rw [hs]; simp
    have a1 := atI_m1 ne
    have a2 := atI_M (ms := ms) (j := 0) (by omega) (by omega)
    have t1 := (hr _ (hm _ (atM_mem (ms := ms) (j := (ms.length : Int) - 1) (by omega) (by omega)))).tgt S
    have s1 := (hr _ (hm _ (atM_mem (ms := ms) (j := 0) (by omega) (by omega)))).src S
    unfold ringB
    cases hw : walkB rw ms with
    | false =>
      rw [hw] at q3
      simp -implicitDefEqProofs [M.is_ring, M.b_is_ring, M.rings, M.b_rings, q1, q2, hp, q3]
    | true =>
      rw [hw] at q3
      simp -implicitDefEqProofs [M.is_ring, M.b_is_ring, M.rings, M.b_rings, q1, q2, hp, q3, a1, a2, t1, s1]
theorem lring_eq (hr : Rows e r ss ts rw) (ms : List Int) (hl : ms.length ≤ 1000000) (hm : ∀ m ∈ ms, InR ss ts m) (S : Sto) : M._law_is_ring e [.tup [.int r, .tup ss, .tup ts], .tup (ms.map .int)] S = .ok (.bl (ringB rw ms)) S := by
  have q3 := lwalk_eq hr ms hl hm S
  cases hs : ms with
  | nil => subst hs; simp -implicitDefEqProofs [M._law_is_ring, M.b__law_is_ring, ringB]
  | cons m0 ms0 =>
    rw [← hs]
    have ne : ms ≠ [] := by rw [hs]; exact List.cons_ne_nil _ _
    have hp : 0 < ms.length := by rw [hs]; simp
    have hn : ¬ (ms.length : Int) = 0 := by omega
    have a1 := atI_M (ms := ms) (j := (ms.length : Int) - 1) (by omega) (by omega)
    have a2 := atI_M (ms := ms) (j := 0) (by omega) (by omega)
    have t1 := (hr _ (hm _ (atM_mem (ms := ms) (j := (ms.length : Int) - 1) (by omega) (by omega)))).ends S
    have s1 := (hr _ (hm _ (atM_mem (ms := ms) (j := 0) (by omega) (by omega)))).ends S
    unfold ringB
    cases hw : walkB rw ms with
    | false =>
      rw [hw] at q3
      simp -implicitDefEqProofs [M._law_is_ring, M.b__law_is_ring, ne, hn, hp, q3]
    | true =>
      rw [hw] at q3
      by_cases c : (rw (atM ms 0)).s = (rw (atM ms ((ms.length : Int) - 1))).t
      · simp -implicitDefEqProofs [M._law_is_ring, M.b__law_is_ring, ne, hn, hp, q3, a1, a2, t1, s1, c]
      · have c' : ¬ (rw (atM ms ((ms.length : Int) - 1))).t = (rw (atM ms 0)).s := fun z => c z.symm
        simp -implicitDefEqProofs [M._law_is_ring, M.b__law_is_ring, ne, hn, hp, q3, a1, a2, t1, s1, c, c']
theorem effect_eq (o : Kc.Ok r ss ts) (hr : Rows e r ss ts rw) (ms : List Int) (hm : ∀ m ∈ ms, InR ss ts m) (S : Sto) : M.effect e [.tup [.int r, .tup ss, .tup ts], .tup (ms.map .int)] S = .ok (.tup [.int (sumF rw ms 0), .int (sumG rw ms 0)]) S := by
  have q1 := cp_ok (e := e) o S
  have q2 := Kc.cw_ok (e := e) (r := r) ms hm S
  have q3 := effect_of_eq hr ms hm S
  simp -implicitDefEqProofs [M.effect, M.b_effect, q1, q2, q3]
theorem need_eq (o : Kc.Ok r ss ts) (hr : Rows e r ss ts rw) (ms : List Int) (hl : ms.length ≤ 1000000) (hm : ∀ m ∈ ms, InR ss ts m) (S : Sto) : M.need e [.tup [.int r, .tup ss, .tup ts], .tup (ms.map .int)] S = if walkB rw ms = true then .ok (ndD (needR rw ms)) S else .raise (.ref (e.x .BadArgument)) S := by
  have q1 := cp_ok (e := e) o S
  have q2 := Kc.cw_ok (e := e) (r := r) ms hm S
  have q3 := walks_eq hr ms hl hm S
  have q4 := need_of_eq hr ms hm S
  cases hw : walkB rw ms <;> rw [hw] at q3 <;> simp -implicitDefEqProofs [M.need, M.b_need, q1, q2, q3, q4]
theorem refused_need (ow : Own e) (o : Kc.Ok r ss ts) (hr : Rows e r ss ts rw) (ms : List Int) (hl : ms.length ≤ 1000000) (hm : ∀ m ∈ ms, InR ss ts m) (hw : walkB rw ms = false) (S : Sto) : M._law_refused_v2 e [.str "need", .tup [.int r, .tup ss, .tup ts], .tup (ms.map .int)] S = .ok (.bl true) S := by
  have q := need_eq o hr ms hl hm S
  rw [if_neg (by rw [hw]; decide)] at q
  simp -implicitDefEqProofs [M._law_refused_v2, M.b__law_refused_v2, q, ow.aa]
theorem refused_bad (ow : Own e) (o : Kc.Ok r ss ts) (ws : List D) (hp : ∀ d ∈ ws, DL.plain d = true) (hw : ws.all (isMvB ss ts) = false) (nm : Str) (hn : nm = "effect" ∨ nm = "walk" ∨ nm = "ring" ∨ nm = "need") (S : Sto) : M._law_refused_v2 e [.str nm, .tup [.int r, .tup ss, .tup ts], .tup ws] S = .ok (.bl true) S := by
  have q1 := cp_ok (e := e) o S
  have q2 := check_word_eq (e := e) (ss := ss) (ts := ts) (.int r) ws S hp
  rw [hw] at q2
  rcases hn with rfl | rfl | rfl | rfl
  · simp -implicitDefEqProofs [M._law_refused_v2, M.b__law_refused_v2, M.effect, M.b_effect, q1, q2, ow.aa, show ¬ (Str.ofString "effect" = Str.ofString "need") by decide]
  · simp -implicitDefEqProofs [M._law_refused_v2, M.b__law_refused_v2, M.is_walk, M.b_is_walk, q1, q2, ow.aa, show ¬ (Str.ofString "walk" = Str.ofString "need") by decide, show ¬ (Str.ofString "walk" = Str.ofString "effect") by decide]
  · simp -implicitDefEqProofs [M._law_refused_v2, M.b__law_refused_v2, M.is_ring, M.b_is_ring, q1, q2, ow.aa, show ¬ (Str.ofString "ring" = Str.ofString "need") by decide, show ¬ (Str.ofString "ring" = Str.ofString "effect") by decide, show ¬ (Str.ofString "ring" = Str.ofString "walk") by decide]
  · simp -implicitDefEqProofs [M._law_refused_v2, M.b__law_refused_v2, M.need, M.b_need, q1, q2, ow.aa]
/-! the least standing -/
theorem p20 {S : Sto} : dPow (.int 10) (.int 20) S = some (.int 100000000000000000000) := by simp [dPow, dI]
theorem least_eq (o : Kc.Ok r ss ts) (h : Mvs e r ss ts Fm) (hr : Rows e r ss ts rw) (m0 : Int) (ms : List Int) (hm : ∀ m ∈ m0 :: ms, InR ss ts m) (hw : walkB rw (m0 :: ms) = true) {p q : Int} {k : Bool} (hn : needR rw (m0 :: ms) = some (p, q, k)) (S : Sto) :
    M._law_least e [.tup [.int r, .tup ss, .tup ts], .tup ((m0 :: ms).map .int), .tup [.int p, .int q, .bl k]] S = .ok (.bl true) S := by
  obtain ⟨p0, q0⟩ := need_nn hn
  have row := hr m0 (hm m0 List.mem_cons_self)
  have wf : walkF rw (m0 :: ms) (rw m0).s = true := by
    simp only [walkF, decide_true, Bool.true_and]
    rw [← walkB_F]; exact hw
  have cn : ∀ a b, 0 ≤ a → 0 ≤ b → ((playR rw (m0 :: ms) (some ((rw m0).s, a, b))).isSome = true ↔ (q ≤ b ∧ (if k = true then a = p else p ≤ a))) := fun a b ha hb => by
    rw [can_play wf ha hb, hn]
    constructor
    · rintro ⟨p', q', k', e1, e2, e3⟩
      cases e1
      exact ⟨e2, e3⟩
    · rintro ⟨e2, e3⟩
      exact ⟨p, q, k, rfl, e2, e3⟩
  have pl : ∀ a b, 0 ≤ a → 0 ≤ b → M.play e [.tup [.int r, .tup ss, .tup ts], .tup [.int (rw m0).s, .int a, .int b], .tup ((m0 :: ms).map .int)] S = .ok (stD (playR rw (m0 :: ms) (some ((rw m0).s, a, b)))) S := fun a b ha hb => by
    rw [Kc.play_ok o h ⟨row.sr.1, row.sr.2, ha, hb⟩ (m0 :: ms) hm S, plays_R h hr (m0 :: ms) _ hm]
  have tr : ∀ a b, 0 ≤ a → 0 ≤ b → (q ≤ b ∧ (if k = true then a = p else p ≤ a)) → (playR rw (m0 :: ms) (some ((rw m0).s, a, b))).isSome = true := fun a b ha hb z => (cn a b ha hb).mpr z
  have fa : ∀ a b, 0 ≤ a → 0 ≤ b → ¬ (q ≤ b ∧ (if k = true then a = p else p ≤ a)) → (playR rw (m0 :: ms) (some ((rw m0).s, a, b))).isSome = false := fun a b ha hb z => by
    cases hh : (playR rw (m0 :: ms) (some ((rw m0).s, a, b))).isSome with
    | false => rfl
    | true => exact absurd ((cn a b ha hb).mp hh) z
  have f1 := tr p q p0 q0 ⟨Int.le_refl _, by cases k <;> simp⟩
  have f2 := tr p (q + 100000000000000000000) p0 (by omega) ⟨by omega, by cases k <;> simp⟩
  have f5 : (playR rw (m0 :: ms) (some ((rw m0).s, p + 100000000000000000000, q))).isSome = !k := by
    cases k with
    | true => exact fa _ _ (by omega) q0 (by rintro ⟨_, z⟩; have z' : p + 100000000000000000000 = p := z; omega)
    | false => exact tr _ _ (by omega) q0 ⟨Int.le_refl _, by show p ≤ p + 100000000000000000000; omega⟩
  have g1 := pl p q p0 q0
  have g2 := pl p (q + 100000000000000000000) p0 (by omega)
  have g5 := pl (p + 100000000000000000000) q (by omega) q0
  have i1 := is_st (playR rw (m0 :: ms) (some ((rw m0).s, p, q))) S
  have i2 := is_st (playR rw (m0 :: ms) (some ((rw m0).s, p, q + 100000000000000000000))) S
  have i5 := is_st (playR rw (m0 :: ms) (some ((rw m0).s, p + 100000000000000000000, q))) S
  rw [f1] at i1
  rw [f2] at i2
  rw [f5, Bool.not_not] at i5
  have en := row.ends S
  have w0 : atI ((m0 :: ms).map D.int) 0 = some (.int m0) := atI_0
  have qk : dEq (.bl k) (.bl k) S = some (.bl true) := by cases k <;> rfl
  obtain ⟨W, hW⟩ : ∃ W, (m0 :: ms).map D.int = W := ⟨_, rfl⟩
  have pl' := pl
  rw [hW] at g1 g2 g5 w0 ⊢
  simp only [hW] at pl'
  obtain ⟨d1, hd1⟩ : ∃ d, stD (playR rw (m0 :: ms) (some ((rw m0).s, p, q))) = d := ⟨_, rfl⟩
  obtain ⟨d2, hd2⟩ : ∃ d, stD (playR rw (m0 :: ms) (some ((rw m0).s, p, q + 100000000000000000000))) = d := ⟨_, rfl⟩
  obtain ⟨d5, hd5⟩ : ∃ d, stD (playR rw (m0 :: ms) (some ((rw m0).s, p + 100000000000000000000, q))) = d := ⟨_, rfl⟩
  rw [hd1] at g1 i1
  rw [hd2] at g2 i2
  rw [hd5] at g5 i5
  by_cases c1 : 0 < p
  · have f3 := fa (p - 1) (q + 9) (by omega) (by omega) (by
      rintro ⟨_, z⟩
      cases k with
      | true => have z' : p - 1 = p := z; omega
      | false => have z' : p ≤ p - 1 := z; omega)
    have g3 := pl' (p - 1) (q + 9) (by omega) (by omega)
    have i3 := isNot_st (playR rw (m0 :: ms) (some ((rw m0).s, p - 1, q + 9))) S
    rw [f3] at i3
    obtain ⟨d3, hd3⟩ : ∃ d, stD (playR rw (m0 :: ms) (some ((rw m0).s, p - 1, q + 9))) = d := ⟨_, rfl⟩
    rw [hd3] at g3 i3
    by_cases c2 : 0 < q
    · have f4 := fa p (q - 1) p0 (by omega) (by rintro ⟨z, _⟩; omega)
      have g4 := pl' p (q - 1) p0 (by omega)
      have i4 := isNot_st (playR rw (m0 :: ms) (some ((rw m0).s, p, q - 1))) S
      rw [f4] at i4
      obtain ⟨d4, hd4⟩ : ∃ d, stD (playR rw (m0 :: ms) (some ((rw m0).s, p, q - 1))) = d := ⟨_, rfl⟩
      rw [hd4] at g4 i4
      simp -implicitDefEqProofs [M._law_least, M.b__law_least, w0, en, p20, g1, g2, g3, g4, g5, i1, i2, i3, i4, i5, c1, c2, qk]
    · simp -implicitDefEqProofs [M._law_least, M.b__law_least, w0, en, p20, g1, g2, g3, g5, i1, i2, i3, i5, c1, c2, qk]
  · by_cases c2 : 0 < q
    · have f4 := fa p (q - 1) p0 (by omega) (by rintro ⟨z, _⟩; omega)
      have g4 := pl' p (q - 1) p0 (by omega)
      have i4 := isNot_st (playR rw (m0 :: ms) (some ((rw m0).s, p, q - 1))) S
      rw [f4] at i4
      obtain ⟨d4, hd4⟩ : ∃ d, stD (playR rw (m0 :: ms) (some ((rw m0).s, p, q - 1))) = d := ⟨_, rfl⟩
      rw [hd4] at g4 i4
      simp -implicitDefEqProofs [M._law_least, M.b__law_least, w0, en, p20, g1, g2, g4, g5, i1, i2, i4, i5, c1, c2, qk]
    · simp -implicitDefEqProofs [M._law_least, M.b__law_least, w0, en, p20, g1, g2, g5, i1, i2, i5, c1, c2, qk]
end
end Kd
end

section
set_option Elab.async false
set_option linter.all false
set_option maxRecDepth 100000
set_option maxHeartbeats 2000000
namespace Kd
open PySem L2 DL Nd
theorem eq_blB (e : EX) (k : Bool) (S : Sto) : M._law_equal e [.bl k, .bl k] S = .ok (.bl true) S := by
  have q : dEq (.bl k) (.bl k) S = some (.bl true) := by cases k <;> rfl
  rw [eqn_0, eqn_n]
  simp -implicitDefEqProofs [M.b__law_equal, q]
theorem eq_bln (e : EX) (n : Nat) (k : Bool) (S : Sto) : M._law_equal_n e (n + 1) [.bl k, .bl k] S = .ok (.bl true) S := by
  have q : dEq (.bl k) (.bl k) S = some (.bl true) := by cases k <;> rfl
  rw [eqn_n]
  simp -implicitDefEqProofs [M.b__law_equal, q]
theorem eq_two (e : EX) (a b : Int) (S : Sto) : M._law_equal e [.tup [.int a, .int b], .tup [.int a, .int b]] S = .ok (.bl true) S := by
  have q := all_eq e (M._law_equal_n e (4 + 1)) (.tup [.int a, .int b]) (.tup [.int a, .int b]) S 2 (by omega) rfl (fun j hj => by
    have : j = 0 ∨ j = 1 := by omega
    rcases this with rfl | rfl
    · exact ⟨_, _, atI_0, atI_0, eq_int e 4 _ S⟩
    · exact ⟨_, _, atI_1, atI_1, eq_int e 4 _ S⟩)
  rw [eqn_0, eqn_n]
  simp -implicitDefEqProofs [M.b__law_equal, q]
theorem eq_nd (e : EX) (o : Option (Int × Int × Bool)) (S : Sto) : M._law_equal e [ndD o, ndD o] S = .ok (.bl true) S := by
  cases o with
  | none => rw [eqn_0]; exact eq_non e 5 S
  | some t =>
    obtain ⟨p, k, b⟩ := t
    have q := all_eq e (M._law_equal_n e (4 + 1)) (.tup [.int p, .int k, .bl b]) (.tup [.int p, .int k, .bl b]) S 3 (by omega) rfl (fun j hj => by
      have : j = 0 ∨ j = 1 ∨ j = 2 := by omega
      rcases this with rfl | rfl | rfl
      · exact ⟨_, _, atI_0, atI_0, eq_int e 4 _ S⟩
      · exact ⟨_, _, atI_1, atI_1, eq_int e 4 _ S⟩
      · exact ⟨_, _, atI_2, atI_2, eq_bln e 4 _ S⟩)
    show M._law_equal e [.tup [.int p, .int k, .bl b], .tup [.int p, .int k, .bl b]] S = _
    rw [eqn_0, eqn_n]
    simp -implicitDefEqProofs [M.b__law_equal, q]
section
variable {e : EX} {r : Int} {ss ts : List D} {Fm : Int → MvF} {rw : Int → Rw}
/-- all that is asked of one word -/
theorem right_eq (ow : Own e) (o : Kc.Ok r ss ts) (h : Mvs e r ss ts Fm) (hr : Rows e r ss ts rw) (ms : List Int) (hm : ∀ m ∈ ms, InR ss ts m) (hl : ms.length < 90000) (S : Sto) (hc : cleanS S.length S = true) : M._law_right_v2 e [.tup [.int r, .tup ss, .tup ts], .tup (ms.map .int)] S = .ok (.bl true) S := by
  have q1 := is_walk_eq o hr ms (by omega) hm S
  have q2 := lwalk_eq hr ms (by omega) hm S
  have q3 := eq_blB e (walkB rw ms) S
  have q4 := is_ring_eq o hr ms (by omega) hm S
  have q5 := lring_eq hr ms (by omega) hm S
  have q6 := eq_blB e (ringB rw ms) S
  have q7 := effect_eq o hr ms hm S
  have q8 := leffect_eq hr ms hm S
  have q9 := eq_two e (sumF rw ms 0) (sumG rw ms 0) S
  have nq := need_eq o hr ms (by omega) hm S
  cases hw : walkB rw ms with
  | false =>
    rw [hw] at q1 q2 q3
    have q10 := refused_need ow o hr ms (by omega) hm hw S
    simp -implicitDefEqProofs [M._law_right_v2, M.b__law_right_v2, q1, q2, q3, q4, q5, q6, q7, q8, q9, q10]
  | true =>
    rw [if_pos hw] at nq
    rw [hw] at q1 q2 q3
    have q11 := lneed_eq hr ms hm hl S hc
    have q12 := eq_nd e (needR rw ms) S
    cases hn : needR rw ms with
    | none =>
      rw [hn] at nq q11 q12
      have i1 : ∀ S, dIs (ndD none) .non S = some (.bl true) := fun _ => rfl
      simp -implicitDefEqProofs [M._law_right_v2, M.b__law_right_v2, q1, q2, q3, q4, q5, q6, q7, q8, q9, nq, q11, q12, i1]
    | some t =>
      obtain ⟨p, q, k⟩ := t
      rw [hn] at nq q11 q12
      have i1 : ∀ S, dIs (ndD (some (p, q, k))) .non S = some (.bl false) := fun _ => rfl
      cases hs : ms with
      | nil =>
        subst hs
        simp only [List.map_nil] at q1 q2 q4 q5 q7 q8 nq q11
        simp -implicitDefEqProofs [M._law_right_v2, M.b__law_right_v2, q1, q2, q3, q4, q5, q6, q7, q8, q9, nq, q11, q12, i1]
      | cons m0 ms0 =>
        have lq := least_eq o h hr m0 ms0 (by rw [← hs]; exact hm) (by rw [← hs]; exact hw) (p := p) (q := q) (k := k) (by rw [← hs]; exact hn) S
        rw [← hs] at lq ⊢
        have lq' : M._law_least e [.tup [.int r, .tup ss, .tup ts], .tup (ms.map .int), ndD (some (p, q, k))] S = .ok (.bl true) S := lq
        have hz : ¬ (ms.length : Int) = 0 := by rw [hs]; simp; omega
        have hz2 : ms ≠ [] := by rw [hs]; exact List.cons_ne_nil _ _
        simp -implicitDefEqProofs [M._law_right_v2, M.b__law_right_v2, q1, q2, q3, q4, q5, q6, q7, q8, q9, nq, q11, q12, i1, hz, hz2, lq']
/-! words that are walked -/
def WalkI (e : EX) (r : Int) (ss ts : List D) (ns : List Int) (i : Nat) (σ : En) (T : Sto) : Prop := ∃ (x : Int) (ws : List Int) (v5 v6 v7 : Option D) (k : Nat), σ = [some (.ref 0), some (.tup [.int r, .tup ss, .tup ts]), some (.int ((ss.length : Int) + ts.length)), some (.int x), some (.tup (ws.map .int)), v5, v6, v7] ∧ T = DN ns k ∧ (∀ m ∈ ws, InR ss ts m) ∧ ws.length ≤ i
theorem walk_eq (o : Kc.Ok r ss ts) (hr : Rows e r ss ts rw) (ns : List Int) (k : Nat) : ∃ (ws : List Int) (k' : Nat), (∀ m ∈ ws, InR ss ts m) ∧ ws.length ≤ 9 ∧
    M._law_walk e [.ref 0, .tup [.int r, .tup ss, .tup ts]] (DN ns k) = .ok (.tup (ws.map .int)) (DN ns k') := by
  have P := o.P
  have r0 : 0 < r := by have := P.r1; omega
  have en : (ss.length : Int) + ts.length = ((ss.length + ts.length : Nat) : Int) := by simp
  have i62m : in62 ((ss.length : Int) + ts.length) = true := by
    have h1 := P.sl
    have h2 := P.tl
    have := in62_nat (n := ss.length + ts.length) (by omega)
    simpa using this
  obtain ⟨n, hn⟩ : ∃ n : Nat, dr ns (k + 1) % 10 = (n : Int) := ⟨(dr ns (k + 1) % 10).toNat, by omega⟩
  have n9 : n ≤ 9 := by omega
  have i62 : in62 (n : Int) = true := in62_nat (by omega)
  have L := loop_ok (it := ⟨rgD 0 (n : Int), none⟩) (gt := gNm 5) (g := M._law_walk_3 e) rfl (WalkI e r ss ts ns) (rgD 0 (n : Int)) 0 [some (.ref 0), some (.tup [.int r, .tup ss, .tup ts]), some (.int ((ss.length : Int) + ts.length)), some (.int (dr ns k % r)), some (.tup []), none, none, none] (DN ns (k + 1 + 1))
    ⟨dr ns k % r, [], none, none, none, k + 1 + 1, rfl, rfl, by simp, by simp⟩ (by
      rintro j d σ T ed ⟨x, ws, v5, v6, v7, k, rfl, rfl, hw, hl⟩
      have hj : j < n := by
        have := (List.getElem?_eq_some_iff.mp ed).1
        rwa [rgD_len] at this
      have hs := P.sl
      have ht := P.tl
      have c := comp_filter (it := ⟨rgD 0 ((ss.length : Int) + ts.length), none⟩) (gt := gNm 7) (t := M._law_walk_2 e) (f := M._law_walk_1 e)
        (σ0 := [some (.ref 0), some (.tup [.int r, .tup ss, .tup ts]), some (.int ((ss.length : Int) + ts.length)), some (.int x), some (.tup (ws.map .int)), some d, v6, none]) (S := DN ns k) rfl (ofI fun m => decide ((rw m).s = x)) (rgD 0 ((ss.length : Int) + ts.length)) [] (by rw [en, rgD_len]; simp; omega) (by
          intro y hy
          rw [en, rgD_I] at hy
          obtain ⟨m, hm, rfl⟩ := List.mem_map.mp hy
          have q := (hr m (rgI_inR hm)).ends (DN ns k)
          refine ⟨_, rfl, ?_, ?_⟩
          · simp -implicitDefEqProofs [M._law_walk_2, q, ofI]
          · simp -implicitDefEqProofs [M._law_walk_1])
      have ee : (rgD 0 ((ss.length : Int) + ts.length)).filter (ofI fun m => decide ((rw m).s = x)) = ((rgI (ss.length + ts.length)).filter fun m => decide ((rw m).s = x)).map .int := by
        rw [en, rgD_I, filter_I]
      rw [ee, List.nil_append] at c
      obtain ⟨cs, hcs⟩ : ∃ cs, (rgI (ss.length + ts.length)).filter (fun m => decide ((rw m).s = x)) = cs := ⟨_, rfl⟩
      rw [hcs] at c
      by_cases c0 : cs.length = 0
      · have : cs = [] := List.eq_nil_of_length_eq_zero c0
        subst this
        simp only [List.map_nil] at c
        refine ⟨_, _, _, rfl, ?_, x, ws, some d, some (.lst []), v7, k, rfl, rfl, hw, by omega⟩
        simp -implicitDefEqProofs [M._law_walk_3, fComp, iRg1, i62m, wipeD, c]
      · have c1 : 0 < cs.length := by omega
        have c2 : (0 : Int) < cs.length := by omega
        obtain ⟨v, hv, ev⟩ := atI_pick (cs.map D.int) (dr ns k) cs.length (by simp) c1
        obtain ⟨m, hm, rfl⟩ := List.mem_map.mp hv
        rw [← hcs] at hm
        have hmr : InR ss ts m := rgI_inR (List.mem_filter.mp hm).1
        have q := fun S => (hr m hmr).ends S
        have ad : ∀ S, dAdd (.tup (ws.map D.int)) (.tup [.int m]) S = some (.tup (ws.map D.int ++ [.int m])) := fun S => v_addT (by simp; omega)
        refine ⟨_, _, _, rfl, ?_, (rw m).t, ws ++ [m], some d, some (.lst (cs.map .int)), some (.int m), k + 1, rfl, rfl, ?_, by simp; omega⟩
        · simp -implicitDefEqProofs [M._law_walk_3, fComp, iRg1, i62m, wipeD, c, c1, c2, ev, ad, q]
        · intro y hy
          rcases List.mem_append.mp hy with hy | hy
          · exact hw y hy
          · rw [List.mem_singleton.mp hy]; exact hmr)
  obtain ⟨σ', S', e1, x', ws, v5, v6, v7, k', rfl, rfl, hw, hl⟩ := L
  rw [rgD_len] at hl
  refine ⟨ws, k', hw, by omega, ?_⟩
  simp -implicitDefEqProofs [M._law_walk, M.b__law_walk, r0, hn, sFor, iRg1, i62, e1]
end
end Kd
end

section
set_option Elab.async false
set_option linter.all false
set_option maxRecDepth 100000
set_option maxHeartbeats 2000000
namespace Kd
open PySem L2 DL Nd
theorem p30 {S : Sto} : dPow (.int 10) (.int 30) S = some (.int 1000000000000000000000000000000) := by simp [dPow, dI]
theorem loop_all {it : Items} {gt : FG} {g : FS} (σf : Option D → En) (S : Sto) (hw : watchOk it.w it.ds S) (hg : ∀ d y S, gt d (σf y) S = some (σf (some d))) :
    ∀ (ds : List D) (y : Option D), (∀ d ∈ ds, g (σf (some d)) S = .nx (σf (some d)) S) → ∃ y', loopF it gt g ds (σf y) S = .nx (σf y') S
  | [], y, _ => ⟨y, loop_nil hw⟩
  | d :: ds, y, hb => by
    obtain ⟨y', h'⟩ := loop_all σf S hw hg ds (some d) (fun d' h => hb d' (List.mem_cons_of_mem _ h))
    exact ⟨y', by rw [loop_cons hw (hg d y S), hb d List.mem_cons_self, RS.turn_nx, h']⟩
def IsW (ss ts : List D) (d : D) : Prop := ∃ ws : List Int, d = .tup (ws.map .int) ∧ (∀ m ∈ ws, InR ss ts m) ∧ ws.length ≤ 3000
theorem IsW.plain {ss ts : List D} {d : D} (h : IsW ss ts d) : DL.plain d = true := by
  obtain ⟨ws, rfl, _, _⟩ := h
  exact plains_ints ws
theorem clean2 {ns : List Int} {k : Nat} {xs : List D} (h : plains xs = true) : cleanS (DN ns k ++ [SO.lst xs]).length (DN ns k ++ [.lst xs]) = true := by
  have h1 : plains [D.lst (ns.map .int), .int k] = true := by simp only [plains, DL.plain, plains_ints, Bool.and_self]
  have h2 := plains_cleans 2 _ h1
  have h3 := plains_cleans 2 _ h
  show cleanS 2 _ = true
  simp only [cleanS, DN, List.cons_append, List.nil_append, List.all_cons, cleanO, h2, h3, List.all_nil, Bool.and_self]
theorem mul300 (ws : List Int) (hl : ws.length ≤ 1000) (S : Sto) : dMulE (.tup (ws.map .int)) (.int 300) S = some (.tup (((List.replicate 300 ws).flatten).map .int)) := by
  cases ws with
  | nil => rfl
  | cons w ws =>
    have q := v_mulT (xs := (w :: ws).map D.int) (k := 300) (S := S) (by simp) (by omega) (by omega) (by simpa using hl)
    unfold dMulE
    rw [q]
    have : (List.replicate (300 : Int).toNat ((w :: ws).map D.int)).flatten = ((List.replicate 300 (w :: ws)).flatten).map .int := by
      rw [List.map_flatten, List.map_replicate]; rfl
    rw [this]; rfl
theorem len_rep (w : List Int) : ∀ n : Nat, ((List.replicate n w).flatten).length = n * w.length
  | 0 => by simp
  | n + 1 => by rw [List.replicate_succ, List.flatten_cons, List.length_append, len_rep w n, Nat.add_mul]; omega
section
variable {e : EX} {r : Int} {ss ts : List D} {Fm : Int → MvF} {rw : Int → Rw}
theorem pick_bad (P : Ka.Prg r ss ts) (x : Int) : ∃ d, atI [D.int ((ss.length : Int) + ts.length), .int (-1), .int 1000000000000000000000000000000, .bl true, .bl false] (x % 5) = some d ∧ DL.plain d = true ∧ isMvB ss ts d = false := by
  have h1 := P.sl
  have h2 := P.tl
  obtain ⟨d, g1, g2⟩ := atI_pick [D.int ((ss.length : Int) + ts.length), .int (-1), .int 1000000000000000000000000000000, .bl true, .bl false] x 5 rfl (by omega)
  refine ⟨d, g2, ?_, ?_⟩
  · simp only [List.mem_cons, List.not_mem_nil, or_false] at g1
    rcases g1 with rfl | rfl | rfl | rfl | rfl <;> rfl
  · simp only [List.mem_cons, List.not_mem_nil, or_false] at g1
    rcases g1 with rfl | rfl | rfl | rfl | rfl <;> simp [isMvB, isIn] <;> omega
theorem drawn (ns : List Int) (R : Sto) (σ0 : En) (h1 : σ0[1]? = some (some (.ref 0))) (h3 : σ0[3]? = some (some (.int ((ss.length : Int) + ts.length)))) (hpos : 0 < (ss.length : Int) + ts.length) (k n : Nat) (hn : n ≤ 5) :
    ∃ (ws : List Int) (k' : Nat), compF ⟨rgD 0 (n : Int), none⟩ (gNm 9) tYesD (M.law_v6_1 e) σ0 (rgD 0 (n : Int)) (DN ns k ++ R) [] = .ok (ws.map .int) (DN ns k' ++ R) ∧ (∀ m ∈ ws, InR ss ts m) ∧ ws.length ≤ 5 := by
  obtain ⟨xs, S', q1, ⟨k', rfl⟩, q3, q4⟩ := comp_ok (it := ⟨rgD 0 (n : Int), none⟩) (gt := gNm 9) (f := M.law_v6_1 e) (σ0 := σ0) rfl (fun S => ∃ k, S = DN ns k ++ R) (fun d => ∃ m, d = .int m ∧ InR ss ts m) (rgD 0 (n : Int)) (DN ns k ++ R) [] ⟨k, rfl⟩ (by simp) (by rw [rgD_len]; simp; omega) (by
    rintro d S ⟨k, rfl⟩
    have h1' : (σ0.set 9 (some d))[1]? = some (some (.ref 0)) := by rw [List.getElem?_set_ne (by omega)]; exact h1
    have h3' : (σ0.set 9 (some d))[3]? = some (some (.int ((ss.length : Int) + ts.length))) := by rw [List.getElem?_set_ne (by omega)]; exact h3
    refine ⟨σ0.set 9 (some d), .int (dr ns k % ((ss.length : Int) + ts.length)), _, rfl, ?_, ⟨_, rfl, Int.emod_nonneg _ (by omega), Int.emod_lt_of_pos _ hpos⟩, k + 1, rfl⟩
    simp -implicitDefEqProofs only [M.law_v6_1, ap_fBin, ap_fCall, ap_fVar, ap_aCons, ap_aNil, h1', h3', Res.bind_ok, draw_nR, v_mod hpos, ofO_some])
  have hx : xs.length ≤ 5 := by rw [q4, rgD_len]; simp; omega
  have : ∃ ws : List Int, xs = ws.map .int ∧ ∀ m ∈ ws, InR ss ts m := by
    clear q1 q4 hx
    induction xs with
    | nil => exact ⟨[], rfl, by simp⟩
    | cons x xs ih =>
      obtain ⟨m, rfl, hm⟩ := q3 x List.mem_cons_self
      obtain ⟨ws, rfl, hw⟩ := ih fun y hy => q3 y (List.mem_cons_of_mem _ hy)
      refine ⟨m :: ws, rfl, fun y hy => ?_⟩
      rcases List.mem_cons.mp hy with rfl | hy
      · exact hm
      · exact hw y hy
  obtain ⟨ws, rfl, hw⟩ := this
  exact ⟨ws, k', q1, hw, by simpa using hx⟩
theorem loop2 (ow : Own e) (o : Kc.Ok r ss ts) (h : Mvs e r ss ts Fm) (hr : Rows e r ss ts rw) (ms : List Int) (k : Nat) (xs : List D) (hx : ∀ x ∈ xs, IsW ss ts x) (sc : D) : ∃ v5, loopF ⟨xs, some 1⟩ (gNm 5) (M.law_v6_2 e) xs [some sc, some (.ref 0), some (.tup [.int r, .tup ss, .tup ts]), some (.int ((ss.length : Int) + ts.length)), some (.ref 1), none, none, none, none, none] (DN ms k ++ [.lst xs]) =
    .nx [some sc, some (.ref 0), some (.tup [.int r, .tup ss, .tup ts]), some (.int ((ss.length : Int) + ts.length)), some (.ref 1), v5, none, none, none, none] (DN ms k ++ [.lst xs]) := by
  have hp : plains xs = true := plains_of fun x q => (hx x q).plain
  exact loop_all (it := ⟨xs, some 1⟩) (gt := gNm 5) (g := M.law_v6_2 e) (fun y => [some sc, some (.ref 0), some (.tup [.int r, .tup ss, .tup ts]), some (.int ((ss.length : Int) + ts.length)), some (.ref 1), y, none, none, none, none]) (DN ms k ++ [SO.lst xs]) rfl (fun _ _ _ => rfl) xs none (fun d hd => by
    obtain ⟨ws, rfl, hw, hl⟩ := hx d hd
    have q := right_eq ow o h hr ws hw (by omega) (DN ms k ++ [.lst xs]) (clean2 hp)
    simp -implicitDefEqProofs [M.law_v6_2, q])
end
theorem fin {e : EX} (ow : Own e) (ns : List Int) (hl : ns.length ≤ 63) : ∃ S', M.law_v6 e [.frz (ns.map .int)] [] = .ok (.bl true) S' := by
  obtain ⟨ms, hm, _, en⟩ := numbers_eq e ns [] hl rfl
  obtain ⟨r, ss, ts, k1, r1, r2, hp, pp, ep⟩ := program_eq e ms 0
  have ep' : M._law_program e [.ref 0] [.lst [.lst (ms.map .int), .int 0]] = _ := ep
  have P := Ka.prg_of hp r1 r2
  have o : Kc.Ok r ss ts := ⟨P, hp, pp⟩
  obtain ⟨Fm, h⟩ := mvs_ex e P
  obtain ⟨rw, hr⟩ := rows_ex e P
  obtain ⟨w1, k2, i1, n1, e1⟩ := walk_eq o hr ms k1
  obtain ⟨w2, k3, i2, n2, e2⟩ := walk_eq o hr ms k2
  obtain ⟨w3, k4, i3, n3, e3⟩ := walk_eq o hr ms k3
  have mu : ∀ S, dMulE (.tup (w2.map .int)) (.int 300) S = some (.tup (((List.replicate 300 w2).flatten).map .int)) := fun S => mul300 w2 (by omega) S
  obtain ⟨lg, hlg⟩ : ∃ l, (List.replicate 300 w2).flatten = l := ⟨_, rfl⟩
  simp only [hlg] at mu
  have il : ∀ m ∈ lg, InR ss ts m := fun m hm => by
    rw [← hlg] at hm
    obtain ⟨l, h1, h2⟩ := List.mem_flatten.mp hm
    rw [(List.mem_replicate.mp h1).2] at h2
    exact i2 m h2
  have nl : lg.length ≤ 3000 := by
    rw [← hlg, len_rep]
    omega
  -- the rest, behind the words
  have rest : ∀ (k : Nat) (xs : List D), (∀ x ∈ xs, IsW ss ts x) → 3 ≤ xs.length → ∃ (v5 : Option D) (d bad : D) (ws : List Int) (at_ : Int) (v8 : Option D),
      loopF ⟨xs, some 1⟩ (gNm 5) (M.law_v6_2 e) xs [some (.frz (ns.map .int)), some (.ref 0), some (.tup [.int r, .tup ss, .tup ts]), some (.int ((ss.length : Int) + ts.length)), some (.ref 1), none, none, none, none, none] (DN ms k ++ [.lst xs]) =
        .nx [some (.frz (ns.map .int)), some (.ref 0), some (.tup [.int r, .tup ss, .tup ts]), some (.int ((ss.length : Int) + ts.length)), some (.ref 1), v5, none, none, none, none] (DN ms k ++ [.lst xs]) ∧
      atI xs (1 + dr ms k % ((xs.length : Int) - 2)) = some (.tup (ws.map .int)) ∧ dr ms (k + 1) % ((ws.length : Int) + 1) = at_ ∧
      atI [D.int ((ss.length : Int) + ts.length), .int (-1), .int 1000000000000000000000000000000, .bl true, .bl false] (dr ms (k + 1 + 1) % 5) = some bad ∧
      (∀ S, dAdd (.tup (cutD (ws.map .int) none (some at_))) (.tup [bad]) S = some (.tup (cutD (ws.map .int) none (some at_) ++ [bad]))) ∧
      (∀ S, dAdd (.tup (cutD (ws.map .int) none (some at_) ++ [bad])) (.tup (cutD (ws.map .int) (some at_) none)) S = some (.tup (cutD (ws.map .int) none (some at_) ++ [bad] ++ cutD (ws.map .int) (some at_) none))) ∧
      (∀ S, loopF ⟨[D.str "effect", .str "walk", .str "ring", .str "need"], none⟩ (gNm 8) (M.law_v6_3 e) [D.str "effect", .str "walk", .str "ring", .str "need"] [some (.frz (ns.map .int)), some (.ref 0), some (.tup [.int r, .tup ss, .tup ts]), some (.int ((ss.length : Int) + ts.length)), some (.ref 1), some (.tup (ws.map .int)), some (.int at_), some (.tup (cutD (ws.map .int) none (some at_) ++ [bad] ++ cutD (ws.map .int) (some at_) none)), none, none] S =
        .nx [some (.frz (ns.map .int)), some (.ref 0), some (.tup [.int r, .tup ss, .tup ts]), some (.int ((ss.length : Int) + ts.length)), some (.ref 1), some (.tup (ws.map .int)), some (.int at_), some (.tup (cutD (ws.map .int) none (some at_) ++ [bad] ++ cutD (ws.map .int) (some at_) none)), some (.str "need"), none] S) := by
    intro k xs hx h3
    obtain ⟨v5, l2⟩ := loop2 ow o h hr ms k xs hx (.frz (ns.map .int))
    have z1 : 0 ≤ dr ms k % ((xs.length : Int) - 2) := Int.emod_nonneg _ (by omega)
    have z2 : dr ms k % ((xs.length : Int) - 2) < (xs.length : Int) - 2 := Int.emod_lt_of_pos _ (by omega)
    obtain ⟨d, hd, ed⟩ := atI_lt (xs := xs) (m := 1 + dr ms k % ((xs.length : Int) - 2)) (by omega) (by omega)
    obtain ⟨ws, rfl, hw, hwl⟩ := hx d hd
    obtain ⟨bad, g1, pb, hbad⟩ := pick_bad P (dr ms (k + 1 + 1))
    obtain ⟨at_, hat⟩ : ∃ z, dr ms (k + 1) % ((ws.length : Int) + 1) = z := ⟨_, rfl⟩
    have c1 := cut_len (xs := ws.map D.int) (lo := none) (hi := some at_)
    have c2 := cut_len (xs := ws.map D.int) (lo := some at_) (hi := none)
    simp only [List.length_map] at c1 c2
    have pl : ∀ y ∈ cutD (ws.map D.int) none (some at_) ++ [bad] ++ cutD (ws.map D.int) (some at_) none, DL.plain y = true := fun y hy => by
      rcases List.mem_append.mp hy with hy | hy
      · rcases List.mem_append.mp hy with hy | hy
        · exact Kc.ints_plain ws y (cut_mem hy)
        · rw [List.mem_singleton.mp hy]; exact pb
      · exact Kc.ints_plain ws y (cut_mem hy)
    refine ⟨v5, .non, bad, ws, at_, none, l2, ed, hat, g1, fun S => v_addT (by simp; omega), fun S => v_addT (by simp; omega), fun S => ?_⟩
    have fb : (cutD (ws.map D.int) none (some at_) ++ [bad] ++ cutD (ws.map D.int) (some at_) none).all (isMvB ss ts) = false := by simp only [List.all_append, List.all_cons, hbad, Bool.false_and, Bool.and_false]
    have bo : ∀ nm : Str, (nm = "effect" ∨ nm = "walk" ∨ nm = "ring" ∨ nm = "need") → M.law_v6_3 e [some (.frz (ns.map .int)), some (.ref 0), some (.tup [.int r, .tup ss, .tup ts]), some (.int ((ss.length : Int) + ts.length)), some (.ref 1), some (.tup (ws.map .int)), some (.int at_), some (.tup (cutD (ws.map .int) none (some at_) ++ [bad] ++ cutD (ws.map .int) (some at_) none)), some (.str nm), none] S = .nx [some (.frz (ns.map .int)), some (.ref 0), some (.tup [.int r, .tup ss, .tup ts]), some (.int ((ss.length : Int) + ts.length)), some (.ref 1), some (.tup (ws.map .int)), some (.int at_), some (.tup (cutD (ws.map .int) none (some at_) ++ [bad] ++ cutD (ws.map .int) (some at_) none)), some (.str nm), none] S := fun nm hn => by
      have q := refused_bad ow o _ pl fb nm hn S
      obtain ⟨Q, hQ⟩ : ∃ Q, cutD (ws.map D.int) none (some at_) ++ [bad] ++ cutD (ws.map D.int) (some at_) none = Q := ⟨_, rfl⟩
      rw [hQ] at q ⊢
      simp -implicitDefEqProofs [M.law_v6_3, q]
    have c1' : ∀ {it : Items} {gt : FG} {g : FS} {σ σ1 σ2 : En} {S S2 : Sto} {d : D} {r : List D}, it.w = none → gt d σ S = some σ1 → g σ1 S = .nx σ2 S2 → loopF it gt g (d :: r) σ S = loopF it gt g r σ2 S2 := fun {it gt g σ σ1 σ2 S S2 d r} hw hg hb => by
      rw [loop_cons (by rw [hw]; trivial) hg, hb, RS.turn_nx]
    rw [c1' rfl rfl (bo "effect" (.inl rfl)), c1' rfl rfl (bo "walk" (.inr (.inl rfl))), c1' rfl rfl (bo "ring" (.inr (.inr (.inl rfl)))), c1' rfl rfl (bo "need" (.inr (.inr (.inr rfl))))]
    exact loop_nil trivial
  have lstF : ∀ k xs, lstOf (.ref 1) (DN ms k ++ [SO.lst xs]) = some xs := fun _ _ => rfl
  have setF : ∀ k xs o', (DN ms k ++ [SO.lst xs]).set 1 o' = DN ms k ++ [o'] := fun _ _ _ => rfl
  have lenF : ∀ k xs, cLen [.ref 1] (DN ms k ++ [SO.lst xs]) = some (.int xs.length) := fun _ _ => rfl
  have ixF : ∀ k xs i, dIx (.ref 1) (.int i) (DN ms k ++ [SO.lst xs]) = atI xs i := fun _ _ _ => rfl
  have sqF : ∀ k xs, (DN ms k ++ [SO.lst xs])[1]? = some (.lst xs) := fun _ _ => rfl
  have iw1 : IsW ss ts (.tup (w1.map .int)) := ⟨w1, rfl, i1, by omega⟩
  have iw2 : IsW ss ts (.tup (w2.map .int)) := ⟨w2, rfl, i2, by omega⟩
  have iw3 : IsW ss ts (.tup (w3.map .int)) := ⟨w3, rfl, i3, by omega⟩
  have iwl : IsW ss ts (.tup (lg.map .int)) := ⟨lg, rfl, il, nl⟩
  have iw0 : IsW ss ts (.tup []) := ⟨[], rfl, by simp, by simp⟩
  by_cases hpos : (0 : Int) < (ss.length : Int) + ts.length
  · obtain ⟨n, hn⟩ : ∃ n : Nat, dr ms k4 % 6 = (n : Int) := ⟨(dr ms k4 % 6).toNat, by omega⟩
    have i62 : in62 (n : Int) = true := in62_nat (by omega)
    obtain ⟨w4, k5, d4, i4, n4⟩ := drawn (e := e) (ss := ss) (ts := ts) ms [.lst [.tup [], .tup (w1.map .int), .tup (w2.map .int), .tup (w3.map .int)]] [some (.frz (ns.map .int)), some (.ref 0), some (.tup [.int r, .tup ss, .tup ts]), some (.int ((ss.length : Int) + ts.length)), some (.ref 1), none, none, none, none, none] rfl rfl hpos (k4 + 1) n (by omega)
    have ct : ∀ S, cTup [.lst (w4.map D.int)] S = some (.tup (w4.map .int)) := fun S => rfl
    obtain ⟨xs, hxs⟩ : ∃ xs, [D.tup [], .tup (w1.map .int), .tup (w2.map .int), .tup (w3.map .int)] ++ [.tup (w4.map .int)] ++ [.tup (lg.map .int)] = xs := ⟨_, rfl⟩
    have hx : ∀ x ∈ xs, IsW ss ts x := fun x hx => by
      rw [← hxs] at hx
      simp only [List.cons_append, List.nil_append, List.mem_cons, List.not_mem_nil, or_false] at hx
      rcases hx with rfl | rfl | rfl | rfl | rfl | rfl
      · exact iw0
      · exact iw1
      · exact iw2
      · exact iw3
      · exact ⟨w4, rfl, i4, by omega⟩
      · exact iwl
    have m1 : ∀ S, mAppend [D.tup [], .tup (w1.map .int), .tup (w2.map .int), .tup (w3.map .int)] [.tup (w4.map .int)] S = some ([D.tup [], .tup (w1.map .int), .tup (w2.map .int), .tup (w3.map .int)] ++ [.tup (w4.map .int)], .non) := fun S => ap_mAppend (big_lt (by simp))
    have m2 : ∀ S, mAppend ([D.tup [], .tup (w1.map .int), .tup (w2.map .int), .tup (w3.map .int)] ++ [.tup (w4.map .int)]) [.tup (lg.map .int)] S = some (xs, .non) := fun S => by rw [ap_mAppend (big_lt (by simp)), hxs]
    simp only [List.cons_append, List.nil_append] at m1 m2
    have xl : xs.length = 6 := by rw [← hxs]; simp
    obtain ⟨v5, d, bad, ws, at_, v8, l2, ed, hat, g1, u1, u2, l3⟩ := rest k5 xs hx (by omega)
    rw [xl] at ed
    have ed' : atI xs (1 + dr ms k5 % 4) = some (.tup (ws.map .int)) := ed
    have w0 : (0 : Int) < (ws.length : Int) + 1 := by omega
    obtain ⟨Sq, hSq⟩ : ∃ L, cutD (ws.map D.int) none (some at_) ++ [bad] ++ cutD (ws.map D.int) (some at_) none = L := ⟨_, rfl⟩
    simp only [hSq] at u2 l3
    obtain ⟨Sp, hSp⟩ : ∃ L, cutD (ws.map D.int) none (some at_) ++ [bad] = L := ⟨_, rfl⟩
    simp only [hSp] at u1 u2
    refine ⟨DN ms (k5 + 1 + 1 + 1) ++ [.lst xs], ?_⟩
    simp only [M.law_v6, M.b_law_v6]
    simp -implicitDefEqProofs [en, ep', e1, e2, e3, hpos, ap_fM, lstF, setF, lenF, ixF, sqF, fComp, iRg1, hn, i62, wipeD, d4, ct, m1, m2, mu, sFor, iSeq, l2, xl, ed', w0, hat, p30, g1, u1, u2, l3]
  · obtain ⟨xs, hxs⟩ : ∃ xs, [D.tup [], .tup (w1.map .int), .tup (w2.map .int), .tup (w3.map .int)] ++ [.tup (lg.map .int)] = xs := ⟨_, rfl⟩
    have hx : ∀ x ∈ xs, IsW ss ts x := fun x hx => by
      rw [← hxs] at hx
      simp only [List.cons_append, List.nil_append, List.mem_cons, List.not_mem_nil, or_false] at hx
      rcases hx with rfl | rfl | rfl | rfl | rfl
      · exact iw0
      · exact iw1
      · exact iw2
      · exact iw3
      · exact iwl
    have m2 : ∀ S, mAppend [D.tup [], .tup (w1.map .int), .tup (w2.map .int), .tup (w3.map .int)] [.tup (lg.map .int)] S = some (xs, .non) := fun S => by rw [ap_mAppend (big_lt (by simp)), hxs]
    have xl : xs.length = 5 := by rw [← hxs]; simp
    obtain ⟨v5, d, bad, ws, at_, v8, l2, ed, hat, g1, u1, u2, l3⟩ := rest k4 xs hx (by omega)
    rw [xl] at ed
    have ed' : atI xs (1 + dr ms k4 % 3) = some (.tup (ws.map .int)) := ed
    have w0 : (0 : Int) < (ws.length : Int) + 1 := by omega
    obtain ⟨Sq, hSq⟩ : ∃ L, cutD (ws.map D.int) none (some at_) ++ [bad] ++ cutD (ws.map D.int) (some at_) none = L := ⟨_, rfl⟩
    simp only [hSq] at u2 l3
    obtain ⟨Sp, hSp⟩ : ∃ L, cutD (ws.map D.int) none (some at_) ++ [bad] = L := ⟨_, rfl⟩
    simp only [hSp] at u1 u2
    refine ⟨DN ms (k4 + 1 + 1 + 1) ++ [.lst xs], ?_⟩
    simp only [M.law_v6, M.b_law_v6]
    simp -implicitDefEqProofs [en, ep', e1, e2, e3, hpos, ap_fM, lstF, setF, lenF, ixF, sqF, m2, mu, sFor, iSeq, l2, xl, ed', w0, hat, p30, g1, u1, u2, l3]
end Kd
end

section
set_option Elab.async false
set_option linter.all false
set_option maxRecDepth 100000
set_option maxHeartbeats 4000000
namespace Kd
open PySem PySem.Spec PyProof.Rows L2 DL
def top (i : Nat) : Stmt := PySem.Challenge.pw_twinpurse_k04_needs_and_effects.main.body.getD i (.Pass ⟨0, 0, 0, 0⟩)
abbrev s__law_mixed : Stmt := top 37
abbrev s__law_draw : Stmt := top 39
abbrev s__law_program : Stmt := top 40
abbrev s__law_numbers : Stmt := top 38
abbrev s__law_ends : Stmt := top 43
abbrev s__law_walk : Stmt := top 44
abbrev s__law_need : Stmt := top 48
abbrev s__law_all_equal : Stmt := top 42
abbrev s__law_equal : Stmt := top 41
abbrev s__law_is_walk : Stmt := top 45
abbrev s_is_tuple : Stmt := top 12
abbrev s_is_within : Stmt := top 10
abbrev s_check_program : Stmt := top 13
abbrev s_move_count : Stmt := top 16
abbrev s_is_move : Stmt := top 17
abbrev s_is_word : Stmt := top 23
abbrev s_check_word : Stmt := top 24
abbrev s_is_test : Stmt := top 18
abbrev s_change_of : Stmt := top 21
abbrev s_need_of : Stmt := top 34
abbrev s_source_of : Stmt := top 19
abbrev s_target_of : Stmt := top 20
abbrev s_walks : Stmt := top 30
abbrev s_need : Stmt := top 35
abbrev s_effect_of : Stmt := top 28
abbrev s_effect : Stmt := top 29
abbrev s_is_walk : Stmt := top 32
abbrev s_rings : Stmt := top 31
abbrev s_is_ring : Stmt := top 33
abbrev s__law_refused : Stmt := top 49
abbrev s_is_natural : Stmt := top 11
abbrev s_is_place : Stmt := top 14
abbrev s_check_standing : Stmt := top 15
abbrev s_made : Stmt := top 25
abbrev s_played : Stmt := top 26
abbrev s_play : Stmt := top 27
abbrev s__law_least : Stmt := top 50
abbrev s__law_is_ring : Stmt := top 46
abbrev s__law_effect : Stmt := top 47
abbrev s__law_right : Stmt := top 51
abbrev s_law : Stmt := top 52
abbrev N__law_mixed : List Str := ["number", "k", "step"]
abbrev N__law_draw : List Str := ["draws", "at", "first"]
abbrev N__law_program : List Str := ["draws", "rooms", "steps", "k", "room", "target", "tests"]
abbrev N__law_numbers : List Str := ["script", "numbers", "cell", "rest", "k"]
abbrev N__law_ends : List Str := ["program", "move", "rooms", "steps", "tests"]
abbrev N__law_walk : List Str := ["draws", "program", "many", "room", "word", "k", "moves", "move"]
abbrev N__law_need : List Str := ["program", "word", "first", "second", "least", "wanted", "move", "row"]
abbrev N__law_all_equal : List Str := ["actual", "due", "k"]
abbrev N__law_equal : List Str := ["actual", "due"]
abbrev N__law_is_walk : List Str := ["program", "word", "k"]
abbrev N_is_tuple : List Str := ["value", "size"]
abbrev N_is_within : List Str := ["value", "least", "most"]
abbrev N_check_program : List Str := ["program", "rooms", "steps", "tests", "step", "test"]
abbrev N_move_count : List Str := ["program"]
abbrev N_is_move : List Str := ["program", "value"]
abbrev N_is_word : List Str := ["program", "value", "move"]
abbrev N_check_word : List Str := ["program", "word"]
abbrev N_is_test : List Str := ["program", "move"]
abbrev N_change_of : List Str := ["program", "move"]
abbrev N_need_of : List Str := ["program", "word", "first", "second", "least", "other", "just", "move", "change"]
abbrev N_source_of : List Str := ["program", "move"]
abbrev N_target_of : List Str := ["program", "move"]
abbrev N_walks : List Str := ["program", "word", "place"]
abbrev N_need : List Str := ["program", "word"]
abbrev N_effect_of : List Str := ["program", "word", "first", "second", "move", "change"]
abbrev N_effect : List Str := ["program", "word"]
abbrev N_is_walk : List Str := ["program", "word"]
abbrev N_rings : List Str := ["program", "word"]
abbrev N_is_ring : List Str := ["program", "word"]
abbrev N__law_refused : List Str := ["name", "program", "word"]
abbrev N_is_natural : List Str := ["value"]
abbrev N_is_place : List Str := ["value"]
abbrev N_check_standing : List Str := ["program", "standing"]
abbrev N_made : List Str := ["program", "standing", "move", "room", "first", "second", "change"]
abbrev N_played : List Str := ["program", "standing", "word", "move"]
abbrev N_play : List Str := ["program", "standing", "word"]
abbrev N__law_least : List Str := ["program", "word", "told", "room", "a", "b", "exact", "more"]
abbrev N__law_is_ring : List Str := ["program", "word"]
abbrev N__law_effect : List Str := ["program", "word", "first", "second", "move", "row"]
abbrev N__law_right : List Str := ["program", "word", "due"]
abbrev N_law : List Str := ["script", "draws", "program", "many", "words", "word", "at", "bad", "name", "k"]
structure Ad where
  f__law_mixed : Addr
  d__law_mixed : FuncData
  f__law_draw : Addr
  d__law_draw : FuncData
  f__law_program : Addr
  d__law_program : FuncData
  f__law_numbers : Addr
  d__law_numbers : FuncData
  f__law_ends : Addr
  d__law_ends : FuncData
  f__law_walk : Addr
  d__law_walk : FuncData
  f__law_need : Addr
  d__law_need : FuncData
  f__law_all_equal : Addr
  d__law_all_equal : FuncData
  f__law_equal : Addr
  d__law_equal : FuncData
  f__law_is_walk : Addr
  d__law_is_walk : FuncData
  f_is_tuple : Addr
  d_is_tuple : FuncData
  f_is_within : Addr
  d_is_within : FuncData
  f_check_program : Addr
  d_check_program : FuncData
  f_move_count : Addr
  d_move_count : FuncData
  f_is_move : Addr
  d_is_move : FuncData
  f_is_word : Addr
  d_is_word : FuncData
  f_check_word : Addr
  d_check_word : FuncData
  f_is_test : Addr
  d_is_test : FuncData
  f_change_of : Addr
  d_change_of : FuncData
  f_need_of : Addr
  d_need_of : FuncData
  f_source_of : Addr
  d_source_of : FuncData
  f_target_of : Addr
  d_target_of : FuncData
  f_walks : Addr
  d_walks : FuncData
  f_need : Addr
  d_need : FuncData
  f_effect_of : Addr
  d_effect_of : FuncData
  f_effect : Addr
  d_effect : FuncData
  f_is_walk : Addr
  d_is_walk : FuncData
  f_rings : Addr
  d_rings : FuncData
  f_is_ring : Addr
  d_is_ring : FuncData
  f__law_refused : Addr
  d__law_refused : FuncData
  f_is_natural : Addr
  d_is_natural : FuncData
  f_is_place : Addr
  d_is_place : FuncData
  f_check_standing : Addr
  d_check_standing : FuncData
  f_made : Addr
  d_made : FuncData
  f_played : Addr
  d_played : FuncData
  f_play : Addr
  d_play : FuncData
  f__law_least : Addr
  d__law_least : FuncData
  f__law_is_ring : Addr
  d__law_is_ring : FuncData
  f__law_effect : Addr
  d__law_effect : FuncData
  f__law_right : Addr
  d__law_right : FuncData
  f_law : Addr
  d_law : FuncData
  t_ROOMS : Tok
  t_STEP : Tok
  t_STEPS : Tok
  t_TESTS : Tok
structure Txt (K : PySem.W.Frag) (mg : Str → Option Value) (e : EX) (a : Ad) : Prop where
  em : e.em = PySem.W.exmOne K
  g__law_mixed : mg "_law_mixed" = some (.ref a.f__law_mixed)
  F__law_mixed : L2.Fun K "_law_mixed" "_law_mixed" s__law_mixed a.f__law_mixed a.d__law_mixed
  k__law_mixed : PySem.W.keepIn K (.ref a.f__law_mixed) = true
  g__law_draw : mg "_law_draw" = some (.ref a.f__law_draw)
  F__law_draw : L2.Fun K "_law_draw" "_law_draw" s__law_draw a.f__law_draw a.d__law_draw
  k__law_draw : PySem.W.keepIn K (.ref a.f__law_draw) = true
  g__law_program : mg "_law_program" = some (.ref a.f__law_program)
  F__law_program : L2.Fun K "_law_program" "_law_program" s__law_program a.f__law_program a.d__law_program
  k__law_program : PySem.W.keepIn K (.ref a.f__law_program) = true
  g__law_numbers : mg "_law_numbers" = some (.ref a.f__law_numbers)
  F__law_numbers : L2.Fun K "_law_numbers" "_law_numbers" s__law_numbers a.f__law_numbers a.d__law_numbers
  k__law_numbers : PySem.W.keepIn K (.ref a.f__law_numbers) = true
  g__law_ends : mg "_law_ends" = some (.ref a.f__law_ends)
  F__law_ends : L2.Fun K "_law_ends" "_law_ends" s__law_ends a.f__law_ends a.d__law_ends
  k__law_ends : PySem.W.keepIn K (.ref a.f__law_ends) = true
  g__law_walk : mg "_law_walk" = some (.ref a.f__law_walk)
  F__law_walk : L2.Fun K "_law_walk" "_law_walk" s__law_walk a.f__law_walk a.d__law_walk
  k__law_walk : PySem.W.keepIn K (.ref a.f__law_walk) = true
  g__law_need : mg "_law_need" = some (.ref a.f__law_need)
  F__law_need : L2.Fun K "_law_need" "_law_need" s__law_need a.f__law_need a.d__law_need
  k__law_need : PySem.W.keepIn K (.ref a.f__law_need) = true
  g__law_all_equal : mg "_law_all_equal" = some (.ref a.f__law_all_equal)
  F__law_all_equal : L2.Fun K "_law_all_equal" "_law_all_equal" s__law_all_equal a.f__law_all_equal a.d__law_all_equal
  k__law_all_equal : PySem.W.keepIn K (.ref a.f__law_all_equal) = true
  g__law_equal : mg "_law_equal" = some (.ref a.f__law_equal)
  F__law_equal : L2.Fun K "_law_equal" "_law_equal" s__law_equal a.f__law_equal a.d__law_equal
  k__law_equal : PySem.W.keepIn K (.ref a.f__law_equal) = true
  g__law_is_walk : mg "_law_is_walk" = some (.ref a.f__law_is_walk)
  F__law_is_walk : L2.Fun K "_law_is_walk" "_law_is_walk" s__law_is_walk a.f__law_is_walk a.d__law_is_walk
  k__law_is_walk : PySem.W.keepIn K (.ref a.f__law_is_walk) = true
  g_is_tuple : mg "is_tuple" = some (.ref a.f_is_tuple)
  F_is_tuple : L2.Fun K "is_tuple" "is_tuple" s_is_tuple a.f_is_tuple a.d_is_tuple
  k_is_tuple : PySem.W.keepIn K (.ref a.f_is_tuple) = true
  g_is_within : mg "is_within" = some (.ref a.f_is_within)
  F_is_within : L2.Fun K "is_within" "is_within" s_is_within a.f_is_within a.d_is_within
  k_is_within : PySem.W.keepIn K (.ref a.f_is_within) = true
  g_check_program : mg "check_program" = some (.ref a.f_check_program)
  F_check_program : L2.Fun K "check_program" "check_program" s_check_program a.f_check_program a.d_check_program
  k_check_program : PySem.W.keepIn K (.ref a.f_check_program) = true
  g_move_count : mg "move_count" = some (.ref a.f_move_count)
  F_move_count : L2.Fun K "move_count" "move_count" s_move_count a.f_move_count a.d_move_count
  k_move_count : PySem.W.keepIn K (.ref a.f_move_count) = true
  g_is_move : mg "is_move" = some (.ref a.f_is_move)
  F_is_move : L2.Fun K "is_move" "is_move" s_is_move a.f_is_move a.d_is_move
  k_is_move : PySem.W.keepIn K (.ref a.f_is_move) = true
  g_is_word : mg "is_word" = some (.ref a.f_is_word)
  F_is_word : L2.Fun K "is_word" "is_word" s_is_word a.f_is_word a.d_is_word
  k_is_word : PySem.W.keepIn K (.ref a.f_is_word) = true
  g_check_word : mg "check_word" = some (.ref a.f_check_word)
  F_check_word : L2.Fun K "check_word" "check_word" s_check_word a.f_check_word a.d_check_word
  k_check_word : PySem.W.keepIn K (.ref a.f_check_word) = true
  g_is_test : mg "is_test" = some (.ref a.f_is_test)
  F_is_test : L2.Fun K "is_test" "is_test" s_is_test a.f_is_test a.d_is_test
  k_is_test : PySem.W.keepIn K (.ref a.f_is_test) = true
  g_change_of : mg "change_of" = some (.ref a.f_change_of)
  F_change_of : L2.Fun K "change_of" "change_of" s_change_of a.f_change_of a.d_change_of
  k_change_of : PySem.W.keepIn K (.ref a.f_change_of) = true
  g_need_of : mg "need_of" = some (.ref a.f_need_of)
  F_need_of : L2.Fun K "need_of" "need_of" s_need_of a.f_need_of a.d_need_of
  k_need_of : PySem.W.keepIn K (.ref a.f_need_of) = true
  g_source_of : mg "source_of" = some (.ref a.f_source_of)
  F_source_of : L2.Fun K "source_of" "source_of" s_source_of a.f_source_of a.d_source_of
  k_source_of : PySem.W.keepIn K (.ref a.f_source_of) = true
  g_target_of : mg "target_of" = some (.ref a.f_target_of)
  F_target_of : L2.Fun K "target_of" "target_of" s_target_of a.f_target_of a.d_target_of
  k_target_of : PySem.W.keepIn K (.ref a.f_target_of) = true
  g_walks : mg "walks" = some (.ref a.f_walks)
  F_walks : L2.Fun K "walks" "walks" s_walks a.f_walks a.d_walks
  k_walks : PySem.W.keepIn K (.ref a.f_walks) = true
  g_need : mg "need" = some (.ref a.f_need)
  F_need : L2.Fun K "need" "need" s_need a.f_need a.d_need
  k_need : PySem.W.keepIn K (.ref a.f_need) = true
  g_effect_of : mg "effect_of" = some (.ref a.f_effect_of)
  F_effect_of : L2.Fun K "effect_of" "effect_of" s_effect_of a.f_effect_of a.d_effect_of
  k_effect_of : PySem.W.keepIn K (.ref a.f_effect_of) = true
  g_effect : mg "effect" = some (.ref a.f_effect)
  F_effect : L2.Fun K "effect" "effect" s_effect a.f_effect a.d_effect
  k_effect : PySem.W.keepIn K (.ref a.f_effect) = true
  g_is_walk : mg "is_walk" = some (.ref a.f_is_walk)
  F_is_walk : L2.Fun K "is_walk" "is_walk" s_is_walk a.f_is_walk a.d_is_walk
  k_is_walk : PySem.W.keepIn K (.ref a.f_is_walk) = true
  g_rings : mg "rings" = some (.ref a.f_rings)
  F_rings : L2.Fun K "rings" "rings" s_rings a.f_rings a.d_rings
  k_rings : PySem.W.keepIn K (.ref a.f_rings) = true
  g_is_ring : mg "is_ring" = some (.ref a.f_is_ring)
  F_is_ring : L2.Fun K "is_ring" "is_ring" s_is_ring a.f_is_ring a.d_is_ring
  k_is_ring : PySem.W.keepIn K (.ref a.f_is_ring) = true
  g__law_refused : mg "_law_refused" = some (.ref a.f__law_refused)
  F__law_refused : L2.Fun K "_law_refused" "_law_refused" s__law_refused a.f__law_refused a.d__law_refused
  k__law_refused : PySem.W.keepIn K (.ref a.f__law_refused) = true
  g_is_natural : mg "is_natural" = some (.ref a.f_is_natural)
  F_is_natural : L2.Fun K "is_natural" "is_natural" s_is_natural a.f_is_natural a.d_is_natural
  k_is_natural : PySem.W.keepIn K (.ref a.f_is_natural) = true
  g_is_place : mg "is_place" = some (.ref a.f_is_place)
  F_is_place : L2.Fun K "is_place" "is_place" s_is_place a.f_is_place a.d_is_place
  k_is_place : PySem.W.keepIn K (.ref a.f_is_place) = true
  g_check_standing : mg "check_standing" = some (.ref a.f_check_standing)
  F_check_standing : L2.Fun K "check_standing" "check_standing" s_check_standing a.f_check_standing a.d_check_standing
  k_check_standing : PySem.W.keepIn K (.ref a.f_check_standing) = true
  g_made : mg "made" = some (.ref a.f_made)
  F_made : L2.Fun K "made" "made" s_made a.f_made a.d_made
  k_made : PySem.W.keepIn K (.ref a.f_made) = true
  g_played : mg "played" = some (.ref a.f_played)
  F_played : L2.Fun K "played" "played" s_played a.f_played a.d_played
  k_played : PySem.W.keepIn K (.ref a.f_played) = true
  g_play : mg "play" = some (.ref a.f_play)
  F_play : L2.Fun K "play" "play" s_play a.f_play a.d_play
  k_play : PySem.W.keepIn K (.ref a.f_play) = true
  g__law_least : mg "_law_least" = some (.ref a.f__law_least)
  F__law_least : L2.Fun K "_law_least" "_law_least" s__law_least a.f__law_least a.d__law_least
  k__law_least : PySem.W.keepIn K (.ref a.f__law_least) = true
  g__law_is_ring : mg "_law_is_ring" = some (.ref a.f__law_is_ring)
  F__law_is_ring : L2.Fun K "_law_is_ring" "_law_is_ring" s__law_is_ring a.f__law_is_ring a.d__law_is_ring
  k__law_is_ring : PySem.W.keepIn K (.ref a.f__law_is_ring) = true
  g__law_effect : mg "_law_effect" = some (.ref a.f__law_effect)
  F__law_effect : L2.Fun K "_law_effect" "_law_effect" s__law_effect a.f__law_effect a.d__law_effect
  k__law_effect : PySem.W.keepIn K (.ref a.f__law_effect) = true
  g__law_right : mg "_law_right" = some (.ref a.f__law_right)
  F__law_right : L2.Fun K "_law_right" "_law_right" s__law_right a.f__law_right a.d__law_right
  k__law_right : PySem.W.keepIn K (.ref a.f__law_right) = true
  g_law : mg "law" = some (.ref a.f_law)
  F_law : L2.Fun K "law" "law" s_law a.f_law a.d_law
  k_law : PySem.W.keepIn K (.ref a.f_law) = true
  z_bool : mg "bool" = none
  z_int : mg "int" = none
  z_isinstance : mg "isinstance" = none
  z_len : mg "len" = none
  z_list : mg "list" = none
  z_max : mg "max" = none
  z_min : mg "min" = none
  z_range : mg "range" = none
  z_str : mg "str" = none
  z_tuple : mg "tuple" = none
  g_ROOMS : mg "ROOMS" = some (.int 3 a.t_ROOMS)
  g_STEP : mg "STEP" = some (.int 2 a.t_STEP)
  g_STEPS : mg "STEPS" = some (.int 4 a.t_STEPS)
  g_TESTS : mg "TESTS" = some (.int 2 a.t_TESTS)
  g_BadArgument : mg "BadArgument" = some (.ref (e.x .BadArgument))
  x_BadArgument : PySem.W.excIn K (e.x .BadArgument) [.type "ValueError", .type "Exception", .type "BaseException", .type "object"] "ValueError.__new__" = true
  k_BadArgument : PySem.W.keepIn K (.ref (e.x .BadArgument)) = true
  b_BadArgument : PySem.W.subIn K (.ref (e.x .BadArgument)) (.type "BaseException") = some true
  t_BadArgument : PySem.W.typeIn K (.ref (e.x .BadArgument)) = some (.type "type")
  h_BadArgument : PySem.W.hasDictIn K (e.x .BadArgument) = true
  g_BadProgram : mg "BadProgram" = some (.ref (e.x .BadProgram))
  x_BadProgram : PySem.W.excIn K (e.x .BadProgram) [.type "ValueError", .type "Exception", .type "BaseException", .type "object"] "ValueError.__new__" = true
  k_BadProgram : PySem.W.keepIn K (.ref (e.x .BadProgram)) = true
  b_BadProgram : PySem.W.subIn K (.ref (e.x .BadProgram)) (.type "BaseException") = some true
  t_BadProgram : PySem.W.typeIn K (.ref (e.x .BadProgram)) = some (.type "type")
  h_BadProgram : PySem.W.hasDictIn K (e.x .BadProgram) = true
  g_BadStanding : mg "BadStanding" = some (.ref (e.x .BadStanding))
  x_BadStanding : PySem.W.excIn K (e.x .BadStanding) [.type "ValueError", .type "Exception", .type "BaseException", .type "object"] "ValueError.__new__" = true
  k_BadStanding : PySem.W.keepIn K (.ref (e.x .BadStanding)) = true
  b_BadStanding : PySem.W.subIn K (.ref (e.x .BadStanding)) (.type "BaseException") = some true
  t_BadStanding : PySem.W.typeIn K (.ref (e.x .BadStanding)) = some (.type "type")
  h_BadStanding : PySem.W.hasDictIn K (e.x .BadStanding) = true
  u_BadArgument_BadArgument : e.em (.ref (e.x .BadArgument)) (.ref (e.x .BadArgument)) = some true
  u_BadProgram_BadArgument : e.em (.ref (e.x .BadProgram)) (.ref (e.x .BadArgument)) = some false
  u_BadStanding_BadArgument : e.em (.ref (e.x .BadStanding)) (.ref (e.x .BadArgument)) = some false
section
variable {P : Program} {w : World} {K : PySem.W.Frag} {mg : Str → Option Value} {base : Heap} {e : EX} {a : Ad}
theorem bi__law_mixed (T : Txt K mg e a) : Binds K a.d__law_mixed ["number", "k"] [] := T.F__law_mixed.binds fun _ _ _ _ _ _ us hl => match us, hl with | [_, _], _ => rfl
theorem sc__law_mixed : FnScope N__law_mixed ["number", "k"] (defScope s__law_mixed) := ⟨rfl, rfl, rfl, by decide +kernel, rfl, by decide +kernel, by decide +kernel⟩
theorem ok__law_mixed (T : Txt K mg e a) : FnG P w K mg base 1 a.f__law_mixed a.d__law_mixed ["number", "k"] (spD K 2 (M._law_mixed e)) :=
  fn_d (N := N__law_mixed) (ps := ["number", "k"]) T.F__law_mixed sc__law_mixed fun cdv A outer s H E hr cx own => by
    unfold M.b__law_mixed
    exact (dss_cons (ds_set 2 cx (de_mod (de_add (de_add (de_mul (de_var 0) de_int) (de_mul (de_var 1) de_int)) de_int) de_int)) (dss_one (ds_ret (de_mod (de_add (de_mul (de_var 2) (de_add (de_div (de_var 2) de_int) de_int)) (de_var 1)) de_int))))
theorem bi__law_draw (T : Txt K mg e a) : Binds K a.d__law_draw ["draws"] [] := T.F__law_draw.binds fun _ _ _ _ _ _ us hl => match us, hl with | [_], _ => rfl
theorem sc__law_draw : FnScope N__law_draw ["draws"] (defScope s__law_draw) := ⟨rfl, rfl, rfl, by decide +kernel, rfl, by decide +kernel, by decide +kernel⟩
theorem ok__law_draw (T : Txt K mg e a) : FnG P w K mg base 2 a.f__law_draw a.d__law_draw ["draws"] (spD K 1 (M._law_draw e)) :=
  fn_d (N := N__law_draw) (ps := ["draws"]) T.F__law_draw sc__law_draw fun cdv A outer s H E hr cx own => by
    unfold M.b__law_draw
    exact (dss_cons (ds_set 1 cx (de_ix (de_var 0) de_int)) (dss_cons (ds_put (de_add (de_var 1) de_int) (de_var 0) de_int) (dss_cons (ds_if (dt_lt (de_var 1) (de_b call_len callD_len T.z_len (by decide +kernel) (da_cons (de_ix (de_var 0) de_int) da_nil))) (dss_one (ds_ret (de_ix (de_ix (de_var 0) de_int) (de_var 1)))) dss_nil) (dss_cons (ds_set 2 cx (de_add de_int (de_var 1))) (dss_cons (ds_if (dt_gt (de_b call_len callD_len T.z_len (by decide +kernel) (da_cons (de_ix (de_var 0) de_int) da_nil)) de_int) (dss_one (ds_set 2 cx (de_add (de_var 2) (de_mul de_int (de_ix (de_ix (de_var 0) de_int) de_int))))) dss_nil) (dss_one (ds_ret (de_mod (de_call cx (ok__law_mixed T) (hr.mono (by decide)) T.g__law_mixed T.k__law_mixed (bi__law_mixed T) (da_cons (de_call cx (ok__law_mixed T) (hr.mono (by decide)) T.g__law_mixed T.k__law_mixed (bi__law_mixed T) (da_cons (de_var 2) (da_cons (de_var 1) da_nil))) (da_cons de_int da_nil))) de_int))))))))
theorem bi__law_program (T : Txt K mg e a) : Binds K a.d__law_program ["draws"] [] := T.F__law_program.binds fun _ _ _ _ _ _ us hl => match us, hl with | [_], _ => rfl
theorem sc__law_program : FnScope N__law_program ["draws"] (defScope s__law_program) := ⟨rfl, rfl, rfl, by decide +kernel, rfl, by decide +kernel, by decide +kernel⟩
theorem ok__law_program (T : Txt K mg e a) : FnG P w K mg base 3 a.f__law_program a.d__law_program ["draws"] (spD K 1 (M._law_program e)) :=
  FnG.frz (fn_d (N := N__law_program) (ps := ["draws"]) T.F__law_program sc__law_program fun cdv A outer s H E hr cx own => by
    unfold M.b__law_program
    exact (dss_cons (ds_set 1 cx (de_ix (de_lst (da_cons de_int (da_cons de_int (da_cons de_int (da_cons de_int (da_cons de_int da_nil)))))) (de_mod (de_call cx (ok__law_draw T) (hr.mono (by decide)) T.g__law_draw T.k__law_draw (bi__law_draw T) (da_cons (de_var 0) da_nil)) de_int))) (dss_cons (ds_set 2 cx (de_new da_nil)) (dss_cons (ds_for cx own (di_range1 T.z_range (da_cons (de_ix (de_lst (da_cons de_int (da_cons de_int (da_cons de_int (da_cons de_int (da_cons de_int (da_cons de_int (da_cons de_int da_nil)))))))) (de_mod (de_call cx (ok__law_draw T) (hr.mono (by decide)) T.g__law_draw T.k__law_draw (bi__law_draw T) (da_cons (de_var 0) da_nil)) de_int)) da_nil)) (dg_name 3 cx.nd) (dss_cons (ds_set 4 cx (de_mod (de_call cx (ok__law_draw T) (hr.mono (by decide)) T.g__law_draw T.k__law_draw (bi__law_draw T) (da_cons (de_var 0) da_nil)) (de_var 1))) (dss_cons (ds_set 5 cx (de_mod (de_call cx (ok__law_draw T) (hr.mono (by decide)) T.g__law_draw T.k__law_draw (bi__law_draw T) (da_cons (de_var 0) da_nil)) (de_var 1))) (dss_one (ds_expr (de_append (de_var 2) (da_cons (de_tup (da_cons (de_var 4) (da_cons (de_var 5) (da_cons (de_sub (de_mod (de_call cx (ok__law_draw T) (hr.mono (by decide)) T.g__law_draw T.k__law_draw (bi__law_draw T) (da_cons (de_var 0) da_nil)) de_int) de_int) (da_cons (de_sub (de_mod (de_call cx (ok__law_draw T) (hr.mono (by decide)) T.g__law_draw T.k__law_draw (bi__law_draw T) (da_cons (de_var 0) da_nil)) de_int) de_int) da_nil))))) da_nil))))))) (dss_cons (ds_set 6 cx (de_new da_nil)) (dss_cons (ds_for cx own (di_range1 T.z_range (da_cons (de_ix (de_lst (da_cons de_int (da_cons de_int (da_cons de_int (da_cons de_int (da_cons de_int da_nil)))))) (de_mod (de_call cx (ok__law_draw T) (hr.mono (by decide)) T.g__law_draw T.k__law_draw (bi__law_draw T) (da_cons (de_var 0) da_nil)) de_int)) da_nil)) (dg_name 3 cx.nd) (dss_one (ds_expr (de_append (de_var 6) (da_cons (de_tup (da_cons (de_mod (de_call cx (ok__law_draw T) (hr.mono (by decide)) T.g__law_draw T.k__law_draw (bi__law_draw T) (da_cons (de_var 0) da_nil)) (de_var 1)) (da_cons (de_mod (de_call cx (ok__law_draw T) (hr.mono (by decide)) T.g__law_draw T.k__law_draw (bi__law_draw T) (da_cons (de_var 0) da_nil)) (de_var 1)) da_nil))) da_nil))))) (dss_one (ds_ret (de_tup (da_cons (de_var 1) (da_cons (de_ty call_tuple_of callD_tup T.z_tuple (by decide +kernel) (da_cons (de_var 2) da_nil)) (da_cons (de_ty call_tuple_of callD_tup T.z_tuple (by decide +kernel) (da_cons (de_var 6) da_nil)) da_nil))))))))))))
theorem bi__law_numbers (T : Txt K mg e a) : Binds K a.d__law_numbers ["script"] [] := T.F__law_numbers.binds fun _ _ _ _ _ _ us hl => match us, hl with | [_], _ => rfl
theorem sc__law_numbers : FnScope N__law_numbers ["script"] (defScope s__law_numbers) := ⟨rfl, rfl, rfl, by decide +kernel, rfl, by decide +kernel, by decide +kernel⟩
theorem ok__law_numbers (T : Txt K mg e a) : FnG P w K mg base 2 a.f__law_numbers a.d__law_numbers ["script"] (spD K 1 (M._law_numbers e)) :=
  FnG.frz (fn_d (N := N__law_numbers) (ps := ["script"]) T.F__law_numbers sc__law_numbers fun cdv A outer s H E hr cx own => by
    unfold M.b__law_numbers
    exact (dss_cons (ds_set 1 cx (de_new da_nil)) (dss_cons (ds_for cx own (di_seq (de_var 0)) (dg_name 2 cx.nd) (dss_one (ds_if (dt_ge (de_var 2) (de_pow de_int de_int)) (dss_cons (ds_set 3 cx (de_var 2)) (dss_one (ds_for cx own (di_range1 T.z_range (da_cons de_int da_nil)) (dg_name 4 cx.nd) (dss_one (ds_if (dt_gt (de_var 3) de_int) (dss_cons (ds_expr (de_append (de_var 1) (da_cons (de_mod (de_var 3) de_int) da_nil))) (dss_one (ds_set 3 cx (de_div (de_var 3) de_int)))) dss_nil))))) (dss_cons (ds_expr (de_append (de_var 1) (da_cons (de_mod (de_var 2) de_int) da_nil))) (dss_one (ds_for cx own (di_range1 T.z_range (da_cons de_int da_nil)) (dg_name 4 cx.nd) (dss_one (ds_expr (de_append (de_var 1) (da_cons (de_mod (de_call cx (ok__law_mixed T) (hr.mono (by decide)) T.g__law_mixed T.k__law_mixed (bi__law_mixed T) (da_cons (de_call cx (ok__law_mixed T) (hr.mono (by decide)) T.g__law_mixed T.k__law_mixed (bi__law_mixed T) (da_cons (de_mod (de_var 2) de_int) (da_cons (de_var 4) da_nil))) (da_cons (de_add (de_var 4) de_int) da_nil))) de_int) da_nil)))))))))) (dss_one (ds_ret (de_var 1))))))
theorem bi__law_ends (T : Txt K mg e a) : Binds K a.d__law_ends ["program", "move"] [] := T.F__law_ends.binds fun _ _ _ _ _ _ us hl => match us, hl with | [_, _], _ => rfl
theorem sc__law_ends : FnScope N__law_ends ["program", "move"] (defScope s__law_ends) := ⟨rfl, rfl, rfl, by decide +kernel, rfl, by decide +kernel, by decide +kernel⟩
theorem ok__law_ends (T : Txt K mg e a) : FnG P w K mg base 1 a.f__law_ends a.d__law_ends ["program", "move"] (spD K 2 (M._law_ends e)) :=
  fn_d (N := N__law_ends) (ps := ["program", "move"]) T.F__law_ends sc__law_ends fun cdv A outer s H E hr cx own => by
    unfold M.b__law_ends
    exact (dss_cons (ds_asg (de_var 0) (dg_tup (n := 3) cx.calm (dgs_cons (dg_name 2 cx.nd) (dgs_cons (dg_name 3 cx.nd) (dgs_cons (dg_name 4 cx.nd) dgs_nil))))) (dss_cons (ds_if (dt_lt (de_var 1) (de_b call_len callD_len T.z_len (by decide +kernel) (da_cons (de_var 3) da_nil))) (dss_one (ds_ret (de_ix (de_var 3) (de_var 1)))) dss_nil) (dss_one (ds_ret (de_add (de_ix (de_var 4) (de_sub (de_var 1) (de_b call_len callD_len T.z_len (by decide +kernel) (da_cons (de_var 3) da_nil)))) (de_tup (da_cons de_int (da_cons de_int da_nil))))))))
theorem bi__law_walk (T : Txt K mg e a) : Binds K a.d__law_walk ["draws", "program"] [] := T.F__law_walk.binds fun _ _ _ _ _ _ us hl => match us, hl with | [_, _], _ => rfl
theorem sc__law_walk : FnScope N__law_walk ["draws", "program"] (defScope s__law_walk) := ⟨rfl, rfl, rfl, by decide +kernel, rfl, by decide +kernel, by decide +kernel⟩
theorem ok__law_walk (T : Txt K mg e a) : FnG P w K mg base 3 a.f__law_walk a.d__law_walk ["draws", "program"] (spD K 2 (M._law_walk e)) :=
  fn_d (N := N__law_walk) (ps := ["draws", "program"]) T.F__law_walk sc__law_walk fun cdv A outer s H E hr cx own => by
    unfold M.b__law_walk
    exact (dss_cons (ds_set 2 cx (de_add (de_b call_len callD_len T.z_len (by decide +kernel) (da_cons (de_ix (de_var 1) de_int) da_nil)) (de_b call_len callD_len T.z_len (by decide +kernel) (da_cons (de_ix (de_var 1) de_int) da_nil)))) (dss_cons (ds_set 3 cx (de_mod (de_call cx (ok__law_draw T) (hr.mono (by decide)) T.g__law_draw T.k__law_draw (bi__law_draw T) (da_cons (de_var 0) da_nil)) (de_ix (de_var 1) de_int))) (dss_cons (ds_set 4 cx (de_tup da_nil)) (dss_cons (ds_for cx own (di_range1 T.z_range (da_cons (de_mod (de_call cx (ok__law_draw T) (hr.mono (by decide)) T.g__law_draw T.k__law_draw (bi__law_draw T) (da_cons (de_var 0) da_nil)) de_int) da_nil)) (dg_name 5 cx.nd) (dss_cons (ds_setComp (own := [("move", 7)]) 6 cx rfl rfl (sw_true rfl rfl rfl (by decide +kernel)) (di_range1 T.z_range (da_cons (de_var 2) da_nil)) (blkOk_by (own := [("move", 7)]) (N := N__law_walk) (sc := defScope s__law_walk) (by decide +kernel)) (fun s0 H0 C0 cl0 fp0 => (dgo_name 7 (cx.blk s0 H0 _ _ fp0).nd)) (fun s0 H0 C0 cl0 fp0 => (dts_one (dt_eq (cx.blk s0 H0 _ _ fp0).units (de_ix (de_call (cx.blk s0 H0 _ _ fp0) (ok__law_ends T) (hr.mono (by decide)) T.g__law_ends T.k__law_ends (bi__law_ends T) (da_cons (de_var 1) (da_cons (de_var 7) da_nil))) de_int) (de_var 3)))) (fun s0 H0 C0 cl0 fp0 => (de_var 7))) (dss_one (ds_if (dt_gt (de_b call_len callD_len T.z_len (by decide +kernel) (da_cons (de_var 6) da_nil)) de_int) (dss_cons (ds_set 7 cx (de_ix (de_var 6) (de_mod (de_call cx (ok__law_draw T) (hr.mono (by decide)) T.g__law_draw T.k__law_draw (bi__law_draw T) (da_cons (de_var 0) da_nil)) (de_b call_len callD_len T.z_len (by decide +kernel) (da_cons (de_var 6) da_nil))))) (dss_cons (ds_set 4 cx (de_add (de_var 4) (de_tup (da_cons (de_var 7) da_nil)))) (dss_one (ds_set 3 cx (de_ix (de_call cx (ok__law_ends T) (hr.mono (by decide)) T.g__law_ends T.k__law_ends (bi__law_ends T) (da_cons (de_var 1) (da_cons (de_var 7) da_nil))) de_int))))) dss_nil)))) (dss_one (ds_ret (de_var 4)))))))
theorem bi__law_need (T : Txt K mg e a) : Binds K a.d__law_need ["program", "word"] [] := T.F__law_need.binds fun _ _ _ _ _ _ us hl => match us, hl with | [_, _], _ => rfl
theorem sc__law_need : FnScope N__law_need ["program", "word"] (defScope s__law_need) := ⟨rfl, rfl, rfl, by decide +kernel, rfl, by decide +kernel, by decide +kernel⟩
theorem ok__law_need (T : Txt K mg e a) : FnG P w K mg base 2 a.f__law_need a.d__law_need ["program", "word"] (spD K 2 (M._law_need e)) :=
  FnG.frz (fn_d (N := N__law_need) (ps := ["program", "word"]) T.F__law_need sc__law_need fun cdv A outer s H E hr cx own => by
    unfold M.b__law_need
    exact (dss_cons (ds_set 2 cx de_int) (dss_cons (ds_set 3 cx de_int) (dss_cons (ds_set 4 cx (de_lst (da_cons de_int (da_cons de_int da_nil)))) (dss_cons (ds_set 5 cx (de_new da_nil)) (dss_cons (ds_for cx own (di_seq (de_var 1)) (dg_name 6 cx.nd) (dss_cons (ds_set 7 cx (de_call cx (ok__law_ends T) (hr.mono (by decide)) T.g__law_ends T.k__law_ends (bi__law_ends T) (da_cons (de_var 0) (da_cons (de_var 6) da_nil)))) (dss_cons (ds_if (dt_ge (de_var 6) (de_b call_len callD_len T.z_len (by decide +kernel) (da_cons (de_ix (de_var 0) de_int) da_nil))) (dss_one (ds_expr (de_append (de_var 5) (da_cons (de_neg (de_var 2)) da_nil)))) dss_nil) (dss_cons (ds_set 2 cx (de_add (de_var 2) (de_ix (de_var 7) de_int))) (dss_cons (ds_set 3 cx (de_add (de_var 3) (de_ix (de_var 7) de_int))) (dss_one (ds_set 4 cx (de_lst (da_cons (de_b (call_min2 cx.calm) callD_min2 T.z_min (by decide +kernel) (da_cons (de_ix (de_var 4) de_int) (da_cons (de_var 2) da_nil))) (da_cons (de_b (call_min2 cx.calm) callD_min2 T.z_min (by decide +kernel) (da_cons (de_ix (de_var 4) de_int) (da_cons (de_var 3) da_nil))) da_nil)))))))))) (dss_cons (ds_if (dt_eq cx.units (de_b call_len callD_len T.z_len (by decide +kernel) (da_cons (de_var 5) da_nil)) de_int) (dss_one (ds_ret (de_tup (da_cons (de_neg (de_ix (de_var 4) de_int)) (da_cons (de_neg (de_ix (de_var 4) de_int)) (da_cons de_bl da_nil)))))) dss_nil) (dss_cons (ds_if (DW.dt (dw_or (dt_neE cx.units (de_var 5) (de_mul (de_lst (da_cons (de_ix (de_var 5) de_int) da_nil)) (de_b call_len callD_len T.z_len (by decide +kernel) (da_cons (de_var 5) da_nil)))) (dw_or1 (dt_lt (de_add (de_ix (de_var 5) de_int) (de_ix (de_var 4) de_int)) de_int)))) (dss_one (ds_ret de_non)) dss_nil) (dss_one (ds_ret (de_tup (da_cons (de_ix (de_var 5) de_int) (da_cons (de_neg (de_ix (de_var 4) de_int)) (da_cons de_bl da_nil))))))))))))))
theorem bi__law_all_equal (T : Txt K mg e a) : Binds K a.d__law_all_equal ["actual", "due"] [] := T.F__law_all_equal.binds fun _ _ _ _ _ _ us hl => match us, hl with | [_, _], _ => rfl
theorem sc__law_all_equal : FnScope N__law_all_equal ["actual", "due"] (defScope s__law_all_equal) := ⟨rfl, rfl, rfl, by decide +kernel, rfl, by decide +kernel, by decide +kernel⟩
theorem bi__law_equal (T : Txt K mg e a) : Binds K a.d__law_equal ["actual", "due"] [] := T.F__law_equal.binds fun _ _ _ _ _ _ us hl => match us, hl with | [_, _], _ => rfl
theorem sc__law_equal : FnScope N__law_equal ["actual", "due"] (defScope s__law_equal) := ⟨rfl, rfl, rfl, by decide +kernel, rfl, by decide +kernel, by decide +kernel⟩
theorem okA (T : Txt K mg e a) : ∀ n : Nat, FnG P w K mg base (2 * n + 1) a.f__law_equal a.d__law_equal ["actual", "due"] (spD K 2 (M._law_equal_n e n)) := by
  intro n
  induction n with
  | zero => exact FnG.stuck
  | succ n hA =>
    have hB : FnG P w K mg base (2 * n + 2) a.f__law_all_equal a.d__law_all_equal ["actual", "due"] (spD K 2 (M._law_all_equal_r e (M._law_equal_n e n))) := by
      refine fn_d (N := N__law_all_equal) (ps := ["actual", "due"]) T.F__law_all_equal sc__law_all_equal fun cdv A outer s H E hr cx own => ?_
      unfold M.b__law_all_equal
      exact (dss_cons (ds_for cx own (di_range1 T.z_range (da_cons (de_b call_len callD_len T.z_len (by decide +kernel) (da_cons (de_var 1) da_nil)) da_nil)) (dg_name 2 cx.nd) (dss_one (ds_if (dt_not (dt_truth (de_call cx hA (hr.mono (by omega)) T.g__law_equal T.k__law_equal (bi__law_equal T) (da_cons (de_ix (de_var 0) (de_var 2)) (da_cons (de_ix (de_var 1) (de_var 2)) da_nil))))) (dss_one (ds_ret de_bl)) dss_nil))) (dss_one (ds_ret de_bl)))
    clear hA
    have hA := hB
    show FnG P w K mg base (2 * (n + 1) + 1) a.f__law_equal a.d__law_equal ["actual", "due"] (spD K 2 (runF 2 (M.b__law_equal e (M._law_all_equal_r e (M._law_equal_n e n)))))
    refine fn_d (N := N__law_equal) (ps := ["actual", "due"]) T.F__law_equal sc__law_equal fun cdv A outer s H E hr cx own => ?_
    unfold M.b__law_equal
    exact (dss_cons (ds_if (dt_truth (de_b call_isi callD_isi T.z_isinstance (by decide +kernel) (da_cons (de_var 1) (da_cons (de_gty T.z_list (by decide +kernel)) da_nil)))) (dss_one (ds_ret (de_and (de_b call_isi callD_isi T.z_isinstance (by decide +kernel) (da_cons (de_var 0) (da_cons (de_gty T.z_list (by decide +kernel)) da_nil))) (de_and (de_eq cx.units (de_b call_len callD_len T.z_len (by decide +kernel) (da_cons (de_var 0) da_nil)) (de_b call_len callD_len T.z_len (by decide +kernel) (da_cons (de_var 1) da_nil))) (de_one (de_call cx hA (hr.mono (by omega)) T.g__law_all_equal T.k__law_all_equal (bi__law_all_equal T) (da_cons (de_var 0) (da_cons (de_var 1) da_nil)))))))) dss_nil) (dss_cons (ds_if (dt_truth (de_b call_isi callD_isi T.z_isinstance (by decide +kernel) (da_cons (de_var 1) (da_cons (de_gty T.z_tuple (by decide +kernel)) da_nil)))) (dss_one (ds_ret (de_and (de_b call_isi callD_isi T.z_isinstance (by decide +kernel) (da_cons (de_var 0) (da_cons (de_gty T.z_tuple (by decide +kernel)) da_nil))) (de_and (de_eq cx.units (de_b call_len callD_len T.z_len (by decide +kernel) (da_cons (de_var 0) da_nil)) (de_b call_len callD_len T.z_len (by decide +kernel) (da_cons (de_var 1) da_nil))) (de_one (de_call cx hA (hr.mono (by omega)) T.g__law_all_equal T.k__law_all_equal (bi__law_all_equal T) (da_cons (de_var 0) (da_cons (de_var 1) da_nil)))))))) dss_nil) (dss_cons (ds_if (dt_truth (de_b call_isi callD_isi T.z_isinstance (by decide +kernel) (da_cons (de_var 1) (da_cons (de_gty T.z_bool (by decide +kernel)) da_nil)))) (dss_one (ds_ret (de_and (de_b call_isi callD_isi T.z_isinstance (by decide +kernel) (da_cons (de_var 0) (da_cons (de_gty T.z_bool (by decide +kernel)) da_nil))) (de_one (de_eq cx.units (de_var 0) (de_var 1)))))) dss_nil) (dss_cons (ds_if (dt_truth (de_b call_isi callD_isi T.z_isinstance (by decide +kernel) (da_cons (de_var 1) (da_cons (de_gty T.z_int (by decide +kernel)) da_nil)))) (dss_one (ds_ret (de_and (de_b call_isi callD_isi T.z_isinstance (by decide +kernel) (da_cons (de_var 0) (da_cons (de_gty T.z_int (by decide +kernel)) da_nil))) (de_and (de_not (de_b call_isi callD_isi T.z_isinstance (by decide +kernel) (da_cons (de_var 0) (da_cons (de_gty T.z_bool (by decide +kernel)) da_nil)))) (de_one (de_eq cx.units (de_var 0) (de_var 1))))))) dss_nil) (dss_cons (ds_if (dt_truth (de_b call_isi callD_isi T.z_isinstance (by decide +kernel) (da_cons (de_var 1) (da_cons (de_gty T.z_str (by decide +kernel)) da_nil)))) (dss_one (ds_ret (de_and (de_b call_isi callD_isi T.z_isinstance (by decide +kernel) (da_cons (de_var 0) (da_cons (de_gty T.z_str (by decide +kernel)) da_nil))) (de_one (de_eq cx.units (de_var 0) (de_var 1)))))) dss_nil) (dss_one (ds_ret (de_and (de_is (de_var 0) de_non) (de_one (de_is (de_var 1) de_non))))))))))
theorem ok__law_equal (T : Txt K mg e a) : FnG P w K mg base 13 a.f__law_equal a.d__law_equal ["actual", "due"] (spD K 2 (M._law_equal e)) := okA T 6
theorem bi__law_is_walk (T : Txt K mg e a) : Binds K a.d__law_is_walk ["program", "word"] [] := T.F__law_is_walk.binds fun _ _ _ _ _ _ us hl => match us, hl with | [_, _], _ => rfl
theorem sc__law_is_walk : FnScope N__law_is_walk ["program", "word"] (defScope s__law_is_walk) := ⟨rfl, rfl, rfl, by decide +kernel, rfl, by decide +kernel, by decide +kernel⟩
theorem ok__law_is_walk (T : Txt K mg e a) : FnG P w K mg base 2 a.f__law_is_walk a.d__law_is_walk ["program", "word"] (spD K 2 (M._law_is_walk e)) :=
  fn_d (N := N__law_is_walk) (ps := ["program", "word"]) T.F__law_is_walk sc__law_is_walk fun cdv A outer s H E hr cx own => by
    unfold M.b__law_is_walk
    exact (dss_cons (ds_for cx own (di_range2 T.z_range (da_cons de_int (da_cons (de_b call_len callD_len T.z_len (by decide +kernel) (da_cons (de_var 1) da_nil)) da_nil))) (dg_name 2 cx.nd) (dss_one (ds_if (dt_ne cx.units (de_ix (de_call cx (ok__law_ends T) (hr.mono (by decide)) T.g__law_ends T.k__law_ends (bi__law_ends T) (da_cons (de_var 0) (da_cons (de_ix (de_var 1) (de_sub (de_var 2) de_int)) da_nil))) de_int) (de_ix (de_call cx (ok__law_ends T) (hr.mono (by decide)) T.g__law_ends T.k__law_ends (bi__law_ends T) (da_cons (de_var 0) (da_cons (de_ix (de_var 1) (de_var 2)) da_nil))) de_int)) (dss_one (ds_ret de_bl)) dss_nil))) (dss_one (ds_ret de_bl)))
theorem bi_is_tuple (T : Txt K mg e a) : Binds K a.d_is_tuple ["value", "size"] [] := T.F_is_tuple.binds fun _ _ _ _ _ _ us hl => match us, hl with | [_, _], _ => rfl
theorem sc_is_tuple : FnScope N_is_tuple ["value", "size"] (defScope s_is_tuple) := ⟨rfl, rfl, rfl, by decide +kernel, rfl, by decide +kernel, by decide +kernel⟩
theorem ok_is_tuple (T : Txt K mg e a) : FnG P w K mg base 1 a.f_is_tuple a.d_is_tuple ["value", "size"] (spD K 2 (M.is_tuple e)) :=
  fn_d (N := N_is_tuple) (ps := ["value", "size"]) T.F_is_tuple sc_is_tuple fun cdv A outer s H E hr cx own => by
    unfold M.b_is_tuple
    exact (dss_one (ds_ret (de_and (de_b call_isi callD_isi T.z_isinstance (by decide +kernel) (da_cons (de_var 0) (da_cons (de_gty T.z_tuple (by decide +kernel)) da_nil))) (de_one (de_eq cx.units (de_b call_len callD_len T.z_len (by decide +kernel) (da_cons (de_var 0) da_nil)) (de_var 1))))))
theorem bi_is_within (T : Txt K mg e a) : Binds K a.d_is_within ["value", "least", "most"] [] := T.F_is_within.binds fun _ _ _ _ _ _ us hl => match us, hl with | [_, _, _], _ => rfl
theorem sc_is_within : FnScope N_is_within ["value", "least", "most"] (defScope s_is_within) := ⟨rfl, rfl, rfl, by decide +kernel, rfl, by decide +kernel, by decide +kernel⟩
theorem ok_is_within (T : Txt K mg e a) : FnG P w K mg base 1 a.f_is_within a.d_is_within ["value", "least", "most"] (spD K 3 (M.is_within e)) :=
  fn_d (N := N_is_within) (ps := ["value", "least", "most"]) T.F_is_within sc_is_within fun cdv A outer s H E hr cx own => by
    unfold M.b_is_within
    exact (dss_one (ds_ret (de_and (de_b call_isi callD_isi T.z_isinstance (by decide +kernel) (da_cons (de_var 0) (da_cons (de_gty T.z_int (by decide +kernel)) da_nil))) (de_and (de_not (de_b call_isi callD_isi T.z_isinstance (by decide +kernel) (da_cons (de_var 0) (da_cons (de_gty T.z_bool (by decide +kernel)) da_nil)))) (de_one (de_le_le (de_var 1) (de_var 0) (de_var 2)))))))
theorem bi_check_program (T : Txt K mg e a) : Binds K a.d_check_program ["program"] [] := T.F_check_program.binds fun _ _ _ _ _ _ us hl => match us, hl with | [_], _ => rfl
theorem sc_check_program : FnScope N_check_program ["program"] (defScope s_check_program) := ⟨rfl, rfl, rfl, by decide +kernel, rfl, by decide +kernel, by decide +kernel⟩
theorem ok_check_program (T : Txt K mg e a) : FnG P w K mg base 2 a.f_check_program a.d_check_program ["program"] (spD K 1 (M.check_program e)) :=
  fn_d (N := N_check_program) (ps := ["program"]) T.F_check_program sc_check_program fun cdv A outer s H E hr cx own => by
    unfold M.b_check_program
    exact (dss_cons (ds_if (dt_not (dt_truth (de_call cx (ok_is_tuple T) (hr.mono (by decide)) T.g_is_tuple T.k_is_tuple (bi_is_tuple T) (da_cons (de_var 0) (da_cons de_int da_nil))))) (dss_one (ds_raise (q := e.x .BadProgram) cx (pmk_own PySem.F.excBase_ValueError T.x_BadProgram T.g_BadProgram T.k_BadProgram (raises_own T.b_BadProgram T.t_BadProgram) rfl) (fun _ _ _ h => h))) dss_nil) (dss_cons (ds_asg (de_var 0) (dg_tup (n := 3) cx.calm (dgs_cons (dg_name 1 cx.nd) (dgs_cons (dg_name 2 cx.nd) (dgs_cons (dg_name 3 cx.nd) dgs_nil))))) (dss_cons (ds_if (dt_not (dt_truth (de_call cx (ok_is_within T) (hr.mono (by decide)) T.g_is_within T.k_is_within (bi_is_within T) (da_cons (de_var 1) (da_cons de_int (da_cons (de_gint T.g_ROOMS) da_nil)))))) (dss_one (ds_raise (q := e.x .BadProgram) cx (pmk_own PySem.F.excBase_ValueError T.x_BadProgram T.g_BadProgram T.k_BadProgram (raises_own T.b_BadProgram T.t_BadProgram) rfl) (fun _ _ _ h => h))) dss_nil) (dss_cons (ds_if (DW.dt (dw_or (dt_not (dt_truth (de_b call_isi callD_isi T.z_isinstance (by decide +kernel) (da_cons (de_var 2) (da_cons (de_gty T.z_tuple (by decide +kernel)) da_nil))))) (dw_or1 (dt_gt (de_b call_len callD_len T.z_len (by decide +kernel) (da_cons (de_var 2) da_nil)) (de_gint T.g_STEPS))))) (dss_one (ds_raise (q := e.x .BadProgram) cx (pmk_own PySem.F.excBase_ValueError T.x_BadProgram T.g_BadProgram T.k_BadProgram (raises_own T.b_BadProgram T.t_BadProgram) rfl) (fun _ _ _ h => h))) dss_nil) (dss_cons (ds_for cx own (di_seq (de_var 2)) (dg_name 4 cx.nd) (dss_cons (ds_if (DW.dt (dw_or (dt_not (dt_truth (de_call cx (ok_is_tuple T) (hr.mono (by decide)) T.g_is_tuple T.k_is_tuple (bi_is_tuple T) (da_cons (de_var 4) (da_cons de_int da_nil))))) (dw_or (dt_not (dt_truth (de_call cx (ok_is_within T) (hr.mono (by decide)) T.g_is_within T.k_is_within (bi_is_within T) (da_cons (de_ix (de_var 4) de_int) (da_cons de_int (da_cons (de_sub (de_var 1) de_int) da_nil)))))) (dw_or1 (dt_not (dt_truth (de_call cx (ok_is_within T) (hr.mono (by decide)) T.g_is_within T.k_is_within (bi_is_within T) (da_cons (de_ix (de_var 4) de_int) (da_cons de_int (da_cons (de_sub (de_var 1) de_int) da_nil)))))))))) (dss_one (ds_raise (q := e.x .BadProgram) cx (pmk_own PySem.F.excBase_ValueError T.x_BadProgram T.g_BadProgram T.k_BadProgram (raises_own T.b_BadProgram T.t_BadProgram) rfl) (fun _ _ _ h => h))) dss_nil) (dss_one (ds_if (DW.dt (dw_or (dt_not (dt_truth (de_call cx (ok_is_within T) (hr.mono (by decide)) T.g_is_within T.k_is_within (bi_is_within T) (da_cons (de_ix (de_var 4) de_int) (da_cons (de_neg (de_gint T.g_STEP)) (da_cons (de_gint T.g_STEP) da_nil)))))) (dw_or1 (dt_not (dt_truth (de_call cx (ok_is_within T) (hr.mono (by decide)) T.g_is_within T.k_is_within (bi_is_within T) (da_cons (de_ix (de_var 4) de_int) (da_cons (de_neg (de_gint T.g_STEP)) (da_cons (de_gint T.g_STEP) da_nil))))))))) (dss_one (ds_raise (q := e.x .BadProgram) cx (pmk_own PySem.F.excBase_ValueError T.x_BadProgram T.g_BadProgram T.k_BadProgram (raises_own T.b_BadProgram T.t_BadProgram) rfl) (fun _ _ _ h => h))) dss_nil)))) (dss_cons (ds_if (DW.dt (dw_or (dt_not (dt_truth (de_b call_isi callD_isi T.z_isinstance (by decide +kernel) (da_cons (de_var 3) (da_cons (de_gty T.z_tuple (by decide +kernel)) da_nil))))) (dw_or1 (dt_gt (de_b call_len callD_len T.z_len (by decide +kernel) (da_cons (de_var 3) da_nil)) (de_gint T.g_TESTS))))) (dss_one (ds_raise (q := e.x .BadProgram) cx (pmk_own PySem.F.excBase_ValueError T.x_BadProgram T.g_BadProgram T.k_BadProgram (raises_own T.b_BadProgram T.t_BadProgram) rfl) (fun _ _ _ h => h))) dss_nil) (dss_one (ds_for cx own (di_seq (de_var 3)) (dg_name 5 cx.nd) (dss_one (ds_if (DW.dt (dw_or (dt_not (dt_truth (de_call cx (ok_is_tuple T) (hr.mono (by decide)) T.g_is_tuple T.k_is_tuple (bi_is_tuple T) (da_cons (de_var 5) (da_cons de_int da_nil))))) (dw_or (dt_not (dt_truth (de_call cx (ok_is_within T) (hr.mono (by decide)) T.g_is_within T.k_is_within (bi_is_within T) (da_cons (de_ix (de_var 5) de_int) (da_cons de_int (da_cons (de_sub (de_var 1) de_int) da_nil)))))) (dw_or1 (dt_not (dt_truth (de_call cx (ok_is_within T) (hr.mono (by decide)) T.g_is_within T.k_is_within (bi_is_within T) (da_cons (de_ix (de_var 5) de_int) (da_cons de_int (da_cons (de_sub (de_var 1) de_int) da_nil)))))))))) (dss_one (ds_raise (q := e.x .BadProgram) cx (pmk_own PySem.F.excBase_ValueError T.x_BadProgram T.g_BadProgram T.k_BadProgram (raises_own T.b_BadProgram T.t_BadProgram) rfl) (fun _ _ _ h => h))) dss_nil))))))))))
theorem bi_move_count (T : Txt K mg e a) : Binds K a.d_move_count ["program"] [] := T.F_move_count.binds fun _ _ _ _ _ _ us hl => match us, hl with | [_], _ => rfl
theorem sc_move_count : FnScope N_move_count ["program"] (defScope s_move_count) := ⟨rfl, rfl, rfl, by decide +kernel, rfl, by decide +kernel, by decide +kernel⟩
theorem ok_move_count (T : Txt K mg e a) : FnG P w K mg base 1 a.f_move_count a.d_move_count ["program"] (spD K 1 (M.move_count e)) :=
  fn_d (N := N_move_count) (ps := ["program"]) T.F_move_count sc_move_count fun cdv A outer s H E hr cx own => by
    unfold M.b_move_count
    exact (dss_one (ds_ret (de_add (de_b call_len callD_len T.z_len (by decide +kernel) (da_cons (de_ix (de_var 0) de_int) da_nil)) (de_b call_len callD_len T.z_len (by decide +kernel) (da_cons (de_ix (de_var 0) de_int) da_nil)))))
theorem bi_is_move (T : Txt K mg e a) : Binds K a.d_is_move ["program", "value"] [] := T.F_is_move.binds fun _ _ _ _ _ _ us hl => match us, hl with | [_, _], _ => rfl
theorem sc_is_move : FnScope N_is_move ["program", "value"] (defScope s_is_move) := ⟨rfl, rfl, rfl, by decide +kernel, rfl, by decide +kernel, by decide +kernel⟩
theorem ok_is_move (T : Txt K mg e a) : FnG P w K mg base 2 a.f_is_move a.d_is_move ["program", "value"] (spD K 2 (M.is_move e)) :=
  fn_d (N := N_is_move) (ps := ["program", "value"]) T.F_is_move sc_is_move fun cdv A outer s H E hr cx own => by
    unfold M.b_is_move
    exact (dss_one (ds_ret (de_call cx (ok_is_within T) (hr.mono (by decide)) T.g_is_within T.k_is_within (bi_is_within T) (da_cons (de_var 1) (da_cons de_int (da_cons (de_sub (de_call cx (ok_move_count T) (hr.mono (by decide)) T.g_move_count T.k_move_count (bi_move_count T) (da_cons (de_var 0) da_nil)) de_int) da_nil))))))
theorem bi_is_word (T : Txt K mg e a) : Binds K a.d_is_word ["program", "value"] [] := T.F_is_word.binds fun _ _ _ _ _ _ us hl => match us, hl with | [_, _], _ => rfl
theorem sc_is_word : FnScope N_is_word ["program", "value"] (defScope s_is_word) := ⟨rfl, rfl, rfl, by decide +kernel, rfl, by decide +kernel, by decide +kernel⟩
theorem ok_is_word (T : Txt K mg e a) : FnG P w K mg base 3 a.f_is_word a.d_is_word ["program", "value"] (spD K 2 (M.is_word e)) :=
  fn_d (N := N_is_word) (ps := ["program", "value"]) T.F_is_word sc_is_word fun cdv A outer s H E hr cx own => by
    unfold M.b_is_word
    exact (dss_cons (ds_if (dt_not (dt_truth (de_b call_isi callD_isi T.z_isinstance (by decide +kernel) (da_cons (de_var 1) (da_cons (de_gty T.z_tuple (by decide +kernel)) da_nil))))) (dss_one (ds_ret de_bl)) dss_nil) (dss_cons (ds_for cx own (di_seq (de_var 1)) (dg_name 2 cx.nd) (dss_one (ds_if (dt_not (dt_truth (de_call cx (ok_is_move T) (hr.mono (by decide)) T.g_is_move T.k_is_move (bi_is_move T) (da_cons (de_var 0) (da_cons (de_var 2) da_nil))))) (dss_one (ds_ret de_bl)) dss_nil))) (dss_one (ds_ret de_bl))))
theorem bi_check_word (T : Txt K mg e a) : Binds K a.d_check_word ["program", "word"] [] := T.F_check_word.binds fun _ _ _ _ _ _ us hl => match us, hl with | [_, _], _ => rfl
theorem sc_check_word : FnScope N_check_word ["program", "word"] (defScope s_check_word) := ⟨rfl, rfl, rfl, by decide +kernel, rfl, by decide +kernel, by decide +kernel⟩
theorem ok_check_word (T : Txt K mg e a) : FnG P w K mg base 4 a.f_check_word a.d_check_word ["program", "word"] (spD K 2 (M.check_word e)) :=
  fn_d (N := N_check_word) (ps := ["program", "word"]) T.F_check_word sc_check_word fun cdv A outer s H E hr cx own => by
    unfold M.b_check_word
    exact (dss_one (ds_if (dt_not (dt_truth (de_call cx (ok_is_word T) (hr.mono (by decide)) T.g_is_word T.k_is_word (bi_is_word T) (da_cons (de_var 0) (da_cons (de_var 1) da_nil))))) (dss_one (ds_raise (q := e.x .BadArgument) cx (pmk_own PySem.F.excBase_ValueError T.x_BadArgument T.g_BadArgument T.k_BadArgument (raises_own T.b_BadArgument T.t_BadArgument) rfl) (fun _ _ _ h => h))) dss_nil))
theorem bi_is_test (T : Txt K mg e a) : Binds K a.d_is_test ["program", "move"] [] := T.F_is_test.binds fun _ _ _ _ _ _ us hl => match us, hl with | [_, _], _ => rfl
theorem sc_is_test : FnScope N_is_test ["program", "move"] (defScope s_is_test) := ⟨rfl, rfl, rfl, by decide +kernel, rfl, by decide +kernel, by decide +kernel⟩
theorem ok_is_test (T : Txt K mg e a) : FnG P w K mg base 1 a.f_is_test a.d_is_test ["program", "move"] (spD K 2 (M.is_test e)) :=
  fn_d (N := N_is_test) (ps := ["program", "move"]) T.F_is_test sc_is_test fun cdv A outer s H E hr cx own => by
    unfold M.b_is_test
    exact (dss_one (ds_ret (de_ge (de_var 1) (de_b call_len callD_len T.z_len (by decide +kernel) (da_cons (de_ix (de_var 0) de_int) da_nil)))))
theorem bi_change_of (T : Txt K mg e a) : Binds K a.d_change_of ["program", "move"] [] := T.F_change_of.binds fun _ _ _ _ _ _ us hl => match us, hl with | [_, _], _ => rfl
theorem sc_change_of : FnScope N_change_of ["program", "move"] (defScope s_change_of) := ⟨rfl, rfl, rfl, by decide +kernel, rfl, by decide +kernel, by decide +kernel⟩
theorem ok_change_of (T : Txt K mg e a) : FnG P w K mg base 2 a.f_change_of a.d_change_of ["program", "move"] (spD K 2 (M.change_of e)) :=
  fn_d (N := N_change_of) (ps := ["program", "move"]) T.F_change_of sc_change_of fun cdv A outer s H E hr cx own => by
    unfold M.b_change_of
    exact (dss_cons (ds_if (dt_truth (de_call cx (ok_is_test T) (hr.mono (by decide)) T.g_is_test T.k_is_test (bi_is_test T) (da_cons (de_var 0) (da_cons (de_var 1) da_nil)))) (dss_one (ds_ret (de_tup (da_cons de_int (da_cons de_int da_nil))))) dss_nil) (dss_one (ds_ret (de_tup (da_cons (de_ix (de_ix (de_ix (de_var 0) de_int) (de_var 1)) de_int) (da_cons (de_ix (de_ix (de_ix (de_var 0) de_int) (de_var 1)) de_int) da_nil))))))
theorem bi_need_of (T : Txt K mg e a) : Binds K a.d_need_of ["program", "word"] [] := T.F_need_of.binds fun _ _ _ _ _ _ us hl => match us, hl with | [_, _], _ => rfl
theorem sc_need_of : FnScope N_need_of ["program", "word"] (defScope s_need_of) := ⟨rfl, rfl, rfl, by decide +kernel, rfl, by decide +kernel, by decide +kernel⟩
theorem ok_need_of (T : Txt K mg e a) : FnG P w K mg base 3 a.f_need_of a.d_need_of ["program", "word"] (spD K 2 (M.need_of e)) :=
  fn_d (N := N_need_of) (ps := ["program", "word"]) T.F_need_of sc_need_of fun cdv A outer s H E hr cx own => by
    unfold M.b_need_of
    exact (dss_cons (ds_set 2 cx de_int) (dss_cons (ds_set 3 cx de_int) (dss_cons (ds_set 4 cx de_int) (dss_cons (ds_set 5 cx de_int) (dss_cons (ds_set 6 cx de_non) (dss_cons (ds_for cx own (di_seq (de_var 1)) (dg_name 7 cx.nd) (dss_one (ds_if (dt_truth (de_call cx (ok_is_test T) (hr.mono (by decide)) T.g_is_test T.k_is_test (bi_is_test T) (da_cons (de_var 0) (da_cons (de_var 7) da_nil)))) (dss_cons (ds_if (DW.dt (dw_and (dt_isNot (de_var 6) de_non) (dw_and1 (dt_ne cx.units (de_var 6) (de_neg (de_var 2)))))) (dss_one (ds_ret de_non)) dss_nil) (dss_one (ds_set 6 cx (de_neg (de_var 2))))) (dss_cons (ds_set 8 cx (de_call cx (ok_change_of T) (hr.mono (by decide)) T.g_change_of T.k_change_of (bi_change_of T) (da_cons (de_var 0) (da_cons (de_var 7) da_nil)))) (dss_cons (ds_augAdd 2 cx (de_ix (de_var 8) de_int)) (dss_cons (ds_augAdd 3 cx (de_ix (de_var 8) de_int)) (dss_cons (ds_set 4 cx (de_b (call_max2 cx.calm) callD_max2 T.z_max (by decide +kernel) (da_cons (de_var 4) (da_cons (de_neg (de_var 2)) da_nil)))) (dss_one (ds_set 5 cx (de_b (call_max2 cx.calm) callD_max2 T.z_max (by decide +kernel) (da_cons (de_var 5) (da_cons (de_neg (de_var 3)) da_nil)))))))))))) (dss_cons (ds_if (dt_is (de_var 6) de_non) (dss_one (ds_ret (de_tup (da_cons (de_var 4) (da_cons (de_var 5) (da_cons de_bl da_nil)))))) dss_nil) (dss_cons (ds_if (dt_lt (de_var 6) (de_var 4)) (dss_one (ds_ret de_non)) dss_nil) (dss_one (ds_ret (de_tup (da_cons (de_var 6) (da_cons (de_var 5) (da_cons de_bl da_nil))))))))))))))
theorem bi_source_of (T : Txt K mg e a) : Binds K a.d_source_of ["program", "move"] [] := T.F_source_of.binds fun _ _ _ _ _ _ us hl => match us, hl with | [_, _], _ => rfl
theorem sc_source_of : FnScope N_source_of ["program", "move"] (defScope s_source_of) := ⟨rfl, rfl, rfl, by decide +kernel, rfl, by decide +kernel, by decide +kernel⟩
theorem ok_source_of (T : Txt K mg e a) : FnG P w K mg base 2 a.f_source_of a.d_source_of ["program", "move"] (spD K 2 (M.source_of e)) :=
  fn_d (N := N_source_of) (ps := ["program", "move"]) T.F_source_of sc_source_of fun cdv A outer s H E hr cx own => by
    unfold M.b_source_of
    exact (dss_cons (ds_if (dt_truth (de_call cx (ok_is_test T) (hr.mono (by decide)) T.g_is_test T.k_is_test (bi_is_test T) (da_cons (de_var 0) (da_cons (de_var 1) da_nil)))) (dss_one (ds_ret (de_ix (de_ix (de_ix (de_var 0) de_int) (de_sub (de_var 1) (de_b call_len callD_len T.z_len (by decide +kernel) (da_cons (de_ix (de_var 0) de_int) da_nil)))) de_int))) dss_nil) (dss_one (ds_ret (de_ix (de_ix (de_ix (de_var 0) de_int) (de_var 1)) de_int))))
theorem bi_target_of (T : Txt K mg e a) : Binds K a.d_target_of ["program", "move"] [] := T.F_target_of.binds fun _ _ _ _ _ _ us hl => match us, hl with | [_, _], _ => rfl
theorem sc_target_of : FnScope N_target_of ["program", "move"] (defScope s_target_of) := ⟨rfl, rfl, rfl, by decide +kernel, rfl, by decide +kernel, by decide +kernel⟩
theorem ok_target_of (T : Txt K mg e a) : FnG P w K mg base 2 a.f_target_of a.d_target_of ["program", "move"] (spD K 2 (M.target_of e)) :=
  fn_d (N := N_target_of) (ps := ["program", "move"]) T.F_target_of sc_target_of fun cdv A outer s H E hr cx own => by
    unfold M.b_target_of
    exact (dss_cons (ds_if (dt_truth (de_call cx (ok_is_test T) (hr.mono (by decide)) T.g_is_test T.k_is_test (bi_is_test T) (da_cons (de_var 0) (da_cons (de_var 1) da_nil)))) (dss_one (ds_ret (de_ix (de_ix (de_ix (de_var 0) de_int) (de_sub (de_var 1) (de_b call_len callD_len T.z_len (by decide +kernel) (da_cons (de_ix (de_var 0) de_int) da_nil)))) de_int))) dss_nil) (dss_one (ds_ret (de_ix (de_ix (de_ix (de_var 0) de_int) (de_var 1)) de_int))))
theorem bi_walks (T : Txt K mg e a) : Binds K a.d_walks ["program", "word"] [] := T.F_walks.binds fun _ _ _ _ _ _ us hl => match us, hl with | [_, _], _ => rfl
theorem sc_walks : FnScope N_walks ["program", "word"] (defScope s_walks) := ⟨rfl, rfl, rfl, by decide +kernel, rfl, by decide +kernel, by decide +kernel⟩
theorem ok_walks (T : Txt K mg e a) : FnG P w K mg base 3 a.f_walks a.d_walks ["program", "word"] (spD K 2 (M.walks e)) :=
  fn_d (N := N_walks) (ps := ["program", "word"]) T.F_walks sc_walks fun cdv A outer s H E hr cx own => by
    unfold M.b_walks
    exact (dss_cons (ds_for cx own (di_range2 T.z_range (da_cons de_int (da_cons (de_b call_len callD_len T.z_len (by decide +kernel) (da_cons (de_var 1) da_nil)) da_nil))) (dg_name 2 cx.nd) (dss_one (ds_if (dt_ne cx.units (de_call cx (ok_source_of T) (hr.mono (by decide)) T.g_source_of T.k_source_of (bi_source_of T) (da_cons (de_var 0) (da_cons (de_ix (de_var 1) (de_var 2)) da_nil))) (de_call cx (ok_target_of T) (hr.mono (by decide)) T.g_target_of T.k_target_of (bi_target_of T) (da_cons (de_var 0) (da_cons (de_ix (de_var 1) (de_sub (de_var 2) de_int)) da_nil)))) (dss_one (ds_ret de_bl)) dss_nil))) (dss_one (ds_ret de_bl)))
theorem bi_need (T : Txt K mg e a) : Binds K a.d_need ["program", "word"] [] := T.F_need.binds fun _ _ _ _ _ _ us hl => match us, hl with | [_, _], _ => rfl
theorem sc_need : FnScope N_need ["program", "word"] (defScope s_need) := ⟨rfl, rfl, rfl, by decide +kernel, rfl, by decide +kernel, by decide +kernel⟩
theorem ok_need (T : Txt K mg e a) : FnG P w K mg base 5 a.f_need a.d_need ["program", "word"] (spD K 2 (M.need e)) :=
  fn_d (N := N_need) (ps := ["program", "word"]) T.F_need sc_need fun cdv A outer s H E hr cx own => by
    unfold M.b_need
    exact (dss_cons (ds_expr (de_call cx (ok_check_program T) (hr.mono (by decide)) T.g_check_program T.k_check_program (bi_check_program T) (da_cons (de_var 0) da_nil))) (dss_cons (ds_expr (de_call cx (ok_check_word T) (hr.mono (by decide)) T.g_check_word T.k_check_word (bi_check_word T) (da_cons (de_var 0) (da_cons (de_var 1) da_nil)))) (dss_cons (ds_if (dt_not (dt_truth (de_call cx (ok_walks T) (hr.mono (by decide)) T.g_walks T.k_walks (bi_walks T) (da_cons (de_var 0) (da_cons (de_var 1) da_nil))))) (dss_one (ds_raise (q := e.x .BadArgument) cx (pmk_own PySem.F.excBase_ValueError T.x_BadArgument T.g_BadArgument T.k_BadArgument (raises_own T.b_BadArgument T.t_BadArgument) rfl) (fun _ _ _ h => h))) dss_nil) (dss_one (ds_ret (de_call cx (ok_need_of T) (hr.mono (by decide)) T.g_need_of T.k_need_of (bi_need_of T) (da_cons (de_var 0) (da_cons (de_var 1) da_nil))))))))
theorem bi_effect_of (T : Txt K mg e a) : Binds K a.d_effect_of ["program", "word"] [] := T.F_effect_of.binds fun _ _ _ _ _ _ us hl => match us, hl with | [_, _], _ => rfl
theorem sc_effect_of : FnScope N_effect_of ["program", "word"] (defScope s_effect_of) := ⟨rfl, rfl, rfl, by decide +kernel, rfl, by decide +kernel, by decide +kernel⟩
theorem ok_effect_of (T : Txt K mg e a) : FnG P w K mg base 3 a.f_effect_of a.d_effect_of ["program", "word"] (spD K 2 (M.effect_of e)) :=
  fn_d (N := N_effect_of) (ps := ["program", "word"]) T.F_effect_of sc_effect_of fun cdv A outer s H E hr cx own => by
    unfold M.b_effect_of
    exact (dss_cons (ds_set 2 cx de_int) (dss_cons (ds_set 3 cx de_int) (dss_cons (ds_for cx own (di_seq (de_var 1)) (dg_name 4 cx.nd) (dss_cons (ds_set 5 cx (de_call cx (ok_change_of T) (hr.mono (by decide)) T.g_change_of T.k_change_of (bi_change_of T) (da_cons (de_var 0) (da_cons (de_var 4) da_nil)))) (dss_cons (ds_augAdd 2 cx (de_ix (de_var 5) de_int)) (dss_one (ds_augAdd 3 cx (de_ix (de_var 5) de_int)))))) (dss_one (ds_ret (de_tup (da_cons (de_var 2) (da_cons (de_var 3) da_nil))))))))
theorem bi_effect (T : Txt K mg e a) : Binds K a.d_effect ["program", "word"] [] := T.F_effect.binds fun _ _ _ _ _ _ us hl => match us, hl with | [_, _], _ => rfl
theorem sc_effect : FnScope N_effect ["program", "word"] (defScope s_effect) := ⟨rfl, rfl, rfl, by decide +kernel, rfl, by decide +kernel, by decide +kernel⟩
theorem ok_effect (T : Txt K mg e a) : FnG P w K mg base 5 a.f_effect a.d_effect ["program", "word"] (spD K 2 (M.effect e)) :=
  fn_d (N := N_effect) (ps := ["program", "word"]) T.F_effect sc_effect fun cdv A outer s H E hr cx own => by
    unfold M.b_effect
    exact (dss_cons (ds_expr (de_call cx (ok_check_program T) (hr.mono (by decide)) T.g_check_program T.k_check_program (bi_check_program T) (da_cons (de_var 0) da_nil))) (dss_cons (ds_expr (de_call cx (ok_check_word T) (hr.mono (by decide)) T.g_check_word T.k_check_word (bi_check_word T) (da_cons (de_var 0) (da_cons (de_var 1) da_nil)))) (dss_one (ds_ret (de_call cx (ok_effect_of T) (hr.mono (by decide)) T.g_effect_of T.k_effect_of (bi_effect_of T) (da_cons (de_var 0) (da_cons (de_var 1) da_nil)))))))
theorem bi_is_walk (T : Txt K mg e a) : Binds K a.d_is_walk ["program", "word"] [] := T.F_is_walk.binds fun _ _ _ _ _ _ us hl => match us, hl with | [_, _], _ => rfl
theorem sc_is_walk : FnScope N_is_walk ["program", "word"] (defScope s_is_walk) := ⟨rfl, rfl, rfl, by decide +kernel, rfl, by decide +kernel, by decide +kernel⟩
theorem ok_is_walk (T : Txt K mg e a) : FnG P w K mg base 5 a.f_is_walk a.d_is_walk ["program", "word"] (spD K 2 (M.is_walk e)) :=
  fn_d (N := N_is_walk) (ps := ["program", "word"]) T.F_is_walk sc_is_walk fun cdv A outer s H E hr cx own => by
    unfold M.b_is_walk
    exact (dss_cons (ds_expr (de_call cx (ok_check_program T) (hr.mono (by decide)) T.g_check_program T.k_check_program (bi_check_program T) (da_cons (de_var 0) da_nil))) (dss_cons (ds_expr (de_call cx (ok_check_word T) (hr.mono (by decide)) T.g_check_word T.k_check_word (bi_check_word T) (da_cons (de_var 0) (da_cons (de_var 1) da_nil)))) (dss_one (ds_ret (de_call cx (ok_walks T) (hr.mono (by decide)) T.g_walks T.k_walks (bi_walks T) (da_cons (de_var 0) (da_cons (de_var 1) da_nil)))))))
theorem bi_rings (T : Txt K mg e a) : Binds K a.d_rings ["program", "word"] [] := T.F_rings.binds fun _ _ _ _ _ _ us hl => match us, hl with | [_, _], _ => rfl
theorem sc_rings : FnScope N_rings ["program", "word"] (defScope s_rings) := ⟨rfl, rfl, rfl, by decide +kernel, rfl, by decide +kernel, by decide +kernel⟩
theorem ok_rings (T : Txt K mg e a) : FnG P w K mg base 4 a.f_rings a.d_rings ["program", "word"] (spD K 2 (M.rings e)) :=
  fn_d (N := N_rings) (ps := ["program", "word"]) T.F_rings sc_rings fun cdv A outer s H E hr cx own => by
    unfold M.b_rings
    exact (dss_one (ds_ret (de_and (de_gt (de_b call_len callD_len T.z_len (by decide +kernel) (da_cons (de_var 1) da_nil)) de_int) (de_and (de_call cx (ok_walks T) (hr.mono (by decide)) T.g_walks T.k_walks (bi_walks T) (da_cons (de_var 0) (da_cons (de_var 1) da_nil))) (de_one (de_eq cx.units (de_call cx (ok_target_of T) (hr.mono (by decide)) T.g_target_of T.k_target_of (bi_target_of T) (da_cons (de_var 0) (da_cons (de_ix (de_var 1) (de_neg de_int)) da_nil))) (de_call cx (ok_source_of T) (hr.mono (by decide)) T.g_source_of T.k_source_of (bi_source_of T) (da_cons (de_var 0) (da_cons (de_ix (de_var 1) de_int) da_nil)))))))))
theorem bi_is_ring (T : Txt K mg e a) : Binds K a.d_is_ring ["program", "word"] [] := T.F_is_ring.binds fun _ _ _ _ _ _ us hl => match us, hl with | [_, _], _ => rfl
theorem sc_is_ring : FnScope N_is_ring ["program", "word"] (defScope s_is_ring) := ⟨rfl, rfl, rfl, by decide +kernel, rfl, by decide +kernel, by decide +kernel⟩
theorem ok_is_ring (T : Txt K mg e a) : FnG P w K mg base 5 a.f_is_ring a.d_is_ring ["program", "word"] (spD K 2 (M.is_ring e)) :=
  fn_d (N := N_is_ring) (ps := ["program", "word"]) T.F_is_ring sc_is_ring fun cdv A outer s H E hr cx own => by
    unfold M.b_is_ring
    exact (dss_cons (ds_expr (de_call cx (ok_check_program T) (hr.mono (by decide)) T.g_check_program T.k_check_program (bi_check_program T) (da_cons (de_var 0) da_nil))) (dss_cons (ds_expr (de_call cx (ok_check_word T) (hr.mono (by decide)) T.g_check_word T.k_check_word (bi_check_word T) (da_cons (de_var 0) (da_cons (de_var 1) da_nil)))) (dss_one (ds_ret (de_call cx (ok_rings T) (hr.mono (by decide)) T.g_rings T.k_rings (bi_rings T) (da_cons (de_var 0) (da_cons (de_var 1) da_nil)))))))
theorem bi__law_refused (T : Txt K mg e a) : Binds K a.d__law_refused ["name", "program", "word"] [] := T.F__law_refused.binds fun _ _ _ _ _ _ us hl => match us, hl with | [_, _, _], _ => rfl
theorem sc__law_refused : FnScope N__law_refused ["name", "program", "word"] (defScope s__law_refused) := ⟨rfl, rfl, rfl, by decide +kernel, rfl, by decide +kernel, by decide +kernel⟩
theorem ok__law_refused (T : Txt K mg e a) : FnG P w K mg base 6 a.f__law_refused a.d__law_refused ["name", "program", "word"] (spD K 3 (M._law_refused_v2 e)) :=
  fn_d (N := N__law_refused) (ps := ["name", "program", "word"]) T.F__law_refused sc__law_refused fun cdv A outer s H E hr cx own => by
    unfold M.b__law_refused_v2
    exact (dss_cons (ds_tryE T.em cx rfl rfl (fun W1 pn1 xe1 cx1 own1 => (dss_one (ds_if (dt_eq cx1.units (de_var 0) de_str) (dss_one (ds_expr (de_call cx1 (ok_need T) (hr.mono (by decide)) T.g_need T.k_need (bi_need T) (da_cons (de_var 1) (da_cons (de_var 2) da_nil))))) (dss_one (ds_if (dt_eq cx1.units (de_var 0) de_str) (dss_one (ds_expr (de_call cx1 (ok_effect T) (hr.mono (by decide)) T.g_effect T.k_effect (bi_effect T) (da_cons (de_var 1) (da_cons (de_var 2) da_nil))))) (dss_one (ds_if (dt_eq cx1.units (de_var 0) de_str) (dss_one (ds_expr (de_call cx1 (ok_is_walk T) (hr.mono (by decide)) T.g_is_walk T.k_is_walk (bi_is_walk T) (da_cons (de_var 1) (da_cons (de_var 2) da_nil))))) (dss_one (ds_expr (de_call cx1 (ok_is_ring T) (hr.mono (by decide)) T.g_is_ring T.k_is_ring (bi_is_ring T) (da_cons (de_var 1) (da_cons (de_var 2) da_nil)))))))))))) (HdsD.cons (g := (sRet (fC (.bl true)))) ⟨by rfl, by decide, Or.inl T.g_BadArgument⟩ (fun _ _ _ => (dss_one (ds_ret de_bl))) HdsD.nil)) (dss_one (ds_ret de_bl)))
theorem bi_is_natural (T : Txt K mg e a) : Binds K a.d_is_natural ["value"] [] := T.F_is_natural.binds fun _ _ _ _ _ _ us hl => match us, hl with | [_], _ => rfl
theorem sc_is_natural : FnScope N_is_natural ["value"] (defScope s_is_natural) := ⟨rfl, rfl, rfl, by decide +kernel, rfl, by decide +kernel, by decide +kernel⟩
theorem ok_is_natural (T : Txt K mg e a) : FnG P w K mg base 1 a.f_is_natural a.d_is_natural ["value"] (spD K 1 (M.is_natural e)) :=
  fn_d (N := N_is_natural) (ps := ["value"]) T.F_is_natural sc_is_natural fun cdv A outer s H E hr cx own => by
    unfold M.b_is_natural
    exact (dss_one (ds_ret (de_and (de_b call_isi callD_isi T.z_isinstance (by decide +kernel) (da_cons (de_var 0) (da_cons (de_gty T.z_int (by decide +kernel)) da_nil))) (de_and (de_not (de_b call_isi callD_isi T.z_isinstance (by decide +kernel) (da_cons (de_var 0) (da_cons (de_gty T.z_bool (by decide +kernel)) da_nil)))) (de_one (de_ge (de_var 0) de_int))))))
theorem bi_is_place (T : Txt K mg e a) : Binds K a.d_is_place ["value"] [] := T.F_is_place.binds fun _ _ _ _ _ _ us hl => match us, hl with | [_], _ => rfl
theorem sc_is_place : FnScope N_is_place ["value"] (defScope s_is_place) := ⟨rfl, rfl, rfl, by decide +kernel, rfl, by decide +kernel, by decide +kernel⟩
theorem ok_is_place (T : Txt K mg e a) : FnG P w K mg base 2 a.f_is_place a.d_is_place ["value"] (spD K 1 (M.is_place e)) :=
  fn_d (N := N_is_place) (ps := ["value"]) T.F_is_place sc_is_place fun cdv A outer s H E hr cx own => by
    unfold M.b_is_place
    exact (dss_cons (ds_if (DW.dt (dw_or (dt_not (dt_truth (de_call cx (ok_is_tuple T) (hr.mono (by decide)) T.g_is_tuple T.k_is_tuple (bi_is_tuple T) (da_cons (de_var 0) (da_cons de_int da_nil))))) (dw_or1 (dt_not (dt_truth (de_call cx (ok_is_within T) (hr.mono (by decide)) T.g_is_within T.k_is_within (bi_is_within T) (da_cons (de_ix (de_var 0) de_int) (da_cons de_int (da_cons (de_sub (de_gint T.g_ROOMS) de_int) da_nil))))))))) (dss_one (ds_ret de_bl)) dss_nil) (dss_one (ds_ret (de_and (de_call cx (ok_is_natural T) (hr.mono (by decide)) T.g_is_natural T.k_is_natural (bi_is_natural T) (da_cons (de_ix (de_var 0) de_int) da_nil)) (de_one (de_call cx (ok_is_natural T) (hr.mono (by decide)) T.g_is_natural T.k_is_natural (bi_is_natural T) (da_cons (de_ix (de_var 0) de_int) da_nil)))))))
theorem bi_check_standing (T : Txt K mg e a) : Binds K a.d_check_standing ["program", "standing"] [] := T.F_check_standing.binds fun _ _ _ _ _ _ us hl => match us, hl with | [_, _], _ => rfl
theorem sc_check_standing : FnScope N_check_standing ["program", "standing"] (defScope s_check_standing) := ⟨rfl, rfl, rfl, by decide +kernel, rfl, by decide +kernel, by decide +kernel⟩
theorem ok_check_standing (T : Txt K mg e a) : FnG P w K mg base 3 a.f_check_standing a.d_check_standing ["program", "standing"] (spD K 2 (M.check_standing e)) :=
  fn_d (N := N_check_standing) (ps := ["program", "standing"]) T.F_check_standing sc_check_standing fun cdv A outer s H E hr cx own => by
    unfold M.b_check_standing
    exact (dss_cons (ds_expr (de_call cx (ok_check_program T) (hr.mono (by decide)) T.g_check_program T.k_check_program (bi_check_program T) (da_cons (de_var 0) da_nil))) (dss_one (ds_if (DW.dt (dw_or (dt_not (dt_truth (de_call cx (ok_is_place T) (hr.mono (by decide)) T.g_is_place T.k_is_place (bi_is_place T) (da_cons (de_var 1) da_nil)))) (dw_or1 (dt_ge (de_ix (de_var 1) de_int) (de_ix (de_var 0) de_int))))) (dss_one (ds_raise (q := e.x .BadStanding) cx (pmk_own PySem.F.excBase_ValueError T.x_BadStanding T.g_BadStanding T.k_BadStanding (raises_own T.b_BadStanding T.t_BadStanding) rfl) (fun _ _ _ h => h))) dss_nil)))
theorem bi_made (T : Txt K mg e a) : Binds K a.d_made ["program", "standing", "move"] [] := T.F_made.binds fun _ _ _ _ _ _ us hl => match us, hl with | [_, _, _], _ => rfl
theorem sc_made : FnScope N_made ["program", "standing", "move"] (defScope s_made) := ⟨rfl, rfl, rfl, by decide +kernel, rfl, by decide +kernel, by decide +kernel⟩
theorem ok_made (T : Txt K mg e a) : FnG P w K mg base 3 a.f_made a.d_made ["program", "standing", "move"] (spD K 3 (M.made e)) :=
  fn_d (N := N_made) (ps := ["program", "standing", "move"]) T.F_made sc_made fun cdv A outer s H E hr cx own => by
    unfold M.b_made
    exact (dss_cons (ds_asg (de_var 1) (dg_tup (n := 3) cx.calm (dgs_cons (dg_name 3 cx.nd) (dgs_cons (dg_name 4 cx.nd) (dgs_cons (dg_name 5 cx.nd) dgs_nil))))) (dss_cons (ds_if (dt_ne cx.units (de_call cx (ok_source_of T) (hr.mono (by decide)) T.g_source_of T.k_source_of (bi_source_of T) (da_cons (de_var 0) (da_cons (de_var 2) da_nil))) (de_var 3)) (dss_one (ds_ret de_non)) dss_nil) (dss_cons (ds_if (dt_truth (de_call cx (ok_is_test T) (hr.mono (by decide)) T.g_is_test T.k_is_test (bi_is_test T) (da_cons (de_var 0) (da_cons (de_var 2) da_nil)))) (dss_one (ds_ret (de_if (dt_eq cx.units (de_var 4) de_int) (de_tup (da_cons (de_call cx (ok_target_of T) (hr.mono (by decide)) T.g_target_of T.k_target_of (bi_target_of T) (da_cons (de_var 0) (da_cons (de_var 2) da_nil))) (da_cons de_int (da_cons (de_var 5) da_nil)))) de_non))) dss_nil) (dss_cons (ds_set 6 cx (de_call cx (ok_change_of T) (hr.mono (by decide)) T.g_change_of T.k_change_of (bi_change_of T) (da_cons (de_var 0) (da_cons (de_var 2) da_nil)))) (dss_cons (ds_if (DW.dt (dw_or (dt_lt (de_add (de_var 4) (de_ix (de_var 6) de_int)) de_int) (dw_or1 (dt_lt (de_add (de_var 5) (de_ix (de_var 6) de_int)) de_int)))) (dss_one (ds_ret de_non)) dss_nil) (dss_one (ds_ret (de_tup (da_cons (de_call cx (ok_target_of T) (hr.mono (by decide)) T.g_target_of T.k_target_of (bi_target_of T) (da_cons (de_var 0) (da_cons (de_var 2) da_nil))) (da_cons (de_add (de_var 4) (de_ix (de_var 6) de_int)) (da_cons (de_add (de_var 5) (de_ix (de_var 6) de_int)) da_nil)))))))))))
theorem bi_played (T : Txt K mg e a) : Binds K a.d_played ["program", "standing", "word"] [] := T.F_played.binds fun _ _ _ _ _ _ us hl => match us, hl with | [_, _, _], _ => rfl
theorem sc_played : FnScope N_played ["program", "standing", "word"] (defScope s_played) := ⟨rfl, rfl, rfl, by decide +kernel, rfl, by decide +kernel, by decide +kernel⟩
theorem ok_played (T : Txt K mg e a) : FnG P w K mg base 4 a.f_played a.d_played ["program", "standing", "word"] (spD K 3 (M.played e)) :=
  fn_d (N := N_played) (ps := ["program", "standing", "word"]) T.F_played sc_played fun cdv A outer s H E hr cx own => by
    unfold M.b_played
    exact (dss_cons (ds_for cx own (di_seq (de_var 2)) (dg_name 3 cx.nd) (dss_cons (ds_set 1 cx (de_call cx (ok_made T) (hr.mono (by decide)) T.g_made T.k_made (bi_made T) (da_cons (de_var 0) (da_cons (de_var 1) (da_cons (de_var 3) da_nil))))) (dss_one (ds_if (dt_is (de_var 1) de_non) (dss_one (ds_ret de_non)) dss_nil)))) (dss_one (ds_ret (de_var 1))))
theorem bi_play (T : Txt K mg e a) : Binds K a.d_play ["program", "standing", "word"] [] := T.F_play.binds fun _ _ _ _ _ _ us hl => match us, hl with | [_, _, _], _ => rfl
theorem sc_play : FnScope N_play ["program", "standing", "word"] (defScope s_play) := ⟨rfl, rfl, rfl, by decide +kernel, rfl, by decide +kernel, by decide +kernel⟩
theorem ok_play (T : Txt K mg e a) : FnG P w K mg base 5 a.f_play a.d_play ["program", "standing", "word"] (spD K 3 (M.play e)) :=
  fn_d (N := N_play) (ps := ["program", "standing", "word"]) T.F_play sc_play fun cdv A outer s H E hr cx own => by
    unfold M.b_play
    exact (dss_cons (ds_expr (de_call cx (ok_check_standing T) (hr.mono (by decide)) T.g_check_standing T.k_check_standing (bi_check_standing T) (da_cons (de_var 0) (da_cons (de_var 1) da_nil)))) (dss_cons (ds_expr (de_call cx (ok_check_word T) (hr.mono (by decide)) T.g_check_word T.k_check_word (bi_check_word T) (da_cons (de_var 0) (da_cons (de_var 2) da_nil)))) (dss_one (ds_ret (de_call cx (ok_played T) (hr.mono (by decide)) T.g_played T.k_played (bi_played T) (da_cons (de_var 0) (da_cons (de_var 1) (da_cons (de_var 2) da_nil))))))))
theorem bi__law_least (T : Txt K mg e a) : Binds K a.d__law_least ["program", "word", "told"] [] := T.F__law_least.binds fun _ _ _ _ _ _ us hl => match us, hl with | [_, _, _], _ => rfl
theorem sc__law_least : FnScope N__law_least ["program", "word", "told"] (defScope s__law_least) := ⟨rfl, rfl, rfl, by decide +kernel, rfl, by decide +kernel, by decide +kernel⟩
theorem ok__law_least (T : Txt K mg e a) : FnG P w K mg base 6 a.f__law_least a.d__law_least ["program", "word", "told"] (spD K 3 (M._law_least e)) :=
  fn_d (N := N__law_least) (ps := ["program", "word", "told"]) T.F__law_least sc__law_least fun cdv A outer s H E hr cx own => by
    unfold M.b__law_least
    exact (dss_cons (ds_set 3 cx (de_ix (de_call cx (ok__law_ends T) (hr.mono (by decide)) T.g__law_ends T.k__law_ends (bi__law_ends T) (da_cons (de_var 0) (da_cons (de_ix (de_var 1) de_int) da_nil))) de_int)) (dss_cons (ds_asg (de_var 2) (dg_tup (n := 3) cx.calm (dgs_cons (dg_name 4 cx.nd) (dgs_cons (dg_name 5 cx.nd) (dgs_cons (dg_name 6 cx.nd) dgs_nil))))) (dss_cons (ds_set 7 cx (de_pow de_int de_int)) (dss_cons (ds_if (DW.dt (dw_or (dt_is (de_call cx (ok_play T) (hr.mono (by decide)) T.g_play T.k_play (bi_play T) (da_cons (de_var 0) (da_cons (de_tup (da_cons (de_var 3) (da_cons (de_var 4) (da_cons (de_var 5) da_nil)))) (da_cons (de_var 1) da_nil)))) de_non) (dw_or1 (dt_is (de_call cx (ok_play T) (hr.mono (by decide)) T.g_play T.k_play (bi_play T) (da_cons (de_var 0) (da_cons (de_tup (da_cons (de_var 3) (da_cons (de_var 4) (da_cons (de_add (de_var 5) (de_var 7)) da_nil)))) (da_cons (de_var 1) da_nil)))) de_non)))) (dss_one (ds_ret de_bl)) dss_nil) (dss_cons (ds_if (DW.dt (dw_and (dt_gt (de_var 4) de_int) (dw_and1 (dt_isNot (de_call cx (ok_play T) (hr.mono (by decide)) T.g_play T.k_play (bi_play T) (da_cons (de_var 0) (da_cons (de_tup (da_cons (de_var 3) (da_cons (de_sub (de_var 4) de_int) (da_cons (de_add (de_var 5) de_int) da_nil)))) (da_cons (de_var 1) da_nil)))) de_non)))) (dss_one (ds_ret de_bl)) dss_nil) (dss_cons (ds_if (DW.dt (dw_and (dt_gt (de_var 5) de_int) (dw_and1 (dt_isNot (de_call cx (ok_play T) (hr.mono (by decide)) T.g_play T.k_play (bi_play T) (da_cons (de_var 0) (da_cons (de_tup (da_cons (de_var 3) (da_cons (de_var 4) (da_cons (de_sub (de_var 5) de_int) da_nil)))) (da_cons (de_var 1) da_nil)))) de_non)))) (dss_one (ds_ret de_bl)) dss_nil) (dss_one (ds_ret (de_eq cx.units (de_is (de_call cx (ok_play T) (hr.mono (by decide)) T.g_play T.k_play (bi_play T) (da_cons (de_var 0) (da_cons (de_tup (da_cons (de_var 3) (da_cons (de_add (de_var 4) (de_var 7)) (da_cons (de_var 5) da_nil)))) (da_cons (de_var 1) da_nil)))) de_non) (de_var 6))))))))))
theorem bi__law_is_ring (T : Txt K mg e a) : Binds K a.d__law_is_ring ["program", "word"] [] := T.F__law_is_ring.binds fun _ _ _ _ _ _ us hl => match us, hl with | [_, _], _ => rfl
theorem sc__law_is_ring : FnScope N__law_is_ring ["program", "word"] (defScope s__law_is_ring) := ⟨rfl, rfl, rfl, by decide +kernel, rfl, by decide +kernel, by decide +kernel⟩
theorem ok__law_is_ring (T : Txt K mg e a) : FnG P w K mg base 3 a.f__law_is_ring a.d__law_is_ring ["program", "word"] (spD K 2 (M._law_is_ring e)) :=
  fn_d (N := N__law_is_ring) (ps := ["program", "word"]) T.F__law_is_ring sc__law_is_ring fun cdv A outer s H E hr cx own => by
    unfold M.b__law_is_ring
    exact (dss_cons (ds_if (DW.dt (dw_or (dt_eq cx.units (de_b call_len callD_len T.z_len (by decide +kernel) (da_cons (de_var 1) da_nil)) de_int) (dw_or1 (dt_not (dt_truth (de_call cx (ok__law_is_walk T) (hr.mono (by decide)) T.g__law_is_walk T.k__law_is_walk (bi__law_is_walk T) (da_cons (de_var 0) (da_cons (de_var 1) da_nil)))))))) (dss_one (ds_ret de_bl)) dss_nil) (dss_one (ds_ret (de_eq cx.units (de_ix (de_call cx (ok__law_ends T) (hr.mono (by decide)) T.g__law_ends T.k__law_ends (bi__law_ends T) (da_cons (de_var 0) (da_cons (de_ix (de_var 1) de_int) da_nil))) de_int) (de_ix (de_call cx (ok__law_ends T) (hr.mono (by decide)) T.g__law_ends T.k__law_ends (bi__law_ends T) (da_cons (de_var 0) (da_cons (de_ix (de_var 1) (de_sub (de_b call_len callD_len T.z_len (by decide +kernel) (da_cons (de_var 1) da_nil)) de_int)) da_nil))) de_int)))))
theorem bi__law_effect (T : Txt K mg e a) : Binds K a.d__law_effect ["program", "word"] [] := T.F__law_effect.binds fun _ _ _ _ _ _ us hl => match us, hl with | [_, _], _ => rfl
theorem sc__law_effect : FnScope N__law_effect ["program", "word"] (defScope s__law_effect) := ⟨rfl, rfl, rfl, by decide +kernel, rfl, by decide +kernel, by decide +kernel⟩
theorem ok__law_effect (T : Txt K mg e a) : FnG P w K mg base 2 a.f__law_effect a.d__law_effect ["program", "word"] (spD K 2 (M._law_effect e)) :=
  fn_d (N := N__law_effect) (ps := ["program", "word"]) T.F__law_effect sc__law_effect fun cdv A outer s H E hr cx own => by
    unfold M.b__law_effect
    exact (dss_cons (ds_set 2 cx de_int) (dss_cons (ds_set 3 cx de_int) (dss_cons (ds_for cx own (di_seq (de_var 1)) (dg_name 4 cx.nd) (dss_cons (ds_set 5 cx (de_call cx (ok__law_ends T) (hr.mono (by decide)) T.g__law_ends T.k__law_ends (bi__law_ends T) (da_cons (de_var 0) (da_cons (de_var 4) da_nil)))) (dss_cons (ds_set 2 cx (de_add (de_var 2) (de_ix (de_var 5) de_int))) (dss_one (ds_set 3 cx (de_add (de_var 3) (de_ix (de_var 5) de_int))))))) (dss_one (ds_ret (de_tup (da_cons (de_var 2) (da_cons (de_var 3) da_nil))))))))
theorem bi__law_right (T : Txt K mg e a) : Binds K a.d__law_right ["program", "word"] [] := T.F__law_right.binds fun _ _ _ _ _ _ us hl => match us, hl with | [_, _], _ => rfl
theorem sc__law_right : FnScope N__law_right ["program", "word"] (defScope s__law_right) := ⟨rfl, rfl, rfl, by decide +kernel, rfl, by decide +kernel, by decide +kernel⟩
theorem ok__law_right (T : Txt K mg e a) : FnG P w K mg base 14 a.f__law_right a.d__law_right ["program", "word"] (spD K 2 (M._law_right_v2 e)) :=
  fn_d (N := N__law_right) (ps := ["program", "word"]) T.F__law_right sc__law_right fun cdv A outer s H E hr cx own => by
    unfold M.b__law_right_v2
    exact (dss_cons (ds_if (dt_not (dt_truth (de_call cx (ok__law_equal T) (hr.mono (by decide)) T.g__law_equal T.k__law_equal (bi__law_equal T) (da_cons (de_call cx (ok_is_walk T) (hr.mono (by decide)) T.g_is_walk T.k_is_walk (bi_is_walk T) (da_cons (de_var 0) (da_cons (de_var 1) da_nil))) (da_cons (de_call cx (ok__law_is_walk T) (hr.mono (by decide)) T.g__law_is_walk T.k__law_is_walk (bi__law_is_walk T) (da_cons (de_var 0) (da_cons (de_var 1) da_nil))) da_nil))))) (dss_one (ds_ret de_bl)) dss_nil) (dss_cons (ds_if (dt_not (dt_truth (de_call cx (ok__law_equal T) (hr.mono (by decide)) T.g__law_equal T.k__law_equal (bi__law_equal T) (da_cons (de_call cx (ok_is_ring T) (hr.mono (by decide)) T.g_is_ring T.k_is_ring (bi_is_ring T) (da_cons (de_var 0) (da_cons (de_var 1) da_nil))) (da_cons (de_call cx (ok__law_is_ring T) (hr.mono (by decide)) T.g__law_is_ring T.k__law_is_ring (bi__law_is_ring T) (da_cons (de_var 0) (da_cons (de_var 1) da_nil))) da_nil))))) (dss_one (ds_ret de_bl)) dss_nil) (dss_cons (ds_if (dt_not (dt_truth (de_call cx (ok__law_equal T) (hr.mono (by decide)) T.g__law_equal T.k__law_equal (bi__law_equal T) (da_cons (de_call cx (ok_effect T) (hr.mono (by decide)) T.g_effect T.k_effect (bi_effect T) (da_cons (de_var 0) (da_cons (de_var 1) da_nil))) (da_cons (de_call cx (ok__law_effect T) (hr.mono (by decide)) T.g__law_effect T.k__law_effect (bi__law_effect T) (da_cons (de_var 0) (da_cons (de_var 1) da_nil))) da_nil))))) (dss_one (ds_ret de_bl)) dss_nil) (dss_cons (ds_if (dt_not (dt_truth (de_call cx (ok__law_is_walk T) (hr.mono (by decide)) T.g__law_is_walk T.k__law_is_walk (bi__law_is_walk T) (da_cons (de_var 0) (da_cons (de_var 1) da_nil))))) (dss_one (ds_ret (de_call cx (ok__law_refused T) (hr.mono (by decide)) T.g__law_refused T.k__law_refused (bi__law_refused T) (da_cons de_str (da_cons (de_var 0) (da_cons (de_var 1) da_nil)))))) dss_nil) (dss_cons (ds_set 2 cx (de_call cx (ok__law_need T) (hr.mono (by decide)) T.g__law_need T.k__law_need (bi__law_need T) (da_cons (de_var 0) (da_cons (de_var 1) da_nil)))) (dss_cons (ds_if (dt_not (dt_truth (de_call cx (ok__law_equal T) (hr.mono (by decide)) T.g__law_equal T.k__law_equal (bi__law_equal T) (da_cons (de_call cx (ok_need T) (hr.mono (by decide)) T.g_need T.k_need (bi_need T) (da_cons (de_var 0) (da_cons (de_var 1) da_nil))) (da_cons (de_var 2) da_nil))))) (dss_one (ds_ret de_bl)) dss_nil) (dss_one (ds_ret (de_or (de_is (de_var 2) de_non) (de_or (de_eq cx.units (de_b call_len callD_len T.z_len (by decide +kernel) (da_cons (de_var 1) da_nil)) de_int) (de_one (de_call cx (ok__law_least T) (hr.mono (by decide)) T.g__law_least T.k__law_least (bi__law_least T) (da_cons (de_var 0) (da_cons (de_var 1) (da_cons (de_var 2) da_nil)))))))))))))))
theorem bi_law (T : Txt K mg e a) : Binds K a.d_law ["script"] [] := T.F_law.binds fun _ _ _ _ _ _ us hl => match us, hl with | [_], _ => rfl
theorem sc_law : FnScope N_law ["script"] (defScope s_law) := ⟨rfl, rfl, rfl, by decide +kernel, rfl, by decide +kernel, by decide +kernel⟩
theorem ok_law (T : Txt K mg e a) : FnG P w K mg base 15 a.f_law a.d_law ["script"] (spD K 1 (M.law_v6 e)) :=
  fn_d (N := N_law) (ps := ["script"]) T.F_law sc_law fun cdv A outer s H E hr cx own => by
    unfold M.b_law_v6
    exact (dss_cons (ds_set 1 cx (de_new (da_cons (de_call cx (ok__law_numbers T) (hr.mono (by decide)) T.g__law_numbers T.k__law_numbers (bi__law_numbers T) (da_cons (de_var 0) da_nil)) (da_cons de_int da_nil)))) (dss_cons (ds_set 2 cx (de_call cx (ok__law_program T) (hr.mono (by decide)) T.g__law_program T.k__law_program (bi__law_program T) (da_cons (de_var 1) da_nil))) (dss_cons (ds_set 3 cx (de_add (de_b call_len callD_len T.z_len (by decide +kernel) (da_cons (de_ix (de_var 2) de_int) da_nil)) (de_b call_len callD_len T.z_len (by decide +kernel) (da_cons (de_ix (de_var 2) de_int) da_nil)))) (dss_cons (ds_set 4 cx (de_new (da_cons (de_tup da_nil) (da_cons (de_call cx (ok__law_walk T) (hr.mono (by decide)) T.g__law_walk T.k__law_walk (bi__law_walk T) (da_cons (de_var 1) (da_cons (de_var 2) da_nil))) (da_cons (de_call cx (ok__law_walk T) (hr.mono (by decide)) T.g__law_walk T.k__law_walk (bi__law_walk T) (da_cons (de_var 1) (da_cons (de_var 2) da_nil))) (da_cons (de_call cx (ok__law_walk T) (hr.mono (by decide)) T.g__law_walk T.k__law_walk (bi__law_walk T) (da_cons (de_var 1) (da_cons (de_var 2) da_nil))) da_nil)))))) (dss_cons (ds_if (dt_gt (de_var 3) de_int) (dss_one (ds_expr (de_append (de_var 4) (da_cons (de_ty call_tuple_of callD_tup T.z_tuple (by decide +kernel) (da_cons (de_comp (own := [("k", 9)]) cx (di_range1 T.z_range (da_cons (de_mod (de_call cx (ok__law_draw T) (hr.mono (by decide)) T.g__law_draw T.k__law_draw (bi__law_draw T) (da_cons (de_var 1) da_nil)) de_int) da_nil)) (blkOk_by (own := [("k", 9)]) (N := N_law) (sc := defScope s_law) (by decide +kernel)) (fun s0 H0 C0 cl0 fp0 => (dgo_name 9 (cx.blk s0 H0 _ _ fp0).nd)) (fun s0 H0 C0 cl0 fp0 => dts_nil) (fun s0 H0 C0 cl0 fp0 => (de_mod (de_call (cx.blk s0 H0 _ _ fp0) (ok__law_draw T) (hr.mono (by decide)) T.g__law_draw T.k__law_draw (bi__law_draw T) (da_cons (de_var 1) da_nil)) (de_var 3)))) da_nil)) da_nil)))) dss_nil) (dss_cons (ds_expr (de_append (de_var 4) (da_cons (de_mulE (de_ix (de_var 4) de_int) de_int) da_nil))) (dss_cons (ds_for cx own (di_seq (de_var 4)) (dg_name 5 cx.nd) (dss_one (ds_if (dt_not (dt_truth (de_call cx (ok__law_right T) (hr.mono (by decide)) T.g__law_right T.k__law_right (bi__law_right T) (da_cons (de_var 2) (da_cons (de_var 5) da_nil))))) (dss_one (ds_ret de_bl)) dss_nil))) (dss_cons (ds_set 5 cx (de_ix (de_var 4) (de_add de_int (de_mod (de_call cx (ok__law_draw T) (hr.mono (by decide)) T.g__law_draw T.k__law_draw (bi__law_draw T) (da_cons (de_var 1) da_nil)) (de_sub (de_b call_len callD_len T.z_len (by decide +kernel) (da_cons (de_var 4) da_nil)) de_int))))) (dss_cons (ds_set 6 cx (de_mod (de_call cx (ok__law_draw T) (hr.mono (by decide)) T.g__law_draw T.k__law_draw (bi__law_draw T) (da_cons (de_var 1) da_nil)) (de_add (de_b call_len callD_len T.z_len (by decide +kernel) (da_cons (de_var 5) da_nil)) de_int))) (dss_cons (ds_set 7 cx (de_add (de_add (de_cut (de_var 5) do_none (do_some (de_var 6))) (de_tup (da_cons (de_ix (de_lst (da_cons (de_var 3) (da_cons (de_neg de_int) (da_cons (de_pow de_int de_int) (da_cons de_bl (da_cons de_bl da_nil)))))) (de_mod (de_call cx (ok__law_draw T) (hr.mono (by decide)) T.g__law_draw T.k__law_draw (bi__law_draw T) (da_cons (de_var 1) da_nil)) de_int)) da_nil))) (de_cut (de_var 5) (do_some (de_var 6)) do_none))) (dss_cons (ds_for cx own (di_seq (de_lst (da_cons de_str (da_cons de_str (da_cons de_str (da_cons de_str da_nil)))))) (dg_name 8 cx.nd) (dss_one (ds_if (dt_not (dt_truth (de_call cx (ok__law_refused T) (hr.mono (by decide)) T.g__law_refused T.k__law_refused (bi__law_refused T) (da_cons (de_var 8) (da_cons (de_var 2) (da_cons (de_var 7) da_nil)))))) (dss_one (ds_ret de_bl)) dss_nil))) (dss_one (ds_ret de_bl)))))))))))))
end
theorem all_mk {P : Program} {w : World} {K : PySem.W.Frag} {h : Heap} {mg : Str → Option Value} {fa : Addr} (X : K.In h) (G : h.Ns mainGlobals mg) (hfa : mg "law" = some (.ref fa))
    {f0 : Addr} {oc0 kV0 dc0 pm0 cd0 ct0 : Value} {od0 an0 : Option Addr} {sl0 : Array (Option Value)} {f1 : Addr} {oc1 kV1 dc1 pm1 cd1 ct1 : Value} {od1 an1 : Option Addr} {sl1 : Array (Option Value)} {f2 : Addr} {oc2 kV2 dc2 pm2 cd2 ct2 : Value} {od2 an2 : Option Addr} {sl2 : Array (Option Value)} {f3 : Addr} {oc3 kV3 dc3 pm3 cd3 ct3 : Value} {od3 an3 : Option Addr} {sl3 : Array (Option Value)} {f4 : Addr} {oc4 kV4 dc4 pm4 cd4 ct4 : Value} {od4 an4 : Option Addr} {sl4 : Array (Option Value)} {f5 : Addr} {oc5 kV5 dc5 pm5 cd5 ct5 : Value} {od5 an5 : Option Addr} {sl5 : Array (Option Value)} {f6 : Addr} {oc6 kV6 dc6 pm6 cd6 ct6 : Value} {od6 an6 : Option Addr} {sl6 : Array (Option Value)} {f7 : Addr} {oc7 kV7 dc7 pm7 cd7 ct7 : Value} {od7 an7 : Option Addr} {sl7 : Array (Option Value)} {f8 : Addr} {oc8 kV8 dc8 pm8 cd8 ct8 : Value} {od8 an8 : Option Addr} {sl8 : Array (Option Value)} {f9 : Addr} {oc9 kV9 dc9 pm9 cd9 ct9 : Value} {od9 an9 : Option Addr} {sl9 : Array (Option Value)} {f10 : Addr} {oc10 kV10 dc10 pm10 cd10 ct10 : Value} {od10 an10 : Option Addr} {sl10 : Array (Option Value)} {f11 : Addr} {oc11 kV11 dc11 pm11 cd11 ct11 : Value} {od11 an11 : Option Addr} {sl11 : Array (Option Value)} {f12 : Addr} {oc12 kV12 dc12 pm12 cd12 ct12 : Value} {od12 an12 : Option Addr} {sl12 : Array (Option Value)} {f13 : Addr} {oc13 kV13 dc13 pm13 cd13 ct13 : Value} {od13 an13 : Option Addr} {sl13 : Array (Option Value)} {f14 : Addr} {oc14 kV14 dc14 pm14 cd14 ct14 : Value} {od14 an14 : Option Addr} {sl14 : Array (Option Value)} {f15 : Addr} {oc15 kV15 dc15 pm15 cd15 ct15 : Value} {od15 an15 : Option Addr} {sl15 : Array (Option Value)} {f16 : Addr} {oc16 kV16 dc16 pm16 cd16 ct16 : Value} {od16 an16 : Option Addr} {sl16 : Array (Option Value)} {f17 : Addr} {oc17 kV17 dc17 pm17 cd17 ct17 : Value} {od17 an17 : Option Addr} {sl17 : Array (Option Value)} {f18 : Addr} {oc18 kV18 dc18 pm18 cd18 ct18 : Value} {od18 an18 : Option Addr} {sl18 : Array (Option Value)} {f19 : Addr} {oc19 kV19 dc19 pm19 cd19 ct19 : Value} {od19 an19 : Option Addr} {sl19 : Array (Option Value)} {f20 : Addr} {oc20 kV20 dc20 pm20 cd20 ct20 : Value} {od20 an20 : Option Addr} {sl20 : Array (Option Value)} {f21 : Addr} {oc21 kV21 dc21 pm21 cd21 ct21 : Value} {od21 an21 : Option Addr} {sl21 : Array (Option Value)} {f22 : Addr} {oc22 kV22 dc22 pm22 cd22 ct22 : Value} {od22 an22 : Option Addr} {sl22 : Array (Option Value)} {f23 : Addr} {oc23 kV23 dc23 pm23 cd23 ct23 : Value} {od23 an23 : Option Addr} {sl23 : Array (Option Value)} {f24 : Addr} {oc24 kV24 dc24 pm24 cd24 ct24 : Value} {od24 an24 : Option Addr} {sl24 : Array (Option Value)} {f25 : Addr} {oc25 kV25 dc25 pm25 cd25 ct25 : Value} {od25 an25 : Option Addr} {sl25 : Array (Option Value)} {f26 : Addr} {oc26 kV26 dc26 pm26 cd26 ct26 : Value} {od26 an26 : Option Addr} {sl26 : Array (Option Value)} {f27 : Addr} {oc27 kV27 dc27 pm27 cd27 ct27 : Value} {od27 an27 : Option Addr} {sl27 : Array (Option Value)} {f28 : Addr} {oc28 kV28 dc28 pm28 cd28 ct28 : Value} {od28 an28 : Option Addr} {sl28 : Array (Option Value)} {f29 : Addr} {oc29 kV29 dc29 pm29 cd29 ct29 : Value} {od29 an29 : Option Addr} {sl29 : Array (Option Value)} {f30 : Addr} {oc30 kV30 dc30 pm30 cd30 ct30 : Value} {od30 an30 : Option Addr} {sl30 : Array (Option Value)} {f31 : Addr} {oc31 kV31 dc31 pm31 cd31 ct31 : Value} {od31 an31 : Option Addr} {sl31 : Array (Option Value)} {f32 : Addr} {oc32 kV32 dc32 pm32 cd32 ct32 : Value} {od32 an32 : Option Addr} {sl32 : Array (Option Value)} {f33 : Addr} {oc33 kV33 dc33 pm33 cd33 ct33 : Value} {od33 an33 : Option Addr} {sl33 : Array (Option Value)} {f34 : Addr} {oc34 kV34 dc34 pm34 cd34 ct34 : Value} {od34 an34 : Option Addr} {sl34 : Array (Option Value)} {f35 : Addr} {oc35 kV35 dc35 pm35 cd35 ct35 : Value} {od35 an35 : Option Addr} {sl35 : Array (Option Value)} {f36 : Addr} {oc36 kV36 dc36 pm36 cd36 ct36 : Value} {od36 an36 : Option Addr} {sl36 : Array (Option Value)} {f37 : Addr} {oc37 kV37 dc37 pm37 cd37 ct37 : Value} {od37 an37 : Option Addr} {sl37 : Array (Option Value)} {f38 : Addr} {oc38 kV38 dc38 pm38 cd38 ct38 : Value} {od38 an38 : Option Addr} {sl38 : Array (Option Value)} {f39 : Addr} {oc39 kV39 dc39 pm39 cd39 ct39 : Value} {od39 an39 : Option Addr} {sl39 : Array (Option Value)} {f40 : Addr} {oc40 kV40 dc40 pm40 cd40 ct40 : Value} {od40 an40 : Option Addr} {sl40 : Array (Option Value)} {tk_ROOMS : Tok} {tk_STEP : Tok} {tk_STEPS : Tok} {tk_TESTS : Tok} {c_BadArgument : Addr} {c_BadProgram : Addr} {c_BadStanding : Addr}
    (a0 : PySem.W.nsIn K mainGlobals "_law_mixed" = some (some (.ref f0)))
    (l0 : K.lookup f0 = some ⟨oc0, od0, .func (PySem.W.fnOf "_law_mixed" "_law_mixed" (defArgs s__law_mixed) (defBody s__law_mixed) (defScope s__law_mixed) .none kV0 dc0 pm0 an0 cd0 ct0), sl0⟩)
    (c0 : PySem.W.codeIn K cd0 "_law_mixed" = true)
    (k0 : PySem.W.keepIn K (.ref f0) = true)
    (a1 : PySem.W.nsIn K mainGlobals "_law_draw" = some (some (.ref f1)))
    (l1 : K.lookup f1 = some ⟨oc1, od1, .func (PySem.W.fnOf "_law_draw" "_law_draw" (defArgs s__law_draw) (defBody s__law_draw) (defScope s__law_draw) .none kV1 dc1 pm1 an1 cd1 ct1), sl1⟩)
    (c1 : PySem.W.codeIn K cd1 "_law_draw" = true)
    (k1 : PySem.W.keepIn K (.ref f1) = true)
    (a2 : PySem.W.nsIn K mainGlobals "_law_program" = some (some (.ref f2)))
    (l2 : K.lookup f2 = some ⟨oc2, od2, .func (PySem.W.fnOf "_law_program" "_law_program" (defArgs s__law_program) (defBody s__law_program) (defScope s__law_program) .none kV2 dc2 pm2 an2 cd2 ct2), sl2⟩)
    (c2 : PySem.W.codeIn K cd2 "_law_program" = true)
    (k2 : PySem.W.keepIn K (.ref f2) = true)
    (a3 : PySem.W.nsIn K mainGlobals "_law_numbers" = some (some (.ref f3)))
    (l3 : K.lookup f3 = some ⟨oc3, od3, .func (PySem.W.fnOf "_law_numbers" "_law_numbers" (defArgs s__law_numbers) (defBody s__law_numbers) (defScope s__law_numbers) .none kV3 dc3 pm3 an3 cd3 ct3), sl3⟩)
    (c3 : PySem.W.codeIn K cd3 "_law_numbers" = true)
    (k3 : PySem.W.keepIn K (.ref f3) = true)
    (a4 : PySem.W.nsIn K mainGlobals "_law_ends" = some (some (.ref f4)))
    (l4 : K.lookup f4 = some ⟨oc4, od4, .func (PySem.W.fnOf "_law_ends" "_law_ends" (defArgs s__law_ends) (defBody s__law_ends) (defScope s__law_ends) .none kV4 dc4 pm4 an4 cd4 ct4), sl4⟩)
    (c4 : PySem.W.codeIn K cd4 "_law_ends" = true)
    (k4 : PySem.W.keepIn K (.ref f4) = true)
    (a5 : PySem.W.nsIn K mainGlobals "_law_walk" = some (some (.ref f5)))
    (l5 : K.lookup f5 = some ⟨oc5, od5, .func (PySem.W.fnOf "_law_walk" "_law_walk" (defArgs s__law_walk) (defBody s__law_walk) (defScope s__law_walk) .none kV5 dc5 pm5 an5 cd5 ct5), sl5⟩)
    (c5 : PySem.W.codeIn K cd5 "_law_walk" = true)
    (k5 : PySem.W.keepIn K (.ref f5) = true)
    (a6 : PySem.W.nsIn K mainGlobals "_law_need" = some (some (.ref f6)))
    (l6 : K.lookup f6 = some ⟨oc6, od6, .func (PySem.W.fnOf "_law_need" "_law_need" (defArgs s__law_need) (defBody s__law_need) (defScope s__law_need) .none kV6 dc6 pm6 an6 cd6 ct6), sl6⟩)
    (c6 : PySem.W.codeIn K cd6 "_law_need" = true)
    (k6 : PySem.W.keepIn K (.ref f6) = true)
    (a7 : PySem.W.nsIn K mainGlobals "_law_all_equal" = some (some (.ref f7)))
    (l7 : K.lookup f7 = some ⟨oc7, od7, .func (PySem.W.fnOf "_law_all_equal" "_law_all_equal" (defArgs s__law_all_equal) (defBody s__law_all_equal) (defScope s__law_all_equal) .none kV7 dc7 pm7 an7 cd7 ct7), sl7⟩)
    (c7 : PySem.W.codeIn K cd7 "_law_all_equal" = true)
    (k7 : PySem.W.keepIn K (.ref f7) = true)
    (a8 : PySem.W.nsIn K mainGlobals "_law_equal" = some (some (.ref f8)))
    (l8 : K.lookup f8 = some ⟨oc8, od8, .func (PySem.W.fnOf "_law_equal" "_law_equal" (defArgs s__law_equal) (defBody s__law_equal) (defScope s__law_equal) .none kV8 dc8 pm8 an8 cd8 ct8), sl8⟩)
    (c8 : PySem.W.codeIn K cd8 "_law_equal" = true)
    (k8 : PySem.W.keepIn K (.ref f8) = true)
    (a9 : PySem.W.nsIn K mainGlobals "_law_is_walk" = some (some (.ref f9)))
    (l9 : K.lookup f9 = some ⟨oc9, od9, .func (PySem.W.fnOf "_law_is_walk" "_law_is_walk" (defArgs s__law_is_walk) (defBody s__law_is_walk) (defScope s__law_is_walk) .none kV9 dc9 pm9 an9 cd9 ct9), sl9⟩)
    (c9 : PySem.W.codeIn K cd9 "_law_is_walk" = true)
    (k9 : PySem.W.keepIn K (.ref f9) = true)
    (a10 : PySem.W.nsIn K mainGlobals "is_tuple" = some (some (.ref f10)))
    (l10 : K.lookup f10 = some ⟨oc10, od10, .func (PySem.W.fnOf "is_tuple" "is_tuple" (defArgs s_is_tuple) (defBody s_is_tuple) (defScope s_is_tuple) .none kV10 dc10 pm10 an10 cd10 ct10), sl10⟩)
    (c10 : PySem.W.codeIn K cd10 "is_tuple" = true)
    (k10 : PySem.W.keepIn K (.ref f10) = true)
    (a11 : PySem.W.nsIn K mainGlobals "is_within" = some (some (.ref f11)))
    (l11 : K.lookup f11 = some ⟨oc11, od11, .func (PySem.W.fnOf "is_within" "is_within" (defArgs s_is_within) (defBody s_is_within) (defScope s_is_within) .none kV11 dc11 pm11 an11 cd11 ct11), sl11⟩)
    (c11 : PySem.W.codeIn K cd11 "is_within" = true)
    (k11 : PySem.W.keepIn K (.ref f11) = true)
    (a12 : PySem.W.nsIn K mainGlobals "check_program" = some (some (.ref f12)))
    (l12 : K.lookup f12 = some ⟨oc12, od12, .func (PySem.W.fnOf "check_program" "check_program" (defArgs s_check_program) (defBody s_check_program) (defScope s_check_program) .none kV12 dc12 pm12 an12 cd12 ct12), sl12⟩)
    (c12 : PySem.W.codeIn K cd12 "check_program" = true)
    (k12 : PySem.W.keepIn K (.ref f12) = true)
    (a13 : PySem.W.nsIn K mainGlobals "move_count" = some (some (.ref f13)))
    (l13 : K.lookup f13 = some ⟨oc13, od13, .func (PySem.W.fnOf "move_count" "move_count" (defArgs s_move_count) (defBody s_move_count) (defScope s_move_count) .none kV13 dc13 pm13 an13 cd13 ct13), sl13⟩)
    (c13 : PySem.W.codeIn K cd13 "move_count" = true)
    (k13 : PySem.W.keepIn K (.ref f13) = true)
    (a14 : PySem.W.nsIn K mainGlobals "is_move" = some (some (.ref f14)))
    (l14 : K.lookup f14 = some ⟨oc14, od14, .func (PySem.W.fnOf "is_move" "is_move" (defArgs s_is_move) (defBody s_is_move) (defScope s_is_move) .none kV14 dc14 pm14 an14 cd14 ct14), sl14⟩)
    (c14 : PySem.W.codeIn K cd14 "is_move" = true)
    (k14 : PySem.W.keepIn K (.ref f14) = true)
    (a15 : PySem.W.nsIn K mainGlobals "is_word" = some (some (.ref f15)))
    (l15 : K.lookup f15 = some ⟨oc15, od15, .func (PySem.W.fnOf "is_word" "is_word" (defArgs s_is_word) (defBody s_is_word) (defScope s_is_word) .none kV15 dc15 pm15 an15 cd15 ct15), sl15⟩)
    (c15 : PySem.W.codeIn K cd15 "is_word" = true)
    (k15 : PySem.W.keepIn K (.ref f15) = true)
    (a16 : PySem.W.nsIn K mainGlobals "check_word" = some (some (.ref f16)))
    (l16 : K.lookup f16 = some ⟨oc16, od16, .func (PySem.W.fnOf "check_word" "check_word" (defArgs s_check_word) (defBody s_check_word) (defScope s_check_word) .none kV16 dc16 pm16 an16 cd16 ct16), sl16⟩)
    (c16 : PySem.W.codeIn K cd16 "check_word" = true)
    (k16 : PySem.W.keepIn K (.ref f16) = true)
    (a17 : PySem.W.nsIn K mainGlobals "is_test" = some (some (.ref f17)))
    (l17 : K.lookup f17 = some ⟨oc17, od17, .func (PySem.W.fnOf "is_test" "is_test" (defArgs s_is_test) (defBody s_is_test) (defScope s_is_test) .none kV17 dc17 pm17 an17 cd17 ct17), sl17⟩)
    (c17 : PySem.W.codeIn K cd17 "is_test" = true)
    (k17 : PySem.W.keepIn K (.ref f17) = true)
    (a18 : PySem.W.nsIn K mainGlobals "change_of" = some (some (.ref f18)))
    (l18 : K.lookup f18 = some ⟨oc18, od18, .func (PySem.W.fnOf "change_of" "change_of" (defArgs s_change_of) (defBody s_change_of) (defScope s_change_of) .none kV18 dc18 pm18 an18 cd18 ct18), sl18⟩)
    (c18 : PySem.W.codeIn K cd18 "change_of" = true)
    (k18 : PySem.W.keepIn K (.ref f18) = true)
    (a19 : PySem.W.nsIn K mainGlobals "need_of" = some (some (.ref f19)))
    (l19 : K.lookup f19 = some ⟨oc19, od19, .func (PySem.W.fnOf "need_of" "need_of" (defArgs s_need_of) (defBody s_need_of) (defScope s_need_of) .none kV19 dc19 pm19 an19 cd19 ct19), sl19⟩)
    (c19 : PySem.W.codeIn K cd19 "need_of" = true)
    (k19 : PySem.W.keepIn K (.ref f19) = true)
    (a20 : PySem.W.nsIn K mainGlobals "source_of" = some (some (.ref f20)))
    (l20 : K.lookup f20 = some ⟨oc20, od20, .func (PySem.W.fnOf "source_of" "source_of" (defArgs s_source_of) (defBody s_source_of) (defScope s_source_of) .none kV20 dc20 pm20 an20 cd20 ct20), sl20⟩)
    (c20 : PySem.W.codeIn K cd20 "source_of" = true)
    (k20 : PySem.W.keepIn K (.ref f20) = true)
    (a21 : PySem.W.nsIn K mainGlobals "target_of" = some (some (.ref f21)))
    (l21 : K.lookup f21 = some ⟨oc21, od21, .func (PySem.W.fnOf "target_of" "target_of" (defArgs s_target_of) (defBody s_target_of) (defScope s_target_of) .none kV21 dc21 pm21 an21 cd21 ct21), sl21⟩)
    (c21 : PySem.W.codeIn K cd21 "target_of" = true)
    (k21 : PySem.W.keepIn K (.ref f21) = true)
    (a22 : PySem.W.nsIn K mainGlobals "walks" = some (some (.ref f22)))
    (l22 : K.lookup f22 = some ⟨oc22, od22, .func (PySem.W.fnOf "walks" "walks" (defArgs s_walks) (defBody s_walks) (defScope s_walks) .none kV22 dc22 pm22 an22 cd22 ct22), sl22⟩)
    (c22 : PySem.W.codeIn K cd22 "walks" = true)
    (k22 : PySem.W.keepIn K (.ref f22) = true)
    (a23 : PySem.W.nsIn K mainGlobals "need" = some (some (.ref f23)))
    (l23 : K.lookup f23 = some ⟨oc23, od23, .func (PySem.W.fnOf "need" "need" (defArgs s_need) (defBody s_need) (defScope s_need) .none kV23 dc23 pm23 an23 cd23 ct23), sl23⟩)
    (c23 : PySem.W.codeIn K cd23 "need" = true)
    (k23 : PySem.W.keepIn K (.ref f23) = true)
    (a24 : PySem.W.nsIn K mainGlobals "effect_of" = some (some (.ref f24)))
    (l24 : K.lookup f24 = some ⟨oc24, od24, .func (PySem.W.fnOf "effect_of" "effect_of" (defArgs s_effect_of) (defBody s_effect_of) (defScope s_effect_of) .none kV24 dc24 pm24 an24 cd24 ct24), sl24⟩)
    (c24 : PySem.W.codeIn K cd24 "effect_of" = true)
    (k24 : PySem.W.keepIn K (.ref f24) = true)
    (a25 : PySem.W.nsIn K mainGlobals "effect" = some (some (.ref f25)))
    (l25 : K.lookup f25 = some ⟨oc25, od25, .func (PySem.W.fnOf "effect" "effect" (defArgs s_effect) (defBody s_effect) (defScope s_effect) .none kV25 dc25 pm25 an25 cd25 ct25), sl25⟩)
    (c25 : PySem.W.codeIn K cd25 "effect" = true)
    (k25 : PySem.W.keepIn K (.ref f25) = true)
    (a26 : PySem.W.nsIn K mainGlobals "is_walk" = some (some (.ref f26)))
    (l26 : K.lookup f26 = some ⟨oc26, od26, .func (PySem.W.fnOf "is_walk" "is_walk" (defArgs s_is_walk) (defBody s_is_walk) (defScope s_is_walk) .none kV26 dc26 pm26 an26 cd26 ct26), sl26⟩)
    (c26 : PySem.W.codeIn K cd26 "is_walk" = true)
    (k26 : PySem.W.keepIn K (.ref f26) = true)
    (a27 : PySem.W.nsIn K mainGlobals "rings" = some (some (.ref f27)))
    (l27 : K.lookup f27 = some ⟨oc27, od27, .func (PySem.W.fnOf "rings" "rings" (defArgs s_rings) (defBody s_rings) (defScope s_rings) .none kV27 dc27 pm27 an27 cd27 ct27), sl27⟩)
    (c27 : PySem.W.codeIn K cd27 "rings" = true)
    (k27 : PySem.W.keepIn K (.ref f27) = true)
    (a28 : PySem.W.nsIn K mainGlobals "is_ring" = some (some (.ref f28)))
    (l28 : K.lookup f28 = some ⟨oc28, od28, .func (PySem.W.fnOf "is_ring" "is_ring" (defArgs s_is_ring) (defBody s_is_ring) (defScope s_is_ring) .none kV28 dc28 pm28 an28 cd28 ct28), sl28⟩)
    (c28 : PySem.W.codeIn K cd28 "is_ring" = true)
    (k28 : PySem.W.keepIn K (.ref f28) = true)
    (a29 : PySem.W.nsIn K mainGlobals "_law_refused" = some (some (.ref f29)))
    (l29 : K.lookup f29 = some ⟨oc29, od29, .func (PySem.W.fnOf "_law_refused" "_law_refused" (defArgs s__law_refused) (defBody s__law_refused) (defScope s__law_refused) .none kV29 dc29 pm29 an29 cd29 ct29), sl29⟩)
    (c29 : PySem.W.codeIn K cd29 "_law_refused" = true)
    (k29 : PySem.W.keepIn K (.ref f29) = true)
    (a30 : PySem.W.nsIn K mainGlobals "is_natural" = some (some (.ref f30)))
    (l30 : K.lookup f30 = some ⟨oc30, od30, .func (PySem.W.fnOf "is_natural" "is_natural" (defArgs s_is_natural) (defBody s_is_natural) (defScope s_is_natural) .none kV30 dc30 pm30 an30 cd30 ct30), sl30⟩)
    (c30 : PySem.W.codeIn K cd30 "is_natural" = true)
    (k30 : PySem.W.keepIn K (.ref f30) = true)
    (a31 : PySem.W.nsIn K mainGlobals "is_place" = some (some (.ref f31)))
    (l31 : K.lookup f31 = some ⟨oc31, od31, .func (PySem.W.fnOf "is_place" "is_place" (defArgs s_is_place) (defBody s_is_place) (defScope s_is_place) .none kV31 dc31 pm31 an31 cd31 ct31), sl31⟩)
    (c31 : PySem.W.codeIn K cd31 "is_place" = true)
    (k31 : PySem.W.keepIn K (.ref f31) = true)
    (a32 : PySem.W.nsIn K mainGlobals "check_standing" = some (some (.ref f32)))
    (l32 : K.lookup f32 = some ⟨oc32, od32, .func (PySem.W.fnOf "check_standing" "check_standing" (defArgs s_check_standing) (defBody s_check_standing) (defScope s_check_standing) .none kV32 dc32 pm32 an32 cd32 ct32), sl32⟩)
    (c32 : PySem.W.codeIn K cd32 "check_standing" = true)
    (k32 : PySem.W.keepIn K (.ref f32) = true)
    (a33 : PySem.W.nsIn K mainGlobals "made" = some (some (.ref f33)))
    (l33 : K.lookup f33 = some ⟨oc33, od33, .func (PySem.W.fnOf "made" "made" (defArgs s_made) (defBody s_made) (defScope s_made) .none kV33 dc33 pm33 an33 cd33 ct33), sl33⟩)
    (c33 : PySem.W.codeIn K cd33 "made" = true)
    (k33 : PySem.W.keepIn K (.ref f33) = true)
    (a34 : PySem.W.nsIn K mainGlobals "played" = some (some (.ref f34)))
    (l34 : K.lookup f34 = some ⟨oc34, od34, .func (PySem.W.fnOf "played" "played" (defArgs s_played) (defBody s_played) (defScope s_played) .none kV34 dc34 pm34 an34 cd34 ct34), sl34⟩)
    (c34 : PySem.W.codeIn K cd34 "played" = true)
    (k34 : PySem.W.keepIn K (.ref f34) = true)
    (a35 : PySem.W.nsIn K mainGlobals "play" = some (some (.ref f35)))
    (l35 : K.lookup f35 = some ⟨oc35, od35, .func (PySem.W.fnOf "play" "play" (defArgs s_play) (defBody s_play) (defScope s_play) .none kV35 dc35 pm35 an35 cd35 ct35), sl35⟩)
    (c35 : PySem.W.codeIn K cd35 "play" = true)
    (k35 : PySem.W.keepIn K (.ref f35) = true)
    (a36 : PySem.W.nsIn K mainGlobals "_law_least" = some (some (.ref f36)))
    (l36 : K.lookup f36 = some ⟨oc36, od36, .func (PySem.W.fnOf "_law_least" "_law_least" (defArgs s__law_least) (defBody s__law_least) (defScope s__law_least) .none kV36 dc36 pm36 an36 cd36 ct36), sl36⟩)
    (c36 : PySem.W.codeIn K cd36 "_law_least" = true)
    (k36 : PySem.W.keepIn K (.ref f36) = true)
    (a37 : PySem.W.nsIn K mainGlobals "_law_is_ring" = some (some (.ref f37)))
    (l37 : K.lookup f37 = some ⟨oc37, od37, .func (PySem.W.fnOf "_law_is_ring" "_law_is_ring" (defArgs s__law_is_ring) (defBody s__law_is_ring) (defScope s__law_is_ring) .none kV37 dc37 pm37 an37 cd37 ct37), sl37⟩)
    (c37 : PySem.W.codeIn K cd37 "_law_is_ring" = true)
    (k37 : PySem.W.keepIn K (.ref f37) = true)
    (a38 : PySem.W.nsIn K mainGlobals "_law_effect" = some (some (.ref f38)))
    (l38 : K.lookup f38 = some ⟨oc38, od38, .func (PySem.W.fnOf "_law_effect" "_law_effect" (defArgs s__law_effect) (defBody s__law_effect) (defScope s__law_effect) .none kV38 dc38 pm38 an38 cd38 ct38), sl38⟩)
    (c38 : PySem.W.codeIn K cd38 "_law_effect" = true)
    (k38 : PySem.W.keepIn K (.ref f38) = true)
    (a39 : PySem.W.nsIn K mainGlobals "_law_right" = some (some (.ref f39)))
    (l39 : K.lookup f39 = some ⟨oc39, od39, .func (PySem.W.fnOf "_law_right" "_law_right" (defArgs s__law_right) (defBody s__law_right) (defScope s__law_right) .none kV39 dc39 pm39 an39 cd39 ct39), sl39⟩)
    (c39 : PySem.W.codeIn K cd39 "_law_right" = true)
    (k39 : PySem.W.keepIn K (.ref f39) = true)
    (a40 : PySem.W.nsIn K mainGlobals "law" = some (some (.ref f40)))
    (l40 : K.lookup f40 = some ⟨oc40, od40, .func (PySem.W.fnOf "law" "law" (defArgs s_law) (defBody s_law) (defScope s_law) .none kV40 dc40 pm40 an40 cd40 ct40), sl40⟩)
    (c40 : PySem.W.codeIn K cd40 "law" = true)
    (k40 : PySem.W.keepIn K (.ref f40) = true)
    (z_bool : PySem.W.nsIn K mainGlobals "bool" = some none)
    (z_int : PySem.W.nsIn K mainGlobals "int" = some none)
    (z_isinstance : PySem.W.nsIn K mainGlobals "isinstance" = some none)
    (z_len : PySem.W.nsIn K mainGlobals "len" = some none)
    (z_list : PySem.W.nsIn K mainGlobals "list" = some none)
    (z_max : PySem.W.nsIn K mainGlobals "max" = some none)
    (z_min : PySem.W.nsIn K mainGlobals "min" = some none)
    (z_range : PySem.W.nsIn K mainGlobals "range" = some none)
    (z_str : PySem.W.nsIn K mainGlobals "str" = some none)
    (z_tuple : PySem.W.nsIn K mainGlobals "tuple" = some none)
    (g_ROOMS : PySem.W.nsIn K mainGlobals "ROOMS" = some (some (.int 3 tk_ROOMS)))
    (g_STEP : PySem.W.nsIn K mainGlobals "STEP" = some (some (.int 2 tk_STEP)))
    (g_STEPS : PySem.W.nsIn K mainGlobals "STEPS" = some (some (.int 4 tk_STEPS)))
    (g_TESTS : PySem.W.nsIn K mainGlobals "TESTS" = some (some (.int 2 tk_TESTS)))
    (ga_BadArgument : PySem.W.nsIn K mainGlobals "BadArgument" = some (some (.ref c_BadArgument)))
    (x_BadArgument : PySem.W.excIn K c_BadArgument [.type "ValueError", .type "Exception", .type "BaseException", .type "object"] "ValueError.__new__" = true)
    (k_BadArgument : PySem.W.keepIn K (.ref c_BadArgument) = true)
    (b_BadArgument : PySem.W.subIn K (.ref c_BadArgument) (.type "BaseException") = some true)
    (t_BadArgument : PySem.W.typeIn K (.ref c_BadArgument) = some (.type "type"))
    (h_BadArgument : PySem.W.hasDictIn K c_BadArgument = true)
    (ga_BadProgram : PySem.W.nsIn K mainGlobals "BadProgram" = some (some (.ref c_BadProgram)))
    (x_BadProgram : PySem.W.excIn K c_BadProgram [.type "ValueError", .type "Exception", .type "BaseException", .type "object"] "ValueError.__new__" = true)
    (k_BadProgram : PySem.W.keepIn K (.ref c_BadProgram) = true)
    (b_BadProgram : PySem.W.subIn K (.ref c_BadProgram) (.type "BaseException") = some true)
    (t_BadProgram : PySem.W.typeIn K (.ref c_BadProgram) = some (.type "type"))
    (h_BadProgram : PySem.W.hasDictIn K c_BadProgram = true)
    (ga_BadStanding : PySem.W.nsIn K mainGlobals "BadStanding" = some (some (.ref c_BadStanding)))
    (x_BadStanding : PySem.W.excIn K c_BadStanding [.type "ValueError", .type "Exception", .type "BaseException", .type "object"] "ValueError.__new__" = true)
    (k_BadStanding : PySem.W.keepIn K (.ref c_BadStanding) = true)
    (b_BadStanding : PySem.W.subIn K (.ref c_BadStanding) (.type "BaseException") = some true)
    (t_BadStanding : PySem.W.typeIn K (.ref c_BadStanding) = some (.type "type"))
    (h_BadStanding : PySem.W.hasDictIn K c_BadStanding = true)
    (u_BadArgument_BadArgument : PySem.W.subIn K (.ref c_BadArgument) (.ref c_BadArgument) = some true)
    (u_BadProgram_BadArgument : PySem.W.subIn K (.ref c_BadProgram) (.ref c_BadArgument) = some false)
    (u_BadStanding_BadArgument : PySem.W.subIn K (.ref c_BadStanding) (.ref c_BadArgument) = some false)
    (ans : ∀ (e : EX) (a : Ad), Txt K mg e a → e.nW = 0 → ∀ ns : List Int, ns.length ≤ 63 → ∃ S', M.law_v6 e [.frz (ns.map .int)] [] = .ok (.bl true) S') :
    ∃ fd : FuncData, (∀ (s : Shared) (u : Value), BindsTo s fd ⟨[u], []⟩ [("script", u)]) ∧ ∃ Fn : Fn, (∀ ns : List Int, ns.length ≤ 63 → ∃ S', Fn [.frz (ns.map .int)] [] = .ok (.bl true) S') ∧
      ∀ base : Heap, K.In base → base.Ns mainGlobals mg → FnG P w K mg base 15 fa fd ["script"] (spD K 1 Fn) := by
  have e := hfa.symm.trans (PySem.W.mg_of X G a40)
  cases e
  let ex : EX := { em := PySem.W.exmOne K, km := DL.kmE K, nW := 0, x := fun n => match n with | .BadArgument => c_BadArgument | .BadProgram => c_BadProgram | .BadStanding => c_BadStanding | _ => 0, f := fun n => 0 }
  let a : Ad := {
    f__law_mixed := f0, d__law_mixed := PySem.W.fnOf "_law_mixed" "_law_mixed" (defArgs s__law_mixed) (defBody s__law_mixed) (defScope s__law_mixed) .none kV0 dc0 pm0 an0 cd0 ct0,
    f__law_draw := f1, d__law_draw := PySem.W.fnOf "_law_draw" "_law_draw" (defArgs s__law_draw) (defBody s__law_draw) (defScope s__law_draw) .none kV1 dc1 pm1 an1 cd1 ct1,
    f__law_program := f2, d__law_program := PySem.W.fnOf "_law_program" "_law_program" (defArgs s__law_program) (defBody s__law_program) (defScope s__law_program) .none kV2 dc2 pm2 an2 cd2 ct2,
    f__law_numbers := f3, d__law_numbers := PySem.W.fnOf "_law_numbers" "_law_numbers" (defArgs s__law_numbers) (defBody s__law_numbers) (defScope s__law_numbers) .none kV3 dc3 pm3 an3 cd3 ct3,
    f__law_ends := f4, d__law_ends := PySem.W.fnOf "_law_ends" "_law_ends" (defArgs s__law_ends) (defBody s__law_ends) (defScope s__law_ends) .none kV4 dc4 pm4 an4 cd4 ct4,
    f__law_walk := f5, d__law_walk := PySem.W.fnOf "_law_walk" "_law_walk" (defArgs s__law_walk) (defBody s__law_walk) (defScope s__law_walk) .none kV5 dc5 pm5 an5 cd5 ct5,
    f__law_need := f6, d__law_need := PySem.W.fnOf "_law_need" "_law_need" (defArgs s__law_need) (defBody s__law_need) (defScope s__law_need) .none kV6 dc6 pm6 an6 cd6 ct6,
    f__law_all_equal := f7, d__law_all_equal := PySem.W.fnOf "_law_all_equal" "_law_all_equal" (defArgs s__law_all_equal) (defBody s__law_all_equal) (defScope s__law_all_equal) .none kV7 dc7 pm7 an7 cd7 ct7,
    f__law_equal := f8, d__law_equal := PySem.W.fnOf "_law_equal" "_law_equal" (defArgs s__law_equal) (defBody s__law_equal) (defScope s__law_equal) .none kV8 dc8 pm8 an8 cd8 ct8,
    f__law_is_walk := f9, d__law_is_walk := PySem.W.fnOf "_law_is_walk" "_law_is_walk" (defArgs s__law_is_walk) (defBody s__law_is_walk) (defScope s__law_is_walk) .none kV9 dc9 pm9 an9 cd9 ct9,
    f_is_tuple := f10, d_is_tuple := PySem.W.fnOf "is_tuple" "is_tuple" (defArgs s_is_tuple) (defBody s_is_tuple) (defScope s_is_tuple) .none kV10 dc10 pm10 an10 cd10 ct10,
    f_is_within := f11, d_is_within := PySem.W.fnOf "is_within" "is_within" (defArgs s_is_within) (defBody s_is_within) (defScope s_is_within) .none kV11 dc11 pm11 an11 cd11 ct11,
    f_check_program := f12, d_check_program := PySem.W.fnOf "check_program" "check_program" (defArgs s_check_program) (defBody s_check_program) (defScope s_check_program) .none kV12 dc12 pm12 an12 cd12 ct12,
    f_move_count := f13, d_move_count := PySem.W.fnOf "move_count" "move_count" (defArgs s_move_count) (defBody s_move_count) (defScope s_move_count) .none kV13 dc13 pm13 an13 cd13 ct13,
    f_is_move := f14, d_is_move := PySem.W.fnOf "is_move" "is_move" (defArgs s_is_move) (defBody s_is_move) (defScope s_is_move) .none kV14 dc14 pm14 an14 cd14 ct14,
    f_is_word := f15, d_is_word := PySem.W.fnOf "is_word" "is_word" (defArgs s_is_word) (defBody s_is_word) (defScope s_is_word) .none kV15 dc15 pm15 an15 cd15 ct15,
    f_check_word := f16, d_check_word := PySem.W.fnOf "check_word" "check_word" (defArgs s_check_word) (defBody s_check_word) (defScope s_check_word) .none kV16 dc16 pm16 an16 cd16 ct16,
    f_is_test := f17, d_is_test := PySem.W.fnOf "is_test" "is_test" (defArgs s_is_test) (defBody s_is_test) (defScope s_is_test) .none kV17 dc17 pm17 an17 cd17 ct17,
    f_change_of := f18, d_change_of := PySem.W.fnOf "change_of" "change_of" (defArgs s_change_of) (defBody s_change_of) (defScope s_change_of) .none kV18 dc18 pm18 an18 cd18 ct18,
    f_need_of := f19, d_need_of := PySem.W.fnOf "need_of" "need_of" (defArgs s_need_of) (defBody s_need_of) (defScope s_need_of) .none kV19 dc19 pm19 an19 cd19 ct19,
    f_source_of := f20, d_source_of := PySem.W.fnOf "source_of" "source_of" (defArgs s_source_of) (defBody s_source_of) (defScope s_source_of) .none kV20 dc20 pm20 an20 cd20 ct20,
    f_target_of := f21, d_target_of := PySem.W.fnOf "target_of" "target_of" (defArgs s_target_of) (defBody s_target_of) (defScope s_target_of) .none kV21 dc21 pm21 an21 cd21 ct21,
    f_walks := f22, d_walks := PySem.W.fnOf "walks" "walks" (defArgs s_walks) (defBody s_walks) (defScope s_walks) .none kV22 dc22 pm22 an22 cd22 ct22,
    f_need := f23, d_need := PySem.W.fnOf "need" "need" (defArgs s_need) (defBody s_need) (defScope s_need) .none kV23 dc23 pm23 an23 cd23 ct23,
    f_effect_of := f24, d_effect_of := PySem.W.fnOf "effect_of" "effect_of" (defArgs s_effect_of) (defBody s_effect_of) (defScope s_effect_of) .none kV24 dc24 pm24 an24 cd24 ct24,
    f_effect := f25, d_effect := PySem.W.fnOf "effect" "effect" (defArgs s_effect) (defBody s_effect) (defScope s_effect) .none kV25 dc25 pm25 an25 cd25 ct25,
    f_is_walk := f26, d_is_walk := PySem.W.fnOf "is_walk" "is_walk" (defArgs s_is_walk) (defBody s_is_walk) (defScope s_is_walk) .none kV26 dc26 pm26 an26 cd26 ct26,
    f_rings := f27, d_rings := PySem.W.fnOf "rings" "rings" (defArgs s_rings) (defBody s_rings) (defScope s_rings) .none kV27 dc27 pm27 an27 cd27 ct27,
    f_is_ring := f28, d_is_ring := PySem.W.fnOf "is_ring" "is_ring" (defArgs s_is_ring) (defBody s_is_ring) (defScope s_is_ring) .none kV28 dc28 pm28 an28 cd28 ct28,
    f__law_refused := f29, d__law_refused := PySem.W.fnOf "_law_refused" "_law_refused" (defArgs s__law_refused) (defBody s__law_refused) (defScope s__law_refused) .none kV29 dc29 pm29 an29 cd29 ct29,
    f_is_natural := f30, d_is_natural := PySem.W.fnOf "is_natural" "is_natural" (defArgs s_is_natural) (defBody s_is_natural) (defScope s_is_natural) .none kV30 dc30 pm30 an30 cd30 ct30,
    f_is_place := f31, d_is_place := PySem.W.fnOf "is_place" "is_place" (defArgs s_is_place) (defBody s_is_place) (defScope s_is_place) .none kV31 dc31 pm31 an31 cd31 ct31,
    f_check_standing := f32, d_check_standing := PySem.W.fnOf "check_standing" "check_standing" (defArgs s_check_standing) (defBody s_check_standing) (defScope s_check_standing) .none kV32 dc32 pm32 an32 cd32 ct32,
    f_made := f33, d_made := PySem.W.fnOf "made" "made" (defArgs s_made) (defBody s_made) (defScope s_made) .none kV33 dc33 pm33 an33 cd33 ct33,
    f_played := f34, d_played := PySem.W.fnOf "played" "played" (defArgs s_played) (defBody s_played) (defScope s_played) .none kV34 dc34 pm34 an34 cd34 ct34,
    f_play := f35, d_play := PySem.W.fnOf "play" "play" (defArgs s_play) (defBody s_play) (defScope s_play) .none kV35 dc35 pm35 an35 cd35 ct35,
    f__law_least := f36, d__law_least := PySem.W.fnOf "_law_least" "_law_least" (defArgs s__law_least) (defBody s__law_least) (defScope s__law_least) .none kV36 dc36 pm36 an36 cd36 ct36,
    f__law_is_ring := f37, d__law_is_ring := PySem.W.fnOf "_law_is_ring" "_law_is_ring" (defArgs s__law_is_ring) (defBody s__law_is_ring) (defScope s__law_is_ring) .none kV37 dc37 pm37 an37 cd37 ct37,
    f__law_effect := f38, d__law_effect := PySem.W.fnOf "_law_effect" "_law_effect" (defArgs s__law_effect) (defBody s__law_effect) (defScope s__law_effect) .none kV38 dc38 pm38 an38 cd38 ct38,
    f__law_right := f39, d__law_right := PySem.W.fnOf "_law_right" "_law_right" (defArgs s__law_right) (defBody s__law_right) (defScope s__law_right) .none kV39 dc39 pm39 an39 cd39 ct39,
    f_law := fa, d_law := PySem.W.fnOf "law" "law" (defArgs s_law) (defBody s_law) (defScope s_law) .none kV40 dc40 pm40 an40 cd40 ct40,
    t_ROOMS := tk_ROOMS,
    t_STEP := tk_STEP,
    t_STEPS := tk_STEPS,
    t_TESTS := tk_TESTS }
  have T : Txt K mg ex a := {
    em := rfl,
    g__law_mixed := PySem.W.mg_of X G a0, F__law_mixed := fun_mk (st := s__law_mixed) l0 c0 k0, k__law_mixed := k0,
    g__law_draw := PySem.W.mg_of X G a1, F__law_draw := fun_mk (st := s__law_draw) l1 c1 k1, k__law_draw := k1,
    g__law_program := PySem.W.mg_of X G a2, F__law_program := fun_mk (st := s__law_program) l2 c2 k2, k__law_program := k2,
    g__law_numbers := PySem.W.mg_of X G a3, F__law_numbers := fun_mk (st := s__law_numbers) l3 c3 k3, k__law_numbers := k3,
    g__law_ends := PySem.W.mg_of X G a4, F__law_ends := fun_mk (st := s__law_ends) l4 c4 k4, k__law_ends := k4,
    g__law_walk := PySem.W.mg_of X G a5, F__law_walk := fun_mk (st := s__law_walk) l5 c5 k5, k__law_walk := k5,
    g__law_need := PySem.W.mg_of X G a6, F__law_need := fun_mk (st := s__law_need) l6 c6 k6, k__law_need := k6,
    g__law_all_equal := PySem.W.mg_of X G a7, F__law_all_equal := fun_mk (st := s__law_all_equal) l7 c7 k7, k__law_all_equal := k7,
    g__law_equal := PySem.W.mg_of X G a8, F__law_equal := fun_mk (st := s__law_equal) l8 c8 k8, k__law_equal := k8,
    g__law_is_walk := PySem.W.mg_of X G a9, F__law_is_walk := fun_mk (st := s__law_is_walk) l9 c9 k9, k__law_is_walk := k9,
    g_is_tuple := PySem.W.mg_of X G a10, F_is_tuple := fun_mk (st := s_is_tuple) l10 c10 k10, k_is_tuple := k10,
    g_is_within := PySem.W.mg_of X G a11, F_is_within := fun_mk (st := s_is_within) l11 c11 k11, k_is_within := k11,
    g_check_program := PySem.W.mg_of X G a12, F_check_program := fun_mk (st := s_check_program) l12 c12 k12, k_check_program := k12,
    g_move_count := PySem.W.mg_of X G a13, F_move_count := fun_mk (st := s_move_count) l13 c13 k13, k_move_count := k13,
    g_is_move := PySem.W.mg_of X G a14, F_is_move := fun_mk (st := s_is_move) l14 c14 k14, k_is_move := k14,
    g_is_word := PySem.W.mg_of X G a15, F_is_word := fun_mk (st := s_is_word) l15 c15 k15, k_is_word := k15,
    g_check_word := PySem.W.mg_of X G a16, F_check_word := fun_mk (st := s_check_word) l16 c16 k16, k_check_word := k16,
    g_is_test := PySem.W.mg_of X G a17, F_is_test := fun_mk (st := s_is_test) l17 c17 k17, k_is_test := k17,
    g_change_of := PySem.W.mg_of X G a18, F_change_of := fun_mk (st := s_change_of) l18 c18 k18, k_change_of := k18,
    g_need_of := PySem.W.mg_of X G a19, F_need_of := fun_mk (st := s_need_of) l19 c19 k19, k_need_of := k19,
    g_source_of := PySem.W.mg_of X G a20, F_source_of := fun_mk (st := s_source_of) l20 c20 k20, k_source_of := k20,
    g_target_of := PySem.W.mg_of X G a21, F_target_of := fun_mk (st := s_target_of) l21 c21 k21, k_target_of := k21,
    g_walks := PySem.W.mg_of X G a22, F_walks := fun_mk (st := s_walks) l22 c22 k22, k_walks := k22,
    g_need := PySem.W.mg_of X G a23, F_need := fun_mk (st := s_need) l23 c23 k23, k_need := k23,
    g_effect_of := PySem.W.mg_of X G a24, F_effect_of := fun_mk (st := s_effect_of) l24 c24 k24, k_effect_of := k24,
    g_effect := PySem.W.mg_of X G a25, F_effect := fun_mk (st := s_effect) l25 c25 k25, k_effect := k25,
    g_is_walk := PySem.W.mg_of X G a26, F_is_walk := fun_mk (st := s_is_walk) l26 c26 k26, k_is_walk := k26,
    g_rings := PySem.W.mg_of X G a27, F_rings := fun_mk (st := s_rings) l27 c27 k27, k_rings := k27,
    g_is_ring := PySem.W.mg_of X G a28, F_is_ring := fun_mk (st := s_is_ring) l28 c28 k28, k_is_ring := k28,
    g__law_refused := PySem.W.mg_of X G a29, F__law_refused := fun_mk (st := s__law_refused) l29 c29 k29, k__law_refused := k29,
    g_is_natural := PySem.W.mg_of X G a30, F_is_natural := fun_mk (st := s_is_natural) l30 c30 k30, k_is_natural := k30,
    g_is_place := PySem.W.mg_of X G a31, F_is_place := fun_mk (st := s_is_place) l31 c31 k31, k_is_place := k31,
    g_check_standing := PySem.W.mg_of X G a32, F_check_standing := fun_mk (st := s_check_standing) l32 c32 k32, k_check_standing := k32,
    g_made := PySem.W.mg_of X G a33, F_made := fun_mk (st := s_made) l33 c33 k33, k_made := k33,
    g_played := PySem.W.mg_of X G a34, F_played := fun_mk (st := s_played) l34 c34 k34, k_played := k34,
    g_play := PySem.W.mg_of X G a35, F_play := fun_mk (st := s_play) l35 c35 k35, k_play := k35,
    g__law_least := PySem.W.mg_of X G a36, F__law_least := fun_mk (st := s__law_least) l36 c36 k36, k__law_least := k36,
    g__law_is_ring := PySem.W.mg_of X G a37, F__law_is_ring := fun_mk (st := s__law_is_ring) l37 c37 k37, k__law_is_ring := k37,
    g__law_effect := PySem.W.mg_of X G a38, F__law_effect := fun_mk (st := s__law_effect) l38 c38 k38, k__law_effect := k38,
    g__law_right := PySem.W.mg_of X G a39, F__law_right := fun_mk (st := s__law_right) l39 c39 k39, k__law_right := k39,
    g_law := PySem.W.mg_of X G a40, F_law := fun_mk (st := s_law) l40 c40 k40, k_law := k40,
    z_bool := PySem.W.mg_none_of X G z_bool,
    z_int := PySem.W.mg_none_of X G z_int,
    z_isinstance := PySem.W.mg_none_of X G z_isinstance,
    z_len := PySem.W.mg_none_of X G z_len,
    z_list := PySem.W.mg_none_of X G z_list,
    z_max := PySem.W.mg_none_of X G z_max,
    z_min := PySem.W.mg_none_of X G z_min,
    z_range := PySem.W.mg_none_of X G z_range,
    z_str := PySem.W.mg_none_of X G z_str,
    z_tuple := PySem.W.mg_none_of X G z_tuple,
    g_ROOMS := PySem.W.mg_of X G g_ROOMS,
    g_STEP := PySem.W.mg_of X G g_STEP,
    g_STEPS := PySem.W.mg_of X G g_STEPS,
    g_TESTS := PySem.W.mg_of X G g_TESTS,
    g_BadArgument := PySem.W.mg_of X G ga_BadArgument, x_BadArgument := x_BadArgument, k_BadArgument := k_BadArgument, b_BadArgument := b_BadArgument, t_BadArgument := t_BadArgument, h_BadArgument := h_BadArgument,
    g_BadProgram := PySem.W.mg_of X G ga_BadProgram, x_BadProgram := x_BadProgram, k_BadProgram := k_BadProgram, b_BadProgram := b_BadProgram, t_BadProgram := t_BadProgram, h_BadProgram := h_BadProgram,
    g_BadStanding := PySem.W.mg_of X G ga_BadStanding, x_BadStanding := x_BadStanding, k_BadStanding := k_BadStanding, b_BadStanding := b_BadStanding, t_BadStanding := t_BadStanding, h_BadStanding := h_BadStanding,
    u_BadArgument_BadArgument := PySem.W.exm_ref b_BadArgument h_BadArgument t_BadArgument u_BadArgument_BadArgument,
    u_BadProgram_BadArgument := PySem.W.exm_ref b_BadArgument h_BadArgument t_BadArgument u_BadProgram_BadArgument,
    u_BadStanding_BadArgument := PySem.W.exm_ref b_BadArgument h_BadArgument t_BadArgument u_BadStanding_BadArgument }
  exact ⟨a.d_law, fun s v => .of_eq rfl, M.law_v6 ex, ans ex a T rfl, fun base _ _ => ok_law T⟩
end Kd
end

set_option Elab.async false
set_option linter.all false
set_option maxRecDepth 100000
namespace Kd
open PySem PySem.Spec PyProof.Rows L2 DL
theorem answer {K : PySem.W.Frag} {mg : Str → Option Value} {e : EX} {a : Ad} (T : Txt K mg e a) (hW : e.nW = 0) (ns : List Int) (hl : ns.length ≤ 63) : ∃ S', M.law_v6 e [.frz (ns.map .int)] [] = .ok (.bl true) S' := fin ⟨T.u_BadArgument_BadArgument⟩ ns hl
end Kd
open PySem PySem.W PyProof.Rows in
set_option maxRecDepth 100000 in
set_option maxHeartbeats 0 in
theorem PySem.Challenge.cw_twinpurse_k04_needs_and_effects_holds : PySem.Challenge.rw_twinpurse_k04_needs_and_effects.Holds := by
  w_on; o_law; k_head; (case hw => w_witness2)
  k_fill
  refine DL.law_end (l := PySem.Challenge.rw_twinpurse_k04_needs_and_effects) (n := 63) (k := 15) (x := "script") rfl (by decide) rfl ⟨rfl, by decide, by decide⟩ (fun w h Y => PySem.W.kIn_of Y) ?F
  case F =>
    intro w mg fa h KX G hmg
    refine' Kd.all_mk KX G hmg ?a0 ?l0 ?c0 ?k0 ?a1 ?l1 ?c1 ?k1 ?a2 ?l2 ?c2 ?k2 ?a3 ?l3 ?c3 ?k3 ?a4 ?l4 ?c4 ?k4 ?a5 ?l5 ?c5 ?k5 ?a6 ?l6 ?c6 ?k6 ?a7 ?l7 ?c7 ?k7 ?a8 ?l8 ?c8 ?k8 ?a9 ?l9 ?c9 ?k9 ?a10 ?l10 ?c10 ?k10 ?a11 ?l11 ?c11 ?k11 ?a12 ?l12 ?c12 ?k12 ?a13 ?l13 ?c13 ?k13 ?a14 ?l14 ?c14 ?k14 ?a15 ?l15 ?c15 ?k15 ?a16 ?l16 ?c16 ?k16 ?a17 ?l17 ?c17 ?k17 ?a18 ?l18 ?c18 ?k18 ?a19 ?l19 ?c19 ?k19 ?a20 ?l20 ?c20 ?k20 ?a21 ?l21 ?c21 ?k21 ?a22 ?l22 ?c22 ?k22 ?a23 ?l23 ?c23 ?k23 ?a24 ?l24 ?c24 ?k24 ?a25 ?l25 ?c25 ?k25 ?a26 ?l26 ?c26 ?k26 ?a27 ?l27 ?c27 ?k27 ?a28 ?l28 ?c28 ?k28 ?a29 ?l29 ?c29 ?k29 ?a30 ?l30 ?c30 ?k30 ?a31 ?l31 ?c31 ?k31 ?a32 ?l32 ?c32 ?k32 ?a33 ?l33 ?c33 ?k33 ?a34 ?l34 ?c34 ?k34 ?a35 ?l35 ?c35 ?k35 ?a36 ?l36 ?c36 ?k36 ?a37 ?l37 ?c37 ?k37 ?a38 ?l38 ?c38 ?k38 ?a39 ?l39 ?c39 ?k39 ?a40 ?l40 ?c40 ?k40 ?z_bool ?z_int ?z_isinstance ?z_len ?z_list ?z_max ?z_min ?z_range ?z_str ?z_tuple ?g_ROOMS ?g_STEP ?g_STEPS ?g_TESTS ?ga_BadArgument ?x_BadArgument ?k_BadArgument ?b_BadArgument ?t_BadArgument ?h_BadArgument ?ga_BadProgram ?x_BadProgram ?k_BadProgram ?b_BadProgram ?t_BadProgram ?h_BadProgram ?ga_BadStanding ?x_BadStanding ?k_BadStanding ?b_BadStanding ?t_BadStanding ?h_BadStanding ?u_BadArgument_BadArgument ?u_BadProgram_BadArgument ?u_BadStanding_BadArgument (fun e a T hW ns hl => Kd.answer T hW ns hl)
    (case a0 => k_is)
    (case l0 => k_is)
    (case c0 => k_is)
    (case k0 => k_is)
    (case a1 => k_is)
    (case l1 => k_is)
    (case c1 => k_is)
    (case k1 => k_is)
    (case a2 => k_is)
    (case l2 => k_is)
    (case c2 => k_is)
    (case k2 => k_is)
    (case a3 => k_is)
    (case l3 => k_is)
    (case c3 => k_is)
    (case k3 => k_is)
    (case a4 => k_is)
    (case l4 => k_is)
    (case c4 => k_is)
    (case k4 => k_is)
    (case a5 => k_is)
    (case l5 => k_is)
    (case c5 => k_is)
    (case k5 => k_is)
    (case a6 => k_is)
    (case l6 => k_is)
    (case c6 => k_is)
    (case k6 => k_is)
    (case a7 => k_is)
    (case l7 => k_is)
    (case c7 => k_is)
    (case k7 => k_is)
    (case a8 => k_is)
    (case l8 => k_is)
    (case c8 => k_is)
    (case k8 => k_is)
    (case a9 => k_is)
    (case l9 => k_is)
    (case c9 => k_is)
    (case k9 => k_is)
    (case a10 => k_is)
    (case l10 => k_is)
    (case c10 => k_is)
    (case k10 => k_is)
    (case a11 => k_is)
    (case l11 => k_is)
    (case c11 => k_is)
    (case k11 => k_is)
    (case a12 => k_is)
    (case l12 => k_is)
    (case c12 => k_is)
    (case k12 => k_is)
    (case a13 => k_is)
    (case l13 => k_is)
    (case c13 => k_is)
    (case k13 => k_is)
    (case a14 => k_is)
    (case l14 => k_is)
    (case c14 => k_is)
    (case k14 => k_is)
    (case a15 => k_is)
    (case l15 => k_is)
    (case c15 => k_is)
    (case k15 => k_is)
    (case a16 => k_is)
    (case l16 => k_is)
    (case c16 => k_is)
    (case k16 => k_is)
    (case a17 => k_is)
    (case l17 => k_is)
    (case c17 => k_is)
    (case k17 => k_is)
    (case a18 => k_is)
    (case l18 => k_is)
    (case c18 => k_is)
    (case k18 => k_is)
    (case a19 => k_is)
    (case l19 => k_is)
    (case c19 => k_is)
    (case k19 => k_is)
    (case a20 => k_is)
    (case l20 => k_is)
    (case c20 => k_is)
    (case k20 => k_is)
    (case a21 => k_is)
    (case l21 => k_is)
    (case c21 => k_is)
    (case k21 => k_is)
    (case a22 => k_is)
    (case l22 => k_is)
    (case c22 => k_is)
    (case k22 => k_is)
    (case a23 => k_is)
    (case l23 => k_is)
    (case c23 => k_is)
    (case k23 => k_is)
    (case a24 => k_is)
    (case l24 => k_is)
    (case c24 => k_is)
    (case k24 => k_is)
    (case a25 => k_is)
    (case l25 => k_is)
    (case c25 => k_is)
    (case k25 => k_is)
    (case a26 => k_is)
    (case l26 => k_is)
    (case c26 => k_is)
    (case k26 => k_is)
    (case a27 => k_is)
    (case l27 => k_is)
    (case c27 => k_is)
    (case k27 => k_is)
    (case a28 => k_is)
    (case l28 => k_is)
    (case c28 => k_is)
    (case k28 => k_is)
    (case a29 => k_is)
    (case l29 => k_is)
    (case c29 => k_is)
    (case k29 => k_is)
    (case a30 => k_is)
    (case l30 => k_is)
    (case c30 => k_is)
    (case k30 => k_is)
    (case a31 => k_is)
    (case l31 => k_is)
    (case c31 => k_is)
    (case k31 => k_is)
    (case a32 => k_is)
    (case l32 => k_is)
    (case c32 => k_is)
    (case k32 => k_is)
    (case a33 => k_is)
    (case l33 => k_is)
    (case c33 => k_is)
    (case k33 => k_is)
    (case a34 => k_is)
    (case l34 => k_is)
    (case c34 => k_is)
    (case k34 => k_is)
    (case a35 => k_is)
    (case l35 => k_is)
    (case c35 => k_is)
    (case k35 => k_is)
    (case a36 => k_is)
    (case l36 => k_is)
    (case c36 => k_is)
    (case k36 => k_is)
    (case a37 => k_is)
    (case l37 => k_is)
    (case c37 => k_is)
    (case k37 => k_is)
    (case a38 => k_is)
    (case l38 => k_is)
    (case c38 => k_is)
    (case k38 => k_is)
    (case a39 => k_is)
    (case l39 => k_is)
    (case c39 => k_is)
    (case k39 => k_is)
    (case a40 => k_is)
    (case l40 => k_is)
    (case c40 => k_is)
    (case k40 => k_is)
    (case z_bool => k_is)
    (case z_int => k_is)
    (case z_isinstance => k_is)
    (case z_len => k_is)
    (case z_list => k_is)
    (case z_max => k_is)
    (case z_min => k_is)
    (case z_range => k_is)
    (case z_str => k_is)
    (case z_tuple => k_is)
    (case g_ROOMS => k_is)
    (case g_STEP => k_is)
    (case g_STEPS => k_is)
    (case g_TESTS => k_is)
    (case ga_BadArgument => k_is)
    (case x_BadArgument => k_exc)
    (case k_BadArgument => k_is)
    (case b_BadArgument => k_is)
    (case t_BadArgument => k_is)
    (case h_BadArgument => k_is)
    (case ga_BadProgram => k_is)
    (case x_BadProgram => k_exc)
    (case k_BadProgram => k_is)
    (case b_BadProgram => k_is)
    (case t_BadProgram => k_is)
    (case h_BadProgram => k_is)
    (case ga_BadStanding => k_is)
    (case x_BadStanding => k_exc)
    (case k_BadStanding => k_is)
    (case b_BadStanding => k_is)
    (case t_BadStanding => k_is)
    (case h_BadStanding => k_is)
    (case u_BadArgument_BadArgument => first | rfl | k_is)
    (case u_BadProgram_BadArgument => first | rfl | k_is)
    (case u_BadStanding_BadArgument => first | rfl | k_is)
