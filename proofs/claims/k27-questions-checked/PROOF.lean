import PyProof.Rows.All
import HandS.ForMost
import HandS.ForExc
import HandS.IsInst
import HandS.TryMany
import HandS.TupAny
import HandS.TupMul
import HandS.Flow
import HandS.Zip
import HandS.Deep
import HandS.Wide
import HandS.ExcIs
import HandS.Style
import KE.KTryMore
import KE.DataMinMax
import PySem.Challenge.RW_twinpurse_k27_questions_are_checked
import Wide.All
import OpenK.AllK
import Wide.FinOn
section
set_option Elab.async false
set_option linter.all false
set_option maxRecDepth 100000
set_option maxHeartbeats 4000000
/-! DL: a layer of plain data over the hand layer: values as trees, changeable lists in a store, statements as functions. -/
namespace DL
open PySem PySem.Spec PyProof.Rows L2

/-- data: tup, lst never change; ref is a changeable thing of the store; cst any other constant value -/
inductive D where
  | non | bl (b : Bool) | int (i : Int) | str (x : Str)
  | tup (xs : List D) | lst (xs : List D) | frz (xs : List D) | emp
  | ref (n : Nat) | cst (v : V)

/-- things of the store -/
inductive SO where
  | lst (xs : List D)
  | ins (C : Addr) (fs : List (Str × D))
abbrev Sto := List SO

abbrev H00 : Hp := fun _ => none
/-- l: where the store's things lie; x: what is being made just now -/
structure Rho where
  l : List Addr
  x : List Addr
def Rho.off (ρ : Rho) (a : Addr) : Prop := a ∉ ρ.l ∧ a ∉ ρ.x
def LAt (K : PySem.W.Frag) (H : Hp) (ρ : Rho) (a : Addr) (vs : List V) : Prop := (ρ.off a ∧ Rd H a (.lst vs)) ∨ SqL K H00 a vs
def OAt (H : Hp) (ρ : Rho) (a : Addr) (o : HO) : Prop := ρ.off a ∧ H a = some o
def TAt (K : PySem.W.Frag) (H : Hp) (ρ : Rho) (a : Addr) (vs : List V) : Prop := (ρ.off a ∧ Rd H a (.tup vs)) ∨ SqT K H00 a vs

theorem rd00 {a : Addr} {o : HO} (h : Rd H00 a o) : False := by
  rcases h with h | ⟨_, h⟩ <;> cases h
theorem LAt.sq {K : PySem.W.Frag} {H : Hp} {ρ : Rho} {a : Addr} {vs : List V} (h : LAt K H ρ a vs) : SqL K H a vs := by
  rcases h with ⟨_, h⟩ | h
  · exact .inl h
  · rcases h with h | h
    · exact (rd00 h).elim
    · exact .inr h
theorem TAt.sq {K : PySem.W.Frag} {H : Hp} {ρ : Rho} {a : Addr} {vs : List V} (h : TAt K H ρ a vs) : SqT K H a vs := by
  rcases h with ⟨_, h⟩ | h
  · exact .inl h
  · rcases h with h | h
    · exact (rd00 h).elim
    · exact .inr h

section
variable (K : PySem.W.Frag) (H : Hp) (ρ : Rho)
mutual
def RepV : D → V → Prop
  | .non, v => v = .non
  | .bl b, v => v = .bl b
  | .int i, v => v = .int i
  | .str x, v => v = .str x
  | .tup ds, v => ∃ a vs, v = .ref a ∧ TAt K H ρ a vs ∧ RepVs ds vs
  | .lst ds, v => ∃ a vs, v = .ref a ∧ OAt H ρ a (.lst vs) ∧ RepVs ds vs
  | .frz ds, v => ∃ a vs, v = .ref a ∧ LAt K H ρ a vs ∧ RepVs ds vs
  | .emp, v => ∃ a, v = .ref a ∧ OAt H ρ a (.dK [])
  | .ref n, v => ∃ a, v = .ref a ∧ ρ.l[n]? = some a
  | .cst u, v => v = u
def RepVs : List D → List V → Prop
  | [], vs => vs = []
  | d :: ds, vs => ∃ v vr, vs = v :: vr ∧ RepV d v ∧ RepVs ds vr
end
end

/-- what may have happened: things of the store changed, new things came -/
structure Ext (H : Hp) (ρ : Rho) (H' : Hp) (ρ' : Rho) : Prop where
  pre : ∃ e, ρ'.l = ρ.l ++ e ∧ ∀ a ∈ e, H a = none
  more : ∃ y, ρ'.x = y ++ ρ.x ∧ ∀ a ∈ y, H a = none
  keep : ∀ a o, H a = some o → a ∉ ρ.l → H' a = some o
  there : ∀ a o, H a = some o → ∃ o', H' a = some o'

theorem Ext.refl {H : Hp} {ρ : Rho} : Ext H ρ H ρ := ⟨⟨[], by simp, by simp⟩, ⟨[], by simp, by simp⟩, fun _ _ h _ => h, fun _ o h => ⟨o, h⟩⟩
theorem Ext.trans {H H1 H2 : Hp} {ρ ρ1 ρ2 : Rho} (a : Ext H ρ H1 ρ1) (b : Ext H1 ρ1 H2 ρ2) : Ext H ρ H2 ρ2 := by
  obtain ⟨⟨e1, r1, n1⟩, ⟨y1, s1, m1⟩, k1, t1⟩ := a
  obtain ⟨⟨e2, r2, n2⟩, ⟨y2, s2, m2⟩, k2, t2⟩ := b
  have back : ∀ a, H1 a = none → H a = none := fun a ha => by
    cases e : H a with
    | none => rfl
    | some o =>
      obtain ⟨o', q⟩ := t1 a o e
      rw [ha] at q; cases q
  have notin : ∀ a o, H a = some o → a ∉ e1 := fun a o h hm => by have := n1 a hm; rw [h] at this; cases this
  refine ⟨⟨e1 ++ e2, by rw [r2, r1]; simp, fun a ha => ?_⟩, ⟨y2 ++ y1, by rw [s2, s1]; simp, fun a ha => ?_⟩, fun a o h hn => ?_, fun a o h => ?_⟩
  · rcases List.mem_append.mp ha with ha | ha
    · exact n1 a ha
    · exact back a (n2 a ha)
  · rcases List.mem_append.mp ha with ha | ha
    · exact back a (m2 a ha)
    · exact m1 a ha
  · refine k2 a o (k1 a o h hn) fun hm => ?_
    rw [r1] at hm
    rcases List.mem_append.mp hm with hm | hm
    · exact hn hm
    · exact notin a o h hm
  · obtain ⟨o', q⟩ := t1 a o h
    exact t2 a o' q

/-- what is there and out of the store stays so -/
theorem Ext.outL {H H' : Hp} {ρ ρ' : Rho} (x : Ext H ρ H' ρ') {a : Addr} {o : HO} (h : H a = some o) (hn : a ∉ ρ.l) : a ∉ ρ'.l := by
  obtain ⟨e, r, n⟩ := x.pre
  rw [r]
  intro hm
  rcases List.mem_append.mp hm with hm | hm
  · exact hn hm
  · have := n a hm; rw [h] at this; cases this
theorem Ext.out {H H' : Hp} {ρ ρ' : Rho} (x : Ext H ρ H' ρ') {a : Addr} {o : HO} (h : H a = some o) (hn : ρ.off a) : ρ'.off a := ⟨x.outL h hn.1, by
  obtain ⟨y, r, n⟩ := x.more
  rw [r]
  intro hm
  rcases List.mem_append.mp hm with hm | hm
  · have := n a hm; rw [h] at this; cases this
  · exact hn.2 hm⟩
theorem Ext.rd {H H' : Hp} {ρ ρ' : Rho} (x : Ext H ρ H' ρ') {a : Addr} {u : HO} (hn : ρ.off a) (h : Rd H a u) : ρ'.off a ∧ Rd H' a u := by
  rcases h with h | ⟨o, h⟩
  · exact ⟨x.out h hn, .inl (x.keep _ _ h hn.1)⟩
  · exact ⟨x.out h hn, .inr ⟨o, x.keep _ _ h hn.1⟩⟩
theorem Ext.lat {K : PySem.W.Frag} {H H' : Hp} {ρ ρ' : Rho} (x : Ext H ρ H' ρ') {a : Addr} {vs : List V} (h : LAt K H ρ a vs) : LAt K H' ρ' a vs := by
  rcases h with ⟨hn, h⟩ | h
  · exact .inl (x.rd hn h)
  · exact .inr h
theorem Ext.tat {K : PySem.W.Frag} {H H' : Hp} {ρ ρ' : Rho} (x : Ext H ρ H' ρ') {a : Addr} {vs : List V} (h : TAt K H ρ a vs) : TAt K H' ρ' a vs := by
  rcases h with ⟨hn, h⟩ | h
  · exact .inl (x.rd hn h)
  · exact .inr h
theorem Ext.oat {H H' : Hp} {ρ ρ' : Rho} (x : Ext H ρ H' ρ') {a : Addr} {o : HO} (h : OAt H ρ a o) : OAt H' ρ' a o := ⟨x.out h.2 h.1, x.keep _ _ h.2 h.1.1⟩

section
variable {K : PySem.W.Frag} {H H' : Hp} {ρ ρ' : Rho}
mutual
theorem RepV.ext (x : Ext H ρ H' ρ') : ∀ {d : D} {v : V}, RepV K H ρ d v → RepV K H' ρ' d v
  | .non, _, h => h
  | .bl _, _, h => h
  | .int _, _, h => h
  | .str _, _, h => h
  | .tup ds, v, h => by
    unfold RepV at h ⊢
    obtain ⟨a, vs, e, ha, hs⟩ := h
    exact ⟨a, vs, e, x.tat ha, RepVs.ext x hs⟩
  | .lst ds, v, h => by
    unfold RepV at h ⊢
    obtain ⟨a, vs, e, ha, hs⟩ := h
    exact ⟨a, vs, e, x.oat ha, RepVs.ext x hs⟩
  | .frz ds, v, h => by
    unfold RepV at h ⊢
    obtain ⟨a, vs, e, ha, hs⟩ := h
    exact ⟨a, vs, e, x.lat ha, RepVs.ext x hs⟩
  | .emp, v, h => by
    unfold RepV at h ⊢
    obtain ⟨a, e, ha⟩ := h
    exact ⟨a, e, x.oat ha⟩
  | .ref n, v, h => by
    unfold RepV at h ⊢
    obtain ⟨a, e, ha⟩ := h
    obtain ⟨e', r, _⟩ := x.pre
    exact ⟨a, e, by rw [r, List.getElem?_append_left (by exact (List.getElem?_eq_some_iff.mp ha).1)]; exact ha⟩
  | .cst _, _, h => h
theorem RepVs.ext (x : Ext H ρ H' ρ') : ∀ {ds : List D} {vs : List V}, RepVs K H ρ ds vs → RepVs K H' ρ' ds vs
  | [], _, h => h
  | d :: ds, vs, h => by
    unfold RepVs at h ⊢
    obtain ⟨v, vr, e, h1, h2⟩ := h
    exact ⟨v, vr, e, RepV.ext x h1, RepVs.ext x h2⟩
end
theorem RepVs.length : ∀ {ds : List D} {vs : List V}, RepVs K H ρ ds vs → vs.length = ds.length
  | [], _, h => by unfold RepVs at h; subst h; rfl
  | d :: ds, vs, h => by
    unfold RepVs at h
    obtain ⟨v, vr, e, h1, h2⟩ := h
    subst e
    simp [RepVs.length h2]
theorem RepVs.nil : RepVs K H ρ [] [] := by unfold RepVs; rfl
theorem RepVs.cons {d : D} {ds : List D} {v : V} {vs : List V} (h : RepV K H ρ d v) (h' : RepVs K H ρ ds vs) : RepVs K H ρ (d :: ds) (v :: vs) := by
  unfold RepVs; exact ⟨v, vs, rfl, h, h'⟩
theorem RepVs.of_nil {vs : List V} (h : RepVs K H ρ [] vs) : vs = [] := by unfold RepVs at h; exact h
theorem RepVs.of_cons {d : D} {ds : List D} {vs : List V} (h : RepVs K H ρ (d :: ds) vs) : ∃ v vr, vs = v :: vr ∧ RepV K H ρ d v ∧ RepVs K H ρ ds vr := by unfold RepVs at h; exact h
theorem RepVs.get : ∀ {ds : List D} {vs : List V}, RepVs K H ρ ds vs → ∀ {i : Nat} {d : D}, ds[i]? = some d → ∃ v, vs[i]? = some v ∧ RepV K H ρ d v
  | [], _, _, i, d, e => by simp at e
  | d0 :: ds, vs, h, i, d, e => by
    obtain ⟨v, vr, rfl, h1, h2⟩ := h.of_cons
    cases i with
    | zero => simp at e; subst e; exact ⟨v, rfl, h1⟩
    | succ i => exact RepVs.get h2 (i := i) (by simpa using e)
theorem RepVs.get' : ∀ {ds : List D} {vs : List V}, RepVs K H ρ ds vs → ∀ {i : Nat} {v : V}, vs[i]? = some v → ∃ d, ds[i]? = some d ∧ RepV K H ρ d v
  | [], _, h, i, d, e => by rw [h.of_nil] at e; simp at e
  | d0 :: ds, vs, h, i, d, e => by
    obtain ⟨v, vr, rfl, h1, h2⟩ := h.of_cons
    cases i with
    | zero => simp at e; subst e; exact ⟨_, rfl, h1⟩
    | succ i => exact RepVs.get' h2 (i := i) (by simpa using e)
theorem RepVs.append : ∀ {ds es : List D} {vs ws : List V}, RepVs K H ρ ds vs → RepVs K H ρ es ws → RepVs K H ρ (ds ++ es) (vs ++ ws)
  | [], _, _, _, h, h' => by rw [h.of_nil]; exact h'
  | d :: ds, _, _, _, h, h' => by
    obtain ⟨v, vr, rfl, h1, h2⟩ := h.of_cons
    exact .cons h1 (RepVs.append h2 h')
theorem RepVs.set : ∀ {ds : List D} {vs : List V} {i : Nat} {d : D} {v : V}, RepVs K H ρ ds vs → RepV K H ρ d v → RepVs K H ρ (ds.set i d) (vs.set i v)
  | [], _, _, _, _, h, _ => by rw [h.of_nil]; exact .nil
  | d :: ds, _, i, _, _, h, h' => by
    obtain ⟨v, vr, rfl, h1, h2⟩ := h.of_cons
    cases i with
    | zero => exact .cons h' h2
    | succ i => exact .cons h1 (RepVs.set h2 h')
theorem RepVs.drop : ∀ {ds : List D} {vs : List V} (n : Nat), RepVs K H ρ ds vs → RepVs K H ρ (ds.drop n) (vs.drop n)
  | ds, vs, 0, h => h
  | [], _, n + 1, h => by rw [h.of_nil]; exact .nil
  | d :: ds, _, n + 1, h => by
    obtain ⟨v, vr, rfl, h1, h2⟩ := h.of_cons
    exact RepVs.drop n h2
theorem RepVs.take : ∀ {ds : List D} {vs : List V} (n : Nat), RepVs K H ρ ds vs → RepVs K H ρ (ds.take n) (vs.take n)
  | ds, vs, 0, h => by simp; exact .nil
  | [], _, n + 1, h => by rw [h.of_nil]; exact .nil
  | d :: ds, _, n + 1, h => by
    obtain ⟨v, vr, rfl, h1, h2⟩ := h.of_cons
    exact .cons h1 (RepVs.take n h2)
theorem RepVs.rep {ds : List D} {vs : List V} (h : RepVs K H ρ ds vs) : ∀ k : Nat, RepVs K H ρ (List.replicate k ds).flatten (List.replicate k vs).flatten
  | 0 => .nil
  | k + 1 => by rw [List.replicate_succ, List.flatten_cons, List.replicate_succ, List.flatten_cons]; exact h.append (RepVs.rep h k)
end

/-- a thing of the store at its address -/
def RepO (K : PySem.W.Frag) (H : Hp) (ρ : Rho) (a : Addr) : SO → Prop
  | .lst ds => ∃ vs, H a = some (.lst vs) ∧ RepVs K H ρ ds vs
  | .ins C fs => ∃ dx ws, H a = some (.ins C dx ws) ∧ ws.map (·.1) = fs.map (·.1) ∧ RepVs K H ρ (fs.map (·.2)) (ws.map (·.2))
structure HRep (K : PySem.W.Frag) (H : Hp) (ρ : Rho) (S : Sto) : Prop where
  len : ρ.l.length = S.length
  nd : ρ.l.Nodup
  all : ∀ (n : Nat) (o : SO) (a : Addr), S[n]? = some o → ρ.l[n]? = some a → RepO K H ρ a o
  ex : ∀ a ∈ ρ.x, a ∉ ρ.l ∧ ∃ o, H a = some o

section
variable {K : PySem.W.Frag} {H H' : Hp} {ρ ρ' : Rho} {S : Sto}
theorem RepO.there {a : Addr} {o : SO} (h : RepO K H ρ a o) : ∃ u, H a = some u := by
  cases o with
  | lst ds => obtain ⟨_, h, _⟩ := h; exact ⟨_, h⟩
  | ins C fs => obtain ⟨_, _, h, _⟩ := h; exact ⟨_, h⟩
theorem HRep.there (h : HRep K H ρ S) {a : Addr} (ha : a ∈ ρ.l) : ∃ u, H a = some u := by
  obtain ⟨n, e⟩ := List.mem_iff_getElem?.mp ha
  have hn : n < S.length := by rw [← h.len]; exact (List.getElem?_eq_some_iff.mp e).1
  exact (h.all n S[n] a (by simp [hn]) e).there
theorem HRep.out (h : HRep K H ρ S) {p : Addr} (hp : H p = none) : ρ.off p := by
  constructor
  · intro hm
    obtain ⟨u, e⟩ := h.there hm
    rw [hp] at e; cases e
  · intro hm
    obtain ⟨_, u, e⟩ := h.ex p hm
    rw [hp] at e; cases e
theorem HRep.at (h : HRep K H ρ S) {n : Nat} {o : SO} (e : S[n]? = some o) : ∃ a, ρ.l[n]? = some a ∧ RepO K H ρ a o := by
  have hn : n < ρ.l.length := by rw [h.len]; exact (List.getElem?_eq_some_iff.mp e).1
  exact ⟨ρ.l[n], by simp [hn], h.all n o _ e (by simp [hn])⟩
/-- a thing of the store where the heap went on, its own object being as it was -/
theorem RepO.ext {a : Addr} {so : SO} (q : RepO K H ρ a so) (x : Ext H ρ H' ρ') (e : ∀ u, H a = some u → H' a = some u) : RepO K H' ρ' a so := by
  cases so with
  | lst ds =>
    obtain ⟨vs, q1, q2⟩ := q
    exact ⟨vs, e _ q1, q2.ext x⟩
  | ins C fs =>
    obtain ⟨dx, ws, q1, q2, q3⟩ := q
    exact ⟨dx, ws, e _ q1, q2, q3.ext x⟩
/-- a new untracked thing -/
theorem HRep.new (h : HRep K H ρ S) {p : Addr} (hp : H p = none) (o : HO) : Ext H ρ (upd H p o) ρ ∧ HRep K (upd H p o) ρ S := by
  have hnp : ∀ a u, H a = some u → a ≠ p := fun a u e z => by rw [z, hp] at e; cases e
  have x : Ext H ρ (upd H p o) ρ := ⟨⟨[], by simp, by simp⟩, ⟨[], by simp, by simp⟩, fun a u e _ => by rw [upd_ne (hnp a u e)]; exact e, fun a u e => ⟨u, by rw [upd_ne (hnp a u e)]; exact e⟩⟩
  refine ⟨x, h.len, h.nd, fun n so a e1 e2 => (h.all n so a e1 e2).ext x fun u q => by rw [upd_ne (hnp a u q)]; exact q, fun a ha => ?_⟩
  obtain ⟨h1, u, h2⟩ := h.ex a ha
  exact ⟨h1, u, by rw [upd_ne (hnp a u h2)]; exact h2⟩
/-- a new thing of the store -/
theorem HRep.alloc (h : HRep K H ρ S) {p : Addr} (hp : H p = none) {ds : List D} {vs : List V} (r : RepVs K H ρ ds vs) :
    Ext H ρ (upd H p (.lst vs)) ⟨ρ.l ++ [p], ρ.x⟩ ∧ HRep K (upd H p (.lst vs)) ⟨ρ.l ++ [p], ρ.x⟩ (S ++ [.lst ds]) := by
  have hnp : ∀ a u, H a = some u → a ≠ p := fun a u e z => by rw [z, hp] at e; cases e
  have x : Ext H ρ (upd H p (.lst vs)) ⟨ρ.l ++ [p], ρ.x⟩ := ⟨⟨[p], rfl, fun a ha => by rw [List.mem_singleton.mp ha]; exact hp⟩, ⟨[], by simp, by simp⟩, fun a u e _ => by rw [upd_ne (hnp a u e)]; exact e, fun a u e => ⟨u, by rw [upd_ne (hnp a u e)]; exact e⟩⟩
  refine ⟨x, by simp [h.len], ?_, fun n so a e1 e2 => ?_, fun a ha => ?_⟩
  · show (ρ.l ++ [p]).Nodup
    rw [List.nodup_append]
    refine ⟨h.nd, by simp, fun a ha b hb z => ?_⟩
    rw [List.mem_singleton.mp hb] at z
    exact (h.out hp).1 (z ▸ ha)
  · replace e2 : (ρ.l ++ [p])[n]? = some a := e2
    by_cases hn : n < S.length
    · rw [List.getElem?_append_left hn] at e1
      rw [List.getElem?_append_left (by rw [h.len]; exact hn)] at e2
      exact (h.all n so a e1 e2).ext x fun u q => by rw [upd_ne (hnp a u q)]; exact q
    · have en : n = S.length := by
        have := (List.getElem?_eq_some_iff.mp e1).1
        simp at this; omega
      subst en
      simp at e1
      rw [← h.len] at e2
      simp at e2
      subst e1; subst e2
      exact ⟨vs, upd_same, r.ext x⟩
  · obtain ⟨h1, u, h2⟩ := h.ex a ha
    refine ⟨fun hm => ?_, u, by rw [upd_ne (hnp a u h2)]; exact h2⟩
    rcases List.mem_append.mp hm with hm | hm
    · exact h1 hm
    · exact hnp a u h2 (List.mem_singleton.mp hm)
/-- a list of the store is changed -/
theorem HRep.write (h : HRep K H ρ S) {n : Nat} {a : Addr} {vs0 vs : List V} {ds : List D} (hn : n < S.length) (ha : ρ.l[n]? = some a) (h0 : H a = some (.lst vs0)) (r : RepVs K H ρ ds vs) :
    Ext H ρ (upd H a (.lst vs)) ρ ∧ HRep K (upd H a (.lst vs)) ρ (S.set n (.lst ds)) := by
  have hm : a ∈ ρ.l := List.mem_iff_getElem?.mpr ⟨n, ha⟩
  have x : Ext H ρ (upd H a (.lst vs)) ρ := ⟨⟨[], by simp, by simp⟩, ⟨[], by simp, by simp⟩, fun b u e hb => by rw [upd_ne (fun (z : b = a) => hb (by rw [z]; exact hm))]; exact e, fun b u e => by
    by_cases hb : b = a
    · subst hb; exact ⟨_, upd_same⟩
    · exact ⟨u, by rw [upd_ne hb]; exact e⟩⟩
  refine ⟨x, by simp [h.len], h.nd, fun m so b e1 e2 => ?_, fun b hb => ?_⟩
  · by_cases hmn : m = n
    · subst hmn
      rw [List.getElem?_set_self hn] at e1
      cases e1
      rw [ha] at e2; cases e2
      exact ⟨vs, upd_same, r.ext x⟩
    · rw [List.getElem?_set_ne (Ne.symm hmn)] at e1
      have hb : b ≠ a := fun z => by
        subst z
        obtain ⟨h1, q1⟩ := List.getElem?_eq_some_iff.mp ha
        obtain ⟨h2, q2⟩ := List.getElem?_eq_some_iff.mp e2
        exact hmn ((List.getElem_inj h.nd).mp (q2.trans q1.symm))
      exact (h.all m so b e1 e2).ext x fun u q => by rw [upd_ne hb]; exact q
  · obtain ⟨h1, u, h2⟩ := h.ex b hb
    have : b ≠ a := fun z => h1 (z ▸ hm)
    exact ⟨h1, u, by rw [upd_ne this]; exact h2⟩

/-! what is being made at p changes: all else stands -/
theorem off_ne {p a : Addr} (hp : p ∈ ρ.x) (h : ρ.off a) : a ≠ p := fun z => h.2 (z ▸ hp)
mutual
theorem RepV.made {p : Addr} {o : HO} (hp : p ∈ ρ.x) : ∀ {d : D} {v : V}, RepV K H ρ d v → RepV K (upd H p o) ρ d v
  | .non, _, h => h
  | .bl _, _, h => h
  | .int _, _, h => h
  | .str _, _, h => h
  | .tup ds, v, h => by
    unfold RepV at h ⊢
    obtain ⟨a, vs, e, ha, hs⟩ := h
    refine ⟨a, vs, e, ?_, RepVs.made hp hs⟩
    rcases ha with ⟨hn, ha⟩ | ha
    · refine .inl ⟨hn, ?_⟩
      rcases ha with ha | ⟨u, ha⟩
      · exact .inl (by rw [upd_ne (off_ne hp hn)]; exact ha)
      · exact .inr ⟨u, by rw [upd_ne (off_ne hp hn)]; exact ha⟩
    · exact .inr ha
  | .lst ds, v, h => by
    unfold RepV at h ⊢
    obtain ⟨a, vs, e, ha, hs⟩ := h
    exact ⟨a, vs, e, ⟨ha.1, by rw [upd_ne (off_ne hp ha.1)]; exact ha.2⟩, RepVs.made hp hs⟩
  | .frz ds, v, h => by
    unfold RepV at h ⊢
    obtain ⟨a, vs, e, ha, hs⟩ := h
    refine ⟨a, vs, e, ?_, RepVs.made hp hs⟩
    rcases ha with ⟨hn, ha⟩ | ha
    · refine .inl ⟨hn, ?_⟩
      rcases ha with ha | ⟨u, ha⟩
      · exact .inl (by rw [upd_ne (off_ne hp hn)]; exact ha)
      · exact .inr ⟨u, by rw [upd_ne (off_ne hp hn)]; exact ha⟩
    · exact .inr ha
  | .emp, v, h => by
    unfold RepV at h ⊢
    obtain ⟨a, e, ha⟩ := h
    exact ⟨a, e, ha.1, by rw [upd_ne (off_ne hp ha.1)]; exact ha.2⟩
  | .ref n, v, h => by unfold RepV at h ⊢; exact h
  | .cst _, _, h => h
theorem RepVs.made {p : Addr} {o : HO} (hp : p ∈ ρ.x) : ∀ {ds : List D} {vs : List V}, RepVs K H ρ ds vs → RepVs K (upd H p o) ρ ds vs
  | [], _, h => h
  | d :: ds, vs, h => by
    unfold RepVs at h ⊢
    obtain ⟨v, vr, e, h1, h2⟩ := h
    exact ⟨v, vr, e, RepV.made hp h1, RepVs.made hp h2⟩
end
/-! something at p begins to be made, where p was free -/
theorem ext_begin {p : Addr} {o : HO} (hp : H p = none) : Ext H ρ (upd H p o) ⟨ρ.l, p :: ρ.x⟩ := by
  have hnp : ∀ a u, H a = some u → a ≠ p := fun a u e z => by rw [z, hp] at e; cases e
  exact ⟨⟨[], by simp, by simp⟩, ⟨[p], rfl, fun a ha => by rw [List.mem_singleton.mp ha]; exact hp⟩, fun a u e _ => by rw [upd_ne (hnp a u e)]; exact e, fun a u e => ⟨u, by rw [upd_ne (hnp a u e)]; exact e⟩⟩
/-! and is done -/
theorem off_less {a : Addr} {x : List Addr} (hx : ∀ b ∈ x, b ∈ ρ.x) (h : ρ.off a) : Rho.off ⟨ρ.l, x⟩ a := ⟨h.1, fun hm => h.2 (hx a hm)⟩
mutual
theorem RepV.done {x : List Addr} (hx : ∀ b ∈ x, b ∈ ρ.x) : ∀ {d : D} {v : V}, RepV K H ρ d v → RepV K H ⟨ρ.l, x⟩ d v
  | .non, _, h => h
  | .bl _, _, h => h
  | .int _, _, h => h
  | .str _, _, h => h
  | .tup ds, v, h => by
    unfold RepV at h ⊢
    obtain ⟨a, vs, e, ha, hs⟩ := h
    refine ⟨a, vs, e, ?_, RepVs.done hx hs⟩
    rcases ha with ⟨hn, ha⟩ | ha
    · exact .inl ⟨off_less hx hn, ha⟩
    · exact .inr ha
  | .lst ds, v, h => by
    unfold RepV at h ⊢
    obtain ⟨a, vs, e, ha, hs⟩ := h
    exact ⟨a, vs, e, ⟨off_less hx ha.1, ha.2⟩, RepVs.done hx hs⟩
  | .frz ds, v, h => by
    unfold RepV at h ⊢
    obtain ⟨a, vs, e, ha, hs⟩ := h
    refine ⟨a, vs, e, ?_, RepVs.done hx hs⟩
    rcases ha with ⟨hn, ha⟩ | ha
    · exact .inl ⟨off_less hx hn, ha⟩
    · exact .inr ha
  | .emp, v, h => by
    unfold RepV at h ⊢
    obtain ⟨a, e, ha⟩ := h
    exact ⟨a, e, off_less hx ha.1, ha.2⟩
  | .ref n, v, h => by unfold RepV at h ⊢; exact h
  | .cst _, _, h => h
theorem RepVs.done {x : List Addr} (hx : ∀ b ∈ x, b ∈ ρ.x) : ∀ {ds : List D} {vs : List V}, RepVs K H ρ ds vs → RepVs K H ⟨ρ.l, x⟩ ds vs
  | [], _, h => h
  | d :: ds, vs, h => by
    unfold RepVs at h ⊢
    obtain ⟨v, vr, e, h1, h2⟩ := h
    exact ⟨v, vr, e, RepV.done hx h1, RepVs.done hx h2⟩
end
theorem RepO.map {a : Addr} {so : SO} {H' : Hp} {ρ' : Rho} (q : RepO K H ρ a so) (e : ∀ u, H a = some u → H' a = some u) (f : ∀ ds vs, RepVs K H ρ ds vs → RepVs K H' ρ' ds vs) : RepO K H' ρ' a so := by
  cases so with
  | lst ds =>
    obtain ⟨vs, q1, q2⟩ := q
    exact ⟨vs, e _ q1, f _ _ q2⟩
  | ins C fs =>
    obtain ⟨dx, ws, q1, q2, q3⟩ := q
    exact ⟨dx, ws, e _ q1, q2, f _ _ q3⟩
theorem HRep.made (h : HRep K H ρ S) {p : Addr} {o : HO} (hp : p ∈ ρ.x) : HRep K (upd H p o) ρ S := by
  refine ⟨h.len, h.nd, fun n so a e1 e2 => (h.all n so a e1 e2).map (fun u q => ?_) fun ds vs r => r.made hp, fun a ha => ?_⟩
  · have : a ≠ p := fun z => (h.ex p hp).1 (z ▸ List.mem_iff_getElem?.mpr ⟨n, e2⟩)
    rw [upd_ne this]; exact q
  · obtain ⟨h1, u, h2⟩ := h.ex a ha
    by_cases c : a = p
    · subst c; exact ⟨h1, _, upd_same⟩
    · exact ⟨h1, u, by rw [upd_ne c]; exact h2⟩
theorem HRep.begin (h : HRep K H ρ S) {p : Addr} {o : HO} (hp : H p = none) : HRep K (upd H p o) ⟨ρ.l, p :: ρ.x⟩ S := by
  refine ⟨h.len, h.nd, fun n so a e1 e2 => (h.all n so a e1 e2).map (fun u q => ?_) fun ds vs r => r.ext (ext_begin hp), fun a ha => ?_⟩
  · have : a ≠ p := fun z => by rw [z, hp] at q; cases q
    rw [upd_ne this]; exact q
  · rcases List.mem_cons.mp ha with rfl | ha
    · exact ⟨(h.out hp).1, _, upd_same⟩
    · obtain ⟨h1, u, h2⟩ := h.ex a ha
      have : a ≠ p := fun z => by rw [z, hp] at h2; cases h2
      exact ⟨h1, u, by rw [upd_ne this]; exact h2⟩
theorem HRep.done (h : HRep K H ρ S) {x : List Addr} (hx : ∀ b ∈ x, b ∈ ρ.x) : HRep K H ⟨ρ.l, x⟩ S :=
  ⟨h.len, h.nd, fun n so a e1 e2 => (h.all n so a e1 e2).map (fun _ q => q) fun ds vs r => r.done hx, fun a ha => h.ex a (hx a ha)⟩
end

/-! ### results -/
inductive Res (α : Type) where
  | ok (a : α) (S : Sto) | raise (c : Value) (S : Sto) | stuck
def Res.bind {α β : Type} (r : Res α) (k : α → Sto → Res β) : Res β := match r with
  | .ok a S => k a S
  | .raise c S => .raise c S
  | .stuck => .stuck
@[simp] theorem Res.bind_ok {α β : Type} (a : α) (S : Sto) (k : α → Sto → Res β) : (Res.ok a S).bind k = k a S := rfl
@[simp] theorem Res.bind_raise {α β : Type} (c : Value) (S : Sto) (k : α → Sto → Res β) : (Res.raise c S : Res α).bind k = .raise c S := rfl
@[simp] theorem Res.bind_stuck {α β : Type} (k : α → Sto → Res β) : (Res.stuck : Res α).bind k = .stuck := rfl
/-- a plain answer, or none -/
def ofO {α : Type} (o : Option α) (S : Sto) : Res α := match o with
  | some a => .ok a S
  | none => .stuck
@[simp] theorem ofO_some {α : Type} (a : α) (S : Sto) : ofO (some a) S = .ok a S := rfl
@[simp] theorem ofO_none {α : Type} (S : Sto) : ofO (none : Option α) S = .stuck := rfl

/-- what a result says of the heaps behind -/
def PR (K : PySem.W.Frag) (H : Hp) (ρ : Rho) {α : Type} (r : Res α) (k : α → Sto → Hp → Rho → Prop) (e : Value → Sto → Hp → Rho → Prop) : Prop := match r with
  | .ok a S' => ∀ H' ρ', Ext H ρ H' ρ' → HRep K H' ρ' S' → k a S' H' ρ'
  | .raise c S' => ∀ H' ρ', Ext H ρ H' ρ' → HRep K H' ρ' S' → e c S' H' ρ'
  | .stuck => False
section
variable {K : PySem.W.Frag} {H H1 : Hp} {ρ ρ1 : Rho} {α β : Type}
theorem PR.ext {r : Res α} {k : α → Sto → Hp → Rho → Prop} {e : Value → Sto → Hp → Rho → Prop} (x : Ext H ρ H1 ρ1) (h : PR K H ρ r k e) : PR K H1 ρ1 r k e := by
  cases r with
  | ok a S => exact fun H' ρ' x' hr => h H' ρ' (x.trans x') hr
  | raise c S => exact fun H' ρ' x' hr => h H' ρ' (x.trans x') hr
  | stuck => exact h
theorem PR.imp {r : Res α} {k k' : α → Sto → Hp → Rho → Prop} {e e' : Value → Sto → Hp → Rho → Prop} (h : PR K H ρ r k e) (hk : ∀ a S' H' ρ', Ext H ρ H' ρ' → HRep K H' ρ' S' → k a S' H' ρ' → k' a S' H' ρ')
    (he : ∀ c S' H' ρ', Ext H ρ H' ρ' → HRep K H' ρ' S' → e c S' H' ρ' → e' c S' H' ρ') : PR K H ρ r k' e' := by
  cases r with
  | ok a S => exact fun H' ρ' x hr => hk _ _ _ _ x hr (h H' ρ' x hr)
  | raise c S => exact fun H' ρ' x hr => he _ _ _ _ x hr (h H' ρ' x hr)
  | stuck => exact h
theorem PR.bind {r : Res α} {g : α → Sto → Res β} {k : β → Sto → Hp → Rho → Prop} {e : Value → Sto → Hp → Rho → Prop} (h : PR K H ρ (r.bind g) k e) :
    PR K H ρ r (fun a S' H' ρ' => PR K H' ρ' (g a S') k e) e := by
  cases r with
  | ok a S => exact fun H' ρ' x hr => PR.ext x (r := g a S) h
  | raise c S => exact h
  | stuck => exact h
end

/-! ### names -/
abbrev En := List (Option D)
def RepE (K : PySem.W.Frag) (H : Hp) (ρ : Rho) (σd : En) (σ : L2.St) : Prop := σ.length = σd.length ∧ ∀ (i : Nat) (d : D), σd[i]? = some (some d) → ∃ v, σ[i]? = some (some v) ∧ RepV K H ρ d v
theorem RepE.ext {K : PySem.W.Frag} {H H' : Hp} {ρ ρ' : Rho} {σd : En} {σ : L2.St} (x : Ext H ρ H' ρ') (h : RepE K H ρ σd σ) : RepE K H' ρ' σd σ :=
  ⟨h.1, fun i d e => let ⟨v, q, r⟩ := h.2 i d e; ⟨v, q, r.ext x⟩⟩
theorem RepE.set {K : PySem.W.Frag} {H : Hp} {ρ : Rho} {σd : En} {σ : L2.St} {i : Nat} {d : D} {v : V} (h : RepE K H ρ σd σ) (r : RepV K H ρ d v) : RepE K H ρ (σd.set i (some d)) (σ.set i (some v)) := by
  refine ⟨by simp [h.1], fun j d' e => ?_⟩
  by_cases hj : i = j
  · subst hj
    have hl : i < σd.length := by
      have := (List.getElem?_eq_some_iff.mp e).1
      simpa using this
    rw [List.getElem?_set_self hl] at e
    cases e
    exact ⟨v, by rw [List.getElem?_set_self (by rw [h.1]; exact hl)], r⟩
  · rw [List.getElem?_set_ne hj] at e ⊢
    exact h.2 j d' e

/-! ### the judgements -/
abbrev FE := En → Sto → Res D
def tE (K : PySem.W.Frag) (W : WX) (f : FE) : TE := fun σ H Q => ∃ ρ σd S, RepE K H ρ σd σ ∧ HRep K H ρ S ∧
  PR K H ρ (f σd S) (fun d _ H' ρ' => ∀ v, RepV K H' ρ' d v → Q v H') (fun c _ H' _ => W c none σ H')
structure DE (X : Cx) (W : WX) (e : Expr) (f : FE) : Prop where
  pe : PE X e (tE X.K W f)
theorem PE.imp {X : Cx} {e : Expr} {t t' : TE} (h : PE X e t) (hi : ∀ σ H Q, t' σ H Q → t σ H Q) : PE X e t' := ⟨fun pins s σ H Q I q => h.run pins s σ H Q I (hi σ H Q q)⟩
theorem PT.imp {X : Cx} {e : Expr} {t t' : TT} (h : PT X e t) (hi : ∀ σ H Q, t' σ H Q → t σ H Q) : PT X e t' := ⟨fun pins s σ H Q I q => h.run pins s σ H Q I (hi σ H Q q)⟩
theorem PW.imp {X : Cx} {e : Expr} {t t' : TT} (h : PW X e t) (hi : ∀ σ H Q, t' σ H Q → t σ H Q) : PW X e t' := ⟨fun w pins s σ H Q I q => h.run w pins s σ H Q I (hi σ H Q q)⟩
theorem PA.imp {X : Cx} {e : List Expr} {t t' : TA} (h : PA X e t) (hi : ∀ σ H Q, t' σ H Q → t σ H Q) : PA X e t' := ⟨fun p pins s σ H Q I q => h.run p pins s σ H Q I (hi σ H Q q)⟩
theorem PS.imp {X : Cx} {e : Stmt} {t t' : TS} (h : PS X e t) (hi : ∀ D σ H, t' D σ H → t D σ H) : PS X e t' := ⟨fun pins s σ H D I q => h.run pins s σ H D I (hi D σ H q)⟩
theorem PSs.imp {X : Cx} {e : List Stmt} {t t' : TS} (h : PSs X e t) (hi : ∀ D σ H, t' D σ H → t D σ H) : PSs X e t' := ⟨fun pins s σ H D I q => h.run pins s σ H D I (hi D σ H q)⟩
theorem PG.imp {X : Cx} {e : Expr} {t t' : TG} (h : PG X e t) (hi : ∀ v σ H Q, t' v σ H Q → t v σ H Q) : PG X e t' := ⟨fun pins s σ H v u Q I r q => h.run pins s σ H v u Q I r (hi v σ H Q q)⟩
theorem PGs.imp {X : Cx} {e : List Expr} {t t' : TGs} (h : PGs X e t) (hi : ∀ v σ H Q, t' v σ H Q → t v σ H Q) : PGs X e t' := ⟨fun pins s σ H v u Q I r q => h.run pins s σ H v u Q I r (hi v σ H Q q)⟩
theorem PG.or {X : Cx} {e : Expr} {t t' : TG} (h : PG X e t) (h' : PG X e t') : PG X e (fun v σ H Q => t v σ H Q ∨ t' v σ H Q) :=
  ⟨fun pins s σ H v u Q I r q => q.elim (h.run pins s σ H v u Q I r) (h'.run pins s σ H v u Q I r)⟩
theorem PI.imp {X : Cx} {g e : Expr} {t t' : TI} (h : PI X g e t) (hi : ∀ σ H Q, t' σ H Q → t σ H Q) : PI X g e t' := ⟨fun pins s σ H Q I q => h.run pins s σ H Q I (hi σ H Q q)⟩
theorem PI.or {X : Cx} {g e : Expr} {t t' : TI} (h : PI X g e t) (h' : PI X g e t') : PI X g e (fun σ H Q => t σ H Q ∨ t' σ H Q) := ⟨fun pins s σ H Q I q => q.elim (h.run pins s σ H Q I) (h'.run pins s σ H Q I)⟩

/-- a test -/
abbrev FT := En → Sto → Res Bool
def tT (K : PySem.W.Frag) (W : WX) (f : FT) : TT := fun σ H Q => ∃ ρ σd S, RepE K H ρ σd σ ∧ HRep K H ρ S ∧
  PR K H ρ (f σd S) (fun b _ H' _ => Q b H') (fun c _ H' _ => W c none σ H')
/- a test's value must be handed on with its store: the readings of if, while, and, or go on from the heap -/
structure DT (X : Cx) (W : WX) (e : Expr) (f : FT) : Prop where
  pt : PT X e (tT X.K W f)
structure DW (X : Cx) (W : WX) (e : Expr) (f : FT) : Prop where
  pw : PW X e (tT X.K W f)
theorem DW.dt {X : Cx} {W : WX} {e : Expr} {f : FT} (h : DW X W e f) : DT X W e f := ⟨h.pw.pt⟩
end DL
end

section
set_option Elab.async false
set_option linter.all false
set_option maxRecDepth 100000
set_option maxHeartbeats 4000000
namespace DL
open PySem PySem.Spec PyProof.Rows L2

/-! ### reading values -/
section
variable {K : PySem.W.Frag} {H : Hp} {ρ : Rho} {S : Sto}
/-- the items of a list that may be extended or joined -/
def lstOf : D → Sto → Option (List D)
  | .lst xs, _ => some xs
  | .ref n, S => match S[n]? with
    | some (.lst xs) => some xs
    | _ => none
  | _, _ => none
theorem lstOf_rep {d : D} {v : V} {xs : List D} (hr : HRep K H ρ S) (h : RepV K H ρ d v) (e : lstOf d S = some xs) : ∃ a vs, v = .ref a ∧ H a = some (.lst vs) ∧ RepVs K H ρ xs vs := by
  cases d with
  | lst ys =>
    cases e
    unfold RepV at h
    obtain ⟨a, vs, rfl, ha, hs⟩ := h
    exact ⟨a, vs, rfl, ha.2, hs⟩
  | ref n =>
    unfold RepV at h
    obtain ⟨a, rfl, ha⟩ := h
    simp only [lstOf] at e
    cases hS : S[n]? with
    | none => rw [hS] at e; cases e
    | some o =>
      rw [hS] at e
      cases o with
      | lst ys =>
        cases e
        obtain ⟨vs, h1, h2⟩ := hr.all n _ a hS ha
        exact ⟨a, vs, rfl, h1, h2⟩
      | ins C fs => cases e
  | _ => cases e
/-- the items of any list -/
def anyL : D → Sto → Option (List D)
  | .frz xs, _ => some xs
  | d, S => lstOf d S
theorem anyL_rep {d : D} {v : V} {xs : List D} (hr : HRep K H ρ S) (h : RepV K H ρ d v) (e : anyL d S = some xs) : ∃ a vs, v = .ref a ∧ SqL K H a vs ∧ RepVs K H ρ xs vs := by
  have go : lstOf d S = some xs → ∃ a vs, v = .ref a ∧ SqL K H a vs ∧ RepVs K H ρ xs vs := fun e => by
    obtain ⟨a, vs, h1, h2, h3⟩ := lstOf_rep hr h e
    exact ⟨a, vs, h1, .of h2, h3⟩
  cases d with
  | frz ys =>
    cases e
    unfold RepV at h
    obtain ⟨a, vs, rfl, ha, hs⟩ := h
    exact ⟨a, vs, rfl, ha.sq, hs⟩
  | _ => exact go e
theorem tup_rep {v : V} {xs : List D} (h : RepV K H ρ (.tup xs) v) : ∃ a vs, v = .ref a ∧ SqT K H a vs ∧ TAt K H ρ a vs ∧ RepVs K H ρ xs vs := by
  unfold RepV at h
  obtain ⟨a, vs, rfl, ha, hs⟩ := h
  exact ⟨a, vs, rfl, ha.sq, ha, hs⟩
/-- a new tuple, a new list -/
theorem new_tup (hr : HRep K H ρ S) {p : Addr} (hp : H p = none) {vs : List V} {xs : List D} (h : RepVs K H ρ xs vs) :
    Ext H ρ (upd H p (.tup vs)) ρ ∧ HRep K (upd H p (.tup vs)) ρ S ∧ RepV K (upd H p (.tup vs)) ρ (.tup xs) (.ref p) := by
  obtain ⟨x, hr'⟩ := hr.new hp (.tup vs)
  refine ⟨x, hr', ?_⟩
  unfold RepV
  exact ⟨p, vs, rfl, .inl ⟨hr.out hp, .inl upd_same⟩, h.ext x⟩
theorem new_lst (hr : HRep K H ρ S) {p : Addr} (hp : H p = none) {vs : List V} {xs : List D} (h : RepVs K H ρ xs vs) :
    Ext H ρ (upd H p (.lst vs)) ρ ∧ HRep K (upd H p (.lst vs)) ρ S ∧ RepV K (upd H p (.lst vs)) ρ (.lst xs) (.ref p) := by
  obtain ⟨x, hr'⟩ := hr.new hp (.lst vs)
  refine ⟨x, hr', ?_⟩
  unfold RepV
  exact ⟨p, vs, rfl, ⟨hr.out hp, upd_same⟩, h.ext x⟩
end

/-! ### operators by values -/
/-- what an operator's reading r asks is met where the plain operator b answers -/
def OpD (K : PySem.W.Frag) (r : R2) (b : D → D → Sto → Option D) : Prop := ∀ {x y : V} {H : Hp} {ρ : Rho} {S : Sto} {dx dy d : D} {Q : VK}, HRep K H ρ S → RepV K H ρ dx x → RepV K H ρ dy y → b dx dy S = some d →
  (∀ v H', Ext H ρ H' ρ → HRep K H' ρ S → RepV K H' ρ d v → Q v H') → r x y H Q
theorem OpD.or {K : PySem.W.Frag} {r r' : R2} {b b' : D → D → Sto → Option D} (h : OpD K r b) (h' : OpD K r' b') : OpD K (fun x y H Q => r x y H Q ∨ r' x y H Q) (fun x y S => (b x y S).or (b' x y S)) := by
  intro x y H ρ S dx dy d Q hr hx hy e q
  replace e : (b dx dy S).or (b' dx dy S) = some d := e
  cases e1 : b dx dy S with
  | some z =>
    rw [e1] at e
    cases e
    exact .inl (h hr hx hy e1 q)
  | none =>
    rw [e1] at e
    exact .inr (h' hr hx hy e q)
/-- ints -/
def dI (C : Int → Int → Bool) (g : Int → Int → D) : D → D → Sto → Option D
  | .int i, .int j, _ => if C i j = true then some (g i j) else none
  | _, _, _ => none
section
variable {K : PySem.W.Frag}
theorem dI_inv {C : Int → Int → Bool} {g : Int → Int → D} {dx dy d : D} {S : Sto} (e : dI C g dx dy S = some d) : ∃ i j, dx = .int i ∧ dy = .int j ∧ C i j = true ∧ d = g i j := by
  cases dx with
  | int i =>
    cases dy with
    | int j =>
      have e' : (if C i j = true then some (g i j) else none) = some d := e
      by_cases c : C i j = true
      · rw [if_pos c] at e'
        exact ⟨i, j, rfl, rfl, c, (Option.some.inj e').symm⟩
      · rw [if_neg c] at e'; cases e'
    | _ => cases e
  | _ => cases e
theorem opD_I {C : Int → Int → Prop} {Cb : Int → Int → Bool} {g : Int → Int → Int} (hC : ∀ i j, Cb i j = true → C i j) : OpD K (rI C fun i j => .int (g i j)) (dI Cb fun i j => .int (g i j)) := by
  intro x y H ρ S dx dy d Q hr hx hy e q
  obtain ⟨i, j, rfl, rfl, c, rfl⟩ := dI_inv e
  unfold RepV at hx hy
  exact ⟨i, j, hx, hy, hC i j c, q _ H .refl hr (by unfold RepV; rfl)⟩
theorem opD_I0 {g : Int → Int → Int} : OpD K (rI0 fun i j => .int (g i j)) (dI (fun _ _ => true) fun i j => .int (g i j)) := by
  intro x y H ρ S dx dy d Q hr hx hy e q
  obtain ⟨i, j, rfl, rfl, c, rfl⟩ := dI_inv e
  unfold RepV at hx hy
  exact ⟨i, j, hx, hy, q _ H .refl hr (by unfold RepV; rfl)⟩
theorem opD_B0 {g : Int → Int → Bool} : OpD K (rI0 fun i j => .bl (g i j)) (dI (fun _ _ => true) fun i j => .bl (g i j)) := by
  intro x y H ρ S dx dy d Q hr hx hy e q
  obtain ⟨i, j, rfl, rfl, c, rfl⟩ := dI_inv e
  unfold RepV at hx hy
  exact ⟨i, j, hx, hy, q _ H .refl hr (by unfold RepV; rfl)⟩
end
/-- a bound for the sizes of sequences -/
abbrev BIG : Nat := 16777216
theorem big_line : BIG = sizeLine := sizeLine_eq.symm

def dAddS : D → D → Sto → Option D
  | .str a, .str b, _ => if a.length + b.length ≤ BIG then some (.str (a ++ b)) else none
  | _, _, _ => none
def dAddT : D → D → Sto → Option D
  | .tup xs, .tup ys, _ => if xs.length + ys.length ≤ BIG then some (.tup (xs ++ ys)) else none
  | _, _, _ => none
def dAddL (x y : D) (S : Sto) : Option D := (lstOf x S).bind fun xs => (lstOf y S).bind fun ys => if xs.length + ys.length ≤ BIG then some (.lst (xs ++ ys)) else none
theorem opD_addS {K : PySem.W.Frag} : OpD K (fun x y H Q => ∃ i j, x = .str i ∧ y = .str j ∧ i.length + j.length ≤ sizeLine ∧ Q (.str (i ++ j)) H) dAddS := by
  intro x y H ρ S dx dy d Q hr hx hy e q
  cases dx with
  | str a =>
    cases dy with
    | str b =>
      have e' : (if a.length + b.length ≤ BIG then some (D.str (a ++ b)) else none) = some d := e
      split at e'
      · rename_i c
        cases e'
        unfold RepV at hx hy
        rw [big_line] at c
        exact ⟨a, b, hx, hy, c, q _ H .refl hr (by unfold RepV; rfl)⟩
      · cases e'
    | _ => cases e
  | _ => cases e
theorem opD_addT {K : PySem.W.Frag} : OpD K (rCatA K) dAddT := by
  intro x y H ρ S dx dy d Q hr hx hy e q
  cases dx with
  | tup xs =>
    cases dy with
    | tup ys =>
      have e' : (if xs.length + ys.length ≤ BIG then some (D.tup (xs ++ ys)) else none) = some d := e
      split at e'
      · rename_i c
        cases e'
        obtain ⟨a, vs, rfl, h1, t1, r1⟩ := tup_rep hx
        obtain ⟨b, ws, rfl, h2, t2, r2⟩ := tup_rep hy
        rw [big_line] at c
        refine ⟨a, b, vs, ws, rfl, rfl, h1, h2, by rw [r1.length, r2.length]; exact c, fun ev => ?_, fun _ ew => ?_, fun _ _ p hp => ?_⟩
        · refine q _ H .refl hr ?_
          have ex : xs = [] := by
            have := r1.length
            rw [ev] at this
            exact List.eq_nil_of_length_eq_zero this.symm
          subst ex
          exact hy
        · refine q _ H .refl hr ?_
          have ex : ys = [] := by
            have := r2.length
            rw [ew] at this
            exact List.eq_nil_of_length_eq_zero this.symm
          subst ex
          rw [List.append_nil]
          exact hx
        · obtain ⟨x1, x2, x3⟩ := new_tup hr hp (r1.append r2)
          exact q _ _ x1 x2 x3
      · cases e'
    | _ => cases e
  | _ => cases e
theorem opD_addL {K : PySem.W.Frag} : OpD K rCat dAddL := by
  intro x y H ρ S dx dy d Q hr hx hy e q
  unfold dAddL at e
  obtain ⟨xs, e1, e⟩ := Option.bind_eq_some_iff.mp e
  obtain ⟨ys, e2, e⟩ := Option.bind_eq_some_iff.mp e
  split at e
  · rename_i c
    cases e
    obtain ⟨a, vs, rfl, h1, r1⟩ := lstOf_rep hr hx e1
    obtain ⟨b, ws, rfl, h2, r2⟩ := lstOf_rep hr hy e2
    rw [big_line] at c
    refine ⟨a, b, vs, ws, rfl, rfl, h1, h2, by rw [r1.length, r2.length]; exact c, fun p hp => ?_⟩
    obtain ⟨x1, x2, x3⟩ := new_lst hr hp (r1.append r2)
    exact q _ _ x1 x2 x3
  · cases e
/-- x + y -/
def dAdd : D → D → Sto → Option D := fun x y S => (dI (fun _ _ => true) (fun i j => .int (i + j)) x y S).or ((dAddS x y S).or ((dAddT x y S).or (dAddL x y S)))
@[simp] theorem dAdd_int (i j : Int) (S : Sto) : dAdd (.int i) (.int j) S = some (.int (i + j)) := rfl
def dSub : D → D → Sto → Option D := dI (fun _ _ => true) fun i j => .int (i - j)
@[simp] theorem dSub_int (i j : Int) (S : Sto) : dSub (.int i) (.int j) S = some (.int (i - j)) := rfl
/-- within 2 ^ 64 -/
def in64 (i : Int) : Bool := decide (-(18446744073709551616) < i) && decide (i < 18446744073709551616)
/-- within 10 ^ 200 -/
def mid (i : Int) : Bool := decide (-(100000000000000000000000000000000000000000000000000000000000000000000000000000000000000000000000000000000000000000000000000000000000000000000000000000000000000000000000000000000000000000000000000000000) < i) && decide (i < 100000000000000000000000000000000000000000000000000000000000000000000000000000000000000000000000000000000000000000000000000000000000000000000000000000000000000000000000000000000000000000000000000000000)
theorem mid_ok {i : Int} (h : mid i = true) : i.natAbs < 2 ^ 700 := by
  unfold mid at h
  simp only [Bool.and_eq_true, decide_eq_true_eq] at h
  have : (100000000000000000000000000000000000000000000000000000000000000000000000000000000000000000000000000000000000000000000000000000000000000000000000000000000000000000000000000000000000000000000000000000000 : Nat) < 2 ^ 700 := by decide +kernel
  omega
def mulOk (i j : Int) : Bool := in64 i || in64 j || (mid i && mid j)
def dMulI : D → D → Sto → Option D := dI mulOk fun i j => .int (i * j)
def dMulT : D → D → Sto → Option D
  | .tup xs, .int k, _ => if xs ≠ [] ∧ 2 ≤ k ∧ k ≤ 1000 ∧ xs.length ≤ 1000 then some (.tup (List.replicate k.toNat xs).flatten) else none
  | _, _, _ => none
def dMulL : D → D → Sto → Option D
  | .lst xs, .int k, _ => if -(9223372036854775808) ≤ k ∧ k < 9223372036854775808 ∧ xs.length * k.toNat ≤ BIG then some (.lst (List.replicate k.toNat xs).flatten) else none
  | _, _, _ => none
def dMul : D → D → Sto → Option D := fun x y S => (dMulI x y S).or ((dMulT x y S).or (dMulL x y S))
theorem in64_ok {i : Int} (h : in64 i = true) : -(2 ^ 64) < i ∧ i < 2 ^ 64 := by
  unfold in64 at h
  simp only [Bool.and_eq_true, decide_eq_true_eq] at h
  constructor <;> omega
theorem opD_mulI {K : PySem.W.Frag} : OpD K (fun x y H Q => rI CMul (fun i j => .int (i * j)) x y H Q ∨ rI CMulW (fun i j => .int (i * j)) x y H Q) dMulI := by
  intro x y H ρ S dx dy d Q hr hx hy e q
  obtain ⟨i, j, rfl, rfl, c, rfl⟩ := dI_inv e
  unfold RepV at hx hy
  unfold mulOk at c
  simp only [Bool.or_eq_true, Bool.and_eq_true] at c
  have q' := q (.int (i * j)) H .refl hr (by unfold RepV; rfl)
  rcases c with (c | c) | c
  · exact .inl ⟨i, j, hx, hy, .inl (in64_ok c), q'⟩
  · exact .inl ⟨i, j, hx, hy, .inr (in64_ok c), q'⟩
  · exact .inr ⟨i, j, hx, hy, wide_mul (mid_ok c.1) (mid_ok c.2) (by decide) (by decide) (by decide), q'⟩
theorem opD_mulT {K : PySem.W.Frag} : OpD K (rRepT K) dMulT := by
  intro x y H ρ S dx dy d Q hr hx hy e q
  cases dx with
  | tup xs =>
    cases dy with
    | int k =>
      simp only [dMulT] at e
      split at e
      · rename_i c
        cases e
        obtain ⟨a, vs, rfl, h1, t1, r1⟩ := tup_rep hx
        unfold RepV at hy
        subst hy
        refine ⟨a, k, vs, rfl, rfl, h1, fun ev => ?_, c.2.1, c.2.2.1, by rw [r1.length]; exact c.2.2.2, fun p hp => ?_⟩
        · have := r1.length
          rw [ev] at this
          exact c.1 (List.eq_nil_of_length_eq_zero this.symm)
        · obtain ⟨x1, x2, x3⟩ := new_tup hr hp (r1.rep k.toNat)
          exact q _ _ x1 x2 x3
      · cases e
    | _ => cases e
  | _ => cases e
theorem opD_mulL {K : PySem.W.Frag} : OpD K rRep dMulL := by
  intro x y H ρ S dx dy d Q hr hx hy e q
  cases dx with
  | lst xs =>
    cases dy with
    | int k =>
      simp only [dMulL] at e
      split at e
      · rename_i c
        cases e
        obtain ⟨a, vs, rfl, h1, r1⟩ := lstOf_rep hr hx (xs := xs) rfl
        unfold RepV at hy
        subst hy
        refine ⟨a, k, vs, rfl, rfl, h1, by omega, by omega, by rw [r1.length, ← big_line]; exact c.2.2, fun p hp => ?_⟩
        obtain ⟨x1, x2, x3⟩ := new_lst hr hp (r1.rep k.toNat)
        exact q _ _ x1 x2 x3
      · cases e
    | _ => cases e
  | _ => cases e
theorem dMul_int (i j : Int) (S : Sto) : dMul (.int i) (.int j) S = if mulOk i j = true then some (.int (i * j)) else none := by
  show (if mulOk i j = true then some (D.int (i * j)) else none).or ((none : Option D).or none) = _
  split <;> rfl
/-- a positive divisor of moderate size -/
def divOk (_ j : Int) : Bool := decide (0 < j) && mid j
def dDiv : D → D → Sto → Option D := dI divOk fun i j => .int (i / j)
def dMod : D → D → Sto → Option D := dI (fun _ j => decide (0 < j)) fun i j => .int (i % j)
theorem divOk_ok {i j : Int} (h : divOk i j = true) : CDivW i j := by
  unfold divOk at h
  simp only [Bool.and_eq_true, decide_eq_true_eq] at h
  exact wide_div h.1 (mid_ok h.2) (by decide) (by decide)
def powOk (i j : Int) : Bool := decide (0 ≤ j) && decide (j ≤ 1000000) && in64 i
def dPow : D → D → Sto → Option D := dI (fun i j => decide (0 ≤ j) && decide (j ≤ 1000000) && decide (i.natAbs < 18446744073709551616)) fun i j => .int (i ^ j.toNat)

section
variable {X : Cx}
theorem op_add_all : OpR X (binaryOp .Add) (fun x y H Q => rI0 (fun i j => .int (i + j)) x y H Q ∨ (∃ i j, x = .str i ∧ y = .str j ∧ i.length + j.length ≤ sizeLine ∧ Q (.str (i ++ j)) H) ∨ rCatA X.K x y H Q ∨ rCat x y H Q) :=
  op_add.or (op_add_str.or (op_catA.or op_cat))
theorem opD_add_all {K : PySem.W.Frag} : OpD K (fun x y H Q => rI0 (fun i j => .int (i + j)) x y H Q ∨ (∃ i j, x = .str i ∧ y = .str j ∧ i.length + j.length ≤ sizeLine ∧ Q (.str (i ++ j)) H) ∨ rCatA K x y H Q ∨ rCat x y H Q) dAdd :=
  opD_I0.or (opD_addS.or (opD_addT.or opD_addL))
theorem op_mul_all : OpR X (binaryOp .Mult) (fun x y H Q => (rI CMul (fun i j => .int (i * j)) x y H Q ∨ rI CMulW (fun i j => .int (i * j)) x y H Q) ∨ rRepT X.K x y H Q ∨ rRep x y H Q) :=
  (op_mul.or op_mulW).or (op_repT.or op_rep)
theorem opD_mul_all {K : PySem.W.Frag} : OpD K (fun x y H Q => (rI CMul (fun i j => .int (i * j)) x y H Q ∨ rI CMulW (fun i j => .int (i * j)) x y H Q) ∨ rRepT K x y H Q ∨ rRep x y H Q) dMul :=
  opD_mulI.or (opD_mulT.or opD_mulL)
end

/-! ### plain data of the library, for ==, repr -/
mutual
def toPy : D → Option PyData
  | .non => some .none
  | .bl b => some (.bool b)
  | .int i => some (.int i)
  | .str x => some (.str x)
  | .tup xs => (toPys xs).map .tuple
  | .lst xs => (toPys xs).map .list
  | .frz xs => (toPys xs).map .list
  | .emp => none
  | .ref _ => none
  | .cst _ => none
def toPys : List D → Option (List PyData)
  | [] => some []
  | d :: ds => (toPy d).bind fun x => (toPys ds).map fun xs => x :: xs
end
section
variable {K : PySem.W.Frag} {H : Hp} {ρ : Rho}
mutual
theorem toPy_dp : ∀ {d : D} {v : V} {p : PyData}, RepV K H ρ d v → toPy d = some p → Dp K H v p
  | .non, v, p, h, e => by unfold RepV at h; unfold toPy at e; subst h; cases e; exact .non
  | .bl b, v, p, h, e => by unfold RepV at h; unfold toPy at e; subst h; cases e; exact .bl b
  | .int b, v, p, h, e => by unfold RepV at h; unfold toPy at e; subst h; cases e; exact .int b
  | .str b, v, p, h, e => by unfold RepV at h; unfold toPy at e; subst h; cases e; exact .str b
  | .tup xs, v, p, h, e => by
    unfold toPy at e
    obtain ⟨ps, e1, rfl⟩ := Option.map_eq_some_iff.mp e
    obtain ⟨a, vs, rfl, h1, _, r⟩ := tup_rep h
    exact .tup h1 (toPys_dp r e1)
  | .lst xs, v, p, h, e => by
    unfold toPy at e
    obtain ⟨ps, e1, rfl⟩ := Option.map_eq_some_iff.mp e
    unfold RepV at h
    obtain ⟨a, vs, rfl, h1, r⟩ := h
    exact .lst (.of h1.2) (toPys_dp r e1)
  | .frz xs, v, p, h, e => by
    unfold toPy at e
    obtain ⟨ps, e1, rfl⟩ := Option.map_eq_some_iff.mp e
    unfold RepV at h
    obtain ⟨a, vs, rfl, h1, r⟩ := h
    exact .lst h1.sq (toPys_dp r e1)
  | .emp, _, _, _, e => by unfold toPy at e; cases e
  | .ref _, _, _, _, e => by unfold toPy at e; cases e
  | .cst _, _, _, _, e => by unfold toPy at e; cases e
theorem toPys_dp : ∀ {ds : List D} {vs : List V} {ps : List PyData}, RepVs K H ρ ds vs → toPys ds = some ps → DpAll K H vs ps
  | [], vs, ps, h, e => by rw [h.of_nil]; unfold toPys at e; cases e; exact .nil
  | d :: ds, vs, ps, h, e => by
    obtain ⟨v, vr, rfl, h1, h2⟩ := h.of_cons
    unfold toPys at e
    obtain ⟨x, e1, e⟩ := Option.bind_eq_some_iff.mp e
    obtain ⟨xs, e2, rfl⟩ := Option.map_eq_some_iff.mp e
    exact .cons (toPy_dp h1 e1) (toPys_dp h2 e2)
end
end
/-- x == y, x != y -/
def dEqD (x y : D) (_ : Sto) : Option D := (toPy x).bind fun a => (toPy y).bind fun b => if SeqAt.shaped a = true ∧ SeqAt.shaped b = true then some (.bl (PyData.eqv a b)) else none
def dNeD (x y : D) (_ : Sto) : Option D := (toPy x).bind fun a => (toPy y).bind fun b => if SeqAt.shaped a = true ∧ SeqAt.shaped b = true then some (.bl (!PyData.eqv a b)) else none
theorem opD_eqD {K : PySem.W.Frag} : OpD K (rEqD K) dEqD := by
  intro x y H ρ S dx dy d Q hr hx hy e q
  unfold dEqD at e
  obtain ⟨a, e1, e⟩ := Option.bind_eq_some_iff.mp e
  obtain ⟨b, e2, e⟩ := Option.bind_eq_some_iff.mp e
  split at e
  · rename_i c
    cases e
    exact ⟨a, b, toPy_dp hx e1, toPy_dp hy e2, c.1, c.2, q _ H .refl hr (by unfold RepV; rfl)⟩
  · cases e
theorem opD_neD {K : PySem.W.Frag} : OpD K (rNeD K) dNeD := by
  intro x y H ρ S dx dy d Q hr hx hy e q
  unfold dNeD at e
  obtain ⟨a, e1, e⟩ := Option.bind_eq_some_iff.mp e
  obtain ⟨b, e2, e⟩ := Option.bind_eq_some_iff.mp e
  split at e
  · rename_i c
    cases e
    exact ⟨a, b, toPy_dp hx e1, toPy_dp hy e2, c.1, c.2, q _ H .refl hr (by unfold RepV; rfl)⟩
  · cases e

/-- texts: by themselves -/
def dEqS : D → D → Sto → Option D
  | .str a, .str b, _ => some (.bl (decide (a = b)))
  | _, _, _ => none
def dNeS : D → D → Sto → Option D
  | .str a, .str b, _ => some (.bl (!decide (a = b)))
  | _, _, _ => none
theorem opD_eqS {K : PySem.W.Frag} : OpD K rEq dEqS := by
  intro x y H ρ S dx dy d Q hr hx hy e q
  cases dx with
  | str a =>
    cases dy with
    | str b =>
      cases e
      unfold RepV at hx hy
      subst hx hy
      refine ⟨rfl, ?_⟩
      rw [show decide (V.str a = V.str b) = decide (a = b) by simp]
      exact q _ H .refl hr (by unfold RepV; rfl)
    | _ => cases e
  | _ => cases e
theorem opD_neS {K : PySem.W.Frag} : OpD K rNe dNeS := by
  intro x y H ρ S dx dy d Q hr hx hy e q
  cases dx with
  | str a =>
    cases dy with
    | str b =>
      cases e
      unfold RepV at hx hy
      subst hx hy
      refine ⟨rfl, ?_⟩
      rw [show decide (V.str a = V.str b) = decide (a = b) by simp]
      exact q _ H .refl hr (by unfold RepV; rfl)
    | _ => cases e
  | _ => cases e
def dEq (x y : D) (S : Sto) : Option D := (dEqS x y S).or (dEqD x y S)
def dNe (x y : D) (S : Sto) : Option D := (dNeS x y S).or (dNeD x y S)
section
variable {X : Cx}
theorem op_eq_all (hu : X.A.units + 64 < cLine) : OpR X (compareOp .Eq) (fun x y H Q => rEq x y H Q ∨ rEqD X.K x y H Q) := op_eq.or (op_eqD hu)
theorem op_ne_all (hu : X.A.units + 64 < cLine) : OpR X (compareOp .NotEq) (fun x y H Q => rNe x y H Q ∨ rNeD X.K x y H Q) := op_ne.or (op_neD hu)
end
theorem opD_eq {K : PySem.W.Frag} : OpD K (fun x y H Q => rEq x y H Q ∨ rEqD K x y H Q) dEq := opD_eqS.or opD_eqD
theorem opD_ne {K : PySem.W.Frag} : OpD K (fun x y H Q => rNe x y H Q ∨ rNeD K x y H Q) dNe := opD_neS.or opD_neD

/-- x is c, for c None, True or False -/
def isK : D → Bool
  | .non => true
  | .bl _ => true
  | _ => false
def sameK : D → D → Bool
  | .non, .non => true
  | .bl a, .bl b => a == b
  | _, _ => false
/-- what may stand on the left -/
def isL : D → Bool
  | .cst _ => false
  | _ => true
def dIs (x y : D) (_ : Sto) : Option D := if isL x = true ∧ isK y = true then some (.bl (sameK x y)) else none
def dIsNot (x y : D) (_ : Sto) : Option D := if isL x = true ∧ isK y = true then some (.bl (!sameK x y)) else none
def vK : V → Bool
  | .non => true
  | .bl _ => true
  | _ => false
def vL : V → Bool
  | .ty _ => false
  | _ => true
theorem isK_v {K : PySem.W.Frag} {H : Hp} {ρ : Rho} {d : D} {v : V} (h : RepV K H ρ d v) (e : isK d = true) : vK v = true := by
  cases d <;> simp [isK] at e <;> (unfold RepV at h; subst h; rfl)
theorem isL_v {K : PySem.W.Frag} {H : Hp} {ρ : Rho} {d : D} {v : V} (h : RepV K H ρ d v) (e : isL d = true) : vL v = true := by
  cases d <;> first
    | (exfalso; simp [isL] at e; done)
    | (unfold RepV at h; subst h; rfl)
    | (unfold RepV at h; obtain ⟨a, vs, rfl, _⟩ := h; rfl)
    | (unfold RepV at h; obtain ⟨a, rfl, _⟩ := h; rfl)
theorem sameK_v {K : PySem.W.Frag} {H : Hp} {ρ : Rho} {d e : D} {v u : V} (h : RepV K H ρ d v) (h' : RepV K H ρ e u) (ek : isK e = true) (el : isL d = true) : decide (v = u) = sameK d e := by
  have hu : u = .non ∧ e = .non ∨ ∃ b, u = .bl b ∧ e = .bl b := by
    cases e <;> simp [isK] at ek <;> (unfold RepV at h'; subst h')
    · exact .inl ⟨rfl, rfl⟩
    · exact .inr ⟨_, rfl, rfl⟩
  rcases hu with ⟨rfl, rfl⟩ | ⟨b, rfl, rfl⟩
  · cases d <;> first
      | (exfalso; simp [isL] at el; done)
      | (unfold RepV at h; subst h; simp [sameK]; done)
      | (unfold RepV at h; obtain ⟨a, vs, rfl, _⟩ := h; simp [sameK]; done)
      | (unfold RepV at h; obtain ⟨a, rfl, _⟩ := h; simp [sameK]; done)
  · cases d <;> first
      | (exfalso; simp [isL] at el; done)
      | (unfold RepV at h; subst h; simp [sameK]; done)
      | (unfold RepV at h; subst h; simp [sameK, Bool.beq_eq_decide_eq]; done)
      | (unfold RepV at h; obtain ⟨a, vs, rfl, _⟩ := h; simp [sameK]; done)
      | (unfold RepV at h; obtain ⟨a, rfl, _⟩ := h; simp [sameK]; done)
section
variable {X : Cx}
theorem is_beq {x y : V} {v u : Value} (rx : RelV x v) (ry : RelV y u) (hk : vK y = true) (hl : vL x = true) : PySem.plainIs v u = true ∧ (v == u) = decide (x = y) := by
  cases y with
  | non =>
    obtain rfl : u = Value.none := ry
    refine ⟨?_, rx.none_iff⟩
    cases x <;> first | (exfalso; simp [vL] at hl; done) | (cases rx; rfl) | (obtain ⟨t, rfl⟩ := rx; rfl)
  | bl b =>
    obtain rfl : u = Value.bool b := ry
    cases x with
    | bl c =>
      obtain rfl : v = Value.bool c := rx
      refine ⟨rfl, ?_⟩
      by_cases e : c = b
      · subst e; simp
      · have h1 : ¬ (V.bl c = V.bl b) := fun z => e (V.bl.inj z)
        rw [decide_eq_false h1]
        exact beq_eq_false_iff_ne.mpr fun z => e (Value.bool.inj z)
    | _ => first | (exfalso; simp [vL] at hl; done) | (cases rx; exact ⟨rfl, by simp⟩) | (obtain ⟨t, rfl⟩ := rx; exact ⟨rfl, by simp⟩)
  | _ => simp [vK] at hk
def rIs (n : Bool) : R2 := fun x y H Q => vL x = true ∧ vK y = true ∧ Q (.bl (if n = true then !decide (x = y) else decide (x = y))) H
theorem op_isK : OpR X (compareOp .Is) (rIs false) := by
  intro pins s σ H x y v u Q I rx ry h
  obtain ⟨hl, hk, q⟩ := h
  obtain ⟨h1, h2⟩ := is_beq rx ry hk hl
  exact PySem.wpAny_is_plain h1 (by rw [h2]; exact ⟨.bl _, H, I, rfl, q⟩)
theorem op_isNotK : OpR X (compareOp .IsNot) (rIs true) := by
  intro pins s σ H x y v u Q I rx ry h
  obtain ⟨hl, hk, q⟩ := h
  obtain ⟨h1, h2⟩ := is_beq rx ry hk hl
  exact PySem.wpAny_isNot_plain h1 (by rw [h2]; exact ⟨.bl _, H, I, rfl, q⟩)
end
theorem opD_is {K : PySem.W.Frag} : OpD K (rIs false) dIs := by
  intro x y H ρ S dx dy d Q hr hx hy e q
  unfold dIs at e
  split at e
  · rename_i c
    cases e
    refine ⟨isL_v hx c.1, isK_v hy c.2, ?_⟩
    rw [if_neg Bool.false_ne_true, sameK_v hx hy c.2 c.1]
    exact q _ H .refl hr (by unfold RepV; rfl)
  · cases e
theorem opD_isNot {K : PySem.W.Frag} : OpD K (rIs true) dIsNot := by
  intro x y H ρ S dx dy d Q hr hx hy e q
  unfold dIsNot at e
  split at e
  · rename_i c
    cases e
    refine ⟨isL_v hx c.1, isK_v hy c.2, ?_⟩
    rw [if_pos rfl, sameK_v hx hy c.2 c.1]
    exact q _ H .refl hr (by unfold RepV; rfl)
  · cases e
/-- order of ints -/
def dLt : D → D → Sto → Option D := dI (fun _ _ => true) fun i j => .bl (decide (i < j))
def dLe : D → D → Sto → Option D := dI (fun _ _ => true) fun i j => .bl (decide (i ≤ j))
def dGt : D → D → Sto → Option D := dI (fun _ _ => true) fun i j => .bl (decide (j < i))
def dGe : D → D → Sto → Option D := dI (fun _ _ => true) fun i j => .bl (decide (j ≤ i))

/-! ### items -/
def dIx (x y : D) (S : Sto) : Option D := match y with
  | .int i => match x with
    | .tup xs => atI xs i
    | d => (anyL d S).bind fun xs => atI xs i
  | _ => none
theorem repvs_at {K : PySem.W.Frag} {H : Hp} {ρ : Rho} {ds : List D} {vs : List V} {i : Int} {d : D} (h : RepVs K H ρ ds vs) (e : atI ds i = some d) : ∃ v, atI vs i = some v ∧ RepV K H ρ d v := by
  unfold atI at e ⊢
  obtain ⟨j, e1, e2⟩ := Option.bind_eq_some_iff.mp e
  obtain ⟨v, h1, h2⟩ := h.get e2
  exact ⟨v, by rw [h.length, e1]; exact h1, h2⟩
theorem opD_ix {K : PySem.W.Frag} : OpD K (rIx K) dIx := by
  intro x y H ρ S dx dy d Q hr hx hy e q
  cases dy with
  | int i =>
    unfold RepV at hy
    subst hy
    have go : (anyL dx S).bind (fun xs => atI xs i) = some d → rIx K x (.int i) H Q := fun e => by
      obtain ⟨xs, e1, e2⟩ := Option.bind_eq_some_iff.mp e
      obtain ⟨a, vs, rfl, h1, r1⟩ := anyL_rep hr hx e1
      obtain ⟨v, h2, r2⟩ := repvs_at r1 e2
      exact .inl ⟨a, vs, i, v, rfl, rfl, h1, h2, q v H .refl hr r2⟩
    cases dx with
    | tup xs =>
      obtain ⟨a, vs, rfl, h1, _, r1⟩ := tup_rep hx
      obtain ⟨v, h2, r2⟩ := repvs_at r1 (show atI xs i = some d from e)
      exact .inr (.inl ⟨a, vs, i, v, rfl, rfl, h1, h2, q v H .refl hr r2⟩)
    | _ => exact go e
  | _ => simp [dIx] at e
end DL
end

section
set_option Elab.async false
set_option linter.all false
set_option maxRecDepth 100000
set_option maxHeartbeats 4000000
namespace DL
open PySem PySem.Spec PyProof.Rows L2

/-- what the rules of a body ask of where one stands -/
structure Ctx (X : Cx) (W : WX) : Prop where
  units : X.A.units + 65 < cLine
  calm : X.calm = true
  guards : X.A.guards = some []
  takes : Takes X W
  nd : X.N.Nodup

/-! ### expressions -/
def fVar (i : Nat) : FE := fun σ S => match σ[i]? with
  | some (some d) => .ok d S
  | _ => .stuck
def fC (d : D) : FE := fun _ S => .ok d S
def fBin (b : D → D → Sto → Option D) (f g : FE) : FE := fun σ S => (f σ S).bind fun x S1 => (g σ S1).bind fun y S2 => ofO (b x y S2) S2
def fUn (u : D → Sto → Option D) (f : FE) : FE := fun σ S => (f σ S).bind fun x S1 => ofO (u x S1) S1
def dNeg : D → Sto → Option D
  | .int i, _ => some (.int (-i))
  | _, _ => none
/-- truth -/
def dTruth : D → Sto → Option Bool
  | .non, _ => some false
  | .bl b, _ => some b
  | .int i, _ => some (i != 0)
  | .str x, _ => if x.length ≤ BIG then some ((x.length : Int) != 0) else none
  | .tup xs, _ => some (!xs.isEmpty)
  | .emp, _ => some false
  | d, S => (anyL d S).map fun xs => !xs.isEmpty
def dNot (d : D) (S : Sto) : Option D := (dTruth d S).map fun k => .bl (!k)
theorem repvs_empty {K : PySem.W.Frag} {H : Hp} {ρ : Rho} {ds : List D} {vs : List V} (h : RepVs K H ρ ds vs) : (!ds.isEmpty) = !vs.isEmpty := by
  cases ds with
  | nil => rw [h.of_nil]; rfl
  | cons d ds => obtain ⟨v, vr, rfl, _⟩ := h.of_cons; rfl
theorem dTruth_rep {K : PySem.W.Frag} {H : Hp} {ρ : Rho} {S : Sto} {d : D} {v : V} {k : Bool} (hr : HRep K H ρ S) (h : RepV K H ρ d v) (e : dTruth d S = some k) : TruV K v H k := by
  have go : (anyL d S).map (fun xs => !xs.isEmpty) = some k → TruV K v H k := fun e => by
    obtain ⟨xs, e1, rfl⟩ := Option.map_eq_some_iff.mp e
    obtain ⟨a, vs, rfl, h1, r1⟩ := anyL_rep hr h e1
    exact .inl ⟨vs, h1, repvs_empty r1⟩
  cases d with
  | non => unfold RepV at h; subst h; cases e; rfl
  | bl b => unfold RepV at h; subst h; cases e; rfl
  | int b => unfold RepV at h; subst h; cases e; rfl
  | str x =>
    unfold RepV at h; subst h
    simp only [dTruth] at e
    split at e
    · rename_i c
      cases e
      rw [big_line] at c
      exact ⟨c, rfl⟩
    · cases e
  | tup xs =>
    obtain ⟨a, vs, rfl, h1, _, r1⟩ := tup_rep h
    cases e
    exact .inr (.inl ⟨vs, h1, repvs_empty r1⟩)
  | emp =>
    unfold RepV at h
    obtain ⟨a, rfl, h1⟩ := h
    cases e
    exact .inr (.inr ⟨[], h1.2, rfl⟩)
  | lst xs => exact go e
  | frz xs => exact go e
  | ref n => exact go e
  | cst u => exact go e

section
variable {X : Cx} {W : WX} {e a b c : Expr} {f g h : FE} {pos : Pos}
theorem de_var (i : Nat) {x : Str} (hN : X.N[i]? = some x := by rfl) (hv : Vis X.env.scope x := by first | exact Or.inl rfl | exact Or.inr (Or.inl rfl) | exact Or.inr (Or.inr rfl)) (hd : (x == ("__debug__" : Str)) = false := by decide)
    (hcd : (x == ("__classdict__" : Str)) = false := by decide) : DE X W (.Name x pos) (fVar i) := by
  refine ⟨PE.imp (pe_var hN hv hd hcd) fun σ H Q hq => ?_⟩
  obtain ⟨ρ, σd, S, he, hr, q⟩ := hq
  unfold fVar at q
  cases e1 : σd[i]? with
  | none => rw [e1] at q; exact q.elim
  | some o =>
    cases o with
    | none => rw [e1] at q; exact q.elim
    | some d =>
      rw [e1] at q
      obtain ⟨v, h1, h2⟩ := he.2 i d e1
      exact ⟨v, h1, q H ρ .refl hr v h2⟩
theorem de_const {v : V} {d : D} (hp : PE X e (tC v)) (hd : ∀ H ρ, RepV X.K H ρ d v) : DE X W e (fC d) := by
  refine ⟨PE.imp hp fun σ H Q hq => ?_⟩
  obtain ⟨ρ, σd, S, he, hr, q⟩ := hq
  exact q H ρ .refl hr v (hd H ρ)
theorem de_int {i : Int} {j} : DE X W (.Constant (.int i) j pos) (fC (.int i)) := de_const pe_int fun _ _ => by unfold RepV; rfl
theorem de_bl {i : Bool} {j} : DE X W (.Constant (.bool i) j pos) (fC (.bl i)) := de_const pe_bl fun _ _ => by unfold RepV; rfl
theorem de_str {i : Str} {j} : DE X W (.Constant (.str i) j pos) (fC (.str i)) := de_const pe_str fun _ _ => by unfold RepV; rfl
theorem de_non {j} : DE X W (.Constant .none j pos) (fC .non) := de_const pe_non fun _ _ => by unfold RepV; rfl
/-- a module's int -/
theorem de_gint {x : Str} {i : Int} {t : Tok} (hm : X.mg x = some (.int i t)) (hg : Gl X x := by rfl) (hd : (x == ("__debug__" : Str)) = false := by decide) : DE X W (.Name x pos) (fC (.int i)) :=
  de_const (pe_glob hg hm (v := .int i) ⟨_, rfl⟩ hd) fun _ _ => by unfold RepV; rfl
/-- a module's def, class as a value -/
theorem de_gref {x : Str} {q : Addr} (hm : X.mg x = some (.ref q)) (hg : Gl X x := by rfl) (hd : (x == ("__debug__" : Str)) = false := by decide) : DE X W (.Name x pos) (fC (.cst (.ref q))) :=
  de_const (pe_glob hg hm (v := .ref q) rfl hd) fun _ _ => by unfold RepV; rfl
/-- a built-in class as a value -/
theorem de_gty {x : Str} {n : String} (hm : X.mg x = none) (hv : bootBuiltins x = some (.type n)) (hg : Gl X x := by rfl) (hn : x ≠ "__name__" := by decide) (hd : (x == ("__debug__" : Str)) = false := by decide) : DE X W (.Name x pos) (fC (.cst (.ty n))) :=
  de_const (pe_bltn hg hm hv (v := .ty n) rfl hn hd) fun _ _ => by unfold RepV; rfl

/-- two values and an operator -/
theorem de_op {r : R2} {o : D → D → Sto → Option D} (hp : PE X e (tOp r (tE X.K W f) (tE X.K W g))) (ho : OpD X.K r o) : DE X W e (fBin o f g) := by
  refine ⟨PE.imp hp fun σ H Q hq => ?_⟩
  obtain ⟨ρ, σd, S, he, hr, q⟩ := hq
  refine ⟨ρ, σd, S, he, hr, PR.imp (PR.bind q) (fun x S1 H1 ρ1 x1 hr1 q1 v hv => ?_) fun _ _ _ _ _ _ q => q⟩
  refine ⟨ρ1, σd, S1, he.ext x1, hr1, PR.imp (PR.bind q1) (fun y S2 H2 ρ2 x2 hr2 q2 u hu => ?_) fun _ _ _ _ _ _ q => q⟩
  cases e1 : o x y S2 with
  | none => rw [e1] at q2; exact q2.elim
  | some d =>
    rw [e1] at q2
    exact ho hr2 (hv.ext x2) hu e1 fun w H' x3 hr3 hw => q2 H' ρ2 x3 hr3 w hw
theorem de_add (ha : DE X W a f) (hb : DE X W b g) : DE X W (.BinOp a .Add b pos) (fBin dAdd f g) := de_op (pe_op op_add_all ha.pe hb.pe) opD_add_all
theorem de_sub (ha : DE X W a f) (hb : DE X W b g) : DE X W (.BinOp a .Sub b pos) (fBin dSub f g) := de_op (pe_op op_sub ha.pe hb.pe) opD_I0
theorem de_mul (ha : DE X W a f) (hb : DE X W b g) : DE X W (.BinOp a .Mult b pos) (fBin dMul f g) := de_op (pe_op op_mul_all ha.pe hb.pe) opD_mul_all
theorem de_div (ha : DE X W a f) (hb : DE X W b g) : DE X W (.BinOp a .FloorDiv b pos) (fBin dDiv f g) := de_op (pe_op op_fdivW ha.pe hb.pe) (opD_I fun i j => divOk_ok)
theorem de_mod (ha : DE X W a f) (hb : DE X W b g) : DE X W (.BinOp a .Mod b pos) (fBin dMod f g) := de_op (pe_op op_mod ha.pe hb.pe) (opD_I (Cb := fun _ j => decide (0 < j)) fun i j c => of_decide_eq_true c)
theorem de_pow (ha : DE X W a f) (hb : DE X W b g) : DE X W (.BinOp a .Pow b pos) (fBin dPow f g) := de_op (pe_op op_pow ha.pe hb.pe) (opD_I fun i j c => by
  simp only [Bool.and_eq_true, decide_eq_true_eq] at c
  exact ⟨c.1.1, c.1.2, by have := c.2; omega⟩)
theorem de_lt (ha : DE X W a f) (hb : DE X W b g) : DE X W (.Compare a [.Lt] [b] pos) (fBin dLt f g) := de_op (pe_cmpR op_lt ha.pe hb.pe (nomark _)) opD_B0
theorem de_le (ha : DE X W a f) (hb : DE X W b g) : DE X W (.Compare a [.LtE] [b] pos) (fBin dLe f g) := de_op (pe_cmpR op_le ha.pe hb.pe (nomark _)) opD_B0
theorem de_gt (ha : DE X W a f) (hb : DE X W b g) : DE X W (.Compare a [.Gt] [b] pos) (fBin dGt f g) := de_op (pe_cmpR op_gt ha.pe hb.pe (nomark _)) opD_B0
theorem de_ge (ha : DE X W a f) (hb : DE X W b g) : DE X W (.Compare a [.GtE] [b] pos) (fBin dGe f g) := de_op (pe_cmpR op_ge ha.pe hb.pe (nomark _)) opD_B0
theorem de_eq (hu : X.A.units + 65 < cLine) (ha : DE X W a f) (hb : DE X W b g) : DE X W (.Compare a [.Eq] [b] pos) (fBin dEq f g) := de_op (pe_cmpR (op_eq_all (by omega)) ha.pe hb.pe (nomark _)) opD_eq
theorem de_ne (hu : X.A.units + 65 < cLine) (ha : DE X W a f) (hb : DE X W b g) : DE X W (.Compare a [.NotEq] [b] pos) (fBin dNe f g) := de_op (pe_cmpR (op_ne_all (by omega)) ha.pe hb.pe (nomark _)) opD_ne
theorem de_is (ha : DE X W a f) (hb : DE X W b g) : DE X W (.Compare a [.Is] [b] pos) (fBin dIs f g) := de_op (pe_cmpR op_isK ha.pe hb.pe (nomark _)) opD_is
theorem de_isNot (ha : DE X W a f) (hb : DE X W b g) : DE X W (.Compare a [.IsNot] [b] pos) (fBin dIsNot f g) := de_op (pe_cmpR op_isNotK ha.pe hb.pe (nomark _)) opD_isNot
theorem de_ix (ha : DE X W a f) (hb : DE X W b g) (hs : PlainIx b := by intro _ _; rfl) : DE X W (.Subscript a b pos) (fBin dIx f g) := de_op (pe_ix ix_seq ha.pe hb.pe hs) opD_ix

theorem de_neg (ha : DE X W a f) : DE X W (.UnaryOp .USub a pos) (fUn dNeg f) := by
  refine ⟨PE.imp (pe_un un_neg ha.pe) fun σ H Q hq => ?_⟩
  obtain ⟨ρ, σd, S, he, hr, q⟩ := hq
  refine ⟨ρ, σd, S, he, hr, PR.imp (PR.bind q) (fun x S1 H1 ρ1 x1 hr1 q1 v hv => ?_) fun _ _ _ _ _ _ q => q⟩
  cases x with
  | int i =>
    unfold RepV at hv
    exact ⟨i, hv, q1 H1 ρ1 .refl hr1 _ (by unfold RepV; rfl)⟩
  | _ => exact q1.elim
theorem de_not (ha : DE X W a f) : DE X W (.UnaryOp .Not a pos) (fUn dNot f) := by
  refine ⟨PE.imp (pe_notT ha.pe) fun σ H Q hq => ?_⟩
  obtain ⟨ρ, σd, S, he, hr, q⟩ := hq
  refine ⟨ρ, σd, S, he, hr, PR.imp (PR.bind q) (fun x S1 H1 ρ1 x1 hr1 q1 v hv => ?_) fun _ _ _ _ _ _ q => q⟩
  unfold dNot at q1
  cases e1 : dTruth x S1 with
  | none => rw [e1] at q1; exact q1.elim
  | some k =>
    rw [e1] at q1
    exact ⟨k, dTruth_rep hr1 hv e1, q1 H1 ρ1 .refl hr1 _ (by unfold RepV; rfl)⟩
/-- and, or as values -/
def fAnd (f g : FE) : FE := fun σ S => (f σ S).bind fun x S1 => (ofO (dTruth x S1) S1).bind fun k S1 => if k = true then g σ S1 else .ok x S1
def fOr (f g : FE) : FE := fun σ S => (f σ S).bind fun x S1 => (ofO (dTruth x S1) S1).bind fun k S1 => if k = true then .ok x S1 else g σ S1
variable {rest : List Expr}
theorem de_and (ha : DE X W a f) (hb : DE X W (.BoolOp .And (b :: rest) pos) g) : DE X W (.BoolOp .And (a :: b :: rest) pos) (fAnd f g) := by
  refine ⟨PE.imp (pe_andT ha.pe hb.pe) fun σ H Q hq => ?_⟩
  obtain ⟨ρ, σd, S, he, hr, q⟩ := hq
  refine ⟨ρ, σd, S, he, hr, PR.imp (PR.bind q) (fun x S1 H1 ρ1 x1 hr1 q1 v hv => ?_) fun _ _ _ _ _ _ q => q⟩
  cases e1 : dTruth x S1 with
  | none => rw [e1] at q1; exact q1.elim
  | some k =>
    rw [e1] at q1
    refine ⟨k, dTruth_rep hr1 hv e1, ?_⟩
    cases k with
    | true => exact ⟨ρ1, σd, S1, he.ext x1, hr1, q1⟩
    | false => exact q1 H1 ρ1 .refl hr1 v hv
theorem de_or (ha : DE X W a f) (hb : DE X W (.BoolOp .Or (b :: rest) pos) g) : DE X W (.BoolOp .Or (a :: b :: rest) pos) (fOr f g) := by
  refine ⟨PE.imp (pe_orT ha.pe hb.pe) fun σ H Q hq => ?_⟩
  obtain ⟨ρ, σd, S, he, hr, q⟩ := hq
  refine ⟨ρ, σd, S, he, hr, PR.imp (PR.bind q) (fun x S1 H1 ρ1 x1 hr1 q1 v hv => ?_) fun _ _ _ _ _ _ q => q⟩
  cases e1 : dTruth x S1 with
  | none => rw [e1] at q1; exact q1.elim
  | some k =>
    rw [e1] at q1
    refine ⟨k, dTruth_rep hr1 hv e1, ?_⟩
    cases k with
    | false => exact ⟨ρ1, σd, S1, he.ext x1, hr1, q1⟩
    | true => exact q1 H1 ρ1 .refl hr1 v hv
theorem de_one {op} (ha : DE X W a f) : DE X W (.BoolOp op [a] pos) f := ⟨pe_one ha.pe⟩
/-- a op b op' c -/
def fChain (o o' : D → D → Sto → Option D) (f g h : FE) : FE := fun σ S => (f σ S).bind fun x S1 => (g σ S1).bind fun y S2 => (ofO (o x y S2) S2).bind fun z S2 => match z with
  | .bl k => if k = true then (h σ S2).bind fun w S3 => ofO (o' y w S3) S3 else .ok (.bl false) S2
  | _ => .stuck
theorem chain_imp {r r' : R2} {o o' : D → D → Sto → Option D} {σ : L2.St} {H : Hp} {Q : VK} (ho : OpD X.K r o) (ho' : OpD X.K r' o') (hq : tE X.K W (fChain o o' f g h) σ H Q) : tChain r r' (tE X.K W f) (tE X.K W g) (tE X.K W h) σ H Q := by
  obtain ⟨ρ, σd, S, he, hr, q⟩ := hq
  refine ⟨ρ, σd, S, he, hr, PR.imp (PR.bind q) (fun x S1 H1 ρ1 x1 hr1 q1 v hv => ?_) fun _ _ _ _ _ _ q => q⟩
  refine ⟨ρ1, σd, S1, he.ext x1, hr1, PR.imp (PR.bind q1) (fun y S2 H2 ρ2 x2 hr2 q2 u hu => ?_) fun _ _ _ _ _ _ q => q⟩
  cases e1 : o x y S2 with
  | none => rw [e1] at q2; exact q2.elim
  | some d =>
    rw [e1] at q2
    refine ho hr2 (hv.ext x2) hu e1 fun w H' x3 hr3 hw => ?_
    cases d with
    | bl k =>
      unfold RepV at hw
      refine ⟨k, hw, ?_⟩
      cases k with
      | false => exact q2 H' ρ2 x3 hr3 _ (by unfold RepV; rfl)
      | true =>
        rw [if_pos rfl]
        have q3 := PR.ext x3 (show PR X.K H2 ρ2 ((h σd S2).bind fun w S3 => ofO (o' y w S3) S3) _ _ from q2)
        refine ⟨ρ2, σd, S2, ((he.ext x1).ext x2).ext x3, hr3, PR.imp (PR.bind q3) (fun z S4 H4 ρ4 x4 hr4 q4 v4 hv4 => ?_) fun _ _ _ _ _ _ q => q⟩
        cases e4 : o' y z S4 with
        | none => rw [e4] at q4; exact q4.elim
        | some d4 =>
          rw [e4] at q4
          exact ho' hr4 ((hu.ext x3).ext x4) hv4 e4 fun w5 H5 x5 hr5 hw5 => q4 H5 ρ4 x5 hr5 w5 hw5
    | _ => exact q2.elim
theorem de_le_le (ha : DE X W a f) (hb : DE X W b g) (hc : DE X W c h) (hm : lastMarks [.LtE, .LtE] [b, c] = false := by with_unfolding_all rfl) : DE X W (.Compare a [.LtE, .LtE] [b, c] pos) (fChain dLe dLe f g h) := ⟨PE.imp (pe_chain op_le op_le ha.pe hb.pe hc.pe hm) fun _ _ _ q => chain_imp opD_B0 opD_B0 q⟩
theorem de_le_lt (ha : DE X W a f) (hb : DE X W b g) (hc : DE X W c h) (hm : lastMarks [.LtE, .Lt] [b, c] = false := by with_unfolding_all rfl) : DE X W (.Compare a [.LtE, .Lt] [b, c] pos) (fChain dLe dLt f g h) := ⟨PE.imp (pe_chain op_le op_lt ha.pe hb.pe hc.pe hm) fun _ _ _ q => chain_imp opD_B0 opD_B0 q⟩
theorem de_lt_lt (ha : DE X W a f) (hb : DE X W b g) (hc : DE X W c h) (hm : lastMarks [.Lt, .Lt] [b, c] = false := by with_unfolding_all rfl) : DE X W (.Compare a [.Lt, .Lt] [b, c] pos) (fChain dLt dLt f g h) := ⟨PE.imp (pe_chain op_lt op_lt ha.pe hb.pe hc.pe hm) fun _ _ _ q => chain_imp opD_B0 opD_B0 q⟩
theorem de_gt_gt (ha : DE X W a f) (hb : DE X W b g) (hc : DE X W c h) (hm : lastMarks [.Gt, .Gt] [b, c] = false := by with_unfolding_all rfl) : DE X W (.Compare a [.Gt, .Gt] [b, c] pos) (fChain dGt dGt f g h) := ⟨PE.imp (pe_chain op_gt op_gt ha.pe hb.pe hc.pe hm) fun _ _ _ q => chain_imp opD_B0 opD_B0 q⟩

/-! ### argument lists, displays -/
abbrev FA := En → Sto → Res (List D)
def tA (K : PySem.W.Frag) (W : WX) (f : FA) : TA := fun σ H Q => ∃ ρ σd S, RepE K H ρ σd σ ∧ HRep K H ρ S ∧
  PR K H ρ (f σd S) (fun ds _ H' ρ' => ∀ vs, RepVs K H' ρ' ds vs → Q vs H') (fun c _ H' _ => W c none σ H')
structure DA (X : Cx) (W : WX) (es : List Expr) (f : FA) : Prop where
  pa : PA X es (tA X.K W f)
  len : ∀ σ S ds S', f σ S = .ok ds S' → ds.length = es.length
def aNil : FA := fun _ S => .ok [] S
def aCons (f : FE) (fs : FA) : FA := fun σ S => (f σ S).bind fun d S1 => (fs σ S1).bind fun ds S2 => .ok (d :: ds) S2
variable {es : List Expr} {fs : FA}
theorem da_nil : DA X W [] aNil := by
  refine ⟨PA.imp pa_nil fun σ H Q hq => ?_, fun σ S ds S' h => by cases h; rfl⟩
  obtain ⟨ρ, σd, S, he, hr, q⟩ := hq
  exact q H ρ .refl hr [] .nil
theorem da_cons (ha : DE X W e f) (hb : DA X W es fs) (hs : starEach (e :: es) X.env = (false, eval e X.env) :: starEach es X.env := by rfl) : DA X W (e :: es) (aCons f fs) := by
  refine ⟨PA.imp (pa_cons ha.pe hb.pa hs) fun σ H Q hq => ?_, fun σ S ds S' h => ?_⟩
  rotate_left
  · unfold aCons at h
    cases e1 : f σ S with
    | stuck => rw [e1] at h; cases h
    | raise c S1 => rw [e1] at h; cases h
    | ok d S1 =>
      rw [e1] at h
      rw [Res.bind_ok] at h
      cases e2 : fs σ S1 with
      | stuck => rw [e2] at h; cases h
      | raise c S1 => rw [e2] at h; cases h
      | ok ds' S2 =>
        rw [e2] at h
        cases h
        simp [hb.len _ _ _ _ e2]
  obtain ⟨ρ, σd, S, he, hr, q⟩ := hq
  refine ⟨ρ, σd, S, he, hr, PR.imp (PR.bind q) (fun x S1 H1 ρ1 x1 hr1 q1 v hv => ?_) fun _ _ _ _ _ _ q => q⟩
  refine ⟨ρ1, σd, S1, he.ext x1, hr1, PR.imp (PR.bind q1) (fun ds S2 H2 ρ2 x2 hr2 q2 vs hvs => ?_) fun _ _ _ _ _ _ q => q⟩
  exact q2 H2 ρ2 .refl hr2 _ (.cons (hv.ext x2) hvs)
def fTup (fs : FA) : FE := fun σ S => (fs σ S).bind fun ds S1 => if ds.length ≤ BIG then .ok (.tup ds) S1 else .stuck
/-- a list that is not changed any more; one that may be -/
def fLst (fs : FA) : FE := fun σ S => (fs σ S).bind fun ds S1 => if ds.length ≤ BIG then .ok (.lst ds) S1 else .stuck
def fNew (fs : FA) : FE := fun σ S => (fs σ S).bind fun ds S1 => if ds.length ≤ BIG then .ok (.ref S1.length) (S1 ++ [.lst ds]) else .stuck
theorem de_tup {k} (hs : DA X W es fs) : DE X W (.Tuple es k pos) (fTup fs) := by
  refine ⟨PE.imp (pe_tup hs.pa) fun σ H Q hq => ?_⟩
  obtain ⟨ρ, σd, S, he, hr, q⟩ := hq
  refine ⟨ρ, σd, S, he, hr, PR.imp (PR.bind q) (fun ds S1 H1 ρ1 x1 hr1 q1 vs hvs => ?_) fun _ _ _ _ _ _ q => q⟩
  by_cases c : ds.length ≤ BIG
  · rw [if_pos c] at q1
    refine ⟨by rw [hvs.length, ← big_line]; exact c, fun p hp => ?_⟩
    obtain ⟨y1, y2, y3⟩ := new_tup hr1 hp hvs
    exact q1 _ ρ1 y1 y2 _ y3
  · rw [if_neg c] at q1; exact q1.elim
theorem de_lst (hs : DA X W es fs) : DE X W (.List es pos) (fLst fs) := by
  refine ⟨PE.imp (pe_lst hs.pa) fun σ H Q hq => ?_⟩
  obtain ⟨ρ, σd, S, he, hr, q⟩ := hq
  refine ⟨ρ, σd, S, he, hr, PR.imp (PR.bind q) (fun ds S1 H1 ρ1 x1 hr1 q1 vs hvs => ?_) fun _ _ _ _ _ _ q => q⟩
  by_cases c : ds.length ≤ BIG
  · rw [if_pos c] at q1
    refine ⟨by rw [hvs.length, ← big_line]; exact c, fun p hp => ?_⟩
    obtain ⟨y1, y2, y3⟩ := new_lst hr1 hp hvs
    exact q1 _ ρ1 y1 y2 _ y3
  · rw [if_neg c] at q1; exact q1.elim
theorem de_new (hs : DA X W es fs) : DE X W (.List es pos) (fNew fs) := by
  refine ⟨PE.imp (pe_lst hs.pa) fun σ H Q hq => ?_⟩
  obtain ⟨ρ, σd, S, he, hr, q⟩ := hq
  refine ⟨ρ, σd, S, he, hr, PR.imp (PR.bind q) (fun ds S1 H1 ρ1 x1 hr1 q1 vs hvs => ?_) fun _ _ _ _ _ _ q => q⟩
  by_cases c : ds.length ≤ BIG
  · rw [if_pos c] at q1
    refine ⟨by rw [hvs.length, ← big_line]; exact c, fun p hp => ?_⟩
    obtain ⟨y1, y2⟩ := hr1.alloc hp hvs
    refine q1 _ _ y1 y2 _ ?_
    unfold RepV
    refine ⟨p, rfl, ?_⟩
    rw [← hr1.len]
    simp
  · rw [if_neg c] at q1; exact q1.elim
/-- {} -/
theorem de_emp (hp : PE X e (fun _ H Q => ∀ p, H p = none → Q (.ref p) (upd H p (.dK [])))) : DE X W e (fC .emp) := by
  refine ⟨PE.imp hp fun σ H Q hq p hp => ?_⟩
  obtain ⟨ρ, σd, S, he, hr, q⟩ := hq
  obtain ⟨y1, y2⟩ := hr.new hp (.dK [])
  refine q _ ρ y1 y2 _ ?_
  unfold RepV
  exact ⟨p, rfl, hr.out hp, upd_same⟩
/-- a slice -/
abbrev FO := En → Sto → Res (Option Int)
def tO (K : PySem.W.Frag) (W : WX) (f : FO) : TO := fun σ H Q => ∃ ρ σd S, RepE K H ρ σd σ ∧ HRep K H ρ S ∧ PR K H ρ (f σd S) (fun o _ H' _ => Q o H') (fun c _ H' _ => W c none σ H')
structure DO (X : Cx) (W : WX) (e : Option Expr) (f : FO) : Prop where
  po : PO X e (tO X.K W f)
theorem PO.imp {X : Cx} {e : Option Expr} {t t' : TO} (h : PO X e t) (hi : ∀ σ H Q, t' σ H Q → t σ H Q) : PO X e t' := ⟨fun p s σ H Q I q => h.run p s σ H Q I (hi σ H Q q)⟩
def oNone : FO := fun _ S => .ok none S
def oSome (f : FE) : FO := fun σ S => (f σ S).bind fun d S1 => match d with
  | .int i => .ok (some i) S1
  | _ => .stuck
theorem do_none : DO X W none oNone := by
  refine ⟨PO.imp po_none fun σ H Q hq => ?_⟩
  obtain ⟨ρ, σd, S, he, hr, q⟩ := hq
  exact q H ρ .refl hr
theorem do_some (ha : DE X W e f) : DO X W (some e) (oSome f) := by
  refine ⟨PO.imp (po_some ha.pe) fun σ H Q hq => ?_⟩
  obtain ⟨ρ, σd, S, he, hr, q⟩ := hq
  refine ⟨ρ, σd, S, he, hr, PR.imp (PR.bind q) (fun x S1 H1 ρ1 x1 hr1 q1 v hv => ?_) fun _ _ _ _ _ _ q => q⟩
  cases x with
  | int i =>
    unfold RepV at hv
    exact ⟨i, hv, q1 H1 ρ1 .refl hr1⟩
  | _ => exact q1.elim
/-- the part of a list between two bounds -/
def cutD (xs : List D) (lo hi : Option Int) : List D := (xs.drop (HT.sIx xs.length 0 lo)).take (HT.sIx xs.length xs.length hi - HT.sIx xs.length 0 lo)
def dCut (x : D) (lo hi : Option Int) (S : Sto) : Option D := match x with
  | .tup xs => some (.tup (cutD xs lo hi))
  | d => (anyL d S).map fun xs => .lst (cutD xs lo hi)
def fCut (f : FE) (l u : FO) : FE := fun σ S => (f σ S).bind fun x S1 => (l σ S1).bind fun lo S2 => (u σ S2).bind fun hi S3 => ofO (dCut x lo hi S3) S3
theorem cut_rep {K : PySem.W.Frag} {H : Hp} {ρ : Rho} {xs : List D} {vs : List V} {lo hi : Option Int} (r : RepVs K H ρ xs vs) : RepVs K H ρ (cutD xs lo hi) (cutV vs lo hi) := by
  unfold cutD cutV
  rw [r.length]
  exact (r.drop _).take _
theorem de_cut {lo hi : Option Expr} {l u : FO} {p2 : Pos} (ha : DE X W e f) (hl : DO X W lo l) (hu : DO X W hi u) : DE X W (.Subscript e (.Slice lo hi none p2) pos) (fCut f l u) := by
  refine ⟨PE.imp (pe_slice (sl_tupA.or sl_list) ha.pe hl.po hu.po) fun σ H Q hq => ?_⟩
  obtain ⟨ρ, σd, S, he, hr, q⟩ := hq
  refine ⟨ρ, σd, S, he, hr, PR.imp (PR.bind q) (fun x S1 H1 ρ1 x1 hr1 q1 v hv => ?_) fun _ _ _ _ _ _ q => q⟩
  refine ⟨ρ1, σd, S1, he.ext x1, hr1, PR.imp (PR.bind q1) (fun lo S2 H2 ρ2 x2 hr2 q2 => ?_) fun _ _ _ _ _ _ q => q⟩
  refine ⟨ρ2, σd, S2, (he.ext x1).ext x2, hr2, PR.imp (PR.bind q2) (fun hi S3 H3 ρ3 x3 hr3 q3 => ?_) fun _ _ _ _ _ _ q => q⟩
  have hv3 := (hv.ext x2).ext x3
  have go : PR X.K H3 ρ3 (ofO ((anyL x S3).map fun xs => D.lst (cutD xs lo hi)) S3) (fun d _ H' ρ' => ∀ v, RepV X.K H' ρ' d v → Q v H') (fun c _ H' _ => W c none σ H') → rSlL X.K v lo hi H3 Q := fun q3 => by
    cases e1 : anyL x S3 with
    | none => rw [e1] at q3; exact q3.elim
    | some xs =>
      rw [e1] at q3
      obtain ⟨a, vs, rfl, h1, r1⟩ := anyL_rep hr3 hv3 e1
      refine ⟨a, vs, rfl, h1, fun p hp => ?_⟩
      obtain ⟨y1, y2, y3⟩ := new_lst hr3 hp (cut_rep (lo := lo) (hi := hi) r1)
      exact q3 _ ρ3 y1 y2 _ y3
  cases x with
  | tup xs =>
    obtain ⟨a, vs, rfl, h1, t1, r1⟩ := tup_rep hv3
    refine .inl ⟨a, vs, rfl, h1, fun hw => ?_, fun hw p hp => ?_⟩
    · refine q3 H3 ρ3 .refl hr3 _ ?_
      have ew : cutD xs lo hi = xs := by
        unfold cutD
        rw [← r1.length, hw.1, hw.2]
        simp [r1.length]
      show RepV X.K H3 ρ3 (.tup (cutD xs lo hi)) _
      rw [ew]
      exact hv3
    · obtain ⟨y1, y2, y3⟩ := new_tup hr3 hp (cut_rep (lo := lo) (hi := hi) r1)
      exact q3 _ ρ3 y1 y2 _ y3
  | _ => exact .inr (go q3)
end

/-! ### tests -/
section
variable {X : Cx} {W : WX} {e a b c : Expr} {f g h : FE} {t u : FT} {pos : Pos} {rest : List Expr}
def tTru (f : FE) : FT := fun σ S => (f σ S).bind fun d S1 => ofO (dTruth d S1) S1
def tBl (f : FE) : FT := fun σ S => (f σ S).bind fun d S1 => match d with
  | .bl k => .ok k S1
  | _ => .stuck
theorem dt_truth (ha : DE X W e f) (he : ∀ whole, isTrue e X.env whole = (do let v ← whole; standAt e.pos; holding [v] (truthy v)) := by intro _; rfl) : DT X W e (tTru f) := by
  refine ⟨PT.imp (pt_truth ha.pe he) fun σ H Q hq => ?_⟩
  obtain ⟨ρ, σd, S, he, hr, q⟩ := hq
  refine ⟨ρ, σd, S, he, hr, PR.imp (PR.bind q) (fun x S1 H1 ρ1 x1 hr1 q1 v hv => ?_) fun _ _ _ _ _ _ q => q⟩
  cases e1 : dTruth x S1 with
  | none => rw [e1] at q1; exact q1.elim
  | some k =>
    rw [e1] at q1
    exact ⟨k, dTruth_rep hr1 hv e1, q1 H1 ρ1 .refl hr1⟩
theorem tst_imp {te : TE} {σ : L2.St} {H : Hp} {Q : Bool → Hp → Prop} (hi : ∀ σ H Q, tE X.K W f σ H Q → te σ H Q) (hq : tT X.K W (tBl f) σ H Q) : tTest te σ H Q := by
  obtain ⟨ρ, σd, S, he, hr, q⟩ := hq
  refine hi _ _ _ ⟨ρ, σd, S, he, hr, PR.imp (PR.bind q) (fun x S1 H1 ρ1 x1 hr1 q1 v hv => ?_) fun _ _ _ _ _ _ q => q⟩
  cases x with
  | bl k =>
    unfold RepV at hv
    exact ⟨k, hv, q1 H1 ρ1 .refl hr1⟩
  | _ => exact q1.elim
theorem op_imp {r : R2} {o : D → D → Sto → Option D} {σ : L2.St} {H : Hp} {Q : VK} (ho : OpD X.K r o) (hq : tE X.K W (fBin o f g) σ H Q) : tOp r (tE X.K W f) (tE X.K W g) σ H Q := by
  obtain ⟨ρ, σd, S, he, hr, q⟩ := hq
  refine ⟨ρ, σd, S, he, hr, PR.imp (PR.bind q) (fun x S1 H1 ρ1 x1 hr1 q1 v hv => ?_) fun _ _ _ _ _ _ q => q⟩
  refine ⟨ρ1, σd, S1, he.ext x1, hr1, PR.imp (PR.bind q1) (fun y S2 H2 ρ2 x2 hr2 q2 u hu => ?_) fun _ _ _ _ _ _ q => q⟩
  cases e1 : o x y S2 with
  | none => rw [e1] at q2; exact q2.elim
  | some d =>
    rw [e1] at q2
    exact ho hr2 (hv.ext x2) hu e1 fun w H' x3 hr3 hw => q2 H' ρ2 x3 hr3 w hw
theorem dt_op {op : CmpOp} {r : R2} {o : D → D → Sto → Option D} (hp : PT X e (tTest (tOp r (tE X.K W f) (tE X.K W g)))) (ho : OpD X.K r o) : DT X W e (tBl (fBin o f g)) := ⟨PT.imp hp fun _ _ _ q => tst_imp (fun _ _ _ q => op_imp ho q) q⟩
theorem dt_lt (ha : DE X W a f) (hb : DE X W b g) : DT X W (.Compare a [.Lt] [b] pos) (tBl (fBin dLt f g)) := dt_op (op := .Lt) (pt_cmpR op_lt ha.pe hb.pe (nomark _)) opD_B0
theorem dt_le (ha : DE X W a f) (hb : DE X W b g) : DT X W (.Compare a [.LtE] [b] pos) (tBl (fBin dLe f g)) := dt_op (op := .LtE) (pt_cmpR op_le ha.pe hb.pe (nomark _)) opD_B0
theorem dt_gt (ha : DE X W a f) (hb : DE X W b g) : DT X W (.Compare a [.Gt] [b] pos) (tBl (fBin dGt f g)) := dt_op (op := .Gt) (pt_cmpR op_gt ha.pe hb.pe (nomark _)) opD_B0
theorem dt_ge (ha : DE X W a f) (hb : DE X W b g) : DT X W (.Compare a [.GtE] [b] pos) (tBl (fBin dGe f g)) := dt_op (op := .GtE) (pt_cmpR op_ge ha.pe hb.pe (nomark _)) opD_B0
theorem dt_eq (hu : X.A.units + 65 < cLine) (ha : DE X W a f) (hb : DE X W b g) : DT X W (.Compare a [.Eq] [b] pos) (tBl (fBin dEq f g)) := dt_op (op := .Eq) (pt_cmpR (op_eq_all (by omega)) ha.pe hb.pe (nomark _)) opD_eq
theorem dt_ne (hu : X.A.units + 65 < cLine) (ha : DE X W a f) (hb : DE X W b g) : DT X W (.Compare a [.NotEq] [b] pos) (tBl (fBin dNe f g)) := dt_op (op := .NotEq) (pt_cmpR (op_ne_all (by omega)) ha.pe hb.pe (nomark _)) opD_ne
theorem dt_is (ha : DE X W a f) (hb : DE X W b g) : DT X W (.Compare a [.Is] [b] pos) (tBl (fBin dIs f g)) := dt_op (op := .Is) (pt_cmpR op_isK ha.pe hb.pe (nomark _)) opD_is
theorem dt_isNot (ha : DE X W a f) (hb : DE X W b g) : DT X W (.Compare a [.IsNot] [b] pos) (tBl (fBin dIsNot f g)) := dt_op (op := .IsNot) (pt_cmpR op_isNotK ha.pe hb.pe (nomark _)) opD_isNot
theorem dt_le_le (ha : DE X W a f) (hb : DE X W b g) (hc : DE X W c h) (hm : lastMarks [.LtE, .LtE] [b, c] = false := by with_unfolding_all rfl) : DT X W (.Compare a [.LtE, .LtE] [b, c] pos) (tBl (fChain dLe dLe f g h)) := ⟨PT.imp (pt_chain op_le op_le ha.pe hb.pe hc.pe hm) fun _ _ _ q => tst_imp (fun _ _ _ q => chain_imp opD_B0 opD_B0 q) q⟩
theorem dt_le_lt (ha : DE X W a f) (hb : DE X W b g) (hc : DE X W c h) (hm : lastMarks [.LtE, .Lt] [b, c] = false := by with_unfolding_all rfl) : DT X W (.Compare a [.LtE, .Lt] [b, c] pos) (tBl (fChain dLe dLt f g h)) := ⟨PT.imp (pt_chain op_le op_lt ha.pe hb.pe hc.pe hm) fun _ _ _ q => tst_imp (fun _ _ _ q => chain_imp opD_B0 opD_B0 q) q⟩
theorem dt_lt_lt (ha : DE X W a f) (hb : DE X W b g) (hc : DE X W c h) (hm : lastMarks [.Lt, .Lt] [b, c] = false := by with_unfolding_all rfl) : DT X W (.Compare a [.Lt, .Lt] [b, c] pos) (tBl (fChain dLt dLt f g h)) := ⟨PT.imp (pt_chain op_lt op_lt ha.pe hb.pe hc.pe hm) fun _ _ _ q => tst_imp (fun _ _ _ q => chain_imp opD_B0 opD_B0 q) q⟩
theorem dt_gt_gt (ha : DE X W a f) (hb : DE X W b g) (hc : DE X W c h) (hm : lastMarks [.Gt, .Gt] [b, c] = false := by with_unfolding_all rfl) : DT X W (.Compare a [.Gt, .Gt] [b, c] pos) (tBl (fChain dGt dGt f g h)) := ⟨PT.imp (pt_chain op_gt op_gt ha.pe hb.pe hc.pe hm) fun _ _ _ q => tst_imp (fun _ _ _ q => chain_imp opD_B0 opD_B0 q) q⟩
def tAndD (t u : FT) : FT := fun σ S => (t σ S).bind fun k S1 => if k = true then u σ S1 else .ok false S1
def tOrD (t u : FT) : FT := fun σ S => (t σ S).bind fun k S1 => if k = true then .ok true S1 else u σ S1
def tNotD (t : FT) : FT := fun σ S => (t σ S).bind fun k S1 => .ok (!k) S1
theorem dw_and1 (ha : DT X W a t) : DW X W (.BoolOp .And [a] pos) t := ⟨pw_and1 ha.pt⟩
theorem dw_or1 (ha : DT X W a t) : DW X W (.BoolOp .Or [a] pos) t := ⟨pw_or1 ha.pt⟩
theorem dw_and (ha : DT X W a t) (hb : DW X W (.BoolOp .And (b :: rest) pos) u) : DW X W (.BoolOp .And (a :: b :: rest) pos) (tAndD t u) := by
  refine ⟨PW.imp (pw_and ha.pt hb.pw) fun σ H Q hq => ?_⟩
  obtain ⟨ρ, σd, S, he, hr, q⟩ := hq
  refine ⟨ρ, σd, S, he, hr, PR.imp (PR.bind q) (fun k S1 H1 ρ1 x1 hr1 q1 => ?_) fun _ _ _ _ _ _ q => q⟩
  cases k with
  | true => exact ⟨ρ1, σd, S1, he.ext x1, hr1, q1⟩
  | false => exact q1 H1 ρ1 .refl hr1
theorem dw_or (ha : DT X W a t) (hb : DW X W (.BoolOp .Or (b :: rest) pos) u) : DW X W (.BoolOp .Or (a :: b :: rest) pos) (tOrD t u) := by
  refine ⟨PW.imp (pw_or ha.pt hb.pw) fun σ H Q hq => ?_⟩
  obtain ⟨ρ, σd, S, he, hr, q⟩ := hq
  refine ⟨ρ, σd, S, he, hr, PR.imp (PR.bind q) (fun k S1 H1 ρ1 x1 hr1 q1 => ?_) fun _ _ _ _ _ _ q => q⟩
  cases k with
  | false => exact ⟨ρ1, σd, S1, he.ext x1, hr1, q1⟩
  | true => exact q1 H1 ρ1 .refl hr1
theorem dt_not (ha : DT X W a t) : DT X W (.UnaryOp .Not a pos) (tNotD t) := by
  refine ⟨PT.imp (pt_not ha.pt) fun σ H Q hq => ?_⟩
  obtain ⟨ρ, σd, S, he, hr, q⟩ := hq
  exact ⟨ρ, σd, S, he, hr, PR.imp (PR.bind q) (fun k S1 H1 ρ1 x1 hr1 q1 => q1 H1 ρ1 .refl hr1) fun _ _ _ _ _ _ q => q⟩
/-- a if t else b -/
def fIf (t : FT) (f g : FE) : FE := fun σ S => (t σ S).bind fun k S1 => if k = true then f σ S1 else g σ S1
theorem de_if (hc : DT X W c t) (ha : DE X W a f) (hb : DE X W b g) : DE X W (.IfExp c a b pos) (fIf t f g) := by
  refine ⟨PE.imp (pe_ifExp hc.pt ha.pe hb.pe) fun σ H Q hq => ?_⟩
  obtain ⟨ρ, σd, S, he, hr, q⟩ := hq
  refine ⟨ρ, σd, S, he, hr, PR.imp (PR.bind q) (fun k S1 H1 ρ1 x1 hr1 q1 => ?_) fun _ _ _ _ _ _ q => q⟩
  cases k with
  | true => exact ⟨ρ1, σd, S1, he.ext x1, hr1, q1⟩
  | false => exact ⟨ρ1, σd, S1, he.ext x1, hr1, q1⟩
end
end DL
end

section
set_option Elab.async false
set_option linter.all false
set_option maxRecDepth 100000
set_option maxHeartbeats 4000000
namespace DL
open PySem PySem.Spec PyProof.Rows L2

/-! ### defs as functions of data -/
abbrev Fn := List D → Sto → Res D
/-- the promise of a def with n parameters, by its function of data -/
def spD (K : PySem.W.Frag) (n : Nat) (F : Fn) : Sp := fun vs H Q E => ∃ ρ ds S, vs.length = n ∧ RepVs K H ρ ds vs ∧ HRep K H ρ S ∧
  PR K H ρ (F ds S) (fun d _ H' ρ' => ∀ v, RepV K H' ρ' d v → Q v H') (fun c _ H' _ => E c none H')
/-- a def keeps its promise, where no repr runs around it -/
structure FnG (P : Program) (w : World) (K : PySem.W.Frag) (mg : Str → Option Value) (base : Heap) (k : Nat) (f : Addr) (fd : FuncData) (ps : List Str) (sp : Sp) : Prop where
  len : ∀ vs H Q E, sp vs H Q E → vs.length = ps.length
  run : ∀ (A : Around) (outer : List Env) (s : Shared) (H : Hp) (args : Args) (us : List Value) (vs : List V) (Q : VK) (E : XK),
    Room k A → A.guards = some [] →
    Env0 P w K mg base A outer s H →
    BindsTo s fd args (ps.zip us) → Vals vs us → sp vs H Q E →
    codeAny (model P w) A (.call (.ref f) args) (CR (L2.CX P w) outer P w H s Q E) s
section
variable {P : Program} {w : World} {K : PySem.W.Frag} {mg : Str → Option Value} {base : Heap}
theorem FnG.mono {j k : Nat} {f : Addr} {fd : FuncData} {ps : List Str} {sp : Sp}
    (F : FnG P w K mg base j f fd ps sp) (h : j ≤ k) : FnG P w K mg base k f fd ps sp :=
  ⟨F.len, fun A outer s H args us vs Q E hr => F.run A outer s H args us vs Q E (hr.mono h)⟩
theorem FnG.imp {k : Nat} {f : Addr} {fd : FuncData} {ps : List Str} {sp sp' : Sp}
    (F : FnG P w K mg base k f fd ps sp) (h : ∀ vs H Q E, sp' vs H Q E → sp vs H Q E) : FnG P w K mg base k f fd ps sp' :=
  ⟨fun vs H Q E q => F.len vs H Q E (h _ _ _ _ q), fun A outer s H args us vs Q E hr hg he hb hv hs => F.run A outer s H args us vs Q E hr hg he hb hv (h _ _ _ _ hs)⟩
/-- a def by its body -/
theorem fnG_of {k : Nat} {f : Addr} {nm qual : Str} {params : Arguments} {body : List Stmt} {scp : Scope} {dV kV doc pm cdv ct oc : Value} {an od : Option Addr} {osl : Array (Option Value)} {N ps : List Str} {sp : Sp}
    (lk : K.lookup f = some ⟨oc, od, .func (PySem.W.fnOf nm qual params body scp dV kV doc pm an cdv ct), osl⟩)
    (hcd : PySem.W.codeIn K cdv qual = true) (SC : FnScope N ps scp) (len : ∀ vs H Q E, sp vs H Q E → vs.length = ps.length)
    (hb0 : ∀ (A : Around) (outer : List Env) (s : Shared) (H : Hp) (vs : List V) (Q : VK) (E : XK),
      Room k (A.deeper (envOfC qual scp s.heap.objs.size f cdv)) → (A.deeper (envOfC qual scp s.heap.objs.size f cdv)).guards = some [] → sp vs H Q E →
      ∃ t, PSs (cxOf (L2.CX P w) P w K mg base N qual scp f cdv A outer s H E) body t ∧ t { nx := fun _ H' => Q .non H', rt := Q } (start N vs) H) :
    FnG P w K mg base (k + 1) f (PySem.W.fnOf nm qual params body scp dV kV doc pm an cdv ct) ps sp := by
  refine ⟨len, ?_⟩
  intro A outer s H args us vs Q E room gd en bnd rel want
  have hlen := len _ _ _ _ want
  have stays : ∀ b o, base.get? b = some o → s.heap.get? b = some o := fun b o e => (en.bs b o e).1
  have inK : K.In s.heap := en.mod.kin.keeps stays
  have nolim : s.heap.NoLimit := en.mod.nolimit.keeps stays
  have kinds : ∀ y ∈ ps.zip us, scp.names.lookup y.1 = some .local ∨ (scp.names.lookup y.1 = some .cell ∧ ((cellsFrom (s.heap.objs.size + 1) scp.names []).lookup y.1).isSome = true) := by
    rintro ⟨n, v⟩ hy
    rcases SC.par n (List.of_mem_zip hy).1 with q | q
    · left; exact q
    · right; exact ⟨q, PySem.W.cellsFrom_some _ _ _ (Or.inl q)⟩
  refine codeAny_call_function room.depth (inK _ _ lk) rfl SC.co SC.gen rfl (PySem.W.codeRec_of inK hcd) (bnd _ _ _ _ ?_)
  refine wpAny_newFunctionEnv_cells SC.kind kinds ?_
  intro env he s1 xin
  subst he
  refine ⟨nolim.keeps xin.toInCall.keep, codeAny_func ?_⟩
  have gd' : (A.deeper (envOfC qual scp s.heap.objs.size f cdv)).guards = some [] := gd
  obtain ⟨t, ht, hq⟩ := hb0 A outer s H vs Q E (room.deeper _) gd' want
  have I0 : Inv (cxOf (L2.CX P w) P w K mg base N qual scp f cdv A outer s H E) [] (start N vs) H s1 := inv_start SC room.hd en hlen rel xin
  have out : ∀ {σ' : L2.St} {H' : Hp} {v : V} {u : Value} {s' : Shared}, Inv (cxOf (L2.CX P w) P w K mg base N qual scp f cdv A outer s H E) [] σ' H' s' → RelV v u → Q v H' → CE outer P w H s Q u s' := by
    intro σ' H' v u s' J rv q
    exact ⟨v, H', J.os, J.bare, J.base, J.hok, rv, q⟩
  refine wpAny_mono (ht.run [] s1 (start N vs) H _ I0 hq) ?_ (fun _ _ h => h)
  intro fl s' hs
  match fl, hs with
  | .ret u, ⟨v, σ', H', J, rv, q⟩ => exact out J rv q
  | .next, ⟨σ', H', J, q⟩ => exact out (v := V.non) (u := Value.none) J rfl q
  | .brk, ⟨_, _, _, q⟩ => exact q.elim
  | .cont, ⟨_, _, _, q⟩ => exact q.elim
end

section
variable {X : Cx} {W : WX} {e a b c : Expr} {es : List Expr} {f g h : FE} {fs : FA} {p pos : Pos}
def fCall (F : Fn) (fs : FA) : FE := fun σ S => (fs σ S).bind fun ds S1 => F ds S1
theorem run_g {k n : Nat} {q : Addr} {fd : FuncData} {ps : List Str} {F : Fn} {pins : List (Addr × Obj)} {σ : L2.St} {H : Hp} {s : Shared} {Q : VK} {us : List Value} {vs : List V} (cx : Ctx X W)
    (G : FnG X.prog X.w X.K X.mg X.base k q fd ps (spD X.K n F)) (hr : Room k X.A) (hb : Binds X.K fd ps []) (I : Inv X pins σ H s) (r : Vals vs us) (hq : spD X.K n F vs H Q (WE W σ)) :
    wpAny (model X.prog X.w) X.A (call (.ref q) us) (EP X pins σ Q) X.xe s := by
  have hl : us.length = ps.length := r.length.symm.trans (G.len _ _ _ _ hq)
  have bb := hb s us I.kIn (by rw [List.append_nil]; exact hl)
  rw [List.append_nil] at bb
  refine wpAny_call (codeAny_mono (G.run X.A X.stack s H ⟨us, []⟩ us vs Q (WE W σ) hr cx.guards I.env0 bb r hq) ?_)
  intro r s' z
  match r, z with
  | .error e, z => exact passAt cx.takes σ pins H s e s' I z
  | .ok (.ret u), z => exact I.after z
  | .ok .next, z => exact z.elim
  | .ok .brk, z => exact z.elim
  | .ok .cont, z => exact z.elim
/-- a def of the module called -/
theorem de_call {k n : Nat} {q : Addr} {fd : FuncData} {ps : List Str} {F : Fn} {x : Str} (cx : Ctx X W) (G : FnG X.prog X.w X.K X.mg X.base k q fd ps (spD X.K n F)) (hr : Room k X.A) (hm : X.mg x = some (.ref q)) (hk : PySem.W.keepIn X.K (.ref q) = true)
    (hb : Binds X.K fd ps []) (ha : DA X W (e :: es) fs) (hn : (e :: es).length = n := by rfl) (hg : Gl X x := by rfl)
    (hdb : (x == ("__debug__" : Str)) = false := by decide) (he : starEach (e :: es) X.env = (false, eval e X.env) :: starEach es X.env := by rfl) (hpl : (backTo pos (starEach es X.env)).any (·.1) = false := by rfl) :
    DE X W (.Call (.Name x p) (e :: es) [] pos) (fCall F fs) := by
  refine ⟨⟨fun pins s σ H Q I hq => ?_⟩⟩
  refine wpAny_Call_Name_kw (ld_glob I hg hm ?_ hdb)
  obtain ⟨ρ, σd, S, hee, hre, q0⟩ := hq
  have q1 : tA X.K W fs σ H (fun vs H1 => spD X.K n F vs H1 Q (WE W σ)) := by
    refine ⟨ρ, σd, S, hee, hre, ?_⟩
    cases e1 : fs σd S with
    | stuck => unfold fCall at q0; rw [e1] at q0; exact q0.elim
    | raise c S1 => unfold fCall at q0; rw [e1] at q0; exact q0
    | ok ds S1 =>
      unfold fCall at q0
      rw [e1] at q0
      intro H' ρ' x' hr' vs hvs
      exact ⟨ρ', ds, S1, by rw [hvs.length, ha.len _ _ _ _ e1]; exact hn, hvs, hr', PR.ext x' (show PR X.K H ρ (F ds S1) _ _ from q0)⟩
  refine PySem.W.callWith_K (h₀ := X.base) I.ok.mod.kin hk (thn (ha.pa.run pos pins s σ H _ I q1) fun us s1 ⟨vs, H1, I1, r, q2⟩ => ⟨I1.kIn, ?_⟩) he hpl
  exact run_g cx G hr hb I1 r q2

/-! ### built-ins -/
def CallD (K : PySem.W.Frag) (r : List V → Hp → VK → Prop) (c : List D → Sto → Option D) : Prop := ∀ {vs : List V} {H : Hp} {ρ : Rho} {S : Sto} {ds : List D} {d : D} {Q : VK}, HRep K H ρ S → RepVs K H ρ ds vs → c ds S = some d →
  (∀ v H', Ext H ρ H' ρ → HRep K H' ρ S → RepV K H' ρ d v → Q v H') → r vs H Q
def fB (c : List D → Sto → Option D) (fs : FA) : FE := fun σ S => (fs σ S).bind fun ds S1 => ofO (c ds S1) S1
theorem cb_imp {r : List V → Hp → VK → Prop} {c : List D → Sto → Option D} {σ : L2.St} {H : Hp} {Q : VK} (hd : CallD X.K r c) (hq : tE X.K W (fB c fs) σ H Q) : tCB r (tA X.K W fs) σ H Q := by
  obtain ⟨ρ, σd, S, he, hr, q⟩ := hq
  refine ⟨ρ, σd, S, he, hr, PR.imp (PR.bind q) (fun ds S1 H1 ρ1 x1 hr1 q1 vs hvs => ?_) fun _ _ _ _ _ _ q => q⟩
  cases e1 : c ds S1 with
  | none => rw [e1] at q1; exact q1.elim
  | some d =>
    rw [e1] at q1
    exact hd hr1 hvs e1 fun v H' x2 hr2 hv => q1 H' ρ1 x2 hr2 v hv
theorem de_b {x : Str} {id : String} {r : List V → Hp → VK → Prop} {c : List D → Sto → Option D} (hc : CallR X (.builtin id) r) (hd : CallD X.K r c) (hm : X.mg x = none) (hv : bootBuiltins x = some (.builtin id)) (ha : DA X W (e :: es) fs) (hg : Gl X x := by rfl) (hn : x ≠ "__name__" := by decide) (hdb : (x == ("__debug__" : Str)) = false := by decide)
    (he : starEach (e :: es) X.env = (false, eval e X.env) :: starEach es X.env := by rfl) (hpl : (backTo pos (starEach es X.env)).any (·.1) = false := by rfl) : DE X W (.Call (.Name x p) (e :: es) [] pos) (fB c fs) :=
  ⟨PE.imp (pe_callB hc hg hm hv ha.pa hn hdb he hpl) fun _ _ _ q => cb_imp hd q⟩
theorem de_ty {x : Str} {T : String} {r : List V → Hp → VK → Prop} {c : List D → Sto → Option D} (hc : CallR X (.type T) r) (hd : CallD X.K r c) (hm : X.mg x = none) (hv : bootBuiltins x = some (.type T)) (ha : DA X W (e :: es) fs) (hg : Gl X x := by rfl) (hn : x ≠ "__name__" := by decide) (hdb : (x == ("__debug__" : Str)) = false := by decide)
    (he : starEach (e :: es) X.env = (false, eval e X.env) :: starEach es X.env := by rfl) (hpl : (backTo pos (starEach es X.env)).any (·.1) = false := by rfl) : DE X W (.Call (.Name x p) (e :: es) [] pos) (fB c fs) :=
  ⟨PE.imp (pe_callTy hc hg hm hv ha.pa hn hdb he hpl) fun _ _ _ q => cb_imp hd q⟩

def dLen : D → Sto → Option D
  | .str x, _ => if x.length ≤ BIG then some (.int x.length) else none
  | .tup xs, _ => some (.int xs.length)
  | d, S => (anyL d S).map fun xs => .int xs.length
def cLen : List D → Sto → Option D
  | [d], S => dLen d S
  | _, _ => none
theorem callD_len {K : PySem.W.Frag} : CallD K (fun xs H Q => ∃ x n, xs = [x] ∧ LenV K x H n ∧ Q (.int n) H) cLen := by
  intro vs H ρ S ds d Q hr hvs e q
  match ds, e with
  | [x], e =>
    obtain ⟨v, vr, rfl, h1, h2⟩ := hvs.of_cons
    rw [h2.of_nil]
    have e' : dLen x S = some d := e
    have go : (anyL x S).map (fun xs => D.int xs.length) = some d → ∃ x n, [v] = [x] ∧ LenV K x H n ∧ Q (.int n) H := fun e => by
      obtain ⟨xs, e1, rfl⟩ := Option.map_eq_some_iff.mp e
      obtain ⟨a, vs, rfl, h1, r1⟩ := anyL_rep hr h1 e1
      exact ⟨_, xs.length, rfl, .inl ⟨vs, h1, r1.length.symm⟩, q _ H .refl hr (by unfold RepV; rfl)⟩
    cases x with
    | str x =>
      unfold RepV at h1; subst h1
      simp only [dLen] at e'
      split at e'
      · rename_i c
        cases e'
        rw [big_line] at c
        exact ⟨_, _, rfl, ⟨c, rfl⟩, q _ H .refl hr (by unfold RepV; rfl)⟩
      · cases e'
    | tup xs =>
      obtain ⟨a, vs, rfl, h1, _, r1⟩ := tup_rep h1
      cases e'
      exact ⟨_, xs.length, rfl, .inr ⟨vs, h1, r1.length.symm⟩, q _ H .refl hr (by unfold RepV; rfl)⟩
    | lst xs => exact go e'
    | frz xs => exact go e'
    | ref n => exact go e'
    | _ => cases e'
/-- the name of a value's class -/
def clsOf : D → Sto → Option String
  | .non, _ => some "NoneType"
  | .bl _, _ => some "bool"
  | .int _, _ => some "int"
  | .str _, _ => some "str"
  | .tup _, _ => some "tuple"
  | .emp, _ => some "dict"
  | d, S => (anyL d S).map fun _ => "list"
theorem tyx_of {K : PySem.W.Frag} {H : Hp} {ρ : Rho} {S : Sto} {d : D} {v : V} {t : String} (hr : HRep K H ρ S) (h : RepV K H ρ d v) (e : clsOf d S = some t) : TyX K H v (.type t) := by
  have sq : ∀ {a vs}, SqL K H a vs → TyX K H (.ref a) (.type "list") := fun {a vs} h => by
    rcases h with (h | ⟨o, h⟩) | ⟨o, its, n, h1, h2, _⟩
    · exact .base (.lst h)
    · exact .base (.frz h)
    · exact .kList h1 h2
  have go : (anyL d S).map (fun _ => "list") = some t → TyX K H v (.type t) := fun e => by
    obtain ⟨xs, e1, rfl⟩ := Option.map_eq_some_iff.mp e
    obtain ⟨a, vs, rfl, h1, r1⟩ := anyL_rep hr h e1
    exact sq h1
  cases d with
  | non => unfold RepV at h; subst h; cases e; exact .base .non
  | bl b => unfold RepV at h; subst h; cases e; exact .base (.bl b)
  | int b => unfold RepV at h; subst h; cases e; exact .base (.int b)
  | str b => unfold RepV at h; subst h; cases e; exact .base (.str b)
  | tup xs =>
    obtain ⟨a, vs, rfl, h1, _, r1⟩ := tup_rep h
    cases e
    rcases h1 with (h | ⟨o, h⟩) | ⟨o, its, n, h1, h2, _⟩
    · exact .base (.tup h)
    · exact .fTuple h
    · exact .kTuple h1 h2
  | emp =>
    unfold RepV at h
    obtain ⟨a, rfl, h1⟩ := h
    cases e
    exact .base (.dK h1.2)
  | lst xs => exact go e
  | frz xs => exact go e
  | ref n => exact go e
  | cst u => cases e
def cIsi : List D → Sto → Option D
  | [d, .cst (.ty n)], S => (clsOf d S).bind fun t => (kitB t n).map fun b => .bl b
  | _, _ => none
theorem callD_isi {K : PySem.W.Frag} : CallD K (rIsi K) cIsi := by
  intro vs H ρ S ds d Q hr hvs e q
  match ds, e with
  | [x, .cst (.ty n)], e =>
    obtain ⟨v, vr, rfl, h1, h2⟩ := hvs.of_cons
    obtain ⟨u, vr, rfl, h3, h4⟩ := h2.of_cons
    rw [h4.of_nil]
    have e' : ((clsOf x S).bind fun t => (kitB t n).map fun b => D.bl b) = some d := e
    obtain ⟨t, e1, e'⟩ := Option.bind_eq_some_iff.mp e'
    obtain ⟨b, e2, rfl⟩ := Option.map_eq_some_iff.mp e'
    unfold RepV at h3
    subst h3
    exact ⟨v, .ty n, _, _, b, rfl, .ty n, tyx_of hr h1 e1, kit_ty e2, q _ H .refl hr (by unfold RepV; rfl)⟩
def dTup : D → Sto → Option D
  | .tup xs, _ => some (.tup xs)
  | d, S => (anyL d S).map .tup
def cTup : List D → Sto → Option D
  | [d], S => dTup d S
  | _, _ => none
theorem callD_tup {K : PySem.W.Frag} : CallD K (fun xs H Q => ∃ p ys, xs = [.ref p] ∧ ((SqL K H p ys ∧ ∀ l, H l = none → Q (.ref l) (upd H l (.tup ys))) ∨ (SqT K H p ys ∧ Q (.ref p) H))) cTup := by
  intro vs H ρ S ds d Q hr hvs e q
  match ds, e with
  | [x], e =>
    obtain ⟨v, vr, rfl, h1, h2⟩ := hvs.of_cons
    rw [h2.of_nil]
    have go : (anyL x S).map D.tup = some d → ∃ p ys, [v] = [.ref p] ∧ ((SqL K H p ys ∧ ∀ l, H l = none → Q (.ref l) (upd H l (.tup ys))) ∨ (SqT K H p ys ∧ Q (.ref p) H)) := fun e => by
      obtain ⟨xs, e1, rfl⟩ := Option.map_eq_some_iff.mp e
      obtain ⟨a, vs, rfl, h1, r1⟩ := anyL_rep hr h1 e1
      refine ⟨a, vs, rfl, .inl ⟨h1, fun p hp => ?_⟩⟩
      obtain ⟨y1, y2, y3⟩ := new_tup hr hp r1
      exact q _ _ y1 y2 y3
    replace e : dTup x S = some d := e
    cases x with
    | tup xs =>
      have hv := h1
      obtain ⟨a, vs, rfl, h1, _, r1⟩ := tup_rep h1
      cases e
      exact ⟨a, vs, rfl, .inr ⟨h1, q _ H .refl hr hv⟩⟩
    | lst xs => exact go e
    | frz xs => exact go e
    | ref n => exact go e
    | _ => cases e
/-- list(x), a list that is not changed any more -/
def dLst : D → Sto → Option D
  | .tup xs, _ => some (.lst xs)
  | d, S => (anyL d S).map .lst
def cLst : List D → Sto → Option D
  | [d], S => dLst d S
  | _, _ => none
theorem callD_lst {K : PySem.W.Frag} : CallD K (fun xs H Q => ∃ p ys, xs = [.ref p] ∧ (SqL K H p ys ∨ SqT K H p ys) ∧ ∀ l, H l = none → Q (.ref l) (upd H l (.lst ys))) cLst := by
  intro vs H ρ S ds d Q hr hvs e q
  match ds, e with
  | [x], e =>
    obtain ⟨v, vr, rfl, h1, h2⟩ := hvs.of_cons
    rw [h2.of_nil]
    have go : (anyL x S).map D.lst = some d → ∃ p ys, [v] = [.ref p] ∧ (SqL K H p ys ∨ SqT K H p ys) ∧ ∀ l, H l = none → Q (.ref l) (upd H l (.lst ys)) := fun e => by
      obtain ⟨xs, e1, rfl⟩ := Option.map_eq_some_iff.mp e
      obtain ⟨a, vs, rfl, h1, r1⟩ := anyL_rep hr h1 e1
      refine ⟨a, vs, rfl, .inl h1, fun p hp => ?_⟩
      obtain ⟨y1, y2, y3⟩ := new_lst hr hp r1
      exact q _ _ y1 y2 y3
    replace e : dLst x S = some d := e
    cases x with
    | tup xs =>
      obtain ⟨a, vs, rfl, h1, _, r1⟩ := tup_rep h1
      cases e
      refine ⟨a, vs, rfl, .inr h1, fun p hp => ?_⟩
      obtain ⟨y1, y2, y3⟩ := new_lst hr hp r1
      exact q _ _ y1 y2 y3
    | lst xs => exact go e
    | frz xs => exact go e
    | ref n => exact go e
    | _ => cases e
def cInt : List D → Sto → Option D
  | [.int i], _ => some (.int i)
  | [.bl b], _ => some (.int (if b = true then 1 else 0))
  | _, _ => none
theorem callD_int {K : PySem.W.Frag} : CallD K (fun xs H Q => (∃ i, xs = [.int i] ∧ Q (.int i) H) ∨ ∃ k, xs = [.bl k] ∧ Q (.int (if k then 1 else 0)) H) cInt := by
  intro vs H ρ S ds d Q hr hvs e q
  match ds, e with
  | [.int i], e =>
    obtain ⟨v, vr, rfl, h1, h2⟩ := hvs.of_cons
    rw [h2.of_nil]
    unfold RepV at h1
    cases e
    exact .inl ⟨i, by rw [h1], q _ H .refl hr (by unfold RepV; rfl)⟩
  | [.bl b], e =>
    obtain ⟨v, vr, rfl, h1, h2⟩ := hvs.of_cons
    rw [h2.of_nil]
    unfold RepV at h1
    cases e
    exact .inr ⟨b, by rw [h1], q _ H .refl hr (by unfold RepV; rfl)⟩
def cAbs : List D → Sto → Option D
  | [.int i], _ => some (.int (if i < 0 then -i else i))
  | _, _ => none
theorem callD_abs {K : PySem.W.Frag} : CallD K (fun xs H Q => ∃ i, xs = [.int i] ∧ Q (.int (if i < 0 then -i else i)) H) cAbs := by
  intro vs H ρ S ds d Q hr hvs e q
  match ds, e with
  | [.int i], e =>
    obtain ⟨v, vr, rfl, h1, h2⟩ := hvs.of_cons
    rw [h2.of_nil]
    unfold RepV at h1
    cases e
    exact ⟨i, by rw [h1], q _ H .refl hr (by unfold RepV; rfl)⟩
def cMax2 : List D → Sto → Option D
  | [.int i, .int j], _ => some (.int (if j > i then j else i))
  | _, _ => none
def cMin2 : List D → Sto → Option D
  | [.int i, .int j], _ => some (.int (if j < i then j else i))
  | _, _ => none
theorem two_ints {K : PySem.W.Frag} {H : Hp} {ρ : Rho} {i j : Int} {vs : List V} (h : RepVs K H ρ [.int i, .int j] vs) : vs = [.int i, .int j] := by
  obtain ⟨v, vr, rfl, h1, h2⟩ := h.of_cons
  obtain ⟨u, vr, rfl, h3, h4⟩ := h2.of_cons
  rw [h4.of_nil]
  unfold RepV at h1 h3
  rw [h1, h3]
theorem callD_max2 {K : PySem.W.Frag} : CallD K (fun xs H Q => ∃ i j, xs = [.int i, .int j] ∧ Q (.int (if j > i then j else i)) H) cMax2 := by
  intro vs H ρ S ds d Q hr hvs e q
  match ds, e with
  | [.int i, .int j], e => cases e; exact ⟨i, j, two_ints hvs, q _ H .refl hr (by unfold RepV; rfl)⟩
theorem callD_min2 {K : PySem.W.Frag} : CallD K (fun xs H Q => ∃ i j, xs = [.int i, .int j] ∧ Q (.int (if j < i then j else i)) H) cMin2 := by
  intro vs H ρ S ds d Q hr hvs e q
  match ds, e with
  | [.int i, .int j], e => cases e; exact ⟨i, j, two_ints hvs, q _ H .refl hr (by unfold RepV; rfl)⟩
end
end DL
end

section
set_option Elab.async false
set_option linter.all false
set_option maxRecDepth 100000
set_option maxHeartbeats 4000000
namespace DL
open PySem PySem.Spec PyProof.Rows L2

/-! ### statements -/
inductive RS where
  | nx (σ : En) (S : Sto) | rt (d : D) (S : Sto) | bk (σ : En) (S : Sto) | ct (σ : En) (S : Sto) | raise (c : Value) (σ : En) (S : Sto) | stuck
abbrev FS := En → Sto → RS
def RS.of {α : Type} (r : Res α) (σ : En) (k : α → Sto → RS) : RS := match r with
  | .ok a S => k a S
  | .raise c S => .raise c σ S
  | .stuck => .stuck
@[simp] theorem RS.of_ok {α : Type} (a : α) (S : Sto) (σ : En) (k : α → Sto → RS) : RS.of (.ok a S) σ k = k a S := rfl
@[simp] theorem RS.of_raise {α : Type} (c : Value) (S : Sto) (σ : En) (k : α → Sto → RS) : RS.of (.raise c S : Res α) σ k = .raise c σ S := rfl
@[simp] theorem RS.of_stuck {α : Type} (σ : En) (k : α → Sto → RS) : RS.of (.stuck : Res α) σ k = .stuck := rfl
def RS.seq (r : RS) (k : FS) : RS := match r with
  | .nx σ S => k σ S
  | r => r
@[simp] theorem RS.seq_nx (σ : En) (S : Sto) (k : FS) : (RS.nx σ S).seq k = k σ S := rfl
@[simp] theorem RS.seq_rt (d : D) (S : Sto) (k : FS) : (RS.rt d S).seq k = .rt d S := rfl
@[simp] theorem RS.seq_bk (σ : En) (S : Sto) (k : FS) : (RS.bk σ S).seq k = .bk σ S := rfl
@[simp] theorem RS.seq_ct (σ : En) (S : Sto) (k : FS) : (RS.ct σ S).seq k = .ct σ S := rfl
@[simp] theorem RS.seq_raise (c : Value) (σ : En) (S : Sto) (k : FS) : (RS.raise c σ S).seq k = .raise c σ S := rfl

def PRS (K : PySem.W.Frag) (H : Hp) (ρ : Rho) (W : WX) (Z : Ends) : RS → Prop
  | .nx σd S => ∀ σ' H' ρ', Ext H ρ H' ρ' → HRep K H' ρ' S → RepE K H' ρ' σd σ' → Z.nx σ' H'
  | .rt d S => ∀ v H' ρ', Ext H ρ H' ρ' → HRep K H' ρ' S → RepV K H' ρ' d v → Z.rt v H'
  | .bk σd S => ∀ σ' H' ρ', Ext H ρ H' ρ' → HRep K H' ρ' S → RepE K H' ρ' σd σ' → Z.bk σ' H'
  | .ct σd S => ∀ σ' H' ρ', Ext H ρ H' ρ' → HRep K H' ρ' S → RepE K H' ρ' σd σ' → Z.ct σ' H'
  | .raise c σd S => ∀ σ' H' ρ', Ext H ρ H' ρ' → HRep K H' ρ' S → RepE K H' ρ' σd σ' → W c none σ' H'
  | .stuck => False
section
variable {K : PySem.W.Frag} {H H1 : Hp} {ρ ρ1 : Rho} {W W' : WX} {Z Z' : Ends}
theorem PRS.ext {r : RS} (x : Ext H ρ H1 ρ1) (h : PRS K H ρ W Z r) : PRS K H1 ρ1 W Z r := by
  cases r with
  | stuck => exact h
  | _ => exact fun u H' ρ' x' => h u H' ρ' (x.trans x')
theorem PRS.imp {r : RS} (h : PRS K H ρ W Z r) (h1 : ∀ σ H, Z.nx σ H → Z'.nx σ H) (h2 : ∀ v H, Z.rt v H → Z'.rt v H) (h3 : ∀ σ H, Z.bk σ H → Z'.bk σ H) (h4 : ∀ σ H, Z.ct σ H → Z'.ct σ H) (h5 : ∀ c d σ H, W c d σ H → W' c d σ H) : PRS K H ρ W' Z' r := by
  cases r with
  | stuck => exact h
  | nx _ _ => exact fun u H' ρ' x' a b => h1 _ _ (h u H' ρ' x' a b)
  | rt _ _ => exact fun u H' ρ' x' a b => h2 _ _ (h u H' ρ' x' a b)
  | bk _ _ => exact fun u H' ρ' x' a b => h3 _ _ (h u H' ρ' x' a b)
  | ct _ _ => exact fun u H' ρ' x' a b => h4 _ _ (h u H' ρ' x' a b)
  | raise _ _ _ => exact fun u H' ρ' x' a b => h5 _ _ _ _ (h u H' ρ' x' a b)
theorem PRS.of {α : Type} {r : Res α} {σd : En} {σ : L2.St} {k : α → Sto → RS} (he : RepE K H ρ σd σ) (h : PRS K H ρ W Z (RS.of r σd k)) : PR K H ρ r (fun a S1 H1 ρ1 => PRS K H1 ρ1 W Z (k a S1)) (fun c _ H1 _ => W c none σ H1) := by
  cases r with
  | ok a S => exact fun H' ρ' x hr => PRS.ext x h
  | raise c S => exact fun H' ρ' x hr => h σ H' ρ' x hr (he.ext x)
  | stuck => exact h
end
def tS (K : PySem.W.Frag) (W : WX) (g : FS) : TS := fun Z σ H => ∃ ρ σd S, RepE K H ρ σd σ ∧ HRep K H ρ S ∧ PRS K H ρ W Z (g σd S)
structure DS (X : Cx) (W : WX) (st : Stmt) (g : FS) : Prop where
  ps : PS X st (tS X.K W g)
structure DSs (X : Cx) (W : WX) (st : List Stmt) (g : FS) : Prop where
  pss : PSs X st (tS X.K W g)

def sNil : FS := fun σ S => .nx σ S
def sSeq (g h : FS) : FS := fun σ S => (g σ S).seq h
def sExpr (f : FE) : FS := fun σ S => RS.of (f σ S) σ fun _ S1 => .nx σ S1
def sRet (f : FE) : FS := fun σ S => RS.of (f σ S) σ fun d S1 => .rt d S1
def sRetN : FS := fun _ S => .rt .non S
def sBreak : FS := fun σ S => .bk σ S
def sCont : FS := fun σ S => .ct σ S
def sSet (i : Nat) (f : FE) : FS := fun σ S => RS.of (f σ S) σ fun d S1 => .nx (σ.set i (some d)) S1
def sIf (t : FT) (g h : FS) : FS := fun σ S => RS.of (t σ S) σ fun k S1 => if k = true then g σ S1 else h σ S1
def sRaise (c : Addr) : FS := fun σ S => .raise (.ref c) σ S

section
variable {X : Cx} {W : WX} {st : Stmt} {rest body orelse : List Stmt} {e a b c : Expr} {f : FE} {t : FT} {g h : FS} {pos pos' : Pos}
theorem dss_nil : DSs X W [] sNil := by
  refine ⟨PSs.imp pss_nil fun Z σ H hq => ?_⟩
  obtain ⟨ρ, σd, S, he, hr, q⟩ := hq
  exact q σ H ρ .refl hr he
theorem dss_one (h1 : DS X W st g) : DSs X W [st] g := ⟨pss_one h1.ps⟩
theorem dss_cons (h1 : DS X W st g) (h2 : DSs X W rest h) : DSs X W (st :: rest) (sSeq g h) := by
  refine ⟨PSs.imp (pss_cons h1.ps h2.pss) fun Z σ H hq => ?_⟩
  obtain ⟨ρ, σd, S, he, hr, q⟩ := hq
  refine ⟨ρ, σd, S, he, hr, ?_⟩
  unfold sSeq at q
  cases e1 : g σd S with
  | nx σ1 S1 =>
    rw [e1] at q
    exact fun σ' H' ρ' x hr' he' => ⟨ρ', σ1, S1, he', hr', PRS.ext x (show PRS X.K H ρ W Z (h σ1 S1) from q)⟩
  | _ => rw [e1] at q; exact q
theorem ds_pass : DS X W (.Pass pos) sNil := by
  refine ⟨PS.imp ps_pass fun Z σ H hq => ?_⟩
  obtain ⟨ρ, σd, S, he, hr, q⟩ := hq
  exact q σ H ρ .refl hr he
theorem ds_break : DS X W (.Break pos) sBreak := by
  refine ⟨PS.imp ps_break fun Z σ H hq => ?_⟩
  obtain ⟨ρ, σd, S, he, hr, q⟩ := hq
  exact q σ H ρ .refl hr he
theorem ds_cont : DS X W (.Continue pos) sCont := by
  refine ⟨PS.imp ps_continue fun Z σ H hq => ?_⟩
  obtain ⟨ρ, σd, S, he, hr, q⟩ := hq
  exact q σ H ρ .refl hr he
theorem ds_expr (ha : DE X W e f) (hs : swapsWith e none pos.line X.env = pure false := by rfl) : DS X W (.Expr e pos) (sExpr f) := by
  refine ⟨PS.imp (ps_expr ha.pe hs) fun Z σ H hq => ?_⟩
  obtain ⟨ρ, σd, S, he, hr, q⟩ := hq
  exact ⟨ρ, σd, S, he, hr, PR.imp (PRS.of he q) (fun d S1 H1 ρ1 x1 hr1 q1 v hv => q1 σ H1 ρ1 .refl hr1 (he.ext x1)) fun _ _ _ _ _ _ q => q⟩
theorem ds_ret (ha : DE X W e f) : DS X W (.Return (some e) pos) (sRet f) := by
  refine ⟨PS.imp (ps_ret ha.pe) fun Z σ H hq => ?_⟩
  obtain ⟨ρ, σd, S, he, hr, q⟩ := hq
  exact ⟨ρ, σd, S, he, hr, PR.imp (PRS.of he q) (fun d S1 H1 ρ1 x1 hr1 q1 v hv => q1 v H1 ρ1 .refl hr1 hv) fun _ _ _ _ _ _ q => q⟩
theorem ds_retN : DS X W (.Return none pos) sRetN := by
  refine ⟨PS.imp ps_retN fun Z σ H hq => ?_⟩
  obtain ⟨ρ, σd, S, he, hr, q⟩ := hq
  exact q .non H ρ .refl hr (by unfold RepV; rfl)
theorem ds_set (i : Nat) {x : Str} (cx : Ctx X W) (ha : DE X W e f) (hi : X.N[i]? = some x := by rfl) (hx : Loc X.env.scope x := by first | exact Or.inl rfl | exact Or.inr rfl) (hs : swapsWith e (some (.Name x pos')) pos.line X.env = pure false := by rfl)
    (hf : X.fn x = true ∨ X.env.scope.names.lookup x = some .local := by first | exact .inl rfl | exact .inr rfl | assumption) : DS X W (.Assign [.Name x pos'] e pos) (sSet i f) := by
  refine ⟨PS.imp (ps_set cx.nd hi hx ha.pe hs hf) fun Z σ H hq => ?_⟩
  obtain ⟨ρ, σd, S, he, hr, q⟩ := hq
  exact ⟨ρ, σd, S, he, hr, PR.imp (PRS.of he q) (fun d S1 H1 ρ1 x1 hr1 q1 v hv => q1 _ H1 ρ1 .refl hr1 ((he.ext x1).set hv)) fun _ _ _ _ _ _ q => q⟩
theorem ds_if (hc : DT X W c t) (ha : DSs X W body g) (hb : DSs X W orelse h) : DS X W (.If c body orelse pos) (sIf t g h) := by
  refine ⟨PS.imp (ps_if hc.pt ha.pss hb.pss) fun Z σ H hq => ?_⟩
  obtain ⟨ρ, σd, S, he, hr, q⟩ := hq
  refine ⟨ρ, σd, S, he, hr, PR.imp (PRS.of he q) (fun k S1 H1 ρ1 x1 hr1 q1 => ?_) fun _ _ _ _ _ _ q => q⟩
  cases k with
  | true => exact ⟨ρ1, σd, S1, he.ext x1, hr1, q1⟩
  | false => exact ⟨ρ1, σd, S1, he.ext x1, hr1, q1⟩
/-- raise of an own class with a text -/
theorem ds_raise {q : Addr} {tx : L2.St → Hp → XK → Prop} (cx : Ctx X W) (hm : PMk X e tx) (hx : ∀ σ H Q, Q (.ref q) none H → tx σ H Q) : DS X W (.Raise (some e) none pos) (sRaise q) := by
  refine ⟨PS.imp (ps_raise cx.calm cx.takes hm) fun Z σ H hq => ?_⟩
  obtain ⟨ρ, σd, S, he, hr, q⟩ := hq
  exact hx σ H _ (q σ H ρ .refl hr he)

/-! ### targets -/
abbrev FG := D → En → Sto → Option En
def tG (K : PySem.W.Frag) (gt : FG) : TG := fun v σ H Q => ∃ ρ σd S d, RepE K H ρ σd σ ∧ HRep K H ρ S ∧ RepV K H ρ d v ∧ ∃ σd', gt d σd S = some σd' ∧ ∀ σ', RepE K H ρ σd' σ' → Q σ' H
structure DG (X : Cx) (tg : Expr) (gt : FG) : Prop where
  pg : PG X tg (tG X.K gt)
abbrev FGs := List D → En → Sto → Option En
def tGs (K : PySem.W.Frag) (gt : FGs) : TGs := fun vs σ H Q => ∃ ρ σd S ds, RepE K H ρ σd σ ∧ HRep K H ρ S ∧ RepVs K H ρ ds vs ∧ ∃ σd', gt ds σd S = some σd' ∧ ∀ σ', RepE K H ρ σd' σ' → Q σ' H
structure DGs (X : Cx) (tg : List Expr) (gt : FGs) : Prop where
  pgs : PGs X tg (tGs X.K gt)
def gNm (i : Nat) : FG := fun d σ _ => some (σ.set i (some d))
def gsNil : FGs := fun ds σ _ => match ds with
  | [] => some σ
  | _ => none
def gsCons (g : FG) (gs : FGs) : FGs := fun ds σ S => match ds with
  | d :: r => (g d σ S).bind fun σ1 => gs r σ1 S
  | [] => none
def gTp (n : Nat) (gs : FGs) : FG := fun d σ S => match d with
  | .tup xs => if xs.length = n then gs xs σ S else none
  | d => (anyL d S).bind fun xs => if xs.length = n then gs xs σ S else none
variable {tg : Expr} {es : List Expr} {gt : FG} {gs : FGs}
theorem dg_name (i : Nat) {x : Str} (hN : X.N.Nodup) (hi : X.N[i]? = some x := by rfl) (hx : Loc X.env.scope x := by first | exact Or.inl rfl | exact Or.inr rfl) (hf : X.fn x = true ∨ X.env.scope.names.lookup x = some .local := by first | exact .inl rfl | exact .inr rfl | assumption) : DG X (.Name x pos) (gNm i) := by
  refine ⟨PG.imp (pg_name hN hi hx hf) fun v σ H Q hq => ?_⟩
  obtain ⟨ρ, σd, S, d, he, hr, hv, σd', e1, q⟩ := hq
  cases e1
  exact q _ (he.set hv)
theorem dgs_nil : DGs X [] gsNil := by
  refine ⟨PGs.imp pgs_nil fun vs σ H Q hq => ?_⟩
  obtain ⟨ρ, σd, S, ds, he, hr, hv, σd', e1, q⟩ := hq
  cases ds with
  | nil => cases e1; exact ⟨hv.of_nil, q σ he⟩
  | cons d ds => cases e1
theorem dgs_cons (h1 : DG X e gt) (h2 : DGs X es gs) (hs : (assignEach (e :: es) X.env).map (·.2) = assign e X.env :: (assignEach es X.env).map (·.2) := by rfl) : DGs X (e :: es) (gsCons gt gs) := by
  refine ⟨PGs.imp (pgs_cons h1.pg h2.pgs hs) fun vs σ H Q hq => ?_⟩
  obtain ⟨ρ, σd, S, ds, he, hr, hv, σd', e1, q⟩ := hq
  cases ds with
  | nil => cases e1
  | cons d ds =>
    obtain ⟨v, vr, rfl, h3, h4⟩ := hv.of_cons
    obtain ⟨σ1, e2, e3⟩ := Option.bind_eq_some_iff.mp e1
    exact ⟨v, vr, rfl, ρ, σd, S, d, he, hr, h3, σ1, e2, fun σ' he' => ⟨ρ, σ1, S, ds, he', hr, h4, σd', e3, q⟩⟩
theorem dg_tup {k n : Nat} (hc : X.calm = true) (h1 : DGs X es gs) (hn : (assignEach es X.env).length = n := by rfl) (hst : (assignEach es X.env).findIdx? (·.1) = none := by rfl) : DG X (.Tuple es k pos) (gTp n gs) := by
  refine ⟨PG.imp (PG.or (pg_tup hc h1.pgs hn hst) (pg_lst hc h1.pgs hn hst)) fun v σ H Q hq => ?_⟩
  obtain ⟨ρ, σd, S, d, he, hr, hv, σd', e1, q⟩ := hq
  have go : ((anyL d S).bind fun xs => if xs.length = n then gs xs σd S else none) = some σd' → gLst X.K n (tGs X.K gs) v σ H Q := fun e1 => by
    obtain ⟨xs, e2, e3⟩ := Option.bind_eq_some_iff.mp e1
    obtain ⟨a, vs, rfl, h1, r1⟩ := anyL_rep hr hv e2
    split at e3
    · rename_i c
      exact ⟨a, vs, rfl, h1, r1.length.trans c, ρ, σd, S, xs, he, hr, r1, σd', e3, q⟩
    · cases e3
  cases d with
  | tup xs =>
    obtain ⟨a, vs, rfl, h1, _, r1⟩ := tup_rep hv
    simp only [gTp] at e1
    split at e1
    · rename_i c
      exact .inl ⟨a, vs, rfl, h1, r1.length.trans c, ρ, σd, S, xs, he, hr, r1, σd', e1, q⟩
    · cases e1
  | _ => exact .inr (go e1)
/-- target = value -/
def sAsg (gt : FG) (f : FE) : FS := fun σ S => RS.of (f σ S) σ fun d S1 => match gt d σ S1 with
  | some σ1 => .nx σ1 S1
  | none => .stuck
theorem ds_asg (ha : DE X W e f) (hg : DG X tg gt) (hs : swapsWithSole [tg] e pos.line X.env = pure false := by rfl) (hw : swappedStores [tg] e X.env = pure none := by rfl) (h1 : (assignEach [tg] X.env).map (·.2) = [assign tg X.env] := by rfl) : DS X W (.Assign [tg] e pos) (sAsg gt f) := by
  refine ⟨PS.imp (ps_asg ha.pe hg.pg hs hw h1) fun Z σ H hq => ?_⟩
  obtain ⟨ρ, σd, S, he, hr, q⟩ := hq
  refine ⟨ρ, σd, S, he, hr, PR.imp (PRS.of he q) (fun d S1 H1 ρ1 x1 hr1 q1 v hv => ?_) fun _ _ _ _ _ _ q => q⟩
  cases e1 : gt d σd S1 with
  | none => simp only [e1] at q1; exact q1.elim
  | some σ1 =>
    simp only [e1] at q1
    exact ⟨ρ1, σd, S1, d, he.ext x1, hr1, hv, σ1, e1, fun σ' he' => q1 σ' H1 ρ1 .refl hr1 he'⟩
/-- a, b = e1, e2 -/
def sPar (i j : Nat) (fs : FA) : FS := fun σ S => RS.of (fs σ S) σ fun ds S1 => match ds with
  | [d1, d2] => .nx ((σ.set i (some d1)).set j (some d2)) S1
  | _ => .stuck
theorem ds_par (i j : Nat) {x y : Str} {fs : FA} {px py pt : Pos} {kt k2 pt2} (cx : Ctx X W) (ha : DA X W [a, b] fs) (hi : X.N[i]? = some x := by rfl) (hj : X.N[j]? = some y := by rfl) (hij : i ≠ j := by decide)
    (hx : X.env.scope.names.lookup x = some .local := by rfl) (hy : X.env.scope.names.lookup y = some .local := by rfl)
    (hw : swappedStores [.Tuple [.Name x px, .Name y py] kt pt] (.Tuple [a, b] k2 pt2) X.env = pure (some [x, y]) := by rfl)
    (hs : swapsWithSole [.Tuple [.Name x px, .Name y py] kt pt] (.Tuple [a, b] k2 pt2) pos.line X.env = pure false := by rfl) :
    DS X W (.Assign [.Tuple [.Name x px, .Name y py] kt pt] (.Tuple [a, b] k2 pt2) pos) (sPar i j fs) := by
  refine ⟨PS.imp (ps_par cx.calm cx.nd hi hj hij hx hy ha.pa hw hs) fun Z σ H hq => ?_⟩
  obtain ⟨ρ, σd, S, he, hr, q⟩ := hq
  refine ⟨ρ, σd, S, he, hr, PR.imp (PRS.of he q) (fun ds S1 H1 ρ1 x1 hr1 q1 vs hvs => ?_) fun _ _ _ _ _ _ q => q⟩
  match ds, q1 with
  | [d1, d2], q1 =>
    obtain ⟨v, vr, rfl, h1, h2⟩ := hvs.of_cons
    obtain ⟨u, vr, rfl, h3, h4⟩ := h2.of_cons
    rw [h4.of_nil]
    exact ⟨v, u, rfl, q1 _ H1 ρ1 .refl hr1 (((he.ext x1).set h1).set h3)⟩
/-- o[i] = e, o a list of the store -/
def putL (o i d : D) (S : Sto) : Option Sto := match o, i with
  | .ref n, .int k => match S[n]? with
    | some (.lst xs) => (ixN xs.length k).map fun j => S.set n (.lst (xs.set j d))
    | _ => none
  | _, _ => none
def sPut (fo fi fe : FE) : FS := fun σ S => RS.of (fe σ S) σ fun d S1 => RS.of (fo σ S1) σ fun o S2 => RS.of (fi σ S2) σ fun i S3 => match putL o i d S3 with
  | some S4 => .nx σ S4
  | none => .stuck
theorem ds_put {fo fi : FE} {o i : Expr} {p : Pos} (ha : DE X W e f) (ho : DE X W o fo) (hi : DE X W i fi)
    (hs : swapsWithSole [.Subscript o i p] e pos.line X.env = pure false := by rfl) (hw : swappedStores [.Subscript o i p] e X.env = pure none := by rfl) (h1 : (assignEach [.Subscript o i p] X.env).map (·.2) = [assign (.Subscript o i p) X.env] := by rfl)
    (hp : ∀ v, assign (.Subscript o i p) X.env v = (do
      let ov ← holding [v] (eval o X.env)
      let iv ← holding [v, ov] (eval i X.env)
      standAt p
      holding [v, ov, iv] (setItem ov iv v)
      release [v, ov, iv] []) := by intro _; rfl) : DS X W (.Assign [.Subscript o i p] e pos) (sPut fo fi f) := by
  refine ⟨PS.imp (ps_asg ha.pe (pg_sub ho.pe hi.pe set_list hp) hs hw h1) fun Z σ H hq => ?_⟩
  obtain ⟨ρ, σd, S, he, hr, q⟩ := hq
  refine ⟨ρ, σd, S, he, hr, PR.imp (PRS.of he q) (fun d S1 H1 ρ1 x1 hr1 q1 v hv => ?_) fun _ _ _ _ _ _ q => q⟩
  refine ⟨ρ1, σd, S1, he.ext x1, hr1, PR.imp (PRS.of (he.ext x1) q1) (fun o S2 H2 ρ2 x2 hr2 q2 u hu => ?_) fun _ _ _ _ _ _ q => q⟩
  refine ⟨ρ2, σd, S2, (he.ext x1).ext x2, hr2, PR.imp (PRS.of ((he.ext x1).ext x2) q2) (fun i S3 H3 ρ3 x3 hr3 q3 w hw => ?_) fun _ _ _ _ _ _ q => q⟩
  have hv3 := (hv.ext x2).ext x3
  have hu3 := hu.ext x3
  have he3 := ((he.ext x1).ext x2).ext x3
  cases e1 : putL o i d S3 with
  | none => simp only [e1] at q3; exact q3.elim
  | some S4 =>
    simp only [e1] at q3
    cases o with
    | ref n =>
      cases i with
      | int k =>
        simp only [putL] at e1
        cases e2 : S3[n]? with
        | none => rw [e2] at e1; cases e1
        | some ob =>
          rw [e2] at e1
          cases ob with
          | ins C fs => cases e1
          | lst xs =>
            obtain ⟨j, e3, rfl⟩ := Option.map_eq_some_iff.mp e1
            unfold RepV at hu3 hw
            obtain ⟨a, rfl, ha3⟩ := hu3
            subst hw
            obtain ⟨vs, h4, r4⟩ := hr3.all n _ a e2 ha3
            refine ⟨a, vs, k, j, rfl, rfl, h4, by rw [r4.length]; exact e3, ?_⟩
            obtain ⟨y1, y2⟩ := hr3.write (List.getElem?_eq_some_iff.mp e2).1 ha3 h4 (r4.set (i := j) hv3)
            exact q3 σ _ ρ3 y1 y2 (he3.ext y1)
      | _ => simp [putL] at e1
    | _ => simp [putL] at e1
/-- name op= e -/
def sAug (i : Nat) (o : D → D → Sto → Option D) (f : FE) : FS := fun σ S => match σ[i]? with
  | some (some d) => RS.of (f σ S) σ fun d2 S1 => match o d d2 S1 with
    | some d3 => .nx (σ.set i (some d3)) S1
    | none => .stuck
  | _ => .stuck
theorem ds_aug (i : Nat) {x : Str} {op : Operator} {ti : TIp} {o : D → D → Sto → Option D} (cx : Ctx X W) (ha : DE X W e f) (hp : PIp X op ti) (ho : OpD X.K ti o) (hi : X.N[i]? = some x := by rfl) (hx : Loc X.env.scope x := by first | exact Or.inl rfl | exact Or.inr rfl)
    (hf : X.fn x = true ∨ X.env.scope.names.lookup x = some .local := by first | exact .inl rfl | exact .inr rfl | assumption) : DS X W (.AugAssign (.Name x pos') op e pos) (sAug i o f) := by
  refine ⟨PS.imp (ps_aug cx.nd hi hx ha.pe hp hf) fun Z σ H hq => ?_⟩
  obtain ⟨ρ, σd, S, he, hr, q⟩ := hq
  unfold sAug at q
  cases e0 : σd[i]? with
  | none => rw [e0] at q; exact q.elim
  | some od =>
    cases od with
    | none => rw [e0] at q; exact q.elim
    | some d =>
      simp only [e0] at q
      obtain ⟨v, h1, h2⟩ := he.2 i d e0
      refine ⟨v, h1, ρ, σd, S, he, hr, PR.imp (PRS.of he q) (fun d2 S1 H1 ρ1 x1 hr1 q1 u hu => ?_) fun _ _ _ _ _ _ q => q⟩
      cases e1 : o d d2 S1 with
      | none => simp only [e1] at q1; exact q1.elim
      | some d3 =>
        simp only [e1] at q1
        exact ho hr1 (h2.ext x1) hu e1 fun w H' x3 hr3 hw => q1 _ H' ρ1 x3 hr3 (((he.ext x1).ext x3).set hw)
theorem opD_ipI {K : PySem.W.Frag} {g : Int → Int → Int} : OpD K (ipI g) (dI (fun _ _ => true) fun i j => .int (g i j)) := opD_I0
theorem ds_augAdd (i : Nat) {x : Str} (cx : Ctx X W) (ha : DE X W e f) (hi : X.N[i]? = some x := by rfl) (hx : Loc X.env.scope x := by first | exact Or.inl rfl | exact Or.inr rfl)
    (hf : X.fn x = true ∨ X.env.scope.names.lookup x = some .local := by first | exact .inl rfl | exact .inr rfl | assumption) : DS X W (.AugAssign (.Name x pos') .Add e pos) (sAug i (dI (fun _ _ => true) fun i j => .int (i + j)) f) := ds_aug i cx ha ip_add opD_ipI hi hx hf
theorem ds_augSub (i : Nat) {x : Str} (cx : Ctx X W) (ha : DE X W e f) (hi : X.N[i]? = some x := by rfl) (hx : Loc X.env.scope x := by first | exact Or.inl rfl | exact Or.inr rfl)
    (hf : X.fn x = true ∨ X.env.scope.names.lookup x = some .local := by first | exact .inl rfl | exact .inr rfl | assumption) : DS X W (.AugAssign (.Name x pos') .Sub e pos) (sAug i (dI (fun _ _ => true) fun i j => .int (i - j)) f) := ds_aug i cx ha ip_sub opD_ipI hi hx hf

/-! ### what is walked -/
structure Items where
  ds : List D
  w : Option Nat := none
def watchOk (w : Option Nat) (ds : List D) (S : Sto) : Prop := match w with
  | none => True
  | some n => S[n]? = some (.lst ds)
abbrev FI := En → Sto → Res Items
def ItOk (K : PySem.W.Frag) (J : It) (H1 : Hp) (ρ1 : Rho) (it : Items) : Prop := ∀ (i : Nat) (H : Hp) (ρ : Rho) (S : Sto), Ext H1 ρ1 H ρ → HRep K H ρ S → watchOk it.w it.ds S →
  (∀ d, it.ds[i]? = some d → J.go i H ∧ ∀ x H', J.yld i H x H' → Ext H ρ H' ρ ∧ HRep K H' ρ S ∧ RepV K H' ρ d x) ∧ (it.ds.length ≤ i → J.stop i H)
def tI (K : PySem.W.Frag) (W : WX) (fi : FI) : TI := fun σ H R => ∃ ρ σd S, RepE K H ρ σd σ ∧ HRep K H ρ S ∧
  PR K H ρ (fi σd S) (fun it S1 H1 ρ1 => ∀ J, ItOk K J H1 ρ1 it → R J H1) (fun c _ H' _ => W c none σ H')
structure DI (X : Cx) (W : WX) (tg iter : Expr) (fi : FI) : Prop where
  pi : PI X tg iter (tI X.K W fi)
def iSeq (f : FE) : FI := fun σ S => (f σ S).bind fun d S1 => match d with
  | .tup xs => .ok ⟨xs, none⟩ S1
  | .lst xs => .ok ⟨xs, none⟩ S1
  | .frz xs => .ok ⟨xs, none⟩ S1
  | .ref n => match S1[n]? with
    | some (.lst xs) => .ok ⟨xs, some n⟩ S1
    | _ => .stuck
  | _ => .stuck
theorem itl_ok {K : PySem.W.Frag} {H1 : Hp} {ρ1 : Rho} {a : Addr} {ds : List D} {w : Option Nat} {vs : List V} (hl : ∀ H ρ S, Ext H1 ρ1 H ρ → HRep K H ρ S → watchOk w ds S → ∃ vs, SqL K H a vs ∧ RepVs K H ρ ds vs) : ItOk K (Itl K a) H1 ρ1 ⟨ds, w⟩ := by
  intro i H ρ S x hr hw
  obtain ⟨vs, h1, r1⟩ := hl H ρ S x hr hw
  refine ⟨fun d hd => ?_, fun hi => ⟨vs, h1, by rw [r1.length]; exact hi⟩⟩
  obtain ⟨v, h2, r2⟩ := r1.get hd
  refine ⟨⟨vs, v, h1, h2⟩, fun y H' ⟨e, hy⟩ => ?_⟩
  subst e
  have := hy vs h1
  rw [h2] at this
  cases this
  exact ⟨.refl, hr, r2⟩
theorem itt_ok {K : PySem.W.Frag} {H1 : Hp} {ρ1 : Rho} {a : Addr} {ds : List D} {vs : List V} (ht : TAt K H1 ρ1 a vs) (r : RepVs K H1 ρ1 ds vs) : ItOk K (Itt K a) H1 ρ1 ⟨ds, none⟩ := by
  intro i H ρ S x hr hw
  have h1 := (x.tat ht).sq
  have r1 := r.ext x
  refine ⟨fun d hd => ?_, fun hi => ⟨vs, h1, by rw [r1.length]; exact hi⟩⟩
  obtain ⟨v, h2, r2⟩ := r1.get hd
  refine ⟨⟨vs, v, h1, h2⟩, fun y H' ⟨e, hy⟩ => ?_⟩
  subst e
  have := hy vs h1
  rw [h2] at this
  cases this
  exact ⟨.refl, hr, r2⟩
theorem di_seq (ha : DE X W e f) : DI X W tg e (iSeq f) := by
  refine ⟨PI.imp (PI.or (pi_list ha.pe) (pi_tup ha.pe)) fun σ H R hq => ?_⟩
  obtain ⟨ρ, σd, S, he, hr, q⟩ := hq
  have q' := PR.bind q
  cases e1 : f σd S with
  | stuck => rw [e1] at q'; exact q'.elim
  | raise c S1 => rw [e1] at q'; exact .inl ⟨ρ, σd, S, he, hr, by rw [e1]; exact q'⟩
  | ok d S1 =>
    rw [e1] at q'
    cases d with
    | tup xs =>
      refine .inr ⟨ρ, σd, S, he, hr, ?_⟩
      rw [e1]
      intro H' ρ' x hr' v hv
      obtain ⟨a, vs, rfl, h1, t1, r1⟩ := tup_rep hv
      exact ⟨a, rfl, ⟨vs, h1⟩, q' H' ρ' x hr' H' ρ' .refl hr' _ (itt_ok t1 r1)⟩
    | lst xs =>
      refine .inl ⟨ρ, σd, S, he, hr, ?_⟩
      rw [e1]
      intro H' ρ' x hr' v hv
      have hv' := hv
      unfold RepV at hv
      obtain ⟨a, vs, rfl, h1, r1⟩ := hv
      exact ⟨a, rfl, ⟨vs, .of h1.2⟩, q' H' ρ' x hr' H' ρ' .refl hr' _ (itl_ok (vs := vs) fun H ρ S x hr _ => ⟨vs, .of (x.oat h1).2, r1.ext x⟩)⟩
    | frz xs =>
      refine .inl ⟨ρ, σd, S, he, hr, ?_⟩
      rw [e1]
      intro H' ρ' x hr' v hv
      unfold RepV at hv
      obtain ⟨a, vs, rfl, h1, r1⟩ := hv
      exact ⟨a, rfl, ⟨vs, h1.sq⟩, q' H' ρ' x hr' H' ρ' .refl hr' _ (itl_ok (vs := vs) fun H ρ S x hr _ => ⟨vs, (x.lat h1).sq, r1.ext x⟩)⟩
    | ref n =>
      refine .inl ⟨ρ, σd, S, he, hr, ?_⟩
      rw [e1]
      intro H' ρ' x hr' v hv
      unfold RepV at hv
      obtain ⟨a, rfl, h1⟩ := hv
      have q2 := q' H' ρ' x hr'
      simp only at q2
      cases e2 : S1[n]? with
      | none => rw [e2] at q2; exact q2.elim
      | some o =>
        rw [e2] at q2
        cases o with
        | ins C fs => exact q2.elim
        | lst xs =>
          obtain ⟨vs, h3, r3⟩ := hr'.all n _ a e2 h1
          refine ⟨a, rfl, ⟨vs, .of h3⟩, q2 H' ρ' .refl hr' _ (itl_ok (vs := vs) fun H ρ S x hr hw => ?_)⟩
          obtain ⟨e', re, _⟩ := x.pre
          have hn : ρ.l[n]? = some a := by
            rw [re, List.getElem?_append_left (List.getElem?_eq_some_iff.mp h1).1]
            exact h1
          obtain ⟨ws, h4, r4⟩ := hr.all n _ a hw hn
          exact ⟨ws, .of h4, r4⟩
    | _ =>
      refine .inl ⟨ρ, σd, S, he, hr, ?_⟩
      rw [e1]
      intro H' ρ' x hr' v hv
      exact (q' H' ρ' x hr').elim
/-- range(n), range(a, b): the ints -/
def rgD (a b : Int) : List D := (List.range (b - a).toNat).map fun i => .int (a + (i : Nat))
def in62 (i : Int) : Bool := decide (-(4611686018427387904) ≤ i) && decide (i < 4611686018427387904)
theorem in62_ok {i : Int} (h : in62 i = true) : -(2 ^ 62) ≤ i ∧ i < 2 ^ 62 := by
  unfold in62 at h
  simp only [Bool.and_eq_true, decide_eq_true_eq] at h
  constructor <;> omega
theorem itr_ok {K : PySem.W.Frag} {H1 : Hp} {ρ1 : Rho} {a b : Int} : ItOk K (Itr a (b - a).toNat) H1 ρ1 ⟨rgD a b, none⟩ := by
  intro i H ρ S x hr hw
  unfold rgD
  refine ⟨fun d hd => ?_, fun hi => ?_⟩
  · rw [List.getElem?_map] at hd
    by_cases c : i < (b - a).toNat
    · rw [List.getElem?_range c] at hd
      cases hd
      refine ⟨c, fun y H' ⟨e, hy⟩ => ?_⟩
      subst e
      subst hy
      exact ⟨.refl, hr, by unfold RepV; rfl⟩
    · rw [List.getElem?_eq_none (by simpa using c)] at hd
      cases hd
  · simp only [List.length_map, List.length_range] at hi
    exact hi
def iRg1 (fs : FA) : FI := fun σ S => (fs σ S).bind fun ds S1 => match ds with
  | [.int n] => if in62 n = true then .ok ⟨rgD 0 n, none⟩ S1 else .stuck
  | _ => .stuck
def iRg2 (fs : FA) : FI := fun σ S => (fs σ S).bind fun ds S1 => match ds with
  | [.int m, .int n] => if in62 m = true ∧ in62 n = true then .ok ⟨rgD m n, none⟩ S1 else .stuck
  | _ => .stuck
theorem di_range1 {fs : FA} {p : Pos} (hm : X.mg "range" = none) (ha : DA X W [a] fs) (hg : Gl X "range" := by rfl) (hs : starEach [a] X.env = [(false, eval a X.env)] := by rfl) : DI X W tg (.Call (.Name "range" p) [a] [] pos) (iRg1 fs) := by
  refine ⟨PI.imp (pi_range1 hg hm ha.pa hs) fun σ H R hq => ?_⟩
  obtain ⟨ρ, σd, S, he, hr, q⟩ := hq
  refine ⟨ρ, σd, S, he, hr, PR.imp (PR.bind q) (fun ds S1 H1 ρ1 x1 hr1 q1 vs hvs => ?_) fun _ _ _ _ _ _ q => q⟩
  match ds, q1 with
  | [.int n], q1 =>
    obtain ⟨v, vr, rfl, h1, h2⟩ := hvs.of_cons
    rw [h2.of_nil]
    unfold RepV at h1
    simp only at q1
    split at q1
    · rename_i c
      obtain ⟨c1, c2⟩ := in62_ok c
      refine ⟨n, by rw [h1], c1, c2, q1 H1 ρ1 .refl hr1 _ ?_⟩
      have := itr_ok (K := X.K) (H1 := H1) (ρ1 := ρ1) (a := 0) (b := n)
      rw [Int.sub_zero] at this
      exact this
    · exact q1.elim
theorem di_range2 {fs : FA} {p : Pos} (hm : X.mg "range" = none) (ha : DA X W [a, b] fs) (hg : Gl X "range" := by rfl) (hs : starEach [a, b] X.env = [(false, eval a X.env), (false, eval b X.env)] := by rfl) (hs2 : starEach [b] X.env = [(false, eval b X.env)] := by rfl) : DI X W tg (.Call (.Name "range" p) [a, b] [] pos) (iRg2 fs) := by
  refine ⟨PI.imp (pi_range2 hg hm ha.pa hs hs2) fun σ H R hq => ?_⟩
  obtain ⟨ρ, σd, S, he, hr, q⟩ := hq
  refine ⟨ρ, σd, S, he, hr, PR.imp (PR.bind q) (fun ds S1 H1 ρ1 x1 hr1 q1 vs hvs => ?_) fun _ _ _ _ _ _ q => q⟩
  match ds, q1 with
  | [.int m, .int n], q1 =>
    simp only at q1
    split at q1
    · rename_i c
      obtain ⟨c1, c2⟩ := in62_ok c.1
      obtain ⟨c3, c4⟩ := in62_ok c.2
      exact ⟨m, n, two_ints hvs, ⟨c1, c2, c3, c4⟩, q1 H1 ρ1 .refl hr1 _ itr_ok⟩
    · exact q1.elim
/-- zip of two lists or two tuples; enumerate of a list -/
def zipD : List D → List D → List D
  | x :: xs, y :: ys => .tup [x, y] :: zipD xs ys
  | _, _ => []
theorem zipD_get : ∀ {xs ys : List D} {i : Nat} {d : D}, (zipD xs ys)[i]? = some d → ∃ x y, xs[i]? = some x ∧ ys[i]? = some y ∧ d = .tup [x, y]
  | [], ys, i, d, h => by simp [zipD] at h
  | x :: xs, [], i, d, h => by simp [zipD] at h
  | x :: xs, y :: ys, 0, d, h => by simp [zipD] at h; exact ⟨x, y, rfl, rfl, h.symm⟩
  | x :: xs, y :: ys, i + 1, d, h => by
    obtain ⟨x', y', h1, h2, h3⟩ := zipD_get (i := i) (xs := xs) (ys := ys) (d := d) (by simpa [zipD] using h)
    exact ⟨x', y', by simpa using h1, by simpa using h2, h3⟩
theorem zipD_len : ∀ {xs ys : List D} {i : Nat}, (zipD xs ys).length ≤ i → xs.length ≤ i ∨ ys.length ≤ i
  | [], ys, i, h => .inl (Nat.zero_le _)
  | x :: xs, [], i, h => .inr (Nat.zero_le _)
  | x :: xs, y :: ys, 0, h => by simp [zipD] at h
  | x :: xs, y :: ys, i + 1, h => by
    have := zipD_len (xs := xs) (ys := ys) (i := i) (by simpa [zipD] using h)
    simpa using this
def zipItems (x y : D) : Option (List D) := match x, y with
  | .tup xs, .tup ys => some (zipD xs ys)
  | .lst xs, .lst ys => some (zipD xs ys)
  | .frz xs, .lst ys => some (zipD xs ys)
  | .lst xs, .frz ys => some (zipD xs ys)
  | _, _ => none
def iZp (fs : FA) : FI := fun σ S => (fs σ S).bind fun ds S1 => match ds with
  | [x, y] => (ofO (zipItems x y) S1).bind fun l S2 => .ok ⟨l, none⟩ S2
  | _ => .stuck
theorem zipT_ok {K : PySem.W.Frag} {H1 : Hp} {ρ1 : Rho} {a b : Addr} {xs ys : List D} {vs ws : List V} (ta : TAt K H1 ρ1 a vs) (tb : TAt K H1 ρ1 b ws) (ra : RepVs K H1 ρ1 xs vs) (rb : RepVs K H1 ρ1 ys ws) : ItOk K (RZ.ItzT K a b) H1 ρ1 ⟨zipD xs ys, none⟩ := by
  intro i H ρ S x hr hw
  have h1 := (x.tat ta).sq
  have h2 := (x.tat tb).sq
  have r1 := ra.ext x
  have r2 := rb.ext x
  refine ⟨fun d hd => ?_, fun hi => ⟨vs, ws, h1, h2, by rw [r1.length, r2.length]; exact zipD_len hi⟩⟩
  obtain ⟨p, q, e1, e2, rfl⟩ := zipD_get hd
  obtain ⟨v, g1, s1⟩ := r1.get e1
  obtain ⟨u, g2, s2⟩ := r2.get e2
  refine ⟨⟨vs, ws, v, u, h1, h2, g1, g2⟩, fun y H' ⟨T, x', y', e3, hT, e4, hx, hy⟩ => ?_⟩
  subst e3 e4
  have k1 := hx vs h1
  have k2 := hy ws h2
  rw [g1] at k1
  rw [g2] at k2
  cases k1
  cases k2
  exact new_tup hr hT (.cons s1 (.cons s2 .nil))
theorem zipL_ok {K : PySem.W.Frag} {H1 : Hp} {ρ1 : Rho} {a b : Addr} {xs ys : List D} {vs ws : List V} (ta : ∀ H ρ, Ext H1 ρ1 H ρ → SqL K H a vs) (tb : ∀ H ρ, Ext H1 ρ1 H ρ → SqL K H b ws) (ra : RepVs K H1 ρ1 xs vs) (rb : RepVs K H1 ρ1 ys ws) : ItOk K (Itz K a b) H1 ρ1 ⟨zipD xs ys, none⟩ := by
  intro i H ρ S x hr hw
  have h1 := ta H ρ x
  have h2 := tb H ρ x
  have r1 := ra.ext x
  have r2 := rb.ext x
  refine ⟨fun d hd => ?_, fun hi => ⟨vs, ws, h1, h2, by rw [r1.length, r2.length]; exact zipD_len hi⟩⟩
  obtain ⟨p, q, e1, e2, rfl⟩ := zipD_get hd
  obtain ⟨v, g1, s1⟩ := r1.get e1
  obtain ⟨u, g2, s2⟩ := r2.get e2
  refine ⟨⟨vs, ws, v, u, h1, h2, g1, g2⟩, fun y H' ⟨T, x', y', e3, hT, e4, hx, hy⟩ => ?_⟩
  subst e3 e4
  have k1 := hx vs h1
  have k2 := hy ws h2
  rw [g1] at k1
  rw [g2] at k2
  cases k1
  cases k2
  exact new_tup hr hT (.cons s1 (.cons s2 .nil))
def stayL : D → Option (List D)
  | .lst xs => some xs
  | .frz xs => some xs
  | _ => none
theorem stayL_rep {K : PySem.W.Frag} {H : Hp} {ρ : Rho} {d : D} {v : V} {xs : List D} (h : RepV K H ρ d v) (e : stayL d = some xs) : ∃ a vs, v = .ref a ∧ (∀ H' ρ', Ext H ρ H' ρ' → SqL K H' a vs) ∧ RepVs K H ρ xs vs := by
  cases d with
  | lst ys =>
    cases e
    unfold RepV at h
    obtain ⟨a, vs, rfl, ha, hs⟩ := h
    exact ⟨a, vs, rfl, fun H' ρ' x => .of (x.oat ha).2, hs⟩
  | frz ys =>
    cases e
    unfold RepV at h
    obtain ⟨a, vs, rfl, ha, hs⟩ := h
    exact ⟨a, vs, rfl, fun H' ρ' x => (x.lat ha).sq, hs⟩
  | _ => cases e
theorem di_zip {fs : FA} {p tpos : Pos} {elts : List Expr} {kk : Nat} (hm : X.mg "zip" = none) (ha : DA X W [a, b] fs) (hg : Gl X "zip" := by rfl)
    (hs : starEach [a, b] X.env = (false, eval a X.env) :: starEach [b] X.env := by rfl) (hpl : (backTo pos (starEach [b] X.env)).any (·.1) = false := by rfl) : DI X W (.Tuple elts kk tpos) (.Call (.Name "zip" p) [a, b] [] pos) (iZp fs) := by
  refine ⟨PI.imp (RZ.pi_zipA hg hm ha.pa hs hpl) fun σ H R hq => ?_⟩
  obtain ⟨ρ, σd, S, he, hr, q⟩ := hq
  refine ⟨ρ, σd, S, he, hr, PR.imp (PR.bind q) (fun ds S1 H1 ρ1 x1 hr1 q1 vs hvs => ?_) fun _ _ _ _ _ _ q => q⟩
  match ds, q1 with
  | [x, y], q1 =>
    obtain ⟨v, vr, rfl, h1, h2⟩ := hvs.of_cons
    obtain ⟨u, vr, rfl, h3, h4⟩ := h2.of_cons
    rw [h4.of_nil]
    have lists : ∀ {xs ys : List D}, stayL x = some xs → stayL y = some ys → zipItems x y = some (zipD xs ys) → ∃ a b xs ys, [v, u] = [V.ref a, V.ref b] ∧ ((SqL X.K H1 a xs ∧ SqL X.K H1 b ys ∧ R (Itz X.K a b) H1) ∨ (SqT X.K H1 a xs ∧ SqT X.K H1 b ys ∧ R (RZ.ItzT X.K a b) H1)) := fun {xs ys} e1 e2 e3 => by
      simp only at q1
      rw [e3] at q1
      obtain ⟨p1, vs, rfl, k1, r1⟩ := stayL_rep h1 e1
      obtain ⟨p2, ws, rfl, k2, r2⟩ := stayL_rep h3 e2
      exact ⟨p1, p2, vs, ws, rfl, .inl ⟨k1 _ _ .refl, k2 _ _ .refl, q1 H1 ρ1 .refl hr1 _ (zipL_ok k1 k2 r1 r2)⟩⟩
    cases x with
    | tup xs =>
      cases y with
      | tup ys =>
        obtain ⟨p1, vs, rfl, _, k1, r1⟩ := tup_rep h1
        obtain ⟨p2, ws, rfl, _, k2, r2⟩ := tup_rep h3
        exact ⟨p1, p2, vs, ws, rfl, .inr ⟨k1.sq, k2.sq, q1 H1 ρ1 .refl hr1 _ (zipT_ok k1 k2 r1 r2)⟩⟩
      | _ => exact q1.elim
    | lst xs =>
      cases y with
      | lst ys => exact lists rfl rfl rfl
      | frz ys => exact lists rfl rfl rfl
      | _ => exact q1.elim
    | frz xs =>
      cases y with
      | lst ys => exact lists rfl rfl rfl
      | _ => exact q1.elim
    | _ => exact q1.elim
end
end DL
end

section
set_option Elab.async false
set_option linter.all false
set_option maxRecDepth 100000
set_option maxHeartbeats 4000000
namespace DL
open PySem PySem.Spec PyProof.Rows L2
open Classical

/-! ### loops -/
/-- one turn's end -/
def RS.turn (r : RS) (k : FS) : RS := match r with
  | .nx σ S => k σ S
  | .ct σ S => k σ S
  | .bk σ S => .nx σ S
  | r => r
@[simp] theorem RS.turn_nx (σ : En) (S : Sto) (k : FS) : (RS.nx σ S).turn k = k σ S := rfl
@[simp] theorem RS.turn_ct (σ : En) (S : Sto) (k : FS) : (RS.ct σ S).turn k = k σ S := rfl
@[simp] theorem RS.turn_bk (σ : En) (S : Sto) (k : FS) : (RS.bk σ S).turn k = .nx σ S := rfl
@[simp] theorem RS.turn_rt (d : D) (S : Sto) (k : FS) : (RS.rt d S).turn k = .rt d S := rfl
@[simp] theorem RS.turn_raise (c : Value) (σ : En) (S : Sto) (k : FS) : (RS.raise c σ S).turn k = .raise c σ S := rfl
noncomputable def loopF (it : Items) (gt : FG) (g : FS) : List D → FS
  | [], σ, S => if watchOk it.w it.ds S then .nx σ S else .stuck
  | d :: r, σ, S => if watchOk it.w it.ds S then (match gt d σ S with
    | some σ1 => (g σ1 S).turn (loopF it gt g r)
    | none => .stuck) else .stuck
noncomputable def sFor (fi : FI) (gt : FG) (g : FS) : FS := fun σ S => RS.of (fi σ S) σ fun it S1 => loopF it gt g it.ds σ S1
section
variable {X : Cx} {W : WX} {tg iter c e : Expr} {body : List Stmt} {fi : FI} {gt : FG} {g : FS} {pos : Pos}
theorem ds_for (cx : Ctx X W) (own : PassesOwn (model X.prog X.w) X.A X.env X.xe) (hi : DI X W tg iter fi) (hg : DG X tg gt) (hb : DSs X W body g) (hs : ∀ x, foldedSetIterable iter X.env x = pure x := by intro _; rfl) : DS X W (.For tg iter body [] pos) (sFor fi gt g) := by
  refine ⟨PS.imp (ps_for own cx.calm hi.pi hg.pg hb.pss hs) fun Z σ H hq => ?_⟩
  obtain ⟨ρ, σd, S, he, hr, q⟩ := hq
  refine ⟨ρ, σd, S, he, hr, PR.imp (PRS.of he q) (fun it S1 H1 ρ1 x1 hr1 q1 => ?_) fun _ _ _ _ _ _ q => q⟩
  intro J hJ
  have he1 := he.ext x1
  refine ⟨fun i m σ H => m = it.ds.length - i ∧ i ≤ it.ds.length ∧ ∃ ρ σd S, Ext H1 ρ1 H ρ ∧ RepE X.K H ρ σd σ ∧ HRep X.K H ρ S ∧ PRS X.K H ρ W Z (loopF it gt g (it.ds.drop i) σd S),
    ⟨it.ds.length, by simp, Nat.zero_le _, ρ1, σd, S1, .refl, he1, hr1, q1⟩, ?_⟩
  rintro i m σ2 H2 ⟨rfl, hi, ρ2, σd2, S2, x2, he2, hr2, q2⟩
  by_cases hlt : i < it.ds.length
  · rw [List.drop_eq_getElem_cons hlt] at q2
    unfold loopF at q2
    by_cases hw : watchOk it.w it.ds S2
    · rw [if_pos hw] at q2
      have hd : it.ds[i]? = some it.ds[i] := List.getElem?_eq_getElem hlt
      obtain ⟨h1, h2⟩ := (hJ i H2 ρ2 S2 x2 hr2 hw).1 _ hd
      refine .inr ⟨h1, fun σ' H' => ∃ ρ σd S, Ext H1 ρ1 H' ρ ∧ RepE X.K H' ρ σd σ' ∧ HRep X.K H' ρ S ∧ PRS X.K H' ρ W Z (loopF it gt g (it.ds.drop (i + 1)) σd S), fun σ' H' n => ⟨it.ds.length - (i + 1), by omega, rfl, hlt, n⟩, fun v H' y => ?_⟩
      obtain ⟨x3, hr3, hv⟩ := h2 v H' y
      cases e1 : gt it.ds[i] σd2 S2 with
      | none => simp only [e1] at q2; exact q2.elim
      | some σ4 =>
        simp only [e1] at q2
        refine ⟨ρ2, σd2, S2, it.ds[i], he2.ext x3, hr3, hv, σ4, e1, fun σ5 he5 => ?_⟩
        refine ⟨ρ2, σ4, S2, he5, hr3, ?_⟩
        have q3 := PRS.ext x3 q2
        cases e6 : g σ4 S2 with
        | nx σ6 S6 =>
          rw [e6] at q3
          exact fun σ7 H7 ρ7 x7 hr7 he7 => ⟨ρ7, σ6, S6, (x2.trans x3).trans x7, he7, hr7, PRS.ext x7 q3⟩
        | ct σ6 S6 =>
          rw [e6] at q3
          exact fun σ7 H7 ρ7 x7 hr7 he7 => ⟨ρ7, σ6, S6, (x2.trans x3).trans x7, he7, hr7, PRS.ext x7 q3⟩
        | bk σ6 S6 => rw [e6] at q3; exact q3
        | rt d S6 => rw [e6] at q3; exact q3
        | raise c σ6 S6 => rw [e6] at q3; exact q3
        | stuck => rw [e6] at q3; exact q3
    · rw [if_neg hw] at q2; exact q2.elim
  · have hi' : i = it.ds.length := by omega
    subst hi'
    rw [List.drop_length] at q2
    unfold loopF at q2
    by_cases hw : watchOk it.w it.ds S2
    · rw [if_pos hw] at q2
      exact .inl ⟨(hJ _ H2 ρ2 S2 x2 hr2 hw).2 (Nat.le_refl _), q2 σ2 H2 ρ2 .refl hr2 he2⟩
    · rw [if_neg hw] at q2; exact q2.elim
/-- while, n turns at most -/
def whileF (t : FT) (g : FS) : Nat → FS
  | 0 => fun _ _ => .stuck
  | n + 1 => fun σ S => RS.of (t σ S) σ fun k S1 => if k = true then (g σ S1).turn (whileF t g n) else .nx σ S1
theorem ds_while {t : FT} (n : Nat) (own : PassesOwn (model X.prog X.w) X.A X.env X.xe) (hc : DT X W c t) (hb : DSs X W body g) : DS X W (.While c body [] pos) (whileF t g n) := by
  refine ⟨PS.imp (ps_while own hc.pt hb.pss) fun Z σ H hq => ?_⟩
  refine ⟨fun m σ H => tS X.K W (whileF t g m) Z σ H, ⟨n, hq⟩, fun m σ H hq => ?_⟩
  obtain ⟨ρ, σd, S, he, hr, q⟩ := hq
  cases m with
  | zero => exact q.elim
  | succ m =>
    refine ⟨ρ, σd, S, he, hr, PR.imp (PRS.of he (show PRS X.K H ρ W Z (RS.of (t σd S) σd fun k S1 => if k = true then (g σd S1).turn (whileF t g m) else .nx σd S1) from q)) (fun k S1 H1 ρ1 x1 hr1 q1 => ?_) fun _ _ _ _ _ _ q => q⟩
    cases k with
    | false => exact q1 σ H1 ρ1 .refl hr1 (he.ext x1)
    | true =>
      refine ⟨tS X.K W (whileF t g m) Z, fun σ' H' h => ⟨m, Nat.lt_succ_self m, h⟩, ρ1, σd, S1, he.ext x1, hr1, ?_⟩
      simp only [if_true] at q1
      cases e6 : g σd S1 with
      | nx σ6 S6 =>
        rw [e6] at q1
        exact fun σ7 H7 ρ7 x7 hr7 he7 => ⟨ρ7, σ6, S6, he7, hr7, PRS.ext x7 q1⟩
      | ct σ6 S6 =>
        rw [e6] at q1
        exact fun σ7 H7 ρ7 x7 hr7 he7 => ⟨ρ7, σ6, S6, he7, hr7, PRS.ext x7 q1⟩
      | bk σ6 S6 => rw [e6] at q1; exact q1
      | rt d S6 => rw [e6] at q1; exact q1
      | raise c σ6 S6 => rw [e6] at q1; exact q1
      | stuck => rw [e6] at q1; exact q1
end

/-! ### comprehensions -/
abbrev W0 : WX := fun _ _ _ _ => False
def wipeD (σ : En) : List Nat → En
  | [] => σ
  | v :: vs => (wipeD σ vs).set v none
theorem wipe_rep {K : PySem.W.Frag} {H : Hp} {ρ : Rho} {σd : En} {σ : L2.St} (h : RepE K H ρ σd σ) : ∀ vs : List Nat, RepE K H ρ (wipeD σd vs) (wipe σ vs)
  | [] => h
  | v :: vs => by
    obtain ⟨h1, h2⟩ := wipe_rep h vs
    refine ⟨by unfold wipe wipeD; simpa using h1, fun i d e => ?_⟩
    unfold wipeD at e
    unfold wipe
    by_cases c : v = i
    · subst c
      by_cases l : v < (wipeD σd vs).length
      · rw [List.getElem?_set_self l] at e; cases e
      · rw [List.getElem?_eq_none (by simpa using l)] at e; cases e
    · rw [List.getElem?_set_ne c] at e ⊢
      exact h2 i d e
/-- what is raised within is not served -/
def _root_.DL.Res.noR {α : Type} (r : Res α) : Res α := match r with
  | .raise _ _ => .stuck
  | r => r
@[simp] theorem Res.noR_ok {α : Type} (a : α) (S : Sto) : (Res.ok a S).noR = .ok a S := rfl
@[simp] theorem Res.noR_raise {α : Type} (c : Value) (S : Sto) : (Res.raise c S : Res α).noR = .stuck := rfl
@[simp] theorem Res.noR_stuck {α : Type} : (Res.stuck : Res α).noR = .stuck := rfl
/-- the turns: the target is bound over the wiped names -/
noncomputable def compF (it : Items) (gt : FG) (t : FT) (f : FE) (σ0 : En) : List D → Sto → List D → Res (List D)
  | [], S, acc => if watchOk it.w it.ds S then .ok acc S else .stuck
  | d :: r, S, acc => if watchOk it.w it.ds S then (match gt d σ0 S with
    | some σ1 => (t σ1 S).noR.bind fun k S1 => if k = true then (f σ1 S1).noR.bind fun x S2 => if acc.length < BIG then compF it gt t f σ0 r S2 (acc ++ [x]) else .stuck else compF it gt t f σ0 r S1 acc
    | none => .stuck) else .stuck
noncomputable def fComp (fi : FI) (gt : FG) (t : FT) (f : FE) (vs : List Nat) : FE := fun σ S => (fi σ S).bind fun it S1 => (compF it gt t f (wipeD σ vs) it.ds S1 []).bind fun ds S2 => .ok (.lst ds) S2
def tYesD : FT := fun _ S => .ok true S
structure DTs (X : Cx) (W : WX) (ifs : List Expr) (f : FT) : Prop where
  pts : PTs X ifs (tT X.K W f)
theorem PTs.imp {X : Cx} {e : List Expr} {t t' : TT} (h : PTs X e t) (hi : ∀ σ H Q, t' σ H Q → t σ H Q) : PTs X e t' := ⟨fun pins s σ H Q I q => h.run pins s σ H Q I (hi σ H Q q)⟩
theorem dts_nil {X : Cx} {W : WX} : DTs X W [] tYesD := by
  refine ⟨PTs.imp pts_nil fun σ H Q hq => ?_⟩
  obtain ⟨ρ, σd, S, he, hr, q⟩ := hq
  exact q H ρ .refl hr
theorem dts_one {X : Cx} {W : WX} {c : Expr} {t : FT} (h : DT X W c t) : DTs X W [c] t := ⟨pts_one h.pt⟩
theorem wipe_len (σ : L2.St) (vs : List Nat) : (wipe σ vs).length = σ.length := wipe_length σ vs
theorem wipe_get {σ : L2.St} {i : Nat} : ∀ {vs : List Nat}, (wipe σ vs)[i]? = if i ∈ vs ∧ i < σ.length then some none else σ[i]?
  | [] => by simp [wipe]
  | v :: vs => by
    unfold wipe
    by_cases c : v = i
    · subst c
      by_cases l : v < σ.length
      · rw [List.getElem?_set_self (by rw [wipe_length]; exact l)]
        simp [l]
      · rw [List.getElem?_eq_none (by simp [wipe_length]; omega), if_neg (by simp [l]), List.getElem?_eq_none (by omega)]
    · rw [List.getElem?_set_ne c, wipe_get]
      have : (i ∈ v :: vs) = (i ∈ vs) := by simp [Ne.symm c]
      simp only [this]
theorem wipe_set {σ : L2.St} {i : Nat} {o : Option V} {vs : List Nat} (h : i ∈ vs) : wipe (σ.set i o) vs = wipe σ vs := by
  apply List.ext_getElem?
  intro j
  rw [wipe_get, wipe_get]
  by_cases c : i = j
  · subst c
    by_cases l : i < σ.length
    · simp [h, l]
    · rw [List.getElem?_eq_none (by simpa using l), List.getElem?_eq_none (by omega)]
      simp [l]
  · rw [List.getElem?_set_ne c]
    simp
theorem wipe_wipe {σ : L2.St} {vs : List Nat} : wipe (wipe σ vs) vs = wipe σ vs := by
  apply List.ext_getElem?
  intro j
  rw [wipe_get, wipe_get, wipe_length]
  by_cases c : j ∈ vs ∧ j < σ.length
  · simp [c]
  · simp [c]
/-- targets that change the names vs alone -/
def tGo (K : PySem.W.Frag) (vs : List Nat) (gt : FG) : TG := fun v σ H Q => ∃ ρ σd S d, RepE K H ρ σd σ ∧ HRep K H ρ S ∧ RepV K H ρ d v ∧ ∃ σd', gt d σd S = some σd' ∧ ∀ σ', RepE K H ρ σd' σ' → wipe σ' vs = wipe σ vs → Q σ' H
structure DGo (X : Cx) (vs : List Nat) (tg : Expr) (gt : FG) : Prop where
  pg : PG X tg (tGo X.K vs gt)
def tGso (K : PySem.W.Frag) (ws : List Nat) (gt : FGs) : TGs := fun vs σ H Q => ∃ ρ σd S ds, RepE K H ρ σd σ ∧ HRep K H ρ S ∧ RepVs K H ρ ds vs ∧ ∃ σd', gt ds σd S = some σd' ∧ ∀ σ', RepE K H ρ σd' σ' → wipe σ' ws = wipe σ ws → Q σ' H
structure DGso (X : Cx) (ws : List Nat) (tg : List Expr) (gt : FGs) : Prop where
  pgs : PGs X tg (tGso X.K ws gt)
section
variable {X : Cx} {tg e : Expr} {es : List Expr} {gt : FG} {gs : FGs} {vs : List Nat} {pos : Pos}
theorem dgo_name (i : Nat) {x : Str} (hN : X.N.Nodup) (hiv : i ∈ vs := by decide) (hi : X.N[i]? = some x := by rfl) (hx : Loc X.env.scope x := by first | exact Or.inl rfl | exact Or.inr rfl) (hf : X.fn x = true ∨ X.env.scope.names.lookup x = some .local := by first | exact .inl rfl | exact .inr rfl | assumption) : DGo X vs (.Name x pos) (gNm i) := by
  refine ⟨PG.imp (pg_name hN hi hx hf) fun v σ H Q hq => ?_⟩
  obtain ⟨ρ, σd, S, d, he, hr, hv, σd', e1, q⟩ := hq
  cases e1
  exact q _ (he.set hv) (wipe_set hiv)
theorem dgso_nil : DGso X vs [] gsNil := by
  refine ⟨PGs.imp pgs_nil fun ws σ H Q hq => ?_⟩
  obtain ⟨ρ, σd, S, ds, he, hr, hv, σd', e1, q⟩ := hq
  cases ds with
  | nil => cases e1; exact ⟨hv.of_nil, q σ he rfl⟩
  | cons d ds => cases e1
theorem dgso_cons (h1 : DGo X vs e gt) (h2 : DGso X vs es gs) (hs : (assignEach (e :: es) X.env).map (·.2) = assign e X.env :: (assignEach es X.env).map (·.2) := by rfl) : DGso X vs (e :: es) (gsCons gt gs) := by
  refine ⟨PGs.imp (pgs_cons h1.pg h2.pgs hs) fun ws σ H Q hq => ?_⟩
  obtain ⟨ρ, σd, S, ds, he, hr, hv, σd', e1, q⟩ := hq
  cases ds with
  | nil => cases e1
  | cons d ds =>
    obtain ⟨v, vr, rfl, h3, h4⟩ := hv.of_cons
    obtain ⟨σ1, e2, e3⟩ := Option.bind_eq_some_iff.mp e1
    exact ⟨v, vr, rfl, ρ, σd, S, d, he, hr, h3, σ1, e2, fun σ' he' w' => ⟨ρ, σ1, S, ds, he', hr, h4, σd', e3, fun σ2 he2 w2 => q σ2 he2 (w2.trans w')⟩⟩
theorem dgo_tup {k n : Nat} (hc : X.calm = true) (h1 : DGso X vs es gs) (hn : (assignEach es X.env).length = n := by rfl) (hst : (assignEach es X.env).findIdx? (·.1) = none := by rfl) : DGo X vs (.Tuple es k pos) (gTp n gs) := by
  refine ⟨PG.imp (PG.or (pg_tup hc h1.pgs hn hst) (pg_lst hc h1.pgs hn hst)) fun v σ H Q hq => ?_⟩
  obtain ⟨ρ, σd, S, d, he, hr, hv, σd', e1, q⟩ := hq
  have go : ((anyL d S).bind fun xs => if xs.length = n then gs xs σd S else none) = some σd' → gLst X.K n (tGso X.K vs gs) v σ H Q := fun e1 => by
    obtain ⟨xs, e2, e3⟩ := Option.bind_eq_some_iff.mp e1
    obtain ⟨a, vs, rfl, h1, r1⟩ := anyL_rep hr hv e2
    split at e3
    · rename_i c
      exact ⟨a, vs, rfl, h1, r1.length.trans c, ρ, σd, S, xs, he, hr, r1, σd', e3, q⟩
    · cases e3
  cases d with
  | tup xs =>
    obtain ⟨a, vs, rfl, h1, _, r1⟩ := tup_rep hv
    simp only [gTp] at e1
    split at e1
    · rename_i c
      exact .inl ⟨a, vs, rfl, h1, r1.length.trans c, ρ, σd, S, xs, he, hr, r1, σd', e1, q⟩
    · cases e1
  | _ => exact .inr (go e1)
end
section
variable {X : Cx} {W : WX} {elt tg iter : Expr} {ifs : List Expr} {fi : FI} {gt : FG} {t : FT} {f : FE} {pos : Pos} {scope : Scope} {own : List (Str × Nat)} {vs : List Nat}
/-- the reading of a comprehension -/
theorem lc_imp {σ : L2.St} {H : Hp} {Q : VK} (hq : tE X.K W (fComp fi gt t f vs) σ H Q) : tLc (tI X.K W fi) (tGo X.K vs gt) (tT X.K W0 t) (tE X.K W0 f) vs σ H Q := by
  obtain ⟨ρ, σd, S, he, hr, q⟩ := hq
  refine ⟨ρ, σd, S, he, hr, PR.imp (PR.bind q) (fun it S1 H1 ρ1 x1 hr1 q1 => ?_) fun _ _ _ _ _ _ q => q⟩
  intro J hJ Da hDa
  have xB : Ext H1 ρ1 (upd H1 Da (.lst [])) ⟨ρ1.l, Da :: ρ1.x⟩ := ext_begin hDa
  have hrB : HRep X.K (upd H1 Da (.lst [])) ⟨ρ1.l, Da :: ρ1.x⟩ S1 := hr1.begin hDa
  have heB := (wipe_rep (he.ext x1) vs).ext xB
  -- at turn i: the list so far at Da
  refine ⟨fun i m H => m = it.ds.length - i ∧ i ≤ it.ds.length ∧ ∃ ρ S acc ws, Ext H1 ρ1 H ρ ∧ HRep X.K H ρ S ∧ RepE X.K H ρ (wipeD σd vs) (wipe σ vs) ∧ Da ∈ ρ.x ∧ H Da = some (.lst ws) ∧ RepVs X.K H ρ acc ws ∧
      PR X.K H1 ρ1 ((compF it gt t f (wipeD σd vs) (it.ds.drop i) S acc).bind fun ds S2 => .ok (D.lst ds) S2) (fun d _ H' ρ' => ∀ v, RepV X.K H' ρ' d v → Q v H') (fun c _ H' _ => W c none σ H'),
    ⟨it.ds.length, by simp, Nat.zero_le _, ⟨ρ1.l, Da :: ρ1.x⟩, S1, [], [], xB, hrB, heB, List.mem_cons_self, upd_same, .nil, q1⟩, ?_⟩
  rintro i m H2 ⟨rfl, hi, ρ2, S2, acc, ws, x2, hr2, he2, hD2, hw2, ra2, q2⟩
  by_cases hlt : i < it.ds.length
  · rw [List.drop_eq_getElem_cons hlt] at q2
    unfold compF at q2
    by_cases hw : watchOk it.w it.ds S2
    · rw [if_pos hw] at q2
      have hd : it.ds[i]? = some it.ds[i] := List.getElem?_eq_getElem hlt
      obtain ⟨h1, h2⟩ := (hJ i H2 ρ2 S2 x2 hr2 hw).1 _ hd
      refine .inr ⟨h1, fun H => ∃ ρ S acc ws, Ext H1 ρ1 H ρ ∧ HRep X.K H ρ S ∧ RepE X.K H ρ (wipeD σd vs) (wipe σ vs) ∧ Da ∈ ρ.x ∧ H Da = some (.lst ws) ∧ RepVs X.K H ρ acc ws ∧
        PR X.K H1 ρ1 ((compF it gt t f (wipeD σd vs) (it.ds.drop (i + 1)) S acc).bind fun ds S2 => .ok (D.lst ds) S2) (fun d _ H' ρ' => ∀ v, RepV X.K H' ρ' d v → Q v H') (fun c _ H' _ => W c none σ H'),
        fun H' n => ⟨it.ds.length - (i + 1), by omega, rfl, hlt, n⟩, fun v H3 y => ?_⟩
      obtain ⟨x3, hr3, hv⟩ := h2 v H3 y
      cases e1 : gt it.ds[i] (wipeD σd vs) S2 with
      | none => simp only [e1] at q2; exact q2.elim
      | some σ4 =>
        simp only [e1] at q2
        have stayD : ∀ {Ha Hb : Hp} {ρa ρb : Rho} {Sa : Sto}, Ext Ha ρa Hb ρb → HRep X.K Ha ρa Sa → Da ∈ ρa.x → Da ∈ ρb.x ∧ ∀ w, Ha Da = some w → Hb Da = some w := fun {Ha Hb ρa ρb Sa} x h hm => by
          obtain ⟨y, r, _⟩ := x.more
          exact ⟨by rw [r]; exact List.mem_append_right _ hm, fun w hw => x.keep Da w hw (h.ex Da hm).1⟩
        obtain ⟨hD3, hk3⟩ := stayD x3 hr2 hD2
        refine ⟨ρ2, wipeD σd vs, S2, it.ds[i], he2.ext x3, hr3, hv, σ4, e1, fun σ5 he5 w5 => ⟨w5.trans wipe_wipe, ?_⟩⟩
        refine ⟨ρ2, σ4, S2, he5, hr3, ?_⟩
        -- the test
        cases e6 : t σ4 S2 with
        | stuck => rw [e6] at q2; exact q2.elim
        | raise c S6 => rw [e6] at q2; exact q2.elim
        | ok k S6 =>
          rw [e6] at q2
          intro H6 ρ6 x6 hr6
          have x26 := x3.trans x6
          obtain ⟨hD6, hk6⟩ := stayD x6 hr3 hD3
          cases k with
          | false =>
            simp only [Res.noR_ok, Res.bind_ok, Bool.false_eq_true, if_false] at q2
            simp only [Bool.false_eq_true, if_false]
            exact ⟨ρ6, S6, acc, ws, x2.trans x26, hr6, he2.ext x26, hD6, hk6 _ (hk3 _ hw2), ra2.ext x26, q2⟩
          | true =>
            simp only [Res.noR_ok, Res.bind_ok, if_true] at q2
            simp only [if_true]
            refine ⟨ρ6, σ4, S6, he5.ext x6, hr6, ?_⟩
            cases e7 : f σ4 S6 with
            | stuck => rw [e7] at q2; exact q2.elim
            | raise c S7 => rw [e7] at q2; exact q2.elim
            | ok d7 S7 =>
              rw [e7] at q2
              simp only [Res.noR_ok, Res.bind_ok] at q2
              intro H7 ρ7 x7 hr7 v7 hv7
              have x27 := x26.trans x7
              obtain ⟨hD7, hk7⟩ := stayD x7 hr6 hD6
              have hw7 := hk7 _ (hk6 _ (hk3 _ hw2))
              by_cases c : acc.length < BIG
              · rw [if_pos c] at q2
                have ra7 := ra2.ext x27
                refine ⟨ws, hw7, by rw [ra7.length, ← big_line]; exact c, ?_⟩
                have xm : Ext H1 ρ1 (upd H7 Da (.lst (ws ++ [v7]))) ρ7 := by
                  obtain ⟨z1, z2, z3, z4⟩ := x2.trans x27
                  have nD : ∀ a u, H1 a = some u → a ≠ Da := fun a u e z => by rw [z, hDa] at e; cases e
                  exact ⟨z1, z2, fun a u e hn => by rw [upd_ne (nD a u e)]; exact z3 a u e hn, fun a u e => by rw [upd_ne (nD a u e)]; exact z4 a u e⟩
                refine ⟨ρ7, S7, acc ++ [d7], ws ++ [v7], xm, hr7.made hD7, ?_, hD7, upd_same, (ra7.append (.cons hv7 .nil)).made hD7, q2⟩
                obtain ⟨g1, g2⟩ := he2.ext x27
                exact ⟨g1, fun j d e => let ⟨v, a, b⟩ := g2 j d e; ⟨v, a, b.made hD7⟩⟩
              · rw [if_neg c] at q2; exact q2.elim
    · rw [if_neg hw] at q2; exact q2.elim
  · have hi' : i = it.ds.length := by omega
    subst hi'
    rw [List.drop_length] at q2
    unfold compF at q2
    by_cases hw : watchOk it.w it.ds S2
    · rw [if_pos hw] at q2
      refine .inl ⟨(hJ _ H2 ρ2 S2 x2 hr2 hw).2 (Nat.le_refl _), ?_⟩
      have sub : ∀ b ∈ ρ1.x, b ∈ ρ2.x := fun b hb => by
        obtain ⟨y, r, _⟩ := x2.more
        rw [r]; exact List.mem_append_right _ hb
      have xE : Ext H1 ρ1 H2 ⟨ρ2.l, ρ1.x⟩ := ⟨x2.pre, ⟨[], by simp, by simp⟩, x2.keep, x2.there⟩
      refine q2 H2 ⟨ρ2.l, ρ1.x⟩ xE (hr2.done sub) _ ?_
      unfold RepV
      exact ⟨Da, ws, rfl, ⟨⟨(hr2.ex Da hD2).1, (hr1.out hDa).2⟩, hw2⟩, ra2.done sub⟩
    · rw [if_neg hw] at q2; exact q2.elim
/-- [elt for target in iter if ..] -/
theorem de_comp (cx : Ctx X W) (hi : DI X W tg iter fi) (ok : BlkOk X.N X.env.scope scope own)
    (hg : ∀ (s : Shared) (H : Hp) (C : Addr) (cl : List (Str × Addr)) (fp : List Addr), DGo (X.blk s H scope (compEnvC scope cl C X.env) fp) (own.map (·.2)) tg gt)
    (ht : ∀ (s : Shared) (H : Hp) (C : Addr) (cl : List (Str × Addr)) (fp : List Addr), DTs (X.blk s H scope (compEnvC scope cl C X.env) fp) W0 ifs t)
    (he : ∀ (s : Shared) (H : Hp) (C : Addr) (cl : List (Str × Addr)) (fp : List Addr), DE (X.blk s H scope (compEnvC scope cl C X.env) fp) W0 elt f)
    (hs : ∀ x, foldedSetIterable iter X.env x = pure x := by intro _; rfl) : DE X W (.ListComp elt [⟨tg, iter, ifs, 0⟩] scope pos) (fComp fi gt t f (own.map (·.2))) :=
  ⟨PE.imp (pe_lc (g := tGo X.K (own.map (·.2)) gt) (tt := tT X.K W0 t) (te := tE X.K W0 f) cx.calm cx.nd hi.pi ok (fun s H C cl fp => (hg s H C cl fp).pg) (fun s H C cl fp => (ht s H C cl fp).pts) (fun s H C cl fp => (he s H C cl fp).pe) hs) fun _ _ _ q => lc_imp q⟩
/-- name = [..] -/
theorem ds_setComp (i : Nat) {y : Str} {py spos : Pos} (cx : Ctx X W) (hy : X.N[i]? = some y) (hyl : X.env.scope.names.lookup y = some .local)
    (hsw : swapsWith (.ListComp elt [⟨tg, iter, ifs, 0⟩] scope pos) (some (.Name y py)) spos.line X.env = pure true) (hi : DI X W tg iter fi) (ok : BlkOk X.N X.env.scope scope own)
    (hg : ∀ (s : Shared) (H : Hp) (C : Addr) (cl : List (Str × Addr)) (fp : List Addr), DGo (X.blk s H scope (compEnvC scope cl C X.env) fp) (own.map (·.2)) tg gt)
    (ht : ∀ (s : Shared) (H : Hp) (C : Addr) (cl : List (Str × Addr)) (fp : List Addr), DTs (X.blk s H scope (compEnvC scope cl C X.env) fp) W0 ifs t)
    (he : ∀ (s : Shared) (H : Hp) (C : Addr) (cl : List (Str × Addr)) (fp : List Addr), DE (X.blk s H scope (compEnvC scope cl C X.env) fp) W0 elt f)
    (hs : ∀ x, foldedSetIterable iter X.env x = pure x := by intro _; rfl) : DS X W (.Assign [.Name y py] (.ListComp elt [⟨tg, iter, ifs, 0⟩] scope pos) spos) (sSet i (fComp fi gt t f (own.map (·.2)))) := by
  refine ⟨PS.imp (ps_setLc (g := tGo X.K (own.map (·.2)) gt) (tt := tT X.K W0 t) (te := tE X.K W0 f) cx.calm cx.nd hy hyl hsw hi.pi ok (fun s H C cl fp => (hg s H C cl fp).pg) (fun s H C cl fp => (ht s H C cl fp).pts) (fun s H C cl fp => (he s H C cl fp).pe) hs) fun Z σ H hq => ?_⟩
  obtain ⟨ρ, σd, S, he, hr, q⟩ := hq
  refine lc_imp ⟨ρ, σd, S, he, hr, PR.imp (PRS.of he q) (fun d S1 H1 ρ1 x1 hr1 q1 v hv => q1 _ H1 ρ1 .refl hr1 ((he.ext x1).set hv)) fun _ _ _ _ _ _ q => q⟩
end

/-! ### methods of lists of the store -/
section
variable {X : Cx} {W : WX} {e o : Expr} {es : List Expr} {f g : FE} {fs : FA} {pos apos : Pos}
theorem ref_ty {K : PySem.W.Frag} {H : Hp} {ρ : Rho} {S : Sto} {n : Nat} {xs : List D} {v : V} (hr : HRep K H ρ S) (hv : RepV K H ρ (.ref n) v) (e : lstOf (.ref n) S = some xs) : ∃ a vs, v = .ref a ∧ H a = some (.lst vs) ∧ ρ.l[n]? = some a ∧ S[n]? = some (.lst xs) ∧ RepVs K H ρ xs vs := by
  unfold RepV at hv
  obtain ⟨a, rfl, ha⟩ := hv
  simp only [lstOf] at e
  cases hS : S[n]? with
  | none => rw [hS] at e; cases e
  | some o =>
    rw [hS] at e
    cases o with
    | lst ys =>
      cases e
      obtain ⟨vs, h1, h2⟩ := hr.all n _ a hS ha
      exact ⟨a, vs, rfl, h1, ha, rfl, h2⟩
    | ins C fs => cases e
abbrev FM := List D → List D → Sto → Option (List D × D)
/-- a method of a list, by what it makes of the list's items and the arguments -/
def MtD (K : PySem.W.Frag) (r : V → List V → Hp → VK → Prop) (m : FM) : Prop := ∀ {H : Hp} {ρ : Rho} {S : Sto} {n : Nat} {a : Addr} {xs xs' ys : List D} {vs ws : List V} {d : D} {Q : VK}, HRep K H ρ S → S[n]? = some (.lst xs) → ρ.l[n]? = some a → H a = some (.lst vs) → RepVs K H ρ xs vs → RepVs K H ρ ys ws →
  m xs ys S = some (xs', d) → (∀ v H', Ext H ρ H' ρ → HRep K H' ρ (S.set n (.lst xs')) → RepV K H' ρ d v → Q v H') → r (.ref a) ws H Q
def fM (m : FM) (f : FE) (fs : FA) : FE := fun σ S => (f σ S).bind fun x S1 => match x with
  | .ref n => (ofO (lstOf (.ref n) S1) S1).bind fun _ S1 => (fs σ S1).bind fun ys S2 => (ofO (lstOf (.ref n) S2) S2).bind fun xs S2 => match m xs ys S2 with
    | some (xs', d) => .ok d (S2.set n (.lst xs'))
    | none => .stuck
  | _ => .stuck
theorem de_m {r : V → List V → Hp → VK → Prop} {m : FM} (hm : MtD X.K r m) (hp : PE X e (tBM X.K "list" r (tE X.K W f) (tA X.K W fs))) : DE X W e (fM m f fs) := by
  refine ⟨PE.imp hp fun σ H Q hq => ?_⟩
  obtain ⟨ρ, σd, S, he, hr, q⟩ := hq
  refine ⟨ρ, σd, S, he, hr, PR.imp (PR.bind q) (fun x S1 H1 ρ1 x1 hr1 q1 v hv => ?_) fun _ _ _ _ _ _ q => q⟩
  cases x with
  | ref n =>
    simp only at q1
    cases e1 : lstOf (.ref n) S1 with
    | none => rw [e1] at q1; exact q1.elim
    | some xs0 =>
      rw [e1] at q1
      simp only [ofO_some, Res.bind_ok] at q1
      obtain ⟨a, vs0, rfl, k1, k2, k3, k4⟩ := ref_ty hr1 hv e1
      refine ⟨Or.inl ⟨rfl, _, .of k1⟩, ρ1, σd, S1, he.ext x1, hr1, PR.imp (PR.bind q1) (fun ys S2 H2 ρ2 x2 hr2 q2 ws hws => ?_) fun _ _ _ _ _ _ q => q⟩
      cases e2 : lstOf (.ref n) S2 with
      | none => rw [e2] at q2; exact q2.elim
      | some xs =>
        rw [e2] at q2
        simp only [ofO_some, Res.bind_ok] at q2
        obtain ⟨a', vs, ea, h1, h2, h3, h4⟩ := ref_ty hr2 (hv.ext x2) e2
        cases ea
        cases e3 : m xs ys S2 with
        | none => rw [e3] at q2; exact q2.elim
        | some p =>
          obtain ⟨xs', d⟩ := p
          rw [e3] at q2
          exact hm hr2 h3 h2 h1 h4 hws e3 fun v H' x3 hr3 hv3 => q2 H' ρ2 x3 hr3 v hv3
  | _ => exact q1.elim
/-- a method without arguments -/
theorem de_m0 {r : V → List V → Hp → VK → Prop} {m : FM} (hm : MtD X.K r m) (hp : PE X e (tBM0 X.K "list" r (tE X.K W f))) : DE X W e (fM m f aNil) := by
  refine ⟨PE.imp hp fun σ H Q hq => ?_⟩
  obtain ⟨ρ, σd, S, he, hr, q⟩ := hq
  refine ⟨ρ, σd, S, he, hr, PR.imp (PR.bind q) (fun x S1 H1 ρ1 x1 hr1 q1 v hv => ?_) fun _ _ _ _ _ _ q => q⟩
  cases x with
  | ref n =>
    simp only at q1
    cases e1 : lstOf (.ref n) S1 with
    | none => rw [e1] at q1; exact q1.elim
    | some xs =>
      rw [e1] at q1
      simp only [ofO_some, Res.bind_ok, aNil, e1] at q1
      obtain ⟨a, vs, rfl, h1, h2, h3, h4⟩ := ref_ty hr1 hv e1
      refine ⟨Or.inl ⟨rfl, _, .of h1⟩, ?_⟩
      cases e3 : m xs [] S1 with
      | none => rw [e3] at q1; exact q1.elim
      | some p =>
        obtain ⟨xs', d⟩ := p
        rw [e3] at q1
        exact hm hr1 h3 h2 h1 h4 .nil e3 fun v H' x3 hr3 hv3 => q1 H' ρ1 x3 hr3 v hv3
  | _ => exact q1.elim
def mAppend : FM := fun xs ys _ => match ys with
  | [y] => if xs.length < BIG then some (xs ++ [y], .non) else none
  | _ => none
theorem mtD_append {K : PySem.W.Frag} : MtD K rAppend mAppend := by
  intro H ρ S n a xs xs' ys vs ws d Q hr hS ha hH rx ry e q
  match ys, e with
  | [y], e =>
    simp only [mAppend] at e
    split at e
    · rename_i c
      cases e
      obtain ⟨u, vr, rfl, h1, h2⟩ := ry.of_cons
      rw [h2.of_nil]
      obtain ⟨y1, y2⟩ := hr.write (List.getElem?_eq_some_iff.mp hS).1 ha hH (rx.append (.cons h1 .nil))
      exact ⟨a, vs, u, rfl, rfl, hH, by rw [rx.length, ← big_line]; exact c, q _ _ y1 y2 (by unfold RepV; rfl)⟩
    · cases e
def mExtend : FM := fun xs ys S => match ys with
  | [y] => (lstOf y S).bind fun zs => if xs.length + zs.length ≤ BIG then some (xs ++ zs, .non) else none
  | _ => none
theorem mtD_extend {K : PySem.W.Frag} : MtD K rExtend mExtend := by
  intro H ρ S n a xs xs' ys vs ws d Q hr hS ha hH rx ry e q
  match ys, e with
  | [y], e =>
    simp only [mExtend] at e
    obtain ⟨zs, e1, e⟩ := Option.bind_eq_some_iff.mp e
    split at e
    · rename_i c
      cases e
      obtain ⟨u, vr, rfl, h1, h2⟩ := ry.of_cons
      rw [h2.of_nil]
      obtain ⟨b, us, rfl, h3, h4⟩ := lstOf_rep hr h1 e1
      obtain ⟨y1, y2⟩ := hr.write (List.getElem?_eq_some_iff.mp hS).1 ha hH (rx.append h4)
      exact ⟨a, b, vs, us, rfl, rfl, hH, h3, by rw [rx.length, h4.length, ← big_line]; exact c, q _ _ y1 y2 (by unfold RepV; rfl)⟩
    · cases e
theorem RepVs.dropLast {K : PySem.W.Frag} {H : Hp} {ρ : Rho} {ds : List D} {vs : List V} (h : RepVs K H ρ ds vs) : RepVs K H ρ ds.dropLast vs.dropLast := by
  rw [List.dropLast_eq_take, List.dropLast_eq_take, h.length]
  exact h.take _
def mPop : FM := fun xs ys _ => match ys with
  | [] => (xs[xs.length - 1]?).map fun y => (xs.dropLast, y)
  | _ => none
theorem mtD_pop {K : PySem.W.Frag} : MtD K rPop mPop := by
  intro H ρ S n a xs xs' ys vs ws d Q hr hS ha hH rx ry e q
  match ys, e with
  | [], e =>
    simp only [mPop] at e
    obtain ⟨y, e1, e2⟩ := Option.map_eq_some_iff.mp e
    cases e2
    rw [ry.of_nil]
    obtain ⟨v, h1, h2⟩ := rx.get e1
    obtain ⟨y1, y2⟩ := hr.write (List.getElem?_eq_some_iff.mp hS).1 ha hH rx.dropLast
    exact ⟨a, vs, v, rfl, rfl, hH, by rw [rx.length]; exact h1, q _ _ y1 y2 (h2.ext y1)⟩
end
section
variable {X : Cx} {W : WX} {e o : Expr} {es : List Expr} {f g : FE} {fs : FA} {pos apos : Pos}
theorem de_append (ha : DE X W o f) (hb : DA X W (e :: es) fs) (hbase : attributeBase o "append" X.env (eval o X.env) = eval o X.env := by rfl)
    (hfew : ((backTo pos (starEach (e :: es) X.env)).all (fun x => !x.1) && (backToKw pos (keywordEach [] X.env)).all (fun x => x.1.isSome)
      && decide ((e :: es).length + ([] : List Keyword).length + (if ([] : List Keyword).isEmpty then 0 else 1) < 30)) = true := by rfl)
    (hline : (apos.endLine == pos.line) = true := by rfl) (hs : starEach (e :: es) X.env = (false, eval e X.env) :: starEach es X.env := by rfl) (hpl : (backTo pos (starEach es X.env)).any (·.1) = false := by rfl) :
    DE X W (.Call (.Attribute o "append" apos) (e :: es) [] pos) (fM mAppend f fs) :=
  de_m mtD_append (pe_bm PySem.F.plainAttrs_list PySem.F.slot_list_append PySem.F.type_list_append mt_append ha.pe hb.pa hbase hfew hline hs hpl)
theorem de_extend (ha : DE X W o f) (hb : DA X W (e :: es) fs) (hbase : attributeBase o "extend" X.env (eval o X.env) = eval o X.env := by rfl)
    (hfew : ((backTo pos (starEach (e :: es) X.env)).all (fun x => !x.1) && (backToKw pos (keywordEach [] X.env)).all (fun x => x.1.isSome)
      && decide ((e :: es).length + ([] : List Keyword).length + (if ([] : List Keyword).isEmpty then 0 else 1) < 30)) = true := by rfl)
    (hline : (apos.endLine == pos.line) = true := by rfl) (hs : starEach (e :: es) X.env = (false, eval e X.env) :: starEach es X.env := by rfl) (hpl : (backTo pos (starEach es X.env)).any (·.1) = false := by rfl) :
    DE X W (.Call (.Attribute o "extend" apos) (e :: es) [] pos) (fM mExtend f fs) :=
  de_m mtD_extend (pe_bm PySem.F.plainAttrs_list PySem.F.slot_list_extend PySem.F.type_list_extend mt_extend ha.pe hb.pa hbase hfew hline hs hpl)
theorem de_pop (ha : DE X W o f) (hbase : attributeBase o "pop" X.env (eval o X.env) = eval o X.env := by rfl) (hline : (apos.endLine == pos.line) = true := by rfl) :
    DE X W (.Call (.Attribute o "pop" apos) [] [] pos) (fM mPop f aNil) :=
  de_m0 mtD_pop (pe_bm0 PySem.F.plainAttrs_list PySem.F.slot_list_pop PySem.F.type_list_pop mt_pop ha.pe hbase hline)
end

/-! ### try -/
abbrev HD := Value × FS
/-- what a suite raises is not served -/
def RS.noR (r : RS) : RS := match r with
  | .raise _ _ _ => .stuck
  | r => r
/-- the clauses, by the classes that they name -/
def catchF (m : Value → Value → Option Bool) : List HD → Value → En → Sto → RS
  | [], c, σ, S => .raise c σ S
  | (k, g) :: r, c, σ, S => match m c k with
    | some true => (g σ S).noR
    | some false => catchF m r c σ S
    | none => .stuck
def sTry (m : Value → Value → Option Bool) (g : FS) (l : List HD) : FS := fun σ S => match g σ S with
  | .raise c σ1 S1 => catchF m l c σ1 S1
  | r => r
inductive HdsD (X : Cx) : List ExceptHandler → List HD → Prop
  | nil : HdsD X [] []
  | cons {x : Str} {c : Value} {g : FS} {b₀ : Stmt} {suite : List Stmt} {np pos' : Pos} {hds : List ExceptHandler} {l : List HD} (hc : Names X x c)
      (hsu : ∀ (a : Addr) (oe : Obj) (pn : List (Addr × Obj)), DSs (X.suite a ((a, oe) :: pn)) W0 (b₀ :: suite) g) (r : HdsD X hds l) : HdsD X (.ExceptHandler (some (.Name x np)) none (b₀ :: suite) pos' :: hds) ((c, g) :: l)
def readH (K : PySem.W.Frag) (l : List HD) : List (Value × (Addr → Value → Option Addr → TS)) := l.map fun p => (p.1, fun _ _ _ => tS K W0 p.2)
theorem HdsD.ok {X : Cx} : ∀ {hds : List ExceptHandler} {l : List HD}, HdsD X hds l → HdsOk X hds (readH X.K l)
  | _, _, .nil => .nil
  | _, _, .cons hc hsu r => .cons hc (fun a oe cls d pn _ _ => (hsu a oe pn).pss) r.ok
section
variable {X : Cx} {W : WX} {body : List Stmt} {h₀ : ExceptHandler} {hds : List ExceptHandler} {l : List HD} {g : FS} {pos : Pos}
theorem ds_try (cx : Ctx X W) (hs : X.stack = X.env :: X.outer) (hf : X.env.frame = some X.env.locals)
    (hb : ∀ (W' : WX) (pn : List (Addr × Obj)) (xe : Value → Shared → Prop), Ctx (X.tr pn xe) W' → PassesOwn (model X.prog X.w) X.A X.env xe → DSs (X.tr pn xe) W' body g) (hh : HdsD X (h₀ :: hds) l) :
    DS X W (.Try body (h₀ :: hds) [] [] pos) (sTry (PySem.W.exmOne X.K) g l) := by
  refine ⟨PS.imp (ps_try_many (tb := fun W' => tS X.K W' g) hs hf cx.takes (fun W' pn xe tk ow => (hb W' pn xe ⟨cx.units, cx.calm, cx.guards, tk, cx.nd⟩ ow).pss) hh.ok) fun Z σ H hq => ?_⟩
  obtain ⟨ρ, σd, S, he, hr, q⟩ := hq
  refine ⟨ρ, σd, S, he, hr, ?_⟩
  unfold sTry at q
  cases e1 : g σd S with
  | raise c σ1 S1 =>
    rw [e1] at q
    simp only at q
    intro σ' H' ρ' x hr' he'
    have go : ∀ l : List HD, PRS X.K H' ρ' W Z (catchF (PySem.W.exmOne X.K) l c σ1 S1) → wMany X.K W Z (readH X.K l) c none σ' H' := by
      intro l
      induction l with
      | nil => exact fun q => q σ' H' ρ' .refl hr' he'
      | cons p r ih =>
        intro q
        unfold catchF at q
        cases em : PySem.W.exmOne X.K c p.1 with
        | none => rw [em] at q; exact q.elim
        | some b =>
          rw [em] at q
          refine ⟨b, em, fun eb a ha => ?_, fun eb => ?_⟩
          · subst eb
            refine ⟨ρ', σ1, S1, he', hr', ?_⟩
            have q' : PRS X.K H' ρ' W Z (p.2 σ1 S1).noR := q
            cases e7 : p.2 σ1 S1 with
            | raise c2 σ2 S2 => rw [e7] at q'; exact q'.elim
            | stuck => rw [e7] at q'; exact q'
            | _ => rw [e7] at q'; exact q'
          · subst eb
            exact ih q
    exact go l (PRS.ext x q)
  | _ => rw [e1] at q; exact q
end
end DL
end

section
set_option Elab.async false
set_option linter.all false
set_option maxRecDepth 100000
set_option maxHeartbeats 4000000
namespace DL
open PySem PySem.Spec PyProof.Rows L2

/-! ### a def by its body -/
def startD (N : Nat) (ds : List D) : En := ds.map some ++ List.replicate (N - ds.length) none
/-- what a body hands back -/
def endF (r : RS) : Res D := match r with
  | .nx _ S => .ok .non S
  | .rt d S => .ok d S
  | .raise c _ S => .raise c S
  | _ => .stuck
@[simp] theorem endF_nx (σ : En) (S : Sto) : endF (.nx σ S) = .ok .non S := rfl
@[simp] theorem endF_rt (d : D) (S : Sto) : endF (.rt d S) = .ok d S := rfl
@[simp] theorem endF_raise (c : Value) (σ : En) (S : Sto) : endF (.raise c σ S) = .raise c S := rfl
def runF (N : Nat) (g : FS) : Fn := fun ds S => endF (g (startD N ds) S)
theorem start_rep {K : PySem.W.Frag} {H : Hp} {ρ : Rho} {ds : List D} {vs : List V} {N : List Str} (r : RepVs K H ρ ds vs) : RepE K H ρ (startD N.length ds) (L2.start N vs) := by
  have hl := r.length
  refine ⟨by unfold L2.start startD; simp [hl], fun i d e => ?_⟩
  unfold startD at e
  unfold L2.start
  have hi : i < ds.length := by
    by_cases c : i < ds.length
    · exact c
    · rw [List.getElem?_append_right (by simpa using c), List.getElem?_replicate] at e
      split at e <;> cases e
  rw [List.getElem?_append_left (by simpa using hi), List.getElem?_map] at e
  cases e1 : ds[i]? with
  | none => rw [e1] at e; cases e
  | some d' =>
    rw [e1] at e
    cases e
    obtain ⟨v, h1, h2⟩ := r.get e1
    exact ⟨v, by rw [List.getElem?_append_left (by simp [hl, hi]), List.getElem?_map, h1]; rfl, h2⟩
theorem endF_imp {K : PySem.W.Frag} {H : Hp} {ρ : Rho} {Q : VK} {E : XK} {r : RS} (h : PR K H ρ (endF r) (fun d _ H' ρ' => ∀ v, RepV K H' ρ' d v → Q v H') (fun c _ H' _ => E c none H')) : PRS K H ρ (fun cls d _ H => E cls d H) { nx := fun _ H' => Q .non H', rt := Q } r := by
  cases r with
  | nx σ S => exact fun σ' H' ρ' x hr he => h H' ρ' x hr .non (by unfold RepV; rfl)
  | rt d S => exact fun v H' ρ' x hr hv => h H' ρ' x hr v hv
  | raise c σ S => exact fun σ' H' ρ' x hr he => h H' ρ' x hr
  | bk σ S => exact h.elim
  | ct σ S => exact h.elim
  | stuck => exact h.elim
section
variable {P : Program} {w : World} {K : PySem.W.Frag} {mg : Str → Option Value} {base : Heap}
theorem fn_d {x qual : Str} {st : Stmt} {f : Addr} {fd : FuncData} {N ps : List Str} {k : Nat} {g : FS} (F : L2.Fun K x qual st f fd) (SC : FnScope N ps (defScope st))
    (hb : ∀ (cdv : Value) (A : Around) (outer : List Env) (s : Shared) (H : Hp) (E : XK), Room k (A.deeper (envOfC qual (defScope st) s.heap.objs.size f cdv)) →
      Ctx (cxOf (L2.CX P w) P w K mg base N qual (defScope st) f cdv A outer s H E) (fun cls d _ H => E cls d H) →
      PassesOwn (model P w) (A.deeper (envOfC qual (defScope st) s.heap.objs.size f cdv)) (envOfC qual (defScope st) s.heap.objs.size f cdv) (cxOf (L2.CX P w) P w K mg base N qual (defScope st) f cdv A outer s H E).xe →
      DSs (cxOf (L2.CX P w) P w K mg base N qual (defScope st) f cdv A outer s H E) (fun cls d _ H => E cls d H) (defBody st) g) :
    FnG P w K mg base (k + 1) f fd ps (spD K ps.length (runF N.length g)) := by
  obtain ⟨oc, od, kV, doc, pm, an, cdv, ct, osl, rfl, lk, hcd⟩ := F.ex
  refine fnG_of lk hcd SC (fun vs H Q E h => ?_) fun A outer s H vs Q E hr hgd hsp => ?_
  · obtain ⟨ρ, ds, S, h, _⟩ := h
    exact h
  · have cx : Ctx (cxOf (L2.CX P w) P w K mg base N qual (defScope st) f cdv A outer s H E) (fun cls d _ H => E cls d H) :=
      ⟨by have := hr.un; show (A.deeper (envOfC qual (defScope st) s.heap.objs.size f cdv)).units + 65 < cLine; omega, rfl, hgd, takes_of rfl rfl rfl rfl, SC.nd⟩
    refine ⟨_, (hb cdv A outer s H E hr cx (passes_of rfl)).pss, ?_⟩
    obtain ⟨ρ, ds, S, h1, h2, h3, h4⟩ := hsp
    exact ⟨ρ, startD N.length ds, S, start_rep h2, h3, endF_imp h4⟩
end

/-! ### what a def made is let go: a list that it hands back is not changed any more -/
mutual
/-- no thing of the store from n on -/
def clean (n : Nat) : D → Bool
  | .ref m => decide (m < n)
  | .tup ds => cleans n ds
  | .lst ds => cleans n ds
  | .frz ds => cleans n ds
  | _ => true
def cleans (n : Nat) : List D → Bool
  | [] => true
  | d :: ds => clean n d && cleans n ds
end
def cleanO (n : Nat) : SO → Bool
  | .lst ds => cleans n ds
  | .ins _ fs => cleans n (fs.map (·.2))
def cleanS (n : Nat) (S : Sto) : Bool := S.all (cleanO n)
/-- what is handed back -/
def letGo (n : Nat) (d : D) (S : Sto) : Option D := match d with
  | .ref m => if m < n then some (.ref m) else match S[m]? with
    | some (.lst ds) => if cleans n ds = true then some (.lst ds) else none
    | _ => none
  | d => if clean n d = true then some d else none
def frz (F : Fn) : Fn := fun ds S => match F ds S with
  | .ok d S' => if cleanS S.length (S'.take S.length) = true then (match letGo S.length d S' with
    | some d' => .ok d' (S'.take S.length)
    | none => .stuck) else .stuck
  | .raise c S' => if cleanS S.length (S'.take S.length) = true then .raise c (S'.take S.length) else .stuck
  | .stuck => .stuck
section
variable {K : PySem.W.Frag} {H : Hp} {ρ ρ' : Rho}
/-- back from a wider store -/
structure Nar (n : Nat) (ρ ρ' : Rho) : Prop where
  len : ρ.l.length = n
  l : ∃ e, ρ'.l = ρ.l ++ e
  x : ∃ y, ρ'.x = y ++ ρ.x
theorem Nar.off {n : Nat} {a : Addr} (h : Nar n ρ ρ') (o : ρ'.off a) : ρ.off a := by
  obtain ⟨_, ⟨e, he⟩, ⟨y, hy⟩⟩ := h
  exact ⟨fun hm => o.1 (by rw [he]; exact List.mem_append_left _ hm), fun hm => o.2 (by rw [hy]; exact List.mem_append_right _ hm)⟩
mutual
theorem clean_rep {n : Nat} (h : Nar n ρ ρ') : ∀ {d : D} {v : V}, clean n d = true → RepV K H ρ' d v → RepV K H ρ d v
  | .non, _, _, r => r
  | .bl _, _, _, r => r
  | .int _, _, _, r => r
  | .str _, _, _, r => r
  | .tup ds, v, c, r => by
    unfold clean at c
    unfold RepV at r ⊢
    obtain ⟨a, vs, e, ha, hs⟩ := r
    refine ⟨a, vs, e, ?_, cleans_rep h c hs⟩
    rcases ha with ⟨hn, ha⟩ | ha
    · exact .inl ⟨h.off hn, ha⟩
    · exact .inr ha
  | .lst ds, v, c, r => by
    unfold clean at c
    unfold RepV at r ⊢
    obtain ⟨a, vs, e, ha, hs⟩ := r
    exact ⟨a, vs, e, ⟨h.off ha.1, ha.2⟩, cleans_rep h c hs⟩
  | .frz ds, v, c, r => by
    unfold clean at c
    unfold RepV at r ⊢
    obtain ⟨a, vs, e, ha, hs⟩ := r
    refine ⟨a, vs, e, ?_, cleans_rep h c hs⟩
    rcases ha with ⟨hn, ha⟩ | ha
    · exact .inl ⟨h.off hn, ha⟩
    · exact .inr ha
  | .emp, v, c, r => by
    unfold RepV at r ⊢
    obtain ⟨a, e, ha⟩ := r
    exact ⟨a, e, h.off ha.1, ha.2⟩
  | .ref m, v, c, r => by
    unfold clean at c
    unfold RepV at r ⊢
    obtain ⟨a, e, ha⟩ := r
    obtain ⟨hl, ⟨e', he⟩, _⟩ := h
    have hm : m < n := of_decide_eq_true c
    rw [he, List.getElem?_append_left (by omega)] at ha
    exact ⟨a, e, ha⟩
  | .cst _, _, _, r => r
theorem cleans_rep {n : Nat} (h : Nar n ρ ρ') : ∀ {ds : List D} {vs : List V}, cleans n ds = true → RepVs K H ρ' ds vs → RepVs K H ρ ds vs
  | [], _, _, r => r
  | d :: ds, vs, c, r => by
    unfold cleans at c
    unfold RepVs at r ⊢
    obtain ⟨v, vr, e, h1, h2⟩ := r
    have c' := Bool.and_eq_true_iff.mp c
    exact ⟨v, vr, e, clean_rep h c'.1 h1, cleans_rep h c'.2 h2⟩
end
theorem cleanS_rep {n : Nat} {S : Sto} (h : Nar n ρ ρ') (hr : HRep K H ρ' S) (hn : n ≤ S.length) (c : cleanS n (S.take n) = true) : HRep K H ρ (S.take n) := by
  obtain ⟨hl, ⟨e, he⟩, ⟨y, hy⟩⟩ := id h
  refine ⟨by rw [hl, List.length_take]; omega, ?_, fun m o a e1 e2 => ?_, fun a ha => ?_⟩
  · have := hr.nd
    rw [he] at this
    exact (List.nodup_append.mp this).1
  · have hm : m < n := by
      have := (List.getElem?_eq_some_iff.mp e1).1
      rw [List.length_take] at this; omega
    rw [List.getElem?_take_of_lt hm] at e1
    have e3 : ρ'.l[m]? = some a := by rw [he, List.getElem?_append_left (by omega)]; exact e2
    have q := hr.all m o a e1 e3
    have co : cleanO n o = true := List.all_eq_true.mp c o (by
      refine List.mem_iff_getElem?.mpr ⟨m, ?_⟩
      rw [List.getElem?_take_of_lt hm]; exact e1)
    cases o with
    | lst ds =>
      obtain ⟨vs, h1, h2⟩ := q
      exact ⟨vs, h1, cleans_rep h co h2⟩
    | ins C fs =>
      obtain ⟨dx, ws, h1, h2, h3⟩ := q
      exact ⟨dx, ws, h1, h2, cleans_rep h co h3⟩
  · obtain ⟨h1, h2⟩ := hr.ex a (by rw [hy]; exact List.mem_append_right _ ha)
    exact ⟨fun hm => h1 (by rw [he]; exact List.mem_append_left _ hm), h2⟩
theorem frz_sp {n : Nat} {F : Fn} {vs : List V} {Q : VK} {E : XK} (h : spD K n (frz F) vs H Q E) : spD K n F vs H Q E := by
  obtain ⟨ρ, ds, S, h1, h2, h3, h4⟩ := h
  refine ⟨ρ, ds, S, h1, h2, h3, ?_⟩
  unfold frz at h4
  have nar : ∀ {H' : Hp} {ρ' : Rho}, Ext H ρ H' ρ' → Nar S.length ρ ρ' := fun {H' ρ'} x => ⟨h3.len, let ⟨e, r, _⟩ := x.pre; ⟨e, r⟩, let ⟨y, r, _⟩ := x.more; ⟨y, r⟩⟩
  have ext : ∀ {H' : Hp} {ρ' : Rho}, Ext H ρ H' ρ' → Ext H ρ H' ρ := fun {H' ρ'} x => ⟨⟨[], by simp, by simp⟩, ⟨[], by simp, by simp⟩, x.keep, x.there⟩
  have sz : ∀ {H' : Hp} {ρ' : Rho} {S' : Sto}, Ext H ρ H' ρ' → HRep K H' ρ' S' → S.length ≤ S'.length := fun {H' ρ' S'} x hr => by
    obtain ⟨e, r, _⟩ := x.pre
    rw [← hr.len, r, List.length_append, h3.len]
    omega
  cases e : F ds S with
  | stuck => rw [e] at h4; exact h4
  | raise c S' =>
    rw [e] at h4
    simp only at h4
    intro H' ρ' x hr
    split at h4
    · rename_i cl
      exact h4 H' ρ (ext x) (cleanS_rep (nar x) hr (sz x hr) cl)
    · exact h4.elim
  | ok d S' =>
    rw [e] at h4
    simp only at h4
    intro H' ρ' x hr v hv
    split at h4
    · rename_i cl
      cases el : letGo S.length d S' with
      | none => rw [el] at h4; exact h4.elim
      | some d' =>
        rw [el] at h4
        refine h4 H' ρ (ext x) (cleanS_rep (nar x) hr (sz x hr) cl) v ?_
        have other : (if clean S.length d = true then some d else none) = some d' → RepV K H' ρ d' v := fun el => by
          split at el
          · rename_i c2
            cases el
            exact clean_rep (nar x) c2 hv
          · cases el
        cases d with
        | ref m =>
          simp only [letGo] at el
          split at el
          · rename_i hm
            cases el
            exact clean_rep (nar x) (by unfold clean; exact decide_eq_true hm) hv
          · split at el
            · rename_i o es
              split at el
              · rename_i c2
                cases el
                unfold RepV at hv
                obtain ⟨a, rfl, ha⟩ := hv
                obtain ⟨ws, k1, k2⟩ := hr.all m _ a es ha
                unfold RepV
                refine ⟨a, ws, rfl, ⟨⟨fun hm' => ?_, fun hm' => ?_⟩, k1⟩, cleans_rep (nar x) c2 k2⟩
                · obtain ⟨j, ej⟩ := List.mem_iff_getElem?.mp hm'
                  obtain ⟨e', r, _⟩ := x.pre
                  have hj := (List.getElem?_eq_some_iff.mp ej).1
                  have ej' : ρ'.l[j]? = some a := by rw [r, List.getElem?_append_left hj]; exact ej
                  obtain ⟨g1, q1⟩ := List.getElem?_eq_some_iff.mp ha
                  obtain ⟨g2, q2⟩ := List.getElem?_eq_some_iff.mp ej'
                  have := (List.getElem_inj hr.nd).mp (q1.trans q2.symm)
                  rw [h3.len] at hj
                  omega
                · obtain ⟨y, r, _⟩ := x.more
                  exact (hr.ex a (by rw [r]; exact List.mem_append_right _ hm')).1 (List.mem_iff_getElem?.mpr ⟨m, ha⟩)
              · cases el
            · cases el
        | _ => exact other el
    · exact h4.elim
theorem FnG.frz {P : Program} {w : World} {mg : Str → Option Value} {base : Heap} {k n : Nat} {f : Addr} {fd : FuncData} {ps : List Str} {F : Fn} (G : FnG P w K mg base k f fd ps (spD K n F)) : FnG P w K mg base k f fd ps (spD K n (frz F)) := G.imp fun _ _ _ _ h => frz_sp h
end

/-! ### a comprehension's block; repr -/
theorem Ctx.blk {X : Cx} {W : WX} (cx : Ctx X W) (s : Shared) (H : Hp) (scope : Scope) (cenv : Env) (fp : List Addr) : Ctx (X.blk s H scope cenv fp) W0 :=
  ⟨cx.units, cx.calm, cx.guards, fun u s' ⟨_, _, _, _, _, _, _, _, _, _, _, _, _, _, _, _, w⟩ => w.elim, cx.nd⟩
def dRepr (x : D) : Option D := match x with
  | .tup _ => (toPy x).bind fun p => if p.showable = true ∧ p.hasDict = false ∧ p.shown.length ≤ BIG ∧ p.depth ≤ 60 then some (.str p.shown) else none
  | .lst _ => (toPy x).bind fun p => if p.showable = true ∧ p.hasDict = false ∧ p.shown.length ≤ BIG ∧ p.depth ≤ 60 then some (.str p.shown) else none
  | .non => some (.str "None")
  | .bl b => some (.str (if b then "True" else "False"))
  | .int i => if i.natAbs.log2 < 1920 then some (.str (toString i)) else none
  | .str x => if (reprText x).length ≤ BIG then some (.str (reprText x)) else none
  | _ => none
def cRepr : List D → Sto → Option D
  | [x], _ => dRepr x
  | _, _ => none
def rRepr (K : PySem.W.Frag) : List V → Hp → VK → Prop := fun xs H Q => ∃ v, xs = [v] ∧ ((∃ p, Dp K H v p ∧ (∃ a, v = .ref a) ∧ p.showable = true ∧ p.hasDict = false ∧ p.shown.length ≤ sizeLine ∧ p.depth ≤ 60 ∧ Q (.str p.shown) H) ∨ (v = .non ∧ Q (.str "None") H) ∨ (∃ b, v = .bl b ∧ Q (.str (if b then "True" else "False")) H) ∨
  (∃ i, v = .int i ∧ i.natAbs.log2 < 1920 ∧ Q (.str (toString i)) H) ∨ ∃ x, v = .str x ∧ (reprText x).length ≤ sizeLine ∧ Q (.str (reprText x)) H)
theorem call_repr {X : Cx} (hg : X.A.guards = some []) (hu : X.A.units + 65 < cLine) : CallR X (.builtin "repr") (rRepr X.K) := by
  intro pins s σ H xs us Q I r h
  obtain ⟨v, rfl, h⟩ := h
  obtain ⟨u, rfl, ru⟩ := Vals.one r
  rcases h with ⟨p, hd, ⟨a, rfl⟩, h1, h2, h3, h4, q⟩ | ⟨rfl, q⟩ | ⟨b, rfl, q⟩ | ⟨i, rfl, hi, q⟩ | ⟨x, rfl, hx, q⟩
  · obtain ⟨as, rd⟩ := Dp.reads I p _ u hd ru
    cases ru
    exact PySem.repr_of_reads' rd h1 (fun z => by rw [h2] at z; cases z) hg (by omega) (fun _ _ e => e) (fun h' u tk k => ⟨.str p.shown, H, I.kept (t' := tk) k, ⟨u, rfl⟩, q⟩) h3
  · cases ru
    exact PySem.P.repr_of_none ⟨.str "None", H, I.tok _, ⟨_, rfl⟩, q⟩
  · cases ru
    exact PySem.P.repr_of_bool ⟨.str (if b then "True" else "False"), H, I.tok _, ⟨_, rfl⟩, q⟩
  · obtain ⟨t, rfl⟩ := ru
    exact PySem.P.repr_of_int hi ⟨.str (toString i), H, I.tok _, ⟨_, rfl⟩, q⟩
  · obtain ⟨t, rfl⟩ := ru
    exact PySem.P.repr_of_str ⟨.str (reprText x), H, I.tok _, ⟨_, rfl⟩, q⟩ hx
theorem callD_repr {K : PySem.W.Frag} : CallD K (rRepr K) cRepr := by
  intro vs H ρ S ds d Q hr hvs e q
  match ds, e with
  | [x], e =>
    obtain ⟨v, vr, rfl, h1, h2⟩ := hvs.of_cons
    rw [h2.of_nil]
    refine ⟨v, rfl, ?_⟩
    have deep : ((toPy x).bind fun p => if p.showable = true ∧ p.hasDict = false ∧ p.shown.length ≤ BIG ∧ p.depth ≤ 60 then some (D.str p.shown) else none) = some d → (∃ a, v = .ref a) → ∃ p, Dp K H v p ∧ (∃ a, v = .ref a) ∧ p.showable = true ∧ p.hasDict = false ∧ p.shown.length ≤ sizeLine ∧ p.depth ≤ 60 ∧ Q (.str p.shown) H := fun e ha => by
      obtain ⟨p, e1, e2⟩ := Option.bind_eq_some_iff.mp e
      split at e2
      · rename_i c
        cases e2
        exact ⟨p, toPy_dp h1 e1, ha, c.1, c.2.1, by rw [← big_line]; exact c.2.2.1, c.2.2.2, q _ H .refl hr (by unfold RepV; rfl)⟩
      · cases e2
    replace e : dRepr x = some d := e
    cases x with
    | tup xs =>
      refine .inl (deep e ?_)
      unfold RepV at h1
      obtain ⟨a, _, e, _⟩ := h1
      exact ⟨a, e⟩
    | lst xs =>
      refine .inl (deep e ?_)
      unfold RepV at h1
      obtain ⟨a, _, e, _⟩ := h1
      exact ⟨a, e⟩
    | non =>
      unfold RepV at h1
      cases e
      exact .inr (.inl ⟨h1, q _ H .refl hr (by unfold RepV; rfl)⟩)
    | bl b =>
      unfold RepV at h1
      cases e
      exact .inr (.inr (.inl ⟨b, h1, q _ H .refl hr (by unfold RepV; rfl)⟩))
    | int i =>
      unfold RepV at h1
      simp only [dRepr] at e
      split at e
      · rename_i c
        cases e
        exact .inr (.inr (.inr (.inl ⟨i, h1, c, q _ H .refl hr (by unfold RepV; rfl)⟩)))
      · cases e
    | str y =>
      unfold RepV at h1
      simp only [dRepr] at e
      split at e
      · rename_i c
        cases e
        exact .inr (.inr (.inr (.inr ⟨y, h1, by rw [← big_line]; exact c, q _ H .refl hr (by unfold RepV; rfl)⟩)))
      · cases e
    | _ => cases e

/-! ### the law's end -/
theorem frz_ints (ns : List Int) {K : PySem.W.Frag} {H : Hp} {ρ : Rho} : RepVs K H ρ (ns.map .int) (ns.map V.int) := by
  induction ns with
  | nil => exact .nil
  | cons n ns ih => exact .cons (by unfold RepV; rfl) ih
theorem law_end {l : PySem.W.OpenLaw} {n k : Nat} {q : Program} {loose : List Str} {XP : (Str → Option Value) → Heap → Prop} {YP : World → Heap → Prop} {d : DefRec} {K : Params → PySem.W.Frag} {x : Str}
    (hn : l.most = some n) (hn2 : n ≤ sizeLine) (hdf : d.params.defaults = []) (hr : Room k callerA) (hY : ∀ (w : World) (h : Heap), YP w h → (K w.params).In h)
    (F : ∀ (w : World) (mg : Str → Option Value) (fa : Addr) (h : Heap), (K w.params).In h → h.Ns mainGlobals mg → mg d.name = some (.ref fa) →
      ∃ fd : FuncData, (∀ (s : Shared) (u : Value), BindsTo s fd ⟨[u], []⟩ [(x, u)]) ∧ ∃ Fn : Fn, (∀ ns : List Int, ns.length ≤ n → ∃ S', Fn [.frz (ns.map .int)] [] = .ok (.bl true) S') ∧
        ∀ base : Heap, (K w.params).In base → base.Ns mainGlobals mg → FnG l.prog w (K w.params) mg base k fa fd [x] (spD (K w.params) 1 Fn)) :
    PySem.W.WalkO q loose XP YP l.row.toRowW d [] (fun f vs => PySem.call f vs) := by
  refine Att.attach_call hn hdf ?_
  intro w s0 s1 mg mb fa o pm cd doc a vs ns G Y ho hd hcd hmg hobj hints hlen hg
  have KX := hY w _ Y
  obtain ⟨fd, hbind, Fn, hans, hF⟩ := F w mg fa _ KX G.T.g hmg
  have hlv := hints.length
  have relv := vals_ints hints
  -- with an abstract heap that knows the script at most
  have run : ∀ H : Hp, (∀ b, H b = none ∨ b = a) → (∀ u, H a = some u → ∃ o xs, u = .frz o (.lst xs)) → HOk l.prog w H s1.heap → LAt (K w.params) H ⟨[], []⟩ a (ns.map V.int) → (H a ≠ none → (K w.params).lookup a = none) →
      codeAny (model l.prog w) callerA (.call (.ref fa) ⟨[.ref a], []⟩) (fun r s' => r = .ok (.ret (.bool true)) ∧ OldK s1.heap s'.heap ∧ s'.os = s1.os ∧ AllBare s'.gens) s1 := by
    intro H hone hfrz hok hat hkn
    have onlyA : ∀ b u, H b = some u → b = a := fun b u e => (hone b).resolve_left fun z => by rw [z] at e; cases e
    have free : ∀ {b ob}, s1.heap.get? b = some ob → ob ≠ { cls := .type "list", data := .seq vs.toArray } → H b = none := fun {b ob} e ne => by
      cases eh : H b with
      | none => rfl
      | some u =>
        have := onlyA b u eh
        subst this
        rw [hobj] at e
        exact absurd (Option.some.inj e).symm ne
    have dictFree : ∀ {b ob es ep}, s1.heap.get? b = some ob → ob.data = .dict es ep → H b = none := fun {b ob es ep} e dd => free e fun z => by
      rw [z] at dd
      cases dd
    have ns' : ∀ {b : Addr} {m : Str → Option Value}, s1.heap.Ns b m → (hidT s1.heap H).Ns b m := by
      rintro b m ⟨ob, es, ep, e, dd, r⟩
      exact ⟨ob, es, ep, hidT_get e (dictFree e dd), dd, r⟩
    have kin : (K w.params).In (hidT s1.heap H) := by
      intro b ob e
      refine hidT_get (KX b ob e) ?_
      cases eh : H b with
      | none => rfl
      | some u =>
        have := onlyA b u eh
        subst this
        rw [hkn (by rw [eh]; simp)] at e
        cases e
    have modl : Mod (K w.params) mg (hidT s1.heap H) := by
      refine ⟨kin, ns' G.T.g, ⟨mb, ns' G.T.b, G.T.builtins⟩, ?_⟩
      obtain ⟨mc, e1, e2⟩ := G.T.nolimit
      exact ⟨mc, ns' e1, e2⟩
    have env : Env0 l.prog w (K w.params) mg (hidT s1.heap H) callerA [] s1 H :=
      ⟨rfl, modl, fun b ob e => of_hidT e, Nat.le_of_eq (hidT_size _ _), trivial, fun b hb => absurd (show b ∈ ([] : List Addr) from hb) (by simp), hok, .of_eq hg⟩
    have rel : Vals [V.ref a] [Value.ref a] := .cons rfl .nil
    obtain ⟨S', eS⟩ := hans ns hlen
    have want : spD (K w.params) 1 Fn [V.ref a] H (fun v _ => v = .bl true) (fun _ _ _ => False) := by
      refine ⟨⟨[], []⟩, [.frz (ns.map .int)], [], rfl, .cons ?_ .nil, ⟨rfl, by simp, fun n o b e => by simp at e, fun b hb => absurd hb (by simp)⟩, ?_⟩
      · unfold RepV
        exact ⟨a, _, rfl, hat, frz_ints ns⟩
      · rw [eS]
        intro H' ρ' _ _ v hv
        unfold RepV at hv
        exact hv
    refine codeAny_mono ((hF _ kin (ns' G.T.g)).run callerA [] s1 H ⟨[.ref a], []⟩ [.ref a] [.ref a] _ _ hr rfl env (hbind s1 (.ref a)) rel want) ?_
    intro r s' z
    match r, z with
    | .error e, ⟨_, _, _, _, _, _, _, _, _, _, _, _, q⟩ => exact q.elim
    | .ok .next, z => exact z.elim
    | .ok .brk, z => exact z.elim
    | .ok .cont, z => exact z.elim
    | .ok (.ret u), ⟨v, H', eos, bare, un, hok', rv, hv⟩ =>
      subst hv
      obtain rfl : u = Value.bool true := rv
      refine ⟨rfl, OldK.of_keep ?_, eos, bare⟩
      intro b ob e
      cases eh : H b with
      | none => exact un.keep b ob e eh (by simp [frs]) (by simp)
      | some u =>
        have eb := onlyA b u eh
        subst eb
        obtain ⟨oo, xs, rfl⟩ := hfrz u eh
        obtain ⟨g1, _⟩ := hok b _ eh
        obtain ⟨g2, _⟩ := hok' b _ (un.frzs b oo _ eh)
        rw [e] at g1
        cases g1
        exact g2
  cases ek : (K w.params).lookup a with
  | some oa =>
    have eo := KX a oa ek
    rw [hobj] at eo
    cases eo
    refine run (fun _ => none) (fun _ => .inl rfl) (fun u e => by cases e) (fun b u z => by cases z) (.inr (.inr ⟨_, vs.toArray, _, ek, rfl, rfl, rfl, ?_, by simpa using relv⟩)) fun z => absurd rfl z
    rw [List.size_toArray, hlv]
    exact Nat.le_trans hlen hn2
  | none =>
    have at1 : (fun b => if b = a then some (HO.frz { cls := .type "list", data := .seq vs.toArray } (.lst (ns.map V.int))) else none : Hp) a = some (HO.frz { cls := .type "list", data := .seq vs.toArray } (.lst (ns.map V.int))) := if_pos rfl
    refine run (fun b => if b = a then some (.frz { cls := .type "list", data := .seq vs.toArray } (.lst (ns.map V.int))) else none) (fun b => ?_) (fun u e => ?_) (fun b u z => ?_) (.inl ⟨⟨by simp, by simp⟩, .inr ⟨_, at1⟩⟩) fun _ => ek
    · by_cases c : b = a
      · exact .inr c
      · exact .inl (if_neg c)
    · have e' := at1.symm.trans e
      cases e'
      exact ⟨_, _, rfl⟩
    · by_cases c : b = a
      · subst c
        have z' := at1.symm.trans z
        cases z'
        exact ⟨hobj, by rw [List.length_map]; exact Nat.le_trans hlen hn2, vs, _, relv, hobj⟩
      · have z' := (if_neg c).symm.trans z
        cases z'
end DL
end

section
set_option Elab.async false
set_option linter.all false
set_option maxRecDepth 100000
set_option maxHeartbeats 4000000
/-! a caught error that has a name -/
namespace DL
open PySem PySem.Spec PyProof.Rows L2
def clsVal : D → Option Value
  | .cst (.ref a) => some (.ref a)
  | .cst (.ty n) => some (.type n)
  | _ => none
def kmAny (km : Value → Value → Option Bool) (c : Value) : List D → Option Bool
  | [] => some false
  | d :: ds => (clsVal d).bind fun v => (km c v).bind fun b => (kmAny km c ds).map fun r => b || r
def isE (km : Value → Value → Option Bool) (c : Value) : D → Option Bool
  | .tup (d :: ds) => kmAny km c (d :: ds)
  | d => (clsVal d).bind fun v => km c v
def cIsE (km : Value → Value → Option Bool) (c : Value) (a : Addr) : List D → Sto → Option D
  | [.cst (.ref b), d], _ => if b = a then (isE km c d).map .bl else none
  | _, _ => none
open Classical in
/-- isinstance of an error, where its class says what it must -/
noncomputable def kmE (K : PySem.W.Frag) : Value → Value → Option Bool := fun c v => match c with
  | .ref D => if ExcC K D then PySem.W.kitOne K (.ref D) v else none
  | _ => none
theorem kmE_of {K : PySem.W.Frag} {D : Addr} {v : Value} {b : Bool} (h : ExcC K D) (e : PySem.W.kitOne K (.ref D) v = some b) : kmE K (.ref D) v = some b := by
  unfold kmE
  simp only [if_pos h]
  exact e
theorem kmE_some {K : PySem.W.Frag} {c v : Value} {b : Bool} (h : kmE K c v = some b) : ∃ D, c = .ref D ∧ ExcC K D ∧ PySem.W.kitOne K (.ref D) v = some b := by
  unfold kmE at h
  split at h
  · rename_i D
    split at h
    · rename_i k
      exact ⟨D, rfl, k, h⟩
    · cases h
  · cases h
def rIsEE (K : PySem.W.Frag) (c : Value) (a : Addr) : List V → Hp → VK → Prop := fun xs H Q => ∃ (x : V) (b : Bool), xs = [.ref a, x] ∧ ((∃ D u, c = .ref D ∧ ExcC K D ∧ ClsV x u ∧ PySem.W.kitOne K (.ref D) u = some b) ∨
  (∃ D tp cs us, c = .ref D ∧ ExcC K D ∧ x = .ref tp ∧ SqT K H tp cs ∧ Paired ClsV cs us ∧ PySem.W.kitAny K (.ref D) us = some b)) ∧ Q (.bl b) H
theorem call_isEE {X : Cx} {a : Addr} {c : Value} {oe : Obj} {pn : List (Addr × Obj)} (hz : Zc c none oe) (hf : ∃ vs, oe.data = .fields vs) : CallR (X.suite a ((a, oe) :: pn)) (.builtin "isinstance") (rIsEE X.K c a) := by
  intro pins s σ H xs us Q I r h
  obtain ⟨x, b, rfl, e, q⟩ := h
  obtain ⟨u1, u2, rfl, r1, r2⟩ := vals2 r
  cases (show u1 = Value.ref a from r1)
  have inst : ∀ D, c = .ref D → PySem.W.InstAt s.heap a oe D none := fun D ec => by
    obtain ⟨hget, _⟩ := I.pin (a, oe) (List.mem_append.mpr (.inl List.mem_cons_self))
    obtain ⟨vs, hv⟩ := hf
    obtain ⟨oc, od, oda, osl⟩ := oe
    obtain ⟨h1, h2⟩ := hz
    dsimp only at h1 h2 hv
    subst ec
    subst h1 h2 hv
    exact ⟨hget, rfl, rfl, trivial⟩
  rcases e with ⟨D, u, ec, C, k, e⟩ | ⟨D, tp, cs, ws, ec, C, rfl, hT, k, e⟩
  · have e2 := k.eq r2
    subst e2
    exact PySem.W.kia_one (PySem.W.handS_kitx_exc C.hg C.hk C.hs C.hd C.ha C.hn C.ht C.hm) I.kIn (inst D ec) e (fun z => nomatch z) fun tk => ⟨.bl b, H, I.kept (t' := tk) fun _ _ z => z, rfl, q⟩
  · cases (show u2 = Value.ref tp from r2)
    rcases hT with hT | ⟨o, its, n, hk, h2, h3, _, rv⟩
    · obtain ⟨_, its, rv, o, h1, h2, n, h3⟩ := (show ObjOk X.prog X.w H s.heap tp (.tup cs) from hT.ok I.hok)
      have e3 := ClsV.all k rv
      subst e3
      obtain ⟨oc, od, dt, sl⟩ := o
      simp only at h2 h3
      subst h2 h3
      exact PySem.W.kia_tup (PySem.W.handS_kitx_exc C.hg C.hk C.hs C.hd C.ha C.hn C.ht C.hm) I.kIn (inst D ec) h1 e (fun z => nomatch z) fun tk => ⟨.bl b, H, I.kept (t' := tk) fun _ _ z => z, rfl, q⟩
    · have e3 := ClsV.all k rv
      obtain ⟨oc, od, dt, sl⟩ := o
      simp only at h2 h3
      subst h2 h3
      have h1 := I.kIn _ _ hk
      have e4 : its = ws.toArray := by rw [← e3]
      subst e4
      exact PySem.W.kia_tup (PySem.W.handS_kitx_exc C.hg C.hk C.hs C.hd C.ha C.hn C.ht C.hm) I.kIn (inst D ec) h1 e (fun z => nomatch z) fun tk => ⟨.bl b, H, I.kept (t' := tk) fun _ _ z => z, rfl, q⟩
theorem clsVal_rep {K : PySem.W.Frag} {H : Hp} {ρ : Rho} {d : D} {v : V} {u : Value} (h : RepV K H ρ d v) (e : clsVal d = some u) : ClsV v u := by
  cases d with
  | cst c =>
    unfold RepV at h
    subst h
    cases v <;> simp [clsVal] at e
    · subst e; exact .own _
    · subst e; exact .ty _
  | _ => simp [clsVal] at e
theorem kmAny_rep {K : PySem.W.Frag} {H : Hp} {ρ : Rho} {C : Addr} : ∀ {ds : List D} {vs : List V} {b : Bool}, RepVs K H ρ ds vs → kmAny (kmE K) (.ref C) ds = some b → ∃ us, Paired ClsV vs us ∧ PySem.W.kitAny K (.ref C) us = some b := by
  intro ds
  induction ds with
  | nil =>
    intro vs b h e
    rw [h.of_nil]
    exact ⟨[], .nil, e⟩
  | cons d ds ih =>
    intro vs b h e
    obtain ⟨v, vr, rfl, h1, h2⟩ := h.of_cons
    unfold kmAny at e
    obtain ⟨u, e1, e⟩ := Option.bind_eq_some_iff.mp e
    obtain ⟨b1, e2, e⟩ := Option.bind_eq_some_iff.mp e
    obtain ⟨r, e4, e⟩ := Option.map_eq_some_iff.mp e
    obtain ⟨D', ed, _, e3⟩ := kmE_some e2
    cases ed
    obtain ⟨us, p, q⟩ := ih h2 e4
    refine ⟨u :: us, .cons (clsVal_rep h1 e1) p, kitAny_cons e3 (fun z => ?_) (fun z => ?_)⟩
    · subst z; rw [q, ← e]; rfl
    · subst z; exact e.symm
theorem callD_isEE {K : PySem.W.Frag} {c : Value} {a : Addr} : CallD K (rIsEE K c a) (cIsE (kmE K) c a) := by
  intro vs H ρ S ds d Q hr hvs e q
  match ds, e with
  | [.cst (.ref b), x], e =>
    obtain ⟨v, vr, rfl, h1, h2⟩ := hvs.of_cons
    obtain ⟨u, vr, rfl, h3, h4⟩ := h2.of_cons
    rw [h4.of_nil]
    unfold RepV at h1
    subst h1
    have h0 : (if b = a then (isE (kmE K) c x).map D.bl else none) = some d := e
    clear e
    split at h0
    · rename_i ab
      subst ab
      obtain ⟨r, e1, rfl⟩ := Option.map_eq_some_iff.mp h0
      refine ⟨u, r, rfl, ?_, q _ H .refl hr (by unfold RepV; rfl)⟩
      have one : ∀ w, clsVal x = some w → kmE K c w = some r → ∃ D u', c = .ref D ∧ ExcC K D ∧ ClsV u u' ∧ PySem.W.kitOne K (.ref D) u' = some r := fun w k1 k2 => by
        obtain ⟨C, ec, k, k3⟩ := kmE_some k2
        exact ⟨C, w, ec, k, clsVal_rep h3 k1, k3⟩
      cases x with
      | tup xs =>
        unfold RepV at h3
        obtain ⟨p, ws, rfl, hT, h5⟩ := h3
        cases xs with
        | nil => simp [isE, clsVal] at e1
        | cons x0 xs =>
          have e1' : kmAny (kmE K) c (x0 :: xs) = some r := e1
          have e2 := e1'
          unfold kmAny at e2
          obtain ⟨w, k1, e2⟩ := Option.bind_eq_some_iff.mp e2
          obtain ⟨b1, k2, e2⟩ := Option.bind_eq_some_iff.mp e2
          obtain ⟨C, rfl, k, _⟩ := kmE_some k2
          obtain ⟨us, p1, p2⟩ := kmAny_rep h5 e1'
          exact .inr ⟨C, p, ws, us, rfl, k, rfl, hT.sq, p1, p2⟩
      | _ =>
        have e1' := e1
        unfold isE at e1'
        obtain ⟨w, k1, k2⟩ := Option.bind_eq_some_iff.mp e1'
        exact .inl (one w k1 k2)
    · cases h0
/-! ### try with one clause that has a name -/
def RS.clr (i : Nat) : RS → RS
  | .nx σ S => .nx (σ.set i none) S
  | .bk σ S => .bk (σ.set i none) S
  | .ct σ S => .ct (σ.set i none) S
  | r => r
open Classical in
/-- what the suite does is the same wherever the error lies -/
noncomputable def sTryAs (m : Value → Value → Option Bool) (g : FS) (k : Value) (i : Nat) (h : Value → Addr → FS) : FS := fun σ S => match g σ S with
  | .raise c σ1 S1 => match m c k with
    | some true => if ∀ a, ((h c a (σ1.set i (some (.cst (.ref a)))) S1).noR.clr i) = ((h c 0 (σ1.set i (some (.cst (.ref 0)))) S1).noR.clr i) then ((h c 0 (σ1.set i (some (.cst (.ref 0)))) S1).noR.clr i) else .stuck
    | some false => .raise c σ1 S1
    | none => .stuck
  | r => r
theorem RepE.unset {K : PySem.W.Frag} {H : Hp} {ρ : Rho} {σd : En} {σ : L2.St} {i : Nat} (h : RepE K H ρ σd σ) : RepE K H ρ (σd.set i none) (σ.set i none) := by
  refine ⟨by simp [h.1], fun j d' e => ?_⟩
  by_cases hj : i = j
  · subst hj
    by_cases hl : i < σd.length
    · rw [List.getElem?_set_self hl] at e; cases e
    · rw [List.getElem?_eq_none (by simpa using hl)] at e; cases e
  · rw [List.getElem?_set_ne hj] at e ⊢
    exact h.2 j d' e
section
variable {X : Cx} {W : WX} {body suite : List Stmt} {b₀ : Stmt} {x n : Str} {c : Value} {i : Nat} {np pos pos' : Pos} {g : FS} {h : Value → Addr → FS}
theorem ds_try_as (cx : Ctx X W) (hs : X.stack = X.env :: X.outer) (hf : X.env.frame = some X.env.locals) (hi : X.N[i]? = some n) (hln : X.env.kindOf n = some .local) (hc : Names X x c)
    (hb : ∀ (W' : WX) (pn : List (Addr × Obj)) (xe : Value → Shared → Prop), Ctx (X.tr pn xe) W' → PassesOwn (model X.prog X.w) X.A X.env xe → DSs (X.tr pn xe) W' body g)
    (hsu : ∀ (v : Value) (a : Addr) (oe : Obj) (pn : List (Addr × Obj)), Zc v none oe → (∃ vs, oe.data = .fields vs) → DSs (X.suite a ((a, oe) :: pn)) W0 (b₀ :: suite) (h v a)) :
    DS X W (.Try body [.ExceptHandler (some (.Name x np)) (some n) (b₀ :: suite) pos'] [] [] pos) (sTryAs (PySem.W.exmOne X.K) g c i h) := by
  refine ⟨PS.imp (L2.ps_try_as (tb := fun W' => tS X.K W' g) (ts := fun a cls d Z σ H => d = none ∧ tS X.K W0 (h cls a) Z σ H) (Wout := W) hs hf cx.nd hi hln hc cx.takes (fun W' pn xe tk ow => (hb W' pn xe ⟨cx.units, cx.calm, cx.guards, tk, cx.nd⟩ ow).pss)
    (fun a oe cls d pn hz hv => ?_)) fun Z σ H hq => ?_⟩
  · refine ⟨fun pins s σ H Z I hq => ?_⟩
    obtain ⟨rfl, hq⟩ := hq
    exact (hsu cls a oe pn hz hv).pss.run pins s σ H Z I hq
  obtain ⟨ρ, σd, S, he, hr, q⟩ := hq
  refine ⟨ρ, σd, S, he, hr, ?_⟩
  unfold sTryAs at q
  cases e1 : g σd S with
  | raise v σ1 S1 =>
    rw [e1] at q
    simp only at q
    intro σ' H' ρ' x' hr' he'
    cases em : PySem.W.exmOne X.K v c with
    | none => rw [em] at q; exact q.elim
    | some b =>
      rw [em] at q
      refine ⟨b, em, fun eb a ha => ⟨rfl, ?_⟩, fun eb => ?_⟩
      · subst eb
        simp only at q
        split at q
        · rename_i same
          rw [← same a] at q
          have q' := PRS.ext x' q
          refine ⟨ρ', σ1.set i (some (.cst (.ref a))), S1, he'.set (by unfold RepV; rfl), hr', ?_⟩
          cases e7 : h v a (σ1.set i (some (.cst (.ref a)))) S1 with
          | raise c2 σ2 S2 => rw [e7] at q'; exact q'.elim
          | stuck => rw [e7] at q'; exact q'
          | nx σ2 S2 => rw [e7] at q'; exact fun σ3 H3 ρ3 y1 y2 y3 => q' _ H3 ρ3 y1 y2 y3.unset
          | bk σ2 S2 => rw [e7] at q'; exact fun σ3 H3 ρ3 y1 y2 y3 => q' _ H3 ρ3 y1 y2 y3.unset
          | ct σ2 S2 => rw [e7] at q'; exact fun σ3 H3 ρ3 y1 y2 y3 => q' _ H3 ρ3 y1 y2 y3.unset
          | rt d S2 => rw [e7] at q'; exact q'
        · exact q.elim
      · subst eb
        exact q σ' H' ρ' x' hr' he'
  | _ => rw [e1] at q; exact q
end

section
variable {X : Cx} {W : WX} {body suite : List Stmt} {b₀ : Stmt} {x n : Str} {c : Value} {i : Nat} {np pos pos' : Pos} {g : FS} {h : Value → Addr → FS}
theorem ds_tryAsE {em : Value → Value → Option Bool} (hem : em = PySem.W.exmOne X.K) (cx : Ctx X W) (hs : X.stack = X.env :: X.outer) (hf : X.env.frame = some X.env.locals) (hi : X.N[i]? = some n) (hln : X.env.kindOf n = some .local) (hc : Names X x c)
    (hb : ∀ (W' : WX) (pn : List (Addr × Obj)) (xe : Value → Shared → Prop), Ctx (X.tr pn xe) W' → PassesOwn (model X.prog X.w) X.A X.env xe → DSs (X.tr pn xe) W' body g)
    (hsu : ∀ (v : Value) (a : Addr) (oe : Obj) (pn : List (Addr × Obj)), Zc v none oe → (∃ vs, oe.data = .fields vs) → DSs (X.suite a ((a, oe) :: pn)) W0 (b₀ :: suite) (h v a)) :
    DS X W (.Try body [.ExceptHandler (some (.Name x np)) (some n) (b₀ :: suite) pos'] [] [] pos) (sTryAs em g c i h) := by
  rw [hem]
  exact ds_try_as cx hs hf hi hln hc hb hsu
end
theorem callD_isEE_of {K : PySem.W.Frag} {km : Value → Value → Option Bool} {c : Value} {a : Addr} (h : km = kmE K) : CallD K (rIsEE K c a) (cIsE km c a) := by
  rw [h]; exact callD_isEE
/-! ### a local name that holds a def -/
def pick : List (Addr × Fn) → Addr → Option Fn
  | [], _ => none
  | (b, F) :: r, a => if a = b then some F else pick r a
def fCallL (l : List (Addr × Fn)) (i : Nat) (fs : FA) : FE := fun σ S => match σ[i]? with
  | some (some (.cst (.ref a))) => match pick l a with
    | some F => (fs σ S).bind fun ds S1 => F ds S1
    | none => .stuck
  | _ => .stuck
inductive Cands (X : Cx) (n : Nat) : List (Addr × Fn) → Prop
  | nil : Cands X n []
  | cons {b q : Addr} {k : Nat} {fd : FuncData} {ps : List Str} {F : Fn} {r : List (Addr × Fn)} (e : b = q) (G : FnG X.prog X.w X.K X.mg X.base k q fd ps (spD X.K n F)) (hr : Room k X.A) (hk : PySem.W.keepIn X.K (.ref q) = true) (hb : Binds X.K fd ps []) (t : Cands X n r) : Cands X n ((b, F) :: r)
theorem Cands.pick {X : Cx} {n : Nat} {a : Addr} {F : Fn} : ∀ {l : List (Addr × Fn)}, Cands X n l → DL.pick l a = some F →
    ∃ (k : Nat) (fd : FuncData) (ps : List Str), FnG X.prog X.w X.K X.mg X.base k a fd ps (spD X.K n F) ∧ Room k X.A ∧ PySem.W.keepIn X.K (.ref a) = true ∧ Binds X.K fd ps []
  | _, .nil, e => by cases e
  | _, .cons (b := b) (F := F') e0 G hr hk hb t, e => by
    unfold DL.pick at e
    split at e
    · rename_i ab
      cases e
      rw [ab, e0]
      exact ⟨_, _, _, G, hr, hk, hb⟩
    · exact t.pick e
section
variable {X : Cx} {W : WX} {e : Expr} {es : List Expr} {fs : FA} {p pos : Pos}
theorem de_callL {l : List (Addr × Fn)} {n : Nat} {x : Str} (i : Nat) (cx : Ctx X W) (C : Cands X n l) (ha : DA X W (e :: es) fs) (hN : X.N[i]? = some x := by rfl)
    (hv : Vis X.env.scope x := by first | exact Or.inl rfl | exact Or.inr (Or.inl rfl) | exact Or.inr (Or.inr rfl)) (hn : (e :: es).length = n := by rfl)
    (hdb : (x == ("__debug__" : Str)) = false := by decide) (hcd : (x == ("__classdict__" : Str)) = false := by decide)
    (he : starEach (e :: es) X.env = (false, eval e X.env) :: starEach es X.env := by rfl) (hpl : (backTo pos (starEach es X.env)).any (·.1) = false := by rfl) :
    DE X W (.Call (.Name x p) (e :: es) [] pos) (fCallL l i fs) := by
  refine ⟨⟨fun pins s σ H Q I hq => ?_⟩⟩
  obtain ⟨ρ, σd, S, hee, hre, q0⟩ := hq
  unfold fCallL at q0
  split at q0
  · rename_i a ea
    split at q0
    · rename_i F eF
      obtain ⟨k, fd, ps, G, hr, hk, hb⟩ := C.pick eF
      obtain ⟨v, ev, hrep⟩ := hee.2 i _ ea
      unfold RepV at hrep
      subst hrep
      refine wpAny_Call_Name_kw (thn ((pe_var (pos := p) hN hv hdb hcd).run pins s σ H (fun v H1 => v = .ref a ∧ H1 = H) I ⟨.ref a, ev, rfl, rfl⟩) fun u s1 ⟨v, H1, I1, r1, q1⟩ => ?_)
      obtain ⟨rfl, rfl⟩ := q1
      cases r1
      have q1 : tA X.K W fs σ H1 (fun vs H2 => spD X.K n F vs H2 Q (WE W σ)) := by
        refine ⟨ρ, σd, S, hee, hre, ?_⟩
        cases e1 : fs σd S with
        | stuck => rw [e1] at q0; exact q0.elim
        | raise c S1 => rw [e1] at q0; exact q0
        | ok ds S1 =>
          rw [e1] at q0
          intro H' ρ' x' hr' vs hvs
          exact ⟨ρ', ds, S1, by rw [hvs.length, ha.len _ _ _ _ e1]; exact hn, hvs, hr', PR.ext x' (show PR X.K H1 ρ (F ds S1) _ _ from q0)⟩
      refine PySem.W.callWith_K (h₀ := X.base) I.ok.mod.kin hk (thn (ha.pa.run pos pins s1 σ H1 _ I1 q1) fun us s2 ⟨vs, H2, I2, r, q2⟩ => ⟨I2.kIn, ?_⟩) he hpl
      exact run_g cx G hr hb I2 r q2
    · exact q0.elim
  · exact q0.elim
end
/-- two defs of two names lie at two places -/
theorem fnNe {K : PySem.W.Frag} {f : Addr} {c c' kV kV' dc dc' pm pm' cd cd' ct ct' : Value} {od od' an an' : Option Addr} {sl sl' : Array (Option Value)} {n n' q q' : Str} {a a' b b' s s'} {m m' : Value}
    (h : K.lookup f = some ⟨c, od, .func (PySem.W.fnOf n q a b s m kV dc pm an cd ct), sl⟩) (h' : K.lookup f = some ⟨c', od', .func (PySem.W.fnOf n' q' a' b' s' m' kV' dc' pm' an' cd' ct'), sl'⟩) (hn : n ≠ n') : False := by
  have e := h.symm.trans h'
  simp [PySem.W.fnOf] at e
  exact hn e.2.2.1.1
end DL
end

section
set_option Elab.async false
set_option linter.all false
set_option maxRecDepth 100000
set_option maxHeartbeats 4000000
/-! repr, also of tuples that hold an empty dict -/
namespace DL
open PySem PySem.Spec PyProof.Rows L2
mutual
/-- without lists -/
def toPyE : D → Option PyData
  | .non => some .none
  | .bl b => some (.bool b)
  | .int i => some (.int i)
  | .str x => some (.str x)
  | .tup xs => (toPyEs xs).map .tuple
  | .emp => some (.dict [])
  | .lst _ => none
  | .frz _ => none
  | .ref _ => none
  | .cst _ => none
def toPyEs : List D → Option (List PyData)
  | [] => some []
  | d :: ds => (toPyE d).bind fun x => (toPyEs ds).map fun xs => x :: xs
end
section
variable {X : Cx} {pins : List (Addr × Obj)} {σ : L2.St} {H : Hp} {s : Shared} {ρ : Rho}
mutual
theorem toPyE_reads (I : Inv X pins σ H s) : ∀ {d : D} {v : V} {u : Value} {p : PyData}, RepV X.K H ρ d v → RelV v u → toPyE d = some p → ∃ as, Reads s.heap u p as ∧ sysModules ∉ as
  | .non, v, u, p, h, r, e => by
    unfold RepV at h; unfold toPyE at e; subst h; cases e; cases r
    exact ⟨_, .none, by simp⟩
  | .bl b, v, u, p, h, r, e => by
    unfold RepV at h; unfold toPyE at e; subst h; cases e; cases r
    exact ⟨_, .bool b, by simp⟩
  | .int i, v, u, p, h, r, e => by
    unfold RepV at h; unfold toPyE at e; subst h; cases e
    obtain ⟨t, rfl⟩ := r
    exact ⟨_, .int i t, by simp⟩
  | .str x, v, u, p, h, r, e => by
    unfold RepV at h; unfold toPyE at e; subst h; cases e
    obtain ⟨t, rfl⟩ := r
    exact ⟨_, .str x t, by simp⟩
  | .tup xs, v, u, p, h, r, e => by
    unfold toPyE at e
    obtain ⟨ps, e1, rfl⟩ := Option.map_eq_some_iff.mp e
    unfold RepV at h
    obtain ⟨a, vs, rfl, ha, hs⟩ := h
    cases r
    obtain ⟨its, rv, ⟨o, ho, hc, n, hd⟩, _⟩ := I.tuple ha.sq
    obtain ⟨as, hr, hn⟩ := toPyEs_reads I hs rv e1
    exact ⟨_, .tuple ho hc hd hr, hn⟩
  | .emp, v, u, p, h, r, e => by
    unfold toPyE at e
    cases e
    unfold RepV at h
    obtain ⟨a, rfl, ha⟩ := h
    cases r
    obtain ⟨_, hsys, vs, kv, o, es, ep, ho, hx, hd, _, hp, _⟩ := (show ObjOk X.prog X.w H s.heap a (.dK []) from I.hok a _ ha.2)
    cases kv
    have he : es.toList = [] := by
      have := hp.length
      exact List.eq_nil_of_length_eq_zero (by simpa using this)
    refine ⟨_, .dict (kvs := []) ho hx.1 hd (by rw [he]; exact .nil) (by rw [he]; exact .nil), ?_⟩
    intro hm
    simp at hm
    subst hm
    simp at hsys
  | .lst _, v, u, p, h, r, e => by unfold toPyE at e; cases e
  | .frz _, v, u, p, h, r, e => by unfold toPyE at e; cases e
  | .ref _, v, u, p, h, r, e => by unfold toPyE at e; cases e
  | .cst _, v, u, p, h, r, e => by unfold toPyE at e; cases e
theorem toPyEs_reads (I : Inv X pins σ H s) : ∀ {ds : List D} {vs : List V} {us : List Value} {ps : List PyData}, RepVs X.K H ρ ds vs → Vals vs us → toPyEs ds = some ps → ∃ as, ReadsAll s.heap us ps as ∧ sysModules ∉ as
  | [], vs, us, ps, h, r, e => by
    unfold toPyEs at e; cases e
    rw [h.of_nil] at r
    cases r
    exact ⟨_, .nil, by simp⟩
  | d :: ds, vs, us, ps, h, r, e => by
    unfold toPyEs at e
    obtain ⟨p, e1, e⟩ := Option.bind_eq_some_iff.mp e
    obtain ⟨qs, e2, rfl⟩ := Option.map_eq_some_iff.mp e
    obtain ⟨v, vr, rfl, h1, h2⟩ := h.of_cons
    cases r with
    | cons r1 r2 =>
      obtain ⟨as, q1, n1⟩ := toPyE_reads I h1 r1 e1
      obtain ⟨bs, q2, n2⟩ := toPyEs_reads I h2 r2 e2
      exact ⟨_, .cons q1 q2, by simp [n1, n2]⟩
end
end
def rReprE (K : PySem.W.Frag) : List V → Hp → VK → Prop := fun xs H Q => ∃ (v : V) (ρ : Rho) (d : D) (p : PyData), xs = [v] ∧ RepV K H ρ d v ∧ toPyE d = some p ∧ (∃ a, v = .ref a) ∧ p.showable = true ∧ p.shown.length ≤ sizeLine ∧ p.depth ≤ 60 ∧ Q (.str p.shown) H
theorem call_repr2 {X : Cx} (hg : X.A.guards = some []) (hu : X.A.units + 65 < cLine) : CallR X (.builtin "repr") (fun xs H Q => rRepr X.K xs H Q ∨ rReprE X.K xs H Q) := by
  intro pins s σ H xs us Q I r h
  rcases h with h | h
  · exact call_repr hg hu pins s σ H xs us Q I r h
  · obtain ⟨v, ρ, d, p, rfl, h0, h1, ⟨a, rfl⟩, h2, h3, h4, q⟩ := h
    obtain ⟨u, rfl, ru⟩ := Vals.one r
    obtain ⟨as, rd, hn⟩ := toPyE_reads I h0 ru h1
    cases ru
    exact PySem.repr_of_reads' rd h2 (fun _ => hn) hg (by omega) (fun _ _ e => e) (fun h' u tk k => ⟨.str p.shown, H, I.kept (t' := tk) k, ⟨u, rfl⟩, q⟩) h3
def cReprE : List D → Sto → Option D
  | [.tup xs], _ => (toPyE (.tup xs)).bind fun p => if p.showable = true ∧ p.shown.length ≤ BIG ∧ p.depth ≤ 60 then some (.str p.shown) else none
  | _, _ => none
def cRepr2 : List D → Sto → Option D := fun ds S => (cRepr ds S).or (cReprE ds S)
theorem callD_repr2 {K : PySem.W.Frag} : CallD K (fun xs H Q => rRepr K xs H Q ∨ rReprE K xs H Q) cRepr2 := by
  intro vs H ρ S ds d Q hr hvs e q
  unfold cRepr2 at e
  cases e1 : cRepr ds S with
  | some d1 =>
    rw [e1] at e
    cases e
    exact .inl (callD_repr hr hvs e1 q)
  | none =>
    rw [e1] at e
    replace e : cReprE ds S = some d := e
    refine .inr ?_
    match ds, e with
    | [.tup xs], e =>
      obtain ⟨v, vr, rfl, h1, h2⟩ := hvs.of_cons
      rw [h2.of_nil]
      have e' : ((toPyE (.tup xs)).bind fun p => if p.showable = true ∧ p.shown.length ≤ BIG ∧ p.depth ≤ 60 then some (D.str p.shown) else none) = some d := e
      obtain ⟨p, e2, e3⟩ := Option.bind_eq_some_iff.mp e'
      split at e3
      · rename_i c
        cases e3
        refine ⟨v, ρ, _, p, rfl, h1, e2, ?_, c.1, by rw [← big_line]; exact c.2.1, c.2.2, q _ H .refl hr (by unfold RepV; rfl)⟩
        unfold RepV at h1
        obtain ⟨a, _, e, _⟩ := h1
        exact ⟨a, e⟩
      · cases e3
/-! ### what can be shown -/
def shortS (x : Str) : Bool := decide (x.length ≤ 10) && x.cps.toList.all fun c => decide (c < 16 ^ 8)
/-- few things, not deep, numbers not great -/
def Rp : Nat → D → Bool
  | _, .non => true
  | _, .bl _ => true
  | _, .int i => mid i
  | _, .str x => shortS x
  | k + 1, .tup xs => decide (xs.length ≤ 15) && xs.all (Rp k)
  | k + 1, .lst xs => decide (xs.length ≤ 15) && xs.all (Rp k)
  | _ + 1, .emp => true
  | _, _ => false
mutual
def noEmp : D → Bool
  | .emp => false
  | .tup xs => noEmps xs
  | .lst xs => noEmps xs
  | .frz xs => noEmps xs
  | _ => true
def noEmps : List D → Bool
  | [] => true
  | d :: ds => noEmp d && noEmps ds
end
mutual
def noLst : D → Bool
  | .lst _ => false
  | .tup xs => noLsts xs
  | .frz _ => false
  | _ => true
def noLsts : List D → Bool
  | [] => true
  | d :: ds => noLst d && noLsts ds
end
def Wk : Nat → Nat
  | 0 => 10
  | k + 1 => 15 * (Wk k + 1) + 10
structure Sh (k : Nat) (p : PyData) : Prop where
  a : p.showable = true
  b : p.leavesShort 210 = true
  c : p.bulk ≤ Wk k
  d : p.depth ≤ k
theorem mid_log {i : Int} (h : mid i = true) : i.natAbs.log2 < 1920 := by
  have := mid_ok h
  by_cases h0 : i.natAbs = 0
  · rw [h0]; decide
  · exact Nat.lt_trans ((Nat.log2_lt h0).mpr this) (by decide)
theorem mid_len {i : Int} (h : mid i = true) : (PyData.shown (.int i)).length ≤ 210 := by
  unfold mid at h
  simp only [Bool.and_eq_true, decide_eq_true_eq] at h
  have : i.natAbs < 10 ^ 200 := by omega
  have e := PySem.int_text_length_le10 (k := 200) (by decide) this
  have e2 : (PyData.shown (.int i)).length = (toString i).length := by
    show (Str.ofString (toString i)).length = _
    exact PySem.ofString_length _
  omega
theorem Sh.mono {k : Nat} {p : PyData} (h : Sh k p) : Sh (k + 1) p := ⟨h.a, h.b, by have := h.c; show p.bulk ≤ 15 * (Wk k + 1) + 10; omega, by have := h.d; omega⟩
structure ShAll (k n : Nat) (ps : List PyData) : Prop where
  a : PyData.showableAll ps = true
  b : PyData.leavesShortAll 210 ps = true
  c : PyData.bulkAll ps ≤ n * (Wk k + 1)
  d : PyData.depthAll ps ≤ k
theorem ShAll.nil {k : Nat} : ShAll k 0 [] := ⟨rfl, rfl, by simp [PyData.bulkAll], by simp [PyData.depthAll]⟩
theorem ShAll.cons {k n : Nat} {p : PyData} {ps : List PyData} (h : Sh k p) (t : ShAll k n ps) : ShAll k (n + 1) (p :: ps) :=
  ⟨by simp [PyData.showableAll, h.a, t.a], by simp [PyData.leavesShortAll, h.b, t.b], by
    have h1 := h.c
    have h2 := t.c
    simp only [PyData.bulkAll]
    rw [Nat.add_mul]; omega, by
    have h1 := h.d
    have h2 := t.d
    simp only [PyData.depthAll]; omega⟩
theorem Sh.tup {k n : Nat} {ps : List PyData} (t : ShAll k n ps) (hn : n ≤ 15) : Sh (k + 1) (.tuple ps) :=
  ⟨by simp only [PyData.showable]; exact t.a, by simp only [PyData.leavesShort]; exact t.b, by
    have := t.c
    have h2 : n * (Wk k + 1) ≤ 15 * (Wk k + 1) := Nat.mul_le_mul_right _ hn
    simp only [PyData.bulk, Wk]; omega, by have := t.d; simp only [PyData.depth]; omega⟩
theorem Sh.lst {k n : Nat} {ps : List PyData} (t : ShAll k n ps) (hn : n ≤ 15) : Sh (k + 1) (.list ps) :=
  ⟨by simp only [PyData.showable]; exact t.a, by simp only [PyData.leavesShort]; exact t.b, by
    have := t.c
    have h2 : n * (Wk k + 1) ≤ 15 * (Wk k + 1) := Nat.mul_le_mul_right _ hn
    simp only [PyData.bulk, Wk]; omega, by have := t.d; simp only [PyData.depth]; omega⟩
theorem Sh.leaf {k : Nat} {p : PyData} (h : Sh 0 p) : Sh k p := by
  induction k with
  | zero => exact h
  | succ k ih => exact ih.mono
theorem sh_int {i : Int} (h : mid i = true) : Sh 0 (.int i) := ⟨by simp only [PyData.showable, decide_eq_true_eq]; exact mid_log h, by simp only [PyData.leavesShort, decide_eq_true_eq]; exact mid_len h, by simp [PyData.bulk], by simp [PyData.depth]⟩
theorem sh_str {x : Str} (h : shortS x = true) : Sh 0 (.str x) := by
  unfold shortS at h
  simp only [Bool.and_eq_true, decide_eq_true_eq] at h
  exact ⟨rfl, h.2, by simp only [PyData.bulk, Wk]; exact h.1, by simp [PyData.depth]⟩
theorem sh_non : Sh 0 .none := ⟨rfl, rfl, by simp [PyData.bulk], by simp [PyData.depth]⟩
theorem sh_bl {b : Bool} : Sh 0 (.bool b) := ⟨rfl, rfl, by simp [PyData.bulk], by simp [PyData.depth]⟩
theorem Rp_sh : ∀ (k : Nat) (d : D), Rp k d = true → noEmp d = true → ∃ p, toPy d = some p ∧ p.hasDict = false ∧ Sh k p := by
  intro k
  induction k with
  | zero =>
    intro d h h'
    cases d with
    | non => exact ⟨_, rfl, rfl, sh_non⟩
    | bl b => exact ⟨_, rfl, rfl, sh_bl⟩
    | int i => exact ⟨_, rfl, rfl, sh_int h⟩
    | str x => exact ⟨_, rfl, rfl, sh_str h⟩
    | _ => simp [Rp] at h
  | succ k ih =>
    have go : ∀ xs : List D, xs.all (Rp k) = true → noEmps xs = true → ∃ ps, toPys xs = some ps ∧ PyData.hasDictAll ps = false ∧ ShAll k xs.length ps := by
      intro xs
      induction xs with
      | nil => exact fun _ _ => ⟨[], rfl, rfl, .nil⟩
      | cons x xs ih2 =>
        intro h h'
        simp only [List.all_cons, Bool.and_eq_true] at h
        simp only [noEmps, Bool.and_eq_true] at h'
        obtain ⟨p, e1, e2, e3⟩ := ih x h.1 h'.1
        obtain ⟨ps, g1, g2, g3⟩ := ih2 h.2 h'.2
        exact ⟨p :: ps, by simp [toPys, e1, g1], by simp [PyData.hasDictAll, e2, g2], .cons e3 g3⟩
    intro d h h'
    cases d with
    | non => exact ⟨_, rfl, rfl, sh_non.leaf⟩
    | bl b => exact ⟨_, rfl, rfl, sh_bl.leaf⟩
    | int i => exact ⟨_, rfl, rfl, (sh_int h).leaf⟩
    | str x => exact ⟨_, rfl, rfl, (sh_str h).leaf⟩
    | tup xs =>
      simp only [Rp, Bool.and_eq_true, decide_eq_true_eq] at h
      obtain ⟨ps, g1, g2, g3⟩ := go xs h.2 h'
      exact ⟨.tuple ps, by simp [toPy, g1], g2, .tup g3 h.1⟩
    | lst xs =>
      simp only [Rp, Bool.and_eq_true, decide_eq_true_eq] at h
      obtain ⟨ps, g1, g2, g3⟩ := go xs h.2 h'
      exact ⟨.list ps, by simp [toPy, g1], g2, .lst g3 h.1⟩
    | emp => simp [noEmp] at h'
    | _ => simp [Rp] at h
theorem Rp_shE : ∀ (k : Nat) (d : D), Rp k d = true → noLst d = true → ∃ p, toPyE d = some p ∧ Sh k p := by
  intro k
  induction k with
  | zero =>
    intro d h h'
    cases d with
    | non => exact ⟨_, rfl, sh_non⟩
    | bl b => exact ⟨_, rfl, sh_bl⟩
    | int i => exact ⟨_, rfl, sh_int h⟩
    | str x => exact ⟨_, rfl, sh_str h⟩
    | _ => simp [Rp] at h
  | succ k ih =>
    have go : ∀ xs : List D, xs.all (Rp k) = true → noLsts xs = true → ∃ ps, toPyEs xs = some ps ∧ ShAll k xs.length ps := by
      intro xs
      induction xs with
      | nil => exact fun _ _ => ⟨[], rfl, .nil⟩
      | cons x xs ih2 =>
        intro h h'
        simp only [List.all_cons, Bool.and_eq_true] at h
        simp only [noLsts, Bool.and_eq_true] at h'
        obtain ⟨p, e1, e3⟩ := ih x h.1 h'.1
        obtain ⟨ps, g1, g3⟩ := ih2 h.2 h'.2
        exact ⟨p :: ps, by simp [toPyEs, e1, g1], .cons e3 g3⟩
    intro d h h'
    cases d with
    | non => exact ⟨_, rfl, sh_non.leaf⟩
    | bl b => exact ⟨_, rfl, sh_bl.leaf⟩
    | int i => exact ⟨_, rfl, (sh_int h).leaf⟩
    | str x => exact ⟨_, rfl, (sh_str h).leaf⟩
    | tup xs =>
      simp only [Rp, Bool.and_eq_true, decide_eq_true_eq] at h
      obtain ⟨ps, g1, g3⟩ := go xs h.2 h'
      exact ⟨.tuple ps, by simp [toPyE, g1], .tup g3 h.1⟩
    | lst xs => simp [noLst] at h'
    | emp => exact ⟨.dict [], rfl, by
        refine ⟨rfl, rfl, ?_, ?_⟩
        · show PyData.bulkKv [] ≤ _
          simp [PyData.bulkKv]
        · show PyData.depthKv [] + 1 ≤ _
          simp [PyData.depthKv]⟩
    | _ => simp [Rp] at h
theorem Sh.len {p : PyData} (h : Sh 3 p) : p.shown.length ≤ BIG := by
  have h1 := PySem.PyData.shown_le_bulk 210 (by decide) p h.b
  have h2 : p.bulk ≤ 39775 := Nat.le_trans h.c (by decide)
  have h3 : 212 * p.bulk ≤ 212 * 39775 := Nat.mul_le_mul_left _ h2
  have h4 : BIG = 16777216 := rfl
  omega
/-- repr answers, and answers the same again -/
theorem repr_ok {d : D} (h : Rp 3 d = true) (hx : noEmp d = true ∨ noLst d = true) (he : ∀ x, d = x → x ≠ .emp) : ∃ t : Str, ∀ S : Sto, cRepr2 [d] S = some (.str t) := by
  by_cases hn : noEmp d = true
  · obtain ⟨p, e1, e2, sh⟩ := Rp_sh 3 d h hn
    have c : p.showable = true ∧ p.hasDict = false ∧ p.shown.length ≤ BIG ∧ p.depth ≤ 60 := ⟨sh.a, e2, sh.len, Nat.le_trans sh.d (by decide)⟩
    cases d with
    | non => exact ⟨_, fun S => rfl⟩
    | bl b => exact ⟨_, fun S => rfl⟩
    | int i => exact ⟨toString i, fun S => by
        have h' : mid i = true := h
        show ((if i.natAbs.log2 < 1920 then some (D.str (toString i)) else none).or _) = _
        rw [if_pos (mid_log h')]; rfl⟩
    | str x =>
      refine ⟨reprText x, fun S => ?_⟩
      cases e1
      show ((if (reprText x).length ≤ BIG then some (D.str (reprText x)) else none).or _) = _
      rw [if_pos (show (reprText x).length ≤ BIG from c.2.2.1)]; rfl
    | tup xs => exact ⟨p.shown, fun S => by
        show ((((toPy (.tup xs)).bind fun p => if p.showable = true ∧ p.hasDict = false ∧ p.shown.length ≤ BIG ∧ p.depth ≤ 60 then some (D.str p.shown) else none)).or _) = _
        rw [e1, Option.bind_some, if_pos c]; rfl⟩
    | lst xs => exact ⟨p.shown, fun S => by
        show ((((toPy (.lst xs)).bind fun p => if p.showable = true ∧ p.hasDict = false ∧ p.shown.length ≤ BIG ∧ p.depth ≤ 60 then some (D.str p.shown) else none)).or _) = _
        rw [e1, Option.bind_some, if_pos c]; rfl⟩
    | emp => simp [noEmp] at hn
    | _ => simp [Rp] at h
  · have hl : noLst d = true := hx.resolve_left hn
    obtain ⟨p, e1, sh⟩ := Rp_shE 3 d h hl
    have c : p.showable = true ∧ p.shown.length ≤ BIG ∧ p.depth ≤ 60 := ⟨sh.a, sh.len, Nat.le_trans sh.d (by decide)⟩
    cases d with
    | tup xs =>
      have e2 : ∀ S, cReprE [.tup xs] S = some (.str p.shown) := fun S => by
        show ((toPyE (.tup xs)).bind fun p => if p.showable = true ∧ p.shown.length ≤ BIG ∧ p.depth ≤ 60 then some (D.str p.shown) else none) = _
        rw [e1, Option.bind_some, if_pos c]
      cases e3 : dRepr (.tup xs) with
      | none => exact ⟨p.shown, fun S => by
          show ((dRepr (.tup xs)).or _) = _
          rw [e3]; exact e2 S⟩
      | some y =>
        have : ∃ t, y = .str t := by
          have e4 : ((toPy (.tup xs)).bind fun p => if p.showable = true ∧ p.hasDict = false ∧ p.shown.length ≤ BIG ∧ p.depth ≤ 60 then some (D.str p.shown) else none) = some y := e3
          obtain ⟨p', _, e5⟩ := Option.bind_eq_some_iff.mp e4
          split at e5
          · cases e5; exact ⟨_, rfl⟩
          · cases e5
        obtain ⟨t, rfl⟩ := this
        exact ⟨t, fun S => by
          show ((dRepr (.tup xs)).or _) = _
          rw [e3]; rfl⟩
    | emp => exact absurd rfl (he _ rfl)
    | lst xs => simp [noLst] at hl
    | frz xs => simp [noLst] at hl
    | non => simp [noEmp] at hn
    | bl b => simp [noEmp] at hn
    | int i => simp [noEmp] at hn
    | str x => simp [noEmp] at hn
    | ref n => simp [Rp] at h
    | cst n => simp [Rp] at h
end DL
end

section
set_option Elab.async false
set_option linter.all false
set_option maxRecDepth 100000
set_option maxHeartbeats 4000000
/-! a comprehension whose list may be changed later; defs that call each other -/
namespace DL
open PySem PySem.Spec PyProof.Rows L2
section
variable {K : PySem.W.Frag} {H : Hp} {ρ : Rho} {S : Sto}
theorem off_turn {a p : Addr} {x : List Addr} (hp : p ∈ ρ.x) (hx : ∀ b ∈ x, b ∈ ρ.x) (h : ρ.off a) : Rho.off ⟨ρ.l ++ [p], x⟩ a := ⟨fun hm => by
    rcases List.mem_append.mp hm with hm | hm
    · exact h.1 hm
    · exact h.2 (by rw [List.mem_singleton.mp hm]; exact hp), fun hm => h.2 (hx a hm)⟩
mutual
theorem RepV.turn {p : Addr} {x : List Addr} (hp : p ∈ ρ.x) (hx : ∀ b ∈ x, b ∈ ρ.x) : ∀ {d : D} {v : V}, RepV K H ρ d v → RepV K H ⟨ρ.l ++ [p], x⟩ d v
  | .non, _, h => h
  | .bl _, _, h => h
  | .int _, _, h => h
  | .str _, _, h => h
  | .tup ds, v, h => by
    unfold RepV at h ⊢
    obtain ⟨a, vs, e, ha, hs⟩ := h
    refine ⟨a, vs, e, ?_, RepVs.turn hp hx hs⟩
    rcases ha with ⟨hn, ha⟩ | ha
    · exact .inl ⟨off_turn hp hx hn, ha⟩
    · exact .inr ha
  | .lst ds, v, h => by
    unfold RepV at h ⊢
    obtain ⟨a, vs, e, ha, hs⟩ := h
    exact ⟨a, vs, e, ⟨off_turn hp hx ha.1, ha.2⟩, RepVs.turn hp hx hs⟩
  | .frz ds, v, h => by
    unfold RepV at h ⊢
    obtain ⟨a, vs, e, ha, hs⟩ := h
    refine ⟨a, vs, e, ?_, RepVs.turn hp hx hs⟩
    rcases ha with ⟨hn, ha⟩ | ha
    · exact .inl ⟨off_turn hp hx hn, ha⟩
    · exact .inr ha
  | .emp, v, h => by
    unfold RepV at h ⊢
    obtain ⟨a, e, ha⟩ := h
    exact ⟨a, e, off_turn hp hx ha.1, ha.2⟩
  | .ref n, v, h => by
    unfold RepV at h ⊢
    obtain ⟨a, e, ha⟩ := h
    exact ⟨a, e, by show (ρ.l ++ [p])[n]? = some a; rw [List.getElem?_append_left (List.getElem?_eq_some_iff.mp ha).1]; exact ha⟩
  | .cst _, _, h => h
theorem RepVs.turn {p : Addr} {x : List Addr} (hp : p ∈ ρ.x) (hx : ∀ b ∈ x, b ∈ ρ.x) : ∀ {ds : List D} {vs : List V}, RepVs K H ρ ds vs → RepVs K H ⟨ρ.l ++ [p], x⟩ ds vs
  | [], _, h => h
  | d :: ds, vs, h => by
    unfold RepVs at h ⊢
    obtain ⟨v, vr, e, h1, h2⟩ := h
    exact ⟨v, vr, e, RepV.turn hp hx h1, RepVs.turn hp hx h2⟩
end
/-- what was being made is a thing of the store from now on -/
theorem HRep.turn (h : HRep K H ρ S) {p : Addr} {x : List Addr} {ds : List D} {ws : List V} (hp : p ∈ ρ.x) (hx : ∀ b ∈ x, b ∈ ρ.x) (hn : ∀ b ∈ x, b ≠ p) (hw : H p = some (.lst ws)) (r : RepVs K H ρ ds ws) :
    HRep K H ⟨ρ.l ++ [p], x⟩ (S ++ [.lst ds]) := by
  have np := (h.ex p hp).1
  refine ⟨by simp [h.len], ?_, fun n so a e1 e2 => ?_, fun a ha => ?_⟩
  · show (ρ.l ++ [p]).Nodup
    rw [List.nodup_append]
    refine ⟨h.nd, by simp, fun a ha b hb z => ?_⟩
    rw [List.mem_singleton.mp hb] at z
    exact np (z ▸ ha)
  · replace e2 : (ρ.l ++ [p])[n]? = some a := e2
    by_cases hl : n < S.length
    · rw [List.getElem?_append_left hl] at e1
      rw [List.getElem?_append_left (by rw [h.len]; exact hl)] at e2
      exact (h.all n so a e1 e2).map (fun _ q => q) fun ds vs r => r.turn hp hx
    · have en : n = S.length := by
        have := (List.getElem?_eq_some_iff.mp e1).1
        simp at this; omega
      subst en
      simp at e1
      rw [← h.len] at e2
      simp at e2
      subst e1; subst e2
      exact ⟨ws, hw, r.turn hp hx⟩
  · obtain ⟨h1, u, h2⟩ := h.ex a (hx a ha)
    refine ⟨fun hm => ?_, u, h2⟩
    rcases List.mem_append.mp hm with hm | hm
    · exact h1 hm
    · exact hn a ha (List.mem_singleton.mp hm)
end
noncomputable def fCompN (fi : FI) (gt : FG) (t : FT) (f : FE) (vs : List Nat) : FE := fun σ S => (fi σ S).bind fun it S1 => (compF it gt t f (wipeD σ vs) it.ds S1 []).bind fun ds S2 => .ok (.ref S2.length) (S2 ++ [SO.lst ds])
section
variable {X : Cx} {W : WX} {elt tg iter : Expr} {ifs : List Expr} {fi : FI} {gt : FG} {t : FT} {f : FE} {pos : Pos} {scope : Scope} {own : List (Str × Nat)} {vs : List Nat}
/-- the reading of a comprehension whose list may be changed later -/
theorem lc_impN {σ : L2.St} {H : Hp} {Q : VK} (hq : tE X.K W (fCompN fi gt t f vs) σ H Q) : tLc (tI X.K W fi) (tGo X.K vs gt) (tT X.K W0 t) (tE X.K W0 f) vs σ H Q := by
  obtain ⟨ρ, σd, S, he, hr, q⟩ := hq
  refine ⟨ρ, σd, S, he, hr, PR.imp (PR.bind q) (fun it S1 H1 ρ1 x1 hr1 q1 => ?_) fun _ _ _ _ _ _ q => q⟩
  intro J hJ Da hDa
  have xB : Ext H1 ρ1 (upd H1 Da (.lst [])) ⟨ρ1.l, Da :: ρ1.x⟩ := ext_begin hDa
  have hrB : HRep X.K (upd H1 Da (.lst [])) ⟨ρ1.l, Da :: ρ1.x⟩ S1 := hr1.begin hDa
  have heB := (wipe_rep (he.ext x1) vs).ext xB
  -- at turn i: the list so far at Da
  refine ⟨fun i m H => m = it.ds.length - i ∧ i ≤ it.ds.length ∧ ∃ ρ S acc ws, Ext H1 ρ1 H ρ ∧ HRep X.K H ρ S ∧ RepE X.K H ρ (wipeD σd vs) (wipe σ vs) ∧ Da ∈ ρ.x ∧ H Da = some (.lst ws) ∧ RepVs X.K H ρ acc ws ∧
      PR X.K H1 ρ1 ((compF it gt t f (wipeD σd vs) (it.ds.drop i) S acc).bind fun ds S2 => .ok (D.ref S2.length) (S2 ++ [SO.lst ds])) (fun d _ H' ρ' => ∀ v, RepV X.K H' ρ' d v → Q v H') (fun c _ H' _ => W c none σ H'),
    ⟨it.ds.length, by simp, Nat.zero_le _, ⟨ρ1.l, Da :: ρ1.x⟩, S1, [], [], xB, hrB, heB, List.mem_cons_self, upd_same, .nil, q1⟩, ?_⟩
  rintro i m H2 ⟨rfl, hi, ρ2, S2, acc, ws, x2, hr2, he2, hD2, hw2, ra2, q2⟩
  by_cases hlt : i < it.ds.length
  · rw [List.drop_eq_getElem_cons hlt] at q2
    unfold compF at q2
    by_cases hw : watchOk it.w it.ds S2
    · rw [if_pos hw] at q2
      have hd : it.ds[i]? = some it.ds[i] := List.getElem?_eq_getElem hlt
      obtain ⟨h1, h2⟩ := (hJ i H2 ρ2 S2 x2 hr2 hw).1 _ hd
      refine .inr ⟨h1, fun H => ∃ ρ S acc ws, Ext H1 ρ1 H ρ ∧ HRep X.K H ρ S ∧ RepE X.K H ρ (wipeD σd vs) (wipe σ vs) ∧ Da ∈ ρ.x ∧ H Da = some (.lst ws) ∧ RepVs X.K H ρ acc ws ∧
        PR X.K H1 ρ1 ((compF it gt t f (wipeD σd vs) (it.ds.drop (i + 1)) S acc).bind fun ds S2 => .ok (D.ref S2.length) (S2 ++ [SO.lst ds])) (fun d _ H' ρ' => ∀ v, RepV X.K H' ρ' d v → Q v H') (fun c _ H' _ => W c none σ H'),
        fun H' n => ⟨it.ds.length - (i + 1), by omega, rfl, hlt, n⟩, fun v H3 y => ?_⟩
      obtain ⟨x3, hr3, hv⟩ := h2 v H3 y
      cases e1 : gt it.ds[i] (wipeD σd vs) S2 with
      | none => simp only [e1] at q2; exact q2.elim
      | some σ4 =>
        simp only [e1] at q2
        have stayD : ∀ {Ha Hb : Hp} {ρa ρb : Rho} {Sa : Sto}, Ext Ha ρa Hb ρb → HRep X.K Ha ρa Sa → Da ∈ ρa.x → Da ∈ ρb.x ∧ ∀ w, Ha Da = some w → Hb Da = some w := fun {Ha Hb ρa ρb Sa} x h hm => by
          obtain ⟨y, r, _⟩ := x.more
          exact ⟨by rw [r]; exact List.mem_append_right _ hm, fun w hw => x.keep Da w hw (h.ex Da hm).1⟩
        obtain ⟨hD3, hk3⟩ := stayD x3 hr2 hD2
        refine ⟨ρ2, wipeD σd vs, S2, it.ds[i], he2.ext x3, hr3, hv, σ4, e1, fun σ5 he5 w5 => ⟨w5.trans wipe_wipe, ?_⟩⟩
        refine ⟨ρ2, σ4, S2, he5, hr3, ?_⟩
        -- the test
        cases e6 : t σ4 S2 with
        | stuck => rw [e6] at q2; exact q2.elim
        | raise c S6 => rw [e6] at q2; exact q2.elim
        | ok k S6 =>
          rw [e6] at q2
          intro H6 ρ6 x6 hr6
          have x26 := x3.trans x6
          obtain ⟨hD6, hk6⟩ := stayD x6 hr3 hD3
          cases k with
          | false =>
            simp only [Res.noR_ok, Res.bind_ok, Bool.false_eq_true, if_false] at q2
            simp only [Bool.false_eq_true, if_false]
            exact ⟨ρ6, S6, acc, ws, x2.trans x26, hr6, he2.ext x26, hD6, hk6 _ (hk3 _ hw2), ra2.ext x26, q2⟩
          | true =>
            simp only [Res.noR_ok, Res.bind_ok, if_true] at q2
            simp only [if_true]
            refine ⟨ρ6, σ4, S6, he5.ext x6, hr6, ?_⟩
            cases e7 : f σ4 S6 with
            | stuck => rw [e7] at q2; exact q2.elim
            | raise c S7 => rw [e7] at q2; exact q2.elim
            | ok d7 S7 =>
              rw [e7] at q2
              simp only [Res.noR_ok, Res.bind_ok] at q2
              intro H7 ρ7 x7 hr7 v7 hv7
              have x27 := x26.trans x7
              obtain ⟨hD7, hk7⟩ := stayD x7 hr6 hD6
              have hw7 := hk7 _ (hk6 _ (hk3 _ hw2))
              by_cases c : acc.length < BIG
              · rw [if_pos c] at q2
                have ra7 := ra2.ext x27
                refine ⟨ws, hw7, by rw [ra7.length, ← big_line]; exact c, ?_⟩
                have xm : Ext H1 ρ1 (upd H7 Da (.lst (ws ++ [v7]))) ρ7 := by
                  obtain ⟨z1, z2, z3, z4⟩ := x2.trans x27
                  have nD : ∀ a u, H1 a = some u → a ≠ Da := fun a u e z => by rw [z, hDa] at e; cases e
                  exact ⟨z1, z2, fun a u e hn => by rw [upd_ne (nD a u e)]; exact z3 a u e hn, fun a u e => by rw [upd_ne (nD a u e)]; exact z4 a u e⟩
                refine ⟨ρ7, S7, acc ++ [d7], ws ++ [v7], xm, hr7.made hD7, ?_, hD7, upd_same, (ra7.append (.cons hv7 .nil)).made hD7, q2⟩
                obtain ⟨g1, g2⟩ := he2.ext x27
                exact ⟨g1, fun j d e => let ⟨v, a, b⟩ := g2 j d e; ⟨v, a, b.made hD7⟩⟩
              · rw [if_neg c] at q2; exact q2.elim
    · rw [if_neg hw] at q2; exact q2.elim
  · have hi' : i = it.ds.length := by omega
    subst hi'
    rw [List.drop_length] at q2
    unfold compF at q2
    by_cases hw : watchOk it.w it.ds S2
    · rw [if_pos hw] at q2
      refine .inl ⟨(hJ _ H2 ρ2 S2 x2 hr2 hw).2 (Nat.le_refl _), ?_⟩
      have sub : ∀ b ∈ ρ1.x, b ∈ ρ2.x := fun b hb => by
        obtain ⟨y, r, _⟩ := x2.more
        rw [r]; exact List.mem_append_right _ hb
      have nm : Da ∉ ρ2.l := (hr2.ex Da hD2).1
      obtain ⟨e2, r2, n2⟩ := x2.pre
      have xE : Ext H1 ρ1 H2 ⟨ρ2.l ++ [Da], ρ1.x⟩ := ⟨⟨e2 ++ [Da], by rw [r2, List.append_assoc], fun a ha => by
        rcases List.mem_append.mp ha with ha | ha
        · exact n2 a ha
        · rw [List.mem_singleton.mp ha]; exact hDa⟩, ⟨[], by simp, by simp⟩, x2.keep, x2.there⟩
      refine q2 H2 ⟨ρ2.l ++ [Da], ρ1.x⟩ xE (hr2.turn hD2 sub (fun b hb => ?_) hw2 ra2) _ ?_
      · intro z
        subst z
        exact (hr1.out hDa).2 hb
      · unfold RepV
        exact ⟨Da, rfl, by show (ρ2.l ++ [Da])[S2.length]? = some Da; rw [← hr2.len]; simp⟩
    · rw [if_neg hw] at q2; exact q2.elim
/-- [elt for target in iter if ..], to be changed later -/
theorem de_compN (cx : Ctx X W) (hi : DI X W tg iter fi) (ok : BlkOk X.N X.env.scope scope own)
    (hg : ∀ (s : Shared) (H : Hp) (C : Addr) (cl : List (Str × Addr)) (fp : List Addr), DGo (X.blk s H scope (compEnvC scope cl C X.env) fp) (own.map (·.2)) tg gt)
    (ht : ∀ (s : Shared) (H : Hp) (C : Addr) (cl : List (Str × Addr)) (fp : List Addr), DTs (X.blk s H scope (compEnvC scope cl C X.env) fp) W0 ifs t)
    (he : ∀ (s : Shared) (H : Hp) (C : Addr) (cl : List (Str × Addr)) (fp : List Addr), DE (X.blk s H scope (compEnvC scope cl C X.env) fp) W0 elt f)
    (hs : ∀ x, foldedSetIterable iter X.env x = pure x := by intro _; rfl) : DE X W (.ListComp elt [⟨tg, iter, ifs, 0⟩] scope pos) (fCompN fi gt t f (own.map (·.2))) :=
  ⟨PE.imp (pe_lc (g := tGo X.K (own.map (·.2)) gt) (tt := tT X.K W0 t) (te := tE X.K W0 f) cx.calm cx.nd hi.pi ok (fun s H C cl fp => (hg s H C cl fp).pg) (fun s H C cl fp => (ht s H C cl fp).pts) (fun s H C cl fp => (he s H C cl fp).pe) hs) fun _ _ _ q => lc_impN q⟩
end
/-- nothing is said of a function that is stuck -/
def fnStuck : Fn := fun _ _ => .stuck
theorem FnG.stuck {P : Program} {w : World} {K : PySem.W.Frag} {mg : Str → Option Value} {base : Heap} {k : Nat} {f : Addr} {fd : FuncData} {ps : List Str} : FnG P w K mg base k f fd ps (spD K ps.length fnStuck) := by
  have no : ∀ vs H Q E, spD K ps.length fnStuck vs H Q E → False := fun vs H Q E h => by
    obtain ⟨ρ, ds, S, h1, h2, h3, h4⟩ := h
    exact h4
  exact ⟨fun vs H Q E h => (no vs H Q E h).elim, fun A outer s H args us vs Q E hr hg he hb hv hs => (no vs H Q E hs).elim⟩
end DL
end

section
set_option Elab.async false
set_option linter.all false
set_option maxRecDepth 100000
set_option maxHeartbeats 4000000
/-! the empty tuple, some times -/
namespace DL
open PySem PySem.Spec PyProof.Rows L2
theorem tuple_mul0 (l : Addr) (n : Nat) (dd : Option Addr) (sl : Array (Option Value)) (x : Int) (u : Tok) (c0 : (decide (x < -(2 ^ 63)) || decide (x ≥ 2 ^ 63)) = false) :
    Meets (Builtin.«tuple.__mul__» ⟨[.ref l, .int x u], []⟩) (fun _ R s => s.heap.get? l = some { cls := .type "tuple", dict := dd, data := .seq #[] n, slots := sl } ∧ R (.ok (.ret (Value.ref l))) s) :=
  .of_wp fun prog w A R s h => by
    obtain ⟨hp, g, d, tk, os⟩ := s
    obtain ⟨hl, h⟩ := h
    have f1 := AutoSeq1.idx_int
    wp_walk using wpAny_loadPart' hl
    repeat (first
      | (refine wpAny_ite_false (decide_eq_false (by rw [c0]; exact Bool.false_ne_true)) ?_; wp_walk using wpAny_loadPart' hl))
    exact ⟨_, rfl, h⟩
def rRepT0 (K : PySem.W.Frag) : R2 := fun x y H Q => ∃ l k, x = .ref l ∧ y = .int k ∧ SqT K H l [] ∧ 0 ≤ k ∧ k ≤ 1000 ∧ Q (.ref l) H
theorem op_repT0 {X : Cx} : OpR X (binaryOp .Mult) (rRepT0 X.K) := by
  intro pins s σ H x y v u Q I rx ry h
  obtain ⟨l, k, rfl, rfl, hT, h1, h2, q⟩ := h
  cases rx
  obtain ⟨t, rfl⟩ := ry
  obtain ⟨its, r, ⟨⟨cls, dd, data, sl⟩, ho, hc, n, hd⟩, hs⟩ := I.tuple hT
  simp only at hc hd
  subst hc hd
  cases r
  have c0 : (decide (k < -(2 ^ 63)) || decide (k ≥ 2 ^ 63)) = false := by
    rw [decide_eq_false (by omega), decide_eq_false (by omega)] <;> rfl
  refine wpAny_binaryOp_repeat_ref (T := "tuple") (U := "int") (by decide) ⟨_, ho, rfl⟩ (fun s' => typeIs_int s' k t) noFill_tuple_mul F.fills_int_mul F.slot_int_rmul repeat_tuple F.slot_int_index.lookup
    (call_meets F.slot_int_rmul (typeIs_int s k t) F.entry_int_rmul (F.args_int_rmul_2 _ _) (int_rmul_tuple k t l #[] n dd sl)
      ⟨ho, rfl, ⟨_, ho, rfl⟩, call_meets F.slot_tuple_mul ⟨_, ho, rfl⟩ F.entry_tuple_mul (F.args_tuple_mul_2 _ _) (tuple_mul0 l n dd sl k t c0) ⟨ho, ?_⟩⟩)
  exact ⟨.ref l, H, I, rfl, q⟩
def dMulT0 : D → D → Sto → Option D
  | .tup [], .int k, _ => if 0 ≤ k ∧ k ≤ 1000 then some (.tup []) else none
  | _, _, _ => none
theorem opD_mulT0 {K : PySem.W.Frag} : OpD K (rRepT0 K) dMulT0 := by
  intro x y H ρ S dx dy d Q hr hx hy e q
  match dx, dy, e with
  | .tup [], .int k, e =>
    simp only [dMulT0] at e
    split at e
    · rename_i c
      cases e
      obtain ⟨a, vs, rfl, h1, t1, r1⟩ := tup_rep hx
      unfold RepV at hy
      subst hy
      have := r1.of_nil
      subst this
      exact ⟨a, k, rfl, rfl, h1, c.1, c.2, q _ _ .refl hr hx⟩
    · cases e
def dMulE (x y : D) (S : Sto) : Option D := (dMul x y S).or (dMulT0 x y S)
section
variable {X : Cx} {W : WX} {a b : Expr} {f g : FE} {pos : Pos}
theorem de_mulE (ha : DE X W a f) (hb : DE X W b g) : DE X W (.BinOp a .Mult b pos) (fBin dMulE f g) := de_op (pe_op (op_mul_all.or op_repT0) ha.pe hb.pe) (opD_mul_all.or opD_mulT0)
end
end DL
end

section
set_option Elab.async false
set_option linter.all false
set_option maxRecDepth 100000
set_option maxHeartbeats 4000000
/-! divisors below 0; repr of a list of the store -/
namespace DL
open PySem PySem.Spec PyProof.Rows L2
def dModN : D → D → Sto → Option D := dI (fun _ j => decide (j ≠ 0)) fun i j => .int (i.fmod j)
def dDivN : D → D → Sto → Option D := dI (fun _ j => decide (j ≠ 0) && mid j) fun i j => .int (i.fdiv j)
theorem op_fdivNW {X : Cx} : OpR X (binaryOp .FloorDiv) (rI (fun _ j => j ≠ 0 ∧ j.natAbs.log2 < 9000) fun i j => .int (i.fdiv j)) := opI fun i j _ _ _ _ _ hc q =>
  floordiv_int hc.1 q (.inl (PyProof.noPylong_of_log2 hc.2))
section
variable {X : Cx} {W : WX} {a b : Expr} {f g : FE} {pos : Pos}
theorem de_modN (ha : DE X W a f) (hb : DE X W b g) : DE X W (.BinOp a .Mod b pos) (fBin dModN f g) := de_op (pe_op op_modN ha.pe hb.pe) (opD_I (Cb := fun _ j => decide (j ≠ 0)) fun i j c => of_decide_eq_true c)
theorem de_divN (ha : DE X W a f) (hb : DE X W b g) : DE X W (.BinOp a .FloorDiv b pos) (fBin dDivN f g) := de_op (pe_op op_fdivNW ha.pe hb.pe) (opD_I (Cb := fun _ j => decide (j ≠ 0) && mid j) fun i j c => by
  simp only [Bool.and_eq_true, decide_eq_true_eq] at c
  have h := mid_ok c.2
  exact ⟨c.1, by
    by_cases h0 : j.natAbs = 0
    · rw [h0]; decide
    · exact Nat.lt_trans ((Nat.log2_lt h0).mpr h) (by decide)⟩)
end
def cReprR : List D → Sto → Option D
  | [.ref n], S => (lstOf (.ref n) S).bind fun xs => (toPys xs).bind fun ps => if (PyData.list ps).showable = true ∧ (PyData.list ps).hasDict = false ∧ (PyData.list ps).shown.length ≤ BIG ∧ (PyData.list ps).depth ≤ 60 then some (.str (PyData.list ps).shown) else none
  | _, _ => none
def cRepr3 : List D → Sto → Option D := fun ds S => (cRepr2 ds S).or (cReprR ds S)
theorem callD_repr3 {K : PySem.W.Frag} : CallD K (fun xs H Q => rRepr K xs H Q ∨ rReprE K xs H Q) cRepr3 := by
  intro vs H ρ S ds d Q hr hvs e q
  unfold cRepr3 at e
  cases e1 : cRepr2 ds S with
  | some d1 =>
    rw [e1] at e
    cases e
    exact callD_repr2 hr hvs e1 q
  | none =>
    rw [e1] at e
    replace e : cReprR ds S = some d := e
    match ds, e with
    | [.ref n], e =>
      obtain ⟨v, vr, rfl, h1, h2⟩ := hvs.of_cons
      rw [h2.of_nil]
      have e' : ((lstOf (.ref n) S).bind fun xs => (toPys xs).bind fun ps => if (PyData.list ps).showable = true ∧ (PyData.list ps).hasDict = false ∧ (PyData.list ps).shown.length ≤ BIG ∧ (PyData.list ps).depth ≤ 60 then some (D.str (PyData.list ps).shown) else none) = some d := e
      obtain ⟨xs, e2, e'⟩ := Option.bind_eq_some_iff.mp e'
      obtain ⟨ps, e3, e'⟩ := Option.bind_eq_some_iff.mp e'
      split at e'
      · rename_i c
        cases e'
        obtain ⟨a, vs, rfl, h3, h4⟩ := lstOf_rep hr h1 e2
        exact .inl ⟨.ref a, rfl, .inl ⟨.list ps, .lst (.inl (.inl h3)) (toPys_dp h4 e3), ⟨a, rfl⟩, c.1, c.2.1, by rw [← big_line]; exact c.2.2.1, c.2.2.2, q _ H .refl hr (by unfold RepV; rfl)⟩⟩
      · cases e'
def sPar3 (i j l : Nat) (fs : FA) : FS := fun σ S => RS.of (fs σ S) σ fun ds S1 => match ds with
  | [d1, d2, d3] => .nx (((σ.set i (some d1)).set j (some d2)).set l (some d3)) S1
  | _ => .stuck
@[simp] theorem ap_sPar3 {i j l : Nat} {fs : FA} {σ : En} {S : Sto} : sPar3 i j l fs σ S = RS.of (fs σ S) σ fun ds S1 => match ds with | [d1, d2, d3] => .nx (((σ.set i (some d1)).set j (some d2)).set l (some d3)) S1 | _ => .stuck := rfl
section
variable {X : Cx} {W : WX} {a b c : Expr} {pos : Pos}
theorem ds_par3 (i j l : Nat) {x y z : Str} {fs : FA} {px py pz pt : Pos} {kt k2 pt2} (cx : Ctx X W) (ha : DA X W [a, b, c] fs) (hi : X.N[i]? = some x := by rfl) (hj : X.N[j]? = some y := by rfl) (hl : X.N[l]? = some z := by rfl) (hij : i ≠ j := by decide) (hil : i ≠ l := by decide) (hjl : j ≠ l := by decide)
    (hx : X.env.scope.names.lookup x = some .local := by rfl) (hy : X.env.scope.names.lookup y = some .local := by rfl) (hz : X.env.scope.names.lookup z = some .local := by rfl)
    (hw : swappedStores [.Tuple [.Name x px, .Name y py, .Name z pz] kt pt] (.Tuple [a, b, c] k2 pt2) X.env = pure (some [x, y, z]) := by rfl)
    (hs : swapsWithSole [.Tuple [.Name x px, .Name y py, .Name z pz] kt pt] (.Tuple [a, b, c] k2 pt2) pos.line X.env = pure false := by rfl) :
    DS X W (.Assign [.Tuple [.Name x px, .Name y py, .Name z pz] kt pt] (.Tuple [a, b, c] k2 pt2) pos) (sPar3 i j l fs) := by
  refine ⟨PS.imp (ps_par3 cx.calm cx.nd hi hj hl hij hil hjl hx hy hz ha.pa hw hs) fun Z σ H hq => ?_⟩
  obtain ⟨ρ, σd, S, he, hr, q⟩ := hq
  refine ⟨ρ, σd, S, he, hr, PR.imp (PRS.of he q) (fun ds S1 H1 ρ1 x1 hr1 q1 vs hvs => ?_) fun _ _ _ _ _ _ q => q⟩
  match ds, q1 with
  | [d1, d2, d3], q1 =>
    obtain ⟨v, vr, rfl, h1, h2⟩ := hvs.of_cons
    obtain ⟨u, vr, rfl, h3, h4⟩ := h2.of_cons
    obtain ⟨w, vr, rfl, h5, h6⟩ := h4.of_cons
    rw [h6.of_nil]
    exact ⟨v, u, w, rfl, q1 _ H1 ρ1 .refl hr1 ((((he.ext x1).set h1).set h3).set h5)⟩
end
end DL
end

section
set_option Elab.async false
set_option linter.all false
set_option maxRecDepth 100000
set_option maxHeartbeats 4000000
/-! != where a list of the store stands on a side -/
namespace DL
open PySem PySem.Spec PyProof.Rows L2
def toPyR (d : D) (S : Sto) : Option PyData := match d with
  | .ref n => ((lstOf (.ref n) S).bind toPys).map .list
  | d => toPy d
theorem toPyR_dp {K : PySem.W.Frag} {H : Hp} {ρ : Rho} {S : Sto} {d : D} {v : V} {p : PyData} (hr : HRep K H ρ S) (h : RepV K H ρ d v) (e : toPyR d S = some p) : Dp K H v p := by
  cases d with
  | ref n =>
    have e' : ((lstOf (.ref n) S).bind toPys).map PyData.list = some p := e
    obtain ⟨ps, e1, rfl⟩ := Option.map_eq_some_iff.mp e'
    obtain ⟨xs, e2, e3⟩ := Option.bind_eq_some_iff.mp e1
    obtain ⟨a, vs, rfl, h3, h4⟩ := lstOf_rep hr h e2
    exact .lst (.inl (.inl h3)) (toPys_dp h4 e3)
  | _ => exact toPy_dp h e
def dNeR (x y : D) (S : Sto) : Option D := (toPyR x S).bind fun a => (toPyR y S).bind fun b => if SeqAt.shaped a = true ∧ SeqAt.shaped b = true then some (.bl (!PyData.eqv a b)) else none
theorem opD_neR {K : PySem.W.Frag} : OpD K (rNeD K) dNeR := by
  intro x y H ρ S dx dy d Q hr hx hy e q
  unfold dNeR at e
  obtain ⟨a, e1, e⟩ := Option.bind_eq_some_iff.mp e
  obtain ⟨b, e2, e⟩ := Option.bind_eq_some_iff.mp e
  split at e
  · rename_i c
    cases e
    exact ⟨a, b, toPyR_dp hr hx e1, toPyR_dp hr hy e2, c.1, c.2, q _ H .refl hr (by unfold RepV; rfl)⟩
  · cases e
def dNeE (x y : D) (S : Sto) : Option D := (dNe x y S).or (dNeR x y S)
section
variable {X : Cx} {W : WX} {a b : Expr} {f g : FE} {pos : Pos}
theorem de_neE (hu : X.A.units + 65 < cLine) (ha : DE X W a f) (hb : DE X W b g) : DE X W (.Compare a [.NotEq] [b] pos) (fBin dNeE f g) := de_op (pe_cmpR ((op_ne_all (by omega)).or (op_neD (by omega))) ha.pe hb.pe (nomark _)) (opD_ne.or opD_neR)
theorem dt_neE (hu : X.A.units + 65 < cLine) (ha : DE X W a f) (hb : DE X W b g) : DT X W (.Compare a [.NotEq] [b] pos) (tBl (fBin dNeE f g)) := dt_op (op := .NotEq) (pt_cmpR ((op_ne_all (by omega)).or (op_neD (by omega))) ha.pe hb.pe (nomark _)) (opD_ne.or opD_neR)
end
end DL
end

section
set_option Elab.async false
set_option linter.all false
set_option maxRecDepth 100000
set_option maxHeartbeats 4000000
/-! x in (a, b, ..): flat things -/
namespace DL
open PySem PySem.Spec PyProof.Rows L2
def flD : D → Option V
  | .non => some .non
  | .bl b => some (.bl b)
  | .int i => some (.int i)
  | .str x => some (.str x)
  | _ => none
def flDs : List D → Option (List V)
  | [] => some []
  | d :: ds => (flD d).bind fun v => (flDs ds).map fun vs => v :: vs
theorem flD_rep {K : PySem.W.Frag} {H : Hp} {ρ : Rho} {d : D} {v u : V} (h : RepV K H ρ d v) (e : flD d = some u) : v = u ∧ flatV u = true := by
  cases d <;> first
    | (simp [flD] at e; done)
    | (unfold RepV at h; simp [flD] at e; subst e; exact ⟨h, rfl⟩)
theorem flDs_rep {K : PySem.W.Frag} {H : Hp} {ρ : Rho} : ∀ {ds : List D} {vs us : List V}, RepVs K H ρ ds vs → flDs ds = some us → vs = us ∧ us.all flatV = true
  | [], vs, us, h, e => by
    cases e
    exact ⟨h.of_nil, rfl⟩
  | d :: ds, vs, us, h, e => by
    unfold flDs at e
    obtain ⟨u, e1, e⟩ := Option.bind_eq_some_iff.mp e
    obtain ⟨ur, e2, rfl⟩ := Option.map_eq_some_iff.mp e
    obtain ⟨v, vr, rfl, h1, h2⟩ := h.of_cons
    obtain ⟨r1, f1⟩ := flD_rep h1 e1
    obtain ⟨r2, f2⟩ := flDs_rep h2 e2
    subst r1 r2
    exact ⟨rfl, by rw [List.all_cons, f1, f2]; rfl⟩
def dInT (neg : Bool) (x y : D) (S : Sto) : Option D := match y with
  | .tup ys => (flD x).bind fun v => (flDs ys).map fun vs => .bl (if neg then !inV v vs else inV v vs)
  | y => (anyL y S).bind fun ys => (flD x).bind fun v => (flDs ys).map fun vs => .bl (if neg then !inV v vs else inV v vs)
theorem opD_inT {K : PySem.W.Frag} {neg : Bool} : OpD K (rIn K neg) (dInT neg) := by
  intro x y H ρ S dx dy d Q hr hx hy e q
  have go : ∀ {a : Addr} {ys : List D} {vs : List V}, y = .ref a → (SqL K H a vs ∨ SqT K H a vs) → RepVs K H ρ ys vs → ((flD dx).bind fun v => (flDs ys).map fun vs => D.bl (if neg then !inV v vs else inV v vs)) = some d → rIn K neg x y H Q := by
    intro a ys vs ey hs rs e
    obtain ⟨u, e1, e⟩ := Option.bind_eq_some_iff.mp e
    obtain ⟨us, e2, rfl⟩ := Option.map_eq_some_iff.mp e
    obtain ⟨r1, f1⟩ := flD_rep hx e1
    obtain ⟨r2, f2⟩ := flDs_rep rs e2
    subst r1 r2
    exact ⟨a, vs, ey, hs, f1, f2, q _ H .refl hr (by unfold RepV; rfl)⟩
  have rest : ∀ {dy : D}, RepV K H ρ dy y → ((anyL dy S).bind fun ys => (flD dx).bind fun v => (flDs ys).map fun vs => D.bl (if neg then !inV v vs else inV v vs)) = some d → rIn K neg x y H Q := by
    intro dy hy e
    obtain ⟨ys, e1, e⟩ := Option.bind_eq_some_iff.mp e
    obtain ⟨a, vs, ey, h1, r1⟩ := anyL_rep hr hy e1
    exact go ey (.inl h1) r1 e
  cases dy with
  | tup ys =>
    obtain ⟨a, vs, ey, h1, _, r1⟩ := tup_rep hy
    exact go ey (.inr h1) r1 e
  | _ => exact rest hy e
section
variable {X : Cx} {W : WX} {a b : Expr} {f g : FE} {pos : Pos}
theorem de_in (ha : DE X W a f) (hb : DE X W b g) (hm : behindInMarks .In b = false := by rfl) : DE X W (.Compare a [.In] [b] pos) (fBin (dInT false) f g) := de_op (pe_cmpR op_in_seq ha.pe hb.pe hm) opD_inT
theorem de_notIn (ha : DE X W a f) (hb : DE X W b g) (hm : behindInMarks .NotIn b = false := by rfl) : DE X W (.Compare a [.NotIn] [b] pos) (fBin (dInT true) f g) := de_op (pe_cmpR op_notIn_seq ha.pe hb.pe hm) opD_inT
theorem dt_in (ha : DE X W a f) (hb : DE X W b g) (hm : behindInMarks .In b = false := by rfl) : DT X W (.Compare a [.In] [b] pos) (tBl (fBin (dInT false) f g)) := dt_op (op := .In) (pt_cmpR op_in_seq ha.pe hb.pe hm) opD_inT
theorem dt_notIn (ha : DE X W a f) (hb : DE X W b g) (hm : behindInMarks .NotIn b = false := by rfl) : DT X W (.Compare a [.NotIn] [b] pos) (tBl (fBin (dInT true) f g)) := dt_op (op := .NotIn) (pt_cmpR op_notIn_seq ha.pe hb.pe hm) opD_inT
end
end DL
end

section
set_option Elab.async false
set_option linter.all false
set_option maxRecDepth 100000
set_option maxHeartbeats 4000000
/-! a name set to a comprehension, or to list + list, where the list is changed later -/
namespace DL
open PySem PySem.Spec PyProof.Rows L2
section
variable {X : Cx} {W : WX} {elt tg iter : Expr} {ifs : List Expr} {fi : FI} {gt : FG} {t : FT} {f : FE} {pos : Pos} {scope : Scope} {own : List (Str × Nat)} {vs : List Nat}
theorem ds_setCompN (i : Nat) {y : Str} {py spos : Pos} (cx : Ctx X W) (hy : X.N[i]? = some y) (hyl : X.env.scope.names.lookup y = some .local)
    (hsw : swapsWith (.ListComp elt [⟨tg, iter, ifs, 0⟩] scope pos) (some (.Name y py)) spos.line X.env = pure true) (hi : DI X W tg iter fi) (ok : BlkOk X.N X.env.scope scope own)
    (hg : ∀ (s : Shared) (H : Hp) (C : Addr) (cl : List (Str × Addr)) (fp : List Addr), DGo (X.blk s H scope (compEnvC scope cl C X.env) fp) (own.map (·.2)) tg gt)
    (ht : ∀ (s : Shared) (H : Hp) (C : Addr) (cl : List (Str × Addr)) (fp : List Addr), DTs (X.blk s H scope (compEnvC scope cl C X.env) fp) W0 ifs t)
    (he : ∀ (s : Shared) (H : Hp) (C : Addr) (cl : List (Str × Addr)) (fp : List Addr), DE (X.blk s H scope (compEnvC scope cl C X.env) fp) W0 elt f)
    (hs : ∀ x, foldedSetIterable iter X.env x = pure x := by intro _; rfl) : DS X W (.Assign [.Name y py] (.ListComp elt [⟨tg, iter, ifs, 0⟩] scope pos) spos) (sSet i (fCompN fi gt t f (own.map (·.2)))) := by
  refine ⟨PS.imp (ps_setLc (g := tGo X.K (own.map (·.2)) gt) (tt := tT X.K W0 t) (te := tE X.K W0 f) cx.calm cx.nd hy hyl hsw hi.pi ok (fun s H C cl fp => (hg s H C cl fp).pg) (fun s H C cl fp => (ht s H C cl fp).pts) (fun s H C cl fp => (he s H C cl fp).pe) hs) fun Z σ H hq => ?_⟩
  obtain ⟨ρ, σd, S, he, hr, q⟩ := hq
  refine lc_impN ⟨ρ, σd, S, he, hr, PR.imp (PRS.of he q) (fun d S1 H1 ρ1 x1 hr1 q1 v hv => q1 _ H1 ρ1 .refl hr1 ((he.ext x1).set hv)) fun _ _ _ _ _ _ q => q⟩
end
def fAddN (f g : FE) : FE := fun σ S => (f σ S).bind fun x S1 => (g σ S1).bind fun y S2 => (ofO (lstOf x S2) S2).bind fun xs S2 => (ofO (lstOf y S2) S2).bind fun ys S2 =>
  if xs.length + ys.length ≤ BIG then .ok (.ref S2.length) (S2 ++ [.lst (xs ++ ys)]) else .stuck
section
variable {X : Cx} {W : WX} {a b : Expr} {f g : FE} {pos : Pos}
theorem de_addN (ha : DE X W a f) (hb : DE X W b g) : DE X W (.BinOp a .Add b pos) (fAddN f g) := by
  refine ⟨PE.imp (pe_op op_cat ha.pe hb.pe) fun σ H Q hq => ?_⟩
  obtain ⟨ρ, σd, S, he, hr, q⟩ := hq
  refine ⟨ρ, σd, S, he, hr, PR.imp (PR.bind q) (fun x S1 H1 ρ1 x1 hr1 q1 v hv => ?_) fun _ _ _ _ _ _ q => q⟩
  refine ⟨ρ1, σd, S1, he.ext x1, hr1, PR.imp (PR.bind q1) (fun y S2 H2 ρ2 x2 hr2 q2 u hu => ?_) fun _ _ _ _ _ _ q => q⟩
  cases e1 : lstOf x S2 with
  | none => rw [e1] at q2; exact q2.elim
  | some xs =>
    rw [e1] at q2
    simp only [ofO_some, Res.bind_ok] at q2
    cases e2 : lstOf y S2 with
    | none => rw [e2] at q2; exact q2.elim
    | some ys =>
      rw [e2] at q2
      simp only [ofO_some, Res.bind_ok] at q2
      by_cases c : xs.length + ys.length ≤ BIG
      · rw [if_pos c] at q2
        obtain ⟨l, vs, rfl, h1, r1⟩ := lstOf_rep hr2 (hv.ext x2) e1
        obtain ⟨m, ws, rfl, h2, r2⟩ := lstOf_rep hr2 hu e2
        refine ⟨l, m, vs, ws, rfl, rfl, h1, h2, by rw [r1.length, r2.length, ← big_line]; exact c, fun p hp => ?_⟩
        obtain ⟨y1, y2⟩ := hr2.alloc hp (r1.append r2)
        refine q2 _ _ y1 y2 _ ?_
        unfold RepV
        refine ⟨p, rfl, ?_⟩
        rw [← hr2.len]
        simp
      · rw [if_neg c] at q2; exact q2.elim
end
end DL
end

section
set_option Elab.async false
set_option linter.all false
set_option maxRecDepth 100000
set_option maxHeartbeats 4000000
/-! what is stuck; except clauses that name several classes -/
namespace DL
open PySem PySem.Spec PyProof.Rows L2
def fStuck : FE := fun _ _ => .stuck
def sStuck : FS := fun _ _ => .stuck
theorem de_stuck {X : Cx} {W : WX} {e : Expr} : DE X W e fStuck := ⟨⟨fun _ _ _ _ _ _ hq => by
  obtain ⟨ρ, σd, S, _, _, q⟩ := hq
  exact (show False from q).elim⟩⟩
theorem ds_stuck {X : Cx} {W : WX} {st : Stmt} : DS X W st sStuck := ⟨⟨fun _ _ _ _ _ _ hq => by
  obtain ⟨ρ, σd, S, _, _, q⟩ := hq
  exact (show False from q).elim⟩⟩
/-! ### the test of a clause -/
theorem forIn_cls {M : Model} {K : PySem.W.Frag} {cls : Value} {A : Around} {E : Value → Shared → Prop} {f : Value → PUnit → Sem (ForInStep PUnit)}
    (hf : ∀ (c : Value) (s : Shared) (R : ForInStep PUnit → Shared → Prop), PySem.W.Looks M s.heap (isExcClass c) true → R (.yield PUnit.unit) s → wpAny M A (f c PUnit.unit) R E s) : ∀ {cs : List Value} {b : Bool} {s : Shared} {Q : PUnit → Shared → Prop},
    K.In s.heap → PySem.W.exmAny K cls cs = some b → Q PUnit.unit s → wpAny M A (forIn cs PUnit.unit f) Q E s
  | [], b, s, Q, hk, hx, q => by rw [List.forIn_nil]; exact wpAny_pure q
  | c :: cs, b, s, Q, hk, hx, q => by
    obtain ⟨b1, d1, x1, y1, z1⟩ := PySem.W.exmAny_cons hx
    obtain ⟨e1, _⟩ := PySem.W.exm_cls (M := M) hk x1
    rw [List.forIn_cons]
    exact wpAny_bind (hf c s _ e1 (forIn_cls hf hk y1 q))
theorem forIn_sub {M : Model} {K : PySem.W.Frag} {cls : Value} {A : Around} {E : Value → Shared → Prop} {f : Value → (Option Bool × PUnit) → Sem (ForInStep (Option Bool × PUnit))}
    (hf : ∀ (c : Value) (s : Shared) (r : Bool) (R : ForInStep (Option Bool × PUnit) → Shared → Prop), PySem.W.Looks M s.heap (isSubtype cls c) r → R (if r = true then .done (some true, PUnit.unit) else .yield (none, PUnit.unit)) s → wpAny M A (f c (none, PUnit.unit)) R E s) : ∀ {cs : List Value} {b : Bool} {s : Shared} {Q : (Option Bool × PUnit) → Shared → Prop},
    K.In s.heap → PySem.W.exmAny K cls cs = some b → Q (if b = true then some true else none, PUnit.unit) s → wpAny M A (forIn cs (none, PUnit.unit) f) Q E s
  | [], b, s, Q, hk, hx, q => by
    cases (show some false = some b from hx)
    rw [List.forIn_nil]; exact wpAny_pure q
  | c :: cs, b, s, Q, hk, hx, q => by
    obtain ⟨b1, d1, x1, y1, z1⟩ := PySem.W.exmAny_cons hx
    obtain ⟨_, e1⟩ := PySem.W.exm_cls (M := M) hk x1
    subst z1
    rw [List.forIn_cons]
    refine wpAny_bind (hf c s b1 _ e1 ?_)
    cases b1 with
    | true => exact wpAny_pure q
    | false => exact forIn_sub hf hk y1 (by simpa using q)
theorem exm_many {M : Model} {K : PySem.W.Frag} {cls : Value} {cs : List Value} {tp e : Addr} {b : Bool} {g : Heap} (hk : K.In g) (lt : PySem.W.Looks M g (typeOf (.ref e)) cls) (ht : g.get? tp = some { cls := .type "tuple", data := .seq cs.toArray }) (hx : PySem.W.exmAny K cls cs = some b) :
    PySem.W.Looks M g (excMatches (.ref e) (.ref tp)) b := by
  intro A Q E s k q
  obtain ⟨hh, g', d, tk, os⟩ := s
  have l0 : PySem.W.Looks M g (isInstance (.ref tp) (.type "tuple")) true := ((PySem.W.Looks.ld ht).andThen .now).andThen (PySem.W.Looks.of_pure isSubtype_tuple_tuple)
  have l0 := l0.keeps k
  have lt := lt.keeps k
  have hp := k _ _ ht
  have hk' := hk.keeps k
  unfold excMatches
  refine wpAny_bind (l0.at ?_)
  dsimp only
  rw [if_pos rfl]
  first
    | refine wpAny_bind (wpAny_seqItems hp rfl ?_)
    | refine wpAny_bind (wpAny_bind (wpAny_seqItems hp rfl (wpAny_pure ?_)))
  dsimp only [Option.getD_some, Option.getD]
  refine wpAny_bind (wpAny_pure ?_)
  refine wpAny_bind (forIn_cls (fun c s R h r => wpAny_bind (h.here (by simpa using wpAny_pure r))) hk' hx ?_)
  refine wpAny_bind (lt.at ?_)
  refine wpAny_bind (forIn_sub (fun c s r R h q => wpAny_bind (h.here ?_)) hk' hx ?_)
  · cases r with
    | true => exact wpAny_pure q
    | false => exact wpAny_pure q
  · cases b with
    | true => exact wpAny_pure q
    | false => exact wpAny_pure q
/-- what the test of a clause finds of an error of a class -/
def HT (X : Cx) (t : Expr) (m : Value → Option Bool) : Prop := ∀ (cls : Value) (b : Bool), m cls = some b → ∀ (E : Value → Shared → Prop) (Q : Bool → Shared → Prop) (a : Addr) (pn pins : List (Addr × Obj)) (σ : L2.St) (H : Hp) (s : Shared),
  Inv (X.suite a pn) pins σ H s → PySem.W.Looks (model X.prog X.w) s.heap (typeOf (.ref a)) cls → (∀ h', (∀ q o, s.heap.get? q = some o → h'.get? q = some o) → Q b { s with heap := h' }) →
  wpAny (model X.prog X.w) (X.A.mark (some (.ref a))) (eval t X.env) (fun c s1 => wpAny (model X.prog X.w) (X.A.mark (some (.ref a))) (excMatches (.ref a) c) Q E s1) E s
theorem ld_names {X : Cx} {x : Str} {c : Value} {p : Pos} {E : Value → Shared → Prop} {Q : Value → Shared → Prop} {pins : List (Addr × Obj)} {σ : L2.St} {H : Hp} {s : Shared} (hc : Names X x c) (I : Inv X pins σ H s) (q : Q c s) : wpAny (model X.prog X.w) X.A (eval (.Name x p) X.env) Q E s := by
  obtain ⟨h1, h2, h3 | ⟨h3, h4, h5⟩⟩ := hc
  · exact ld_glob I h1 h3 q h2
  · exact ld_blt I h1 h3 h4 q h5 h2
theorem ht_name {X : Cx} {x : Str} {c : Value} {p : Pos} (hc : Names X x c) : HT X (.Name x p) (fun cls => PySem.W.exmOne X.K cls c) := fun cls b hb E Q a pn pins σ H s I lt q =>
  ld_names (X := X.suite a pn) hc I ((PySem.W.exm_one I.kIn lt hb).here (q s.heap fun _ _ z => z))
inductive NamesAll (X : Cx) : List Expr → List Value → Prop
  | nil : NamesAll X [] []
  | cons {x : Str} {c : Value} {p : Pos} {es : List Expr} {cs : List Value} (h : Names X x c) (t : NamesAll X es cs) : NamesAll X (.Name x p :: es) (c :: cs)
theorem NamesAll.run {X : Cx} {E : Value → Shared → Prop} {tp : Pos} {pins : List (Addr × Obj)} {σ : L2.St} {H : Hp} {s : Shared} (I : Inv X pins σ H s) : ∀ {es : List Expr} {cs : List Value} {Q : List Value → Shared → Prop}, NamesAll X es cs → Q cs s →
    wpAny (model X.prog X.w) X.A (spliced (backTo tp (starEach es X.env))) Q E s
  | _, _, Q, .nil, q => wpAny_items_nil q
  | _, _, Q, .cons h t, q => wpAny_items_cons (ld_names h I (NamesAll.run I t q))
theorem ht_tup {X : Cx} {es : List Expr} {cs : List Value} {k : Nat} {p : Pos} (hc : NamesAll X es cs) (hl : cs.length ≤ 100) : HT X (.Tuple es k p) (fun cls => PySem.W.exmAny X.K cls cs) := fun cls b hb E Q a pn pins σ H s I lt q => by
  have hc' : NamesAll (X.suite a pn) es cs := by
    clear hb hl
    induction hc with
    | nil => exact .nil
    | cons h t ih => exact .cons h ih
  refine wpAny_Tuple (NamesAll.run I hc' ⟨Nat.le_trans hl (by rw [← big_line]; decide), ?_⟩)
  have kp : ∀ q o, s.heap.get? q = some o → (s.heap.push { cls := .type "tuple", data := .seq cs.toArray }).get? q = some o := fun _ _ z => Heap.get?_push_of_some _ z
  exact (exm_many (I.kIn.keeps kp) (lt.keeps kp) (Heap.get?_push_size s.heap rfl) hb).here (q _ kp)
theorem fly_keep {B h h' : Heap} {l : List Env} {a : Addr} {Z : Obj → Prop} (k : ∀ q o, h.get? q = some o → h'.get? q = some o) (f : HandSPX.FlyingZ B l a Z h) : HandSPX.FlyingZ B l a Z h' := by
  obtain ⟨f1, f2, f3, oe, vs, T, oT, ts, g1, g2, g3, g4, g5, g6, g7, g8, g9⟩ := f
  exact ⟨fun b o e => k _ _ (f1 b o e), f2, Heap.FunFrames.of_keeps (fun b o e _ => ⟨o, k _ _ e, rfl⟩) f3, oe, vs, T, oT, ts, k _ _ g1, g2, g3, g4, g5, g6, k _ _ g7, g8, g9⟩
abbrev HDA := (Value → Option Bool) × (Addr → Value → Option Addr → TS)
/-- the clauses one behind the other -/
def wAll (Wout : WX) (Z : Ends) : List HDA → WX
  | [] => Wout
  | p :: r => fun cls d σ H => ∃ b, p.1 cls = some b ∧ (b = true → ∀ a, H a = none → p.2 a cls d Z σ H) ∧ (b = false → wAll Wout Z r cls d σ H)
inductive HdsX (X : Cx) : List ExceptHandler → List HDA → Prop
  | nil : HdsX X [] []
  | cons {t : Expr} {m : Value → Option Bool} {ts : Addr → Value → Option Addr → TS} {b₀ : Stmt} {sl : List Stmt} {p : Pos} {hds : List ExceptHandler} {l : List HDA} (ht : HT X t m)
      (hsu : ∀ (a : Addr) (oe : Obj) (cls : Value) (d : Option Addr) (pn : List (Addr × Obj)), Zc cls d oe → (∃ vs, oe.data = .fields vs) → PSs (X.suite a ((a, oe) :: pn)) (b₀ :: sl) (ts a cls d)) (r : HdsX X hds l) :
      HdsX X (.ExceptHandler (some t) none (b₀ :: sl) p :: hds) ((m, ts) :: l)
section
variable {X : Cx} {body : List Stmt} {h₀ : ExceptHandler} {hds : List ExceptHandler} {l : List HDA} {pos : Pos} {tb : WX → TS} {Wo : WX}
theorem ps_try_any (hs : X.stack = X.env :: X.outer) (hf : X.env.frame = some X.env.locals) (tk : Takes X Wo)
    (hb : ∀ (W' : WX) (pn : List (Addr × Obj)) (xe : Value → Shared → Prop), Takes (X.tr pn xe) W' → PassesOwn (model X.prog X.w) X.A X.env xe → PSs (X.tr pn xe) body (tb W'))
    (hh : HdsX X (h₀ :: hds) l) : PS X (.Try body (h₀ :: hds) [] [] pos) (fun Z σ H => tb (wAll Wo Z l) Z σ H) := by
  refine ⟨fun pins s σ H Z I q0 => ?_⟩
  have ok := I.ok
  have efr : X.A.frames = some (X.env :: X.outer) := by rw [ok.frames, hs]
  refine wpAny_Try_except (wpAny_mono ((hb (wAll Wo Z l) (X.pn ++ pins) (fun e s₁ => wpAny (model X.prog X.w) X.A (noteFrame e X.env) (fun _ s₂ => wpAny (model X.prog X.w) X.A (setFlight e none) (fun _ s₃ =>
    wpAny (model X.prog X.w) X.A (handleBy e X.env (h₀ :: hds)) (SP X pins Z) X.xe s₃) X.xe s₂) X.xe s₁) (fun u s' xx => ?_) PassesOwn.looking).run [] s σ H Z (I.toTry _) q0) (fun f s1 sp => ?_) (fun e s1 he => he))
  · obtain ⟨a, B, sI, pins', σ', H', cls, d, rfl, J', nb, up, sky, na, os, ag, w⟩ := xx
    have J : Inv X pins σ' H' sI := J'.ofTry ok
    have sky1 : Sky B (X.env :: X.outer) a (Zc cls d) X.env.locals s'.heap := by rw [← hs]; exact sky
    show wpAny (model X.prog X.w) X.A (noteFrame (.ref a) X.env) _ _ _
    refine Sky.land Zc.steady efr hf sky1 fun g gl gu => ?_
    have noFr : ∀ {h : Heap} {o : Obj} {vs : Array Value}, h.FunFrames B (X.env :: X.outer) → h.get? a = some o → o.data = .fields vs → a ∉ frs (X.env :: X.outer) := fun {h o vs} ff e dd hm => by
      obtain ⟨_, o1, e1, hn⟩ := ff.mem hm
      rw [e] at e1; cases e1
      exact hn _ dd
    have suite : ∀ (h : Heap), HandSPX.FlyingZ B (X.env :: X.outer) a (Zc cls d) h → sI.heap.UpToSlots h → ∃ oe vs, h.get? a = some oe ∧ Zc cls d oe ∧ oe.data = .fields vs ∧ Inv X pins σ' H' { s' with heap := h } ∧ Inv (X.suite a ((a, oe) :: (X.pn ++ pins))) [] σ' H' { s' with heap := h } := fun h fl hu => by
      have JJ : Inv X pins σ' H' { s' with heap := h } := J.landed nb fl.1 hu os ag
      obtain ⟨oe, vs, he, hz, hd⟩ := fl.there
      have nr := noFr fl.2.2.1 he hd
      refine ⟨oe, vs, he, hz, hd, JJ, JJ.suite he hd na (fun z => nr (List.mem_filterMap.mpr ⟨X.env, List.mem_cons_self, by rw [hf, z]⟩)) fun hm => ?_⟩
      obtain ⟨e, he', q⟩ := List.mem_filterMap.mp hm
      exact nr (List.mem_filterMap.mpr ⟨e, List.mem_cons_of_mem _ he', q⟩)
    have go : ∀ {hd1 : List ExceptHandler} {l1 : List HDA}, HdsX X hd1 l1 → wAll Wo Z l1 cls d σ' H' → ∀ h, HandSPX.FlyingZ B (X.env :: X.outer) a (Zc cls d) h → sI.heap.UpToSlots h →
        wpAny (model X.prog X.w) X.A (handleBy (.ref a) X.env hd1) (SP X pins Z) X.xe { s' with heap := h } := by
      intro hd1 l1 hk
      induction hk with
      | nil =>
        intro w h fl hu
        refine wpAny_handleBy_nil ?_
        obtain ⟨k1, k2, k3, oe, vs, T, oT, ts', he, hz, hd, h1, hr⟩ := id fl
        unfold PySem.passOn
        refine wpAny_bind (wpAny_field he hd h1 ?_)
        rw [if_neg (show ¬ ((Value.ref T == Value.none) = true) from by simp)]
        have fin : wpAny (model X.prog X.w) X.A (setFlight (.ref a) X.env.frame) (fun _ s4 => wpAny (model X.prog X.w) X.A (throw (.ref a) : Sem Flow) (SP X pins Z) X.xe s4) X.xe { s' with heap := h } := by
          rw [hf]
          refine HandSPX.setFlight_upZ fl fun h4 hh4 up4 => wpAny_throw (tk _ _ ⟨a, B, sI, pins, σ', H', cls, d, rfl, J, nb, hu.trans up4, .inr (.inr (by rw [hs]; exact hh4)), na, os, ag, w⟩)
        first
          | exact wpAny_bind (wpAny_pure (wpAny_bind fin))
          | exact wpAny_bind fin
      | @cons t m ts b₀ sl p hds2 l2 ht hsu r ih =>
        intro w h fl hu
        obtain ⟨b, hb1, hyes, hno⟩ := w
        obtain ⟨oe, vs, he, hz, hd, JJ, SS⟩ := suite h fl hu
        have lt : PySem.W.Looks (model X.prog X.w) h (typeOf (.ref a)) cls := fun A Q E s k q => wpAny_typeOf_ref (k _ _ he) (by rw [hz.1]; exact q)
        refine wpAny_handleBy_cons (codeAny_handlers_test (ht cls b hb1 _ _ a _ _ σ' H' _ SS lt fun h5 kp => ?_)) (by intro q; cases q)
        have fl5 := fly_keep kp fl
        have hu5 := hu.trans (Heap.UpToSlots.of_keeps kp)
        cases b with
        | true =>
          refine codeAny_handlers_suite (HandSPX.lands_againZ fl5 fun h6 fl6 up6 => ?_)
          obtain ⟨oe6, vs6, he6, hz6, hd6, J6, S6⟩ := suite h6 fl6 (hu5.trans up6)
          refine wpAny_mono ((hsu a oe6 cls d (X.pn ++ pins) hz6 ⟨_, hd6⟩).run [] _ _ H' _ S6 (hyes rfl a na)) (fun f s6 sp => ?_) (fun _ _ z => False.elim z)
          cases f with
          | ret u =>
            obtain ⟨v6, σ6, H6, S7, r6, q6⟩ := sp
            exact ⟨_, _, _, S7.unsuite ok, r6, q6⟩
          | _ =>
            obtain ⟨σ6, H6, S7, q6⟩ := sp
            exact ⟨_, _, S7.unsuite ok, q6⟩
        | false =>
          show wpAny _ X.A (handleBy (.ref a) X.env hds2) _ _ _
          exact ih (hno rfl) h5 fl5 hu5
    exact go hh w g gl (up.trans gu)
  · cases f with
    | next =>
      obtain ⟨σ', H', J', q⟩ := sp
      exact wpAny_execs_nil ⟨σ', H', J'.ofTry ok, q⟩
    | ret u =>
      obtain ⟨v, σ', H', J', r, q⟩ := sp
      exact ⟨v, σ', H', J'.ofTry ok, r, q⟩
    | _ =>
      obtain ⟨σ', H', J', q⟩ := sp
      exact ⟨σ', H', J'.ofTry ok, q⟩
end
end DL
end

section
set_option Elab.async false
set_option linter.all false
set_option maxRecDepth 100000
set_option maxHeartbeats 4000000
/-! try by clauses that name one class or several -/
namespace DL
open PySem PySem.Spec PyProof.Rows L2
def anyM (m : Value → Value → Option Bool) (c : Value) : List Value → Option Bool
  | [] => some false
  | k :: r => match m c k, anyM m c r with
    | some b, some d => some (b || d)
    | _, _ => none
theorem anyM_exm {K : PySem.W.Frag} {c : Value} : ∀ cs : List Value, anyM (PySem.W.exmOne K) c cs = PySem.W.exmAny K c cs
  | [] => rfl
  | k :: r => by
    unfold anyM PySem.W.exmAny
    rw [anyM_exm r]
    cases PySem.W.exmOne K c k <;> cases PySem.W.exmAny K c r <;> rfl
abbrev HDT := List Value × FS
def catchT (m : Value → Value → Option Bool) : List HDT → Value → En → Sto → RS
  | [], c, σ, S => .raise c σ S
  | (ks, g) :: r, c, σ, S => match anyM m c ks with
    | some true => (g σ S).noR
    | some false => catchT m r c σ S
    | none => .stuck
def sTryT (m : Value → Value → Option Bool) (g : FS) (l : List HDT) : FS := fun σ S => match g σ S with
  | .raise c σ1 S1 => catchT m l c σ1 S1
  | r => r
inductive HdsT (X : Cx) : List ExceptHandler → List HDT → Prop
  | nil : HdsT X [] []
  | one {x : Str} {c : Value} {g : FS} {b₀ : Stmt} {sl : List Stmt} {np p : Pos} {hds : List ExceptHandler} {l : List HDT} (hc : Names X x c)
      (hsu : ∀ (a : Addr) (oe : Obj) (pn : List (Addr × Obj)), DSs (X.suite a ((a, oe) :: pn)) W0 (b₀ :: sl) g) (r : HdsT X hds l) : HdsT X (.ExceptHandler (some (.Name x np)) none (b₀ :: sl) p :: hds) (([c], g) :: l)
  | tup {es : List Expr} {cs : List Value} {g : FS} {b₀ : Stmt} {sl : List Stmt} {k : Nat} {np p : Pos} {hds : List ExceptHandler} {l : List HDT} (hc : NamesAll X es cs) (hl : cs.length ≤ 100)
      (hsu : ∀ (a : Addr) (oe : Obj) (pn : List (Addr × Obj)), DSs (X.suite a ((a, oe) :: pn)) W0 (b₀ :: sl) g) (r : HdsT X hds l) : HdsT X (.ExceptHandler (some (.Tuple es k np)) none (b₀ :: sl) p :: hds) ((cs, g) :: l)
theorem HT.imp {X : Cx} {t : Expr} {m m' : Value → Option Bool} (h : HT X t m) (e : ∀ c b, m' c = some b → m c = some b) : HT X t m' := fun cls b hb => h cls b (e _ _ hb)
def readT (K : PySem.W.Frag) (l : List HDT) : List HDA := l.map fun p => (fun c => anyM (PySem.W.exmOne K) c p.1, fun _ _ _ => tS K W0 p.2)
theorem HdsT.ok {X : Cx} : ∀ {hds : List ExceptHandler} {l : List HDT}, HdsT X hds l → HdsX X hds (readT X.K l)
  | _, _, .nil => .nil
  | _, _, .one hc hsu r => .cons ((ht_name hc).imp fun c b e => by
      rw [anyM_exm] at e
      obtain ⟨b1, d1, x1, y1, z1⟩ := PySem.W.exmAny_cons e
      cases (show some false = some d1 from y1)
      subst z1
      simpa using x1) (fun a oe cls d pn _ _ => (hsu a oe pn).pss) r.ok
  | _, _, .tup hc hl hsu r => .cons ((ht_tup hc hl).imp fun c b e => by rw [anyM_exm] at e; exact e) (fun a oe cls d pn _ _ => (hsu a oe pn).pss) r.ok
section
variable {X : Cx} {W : WX} {body : List Stmt} {h₀ : ExceptHandler} {hds : List ExceptHandler} {l : List HDT} {g : FS} {pos : Pos}
theorem ds_tryT {em : Value → Value → Option Bool} (hem : em = PySem.W.exmOne X.K) (cx : Ctx X W) (hs : X.stack = X.env :: X.outer) (hf : X.env.frame = some X.env.locals)
    (hb : ∀ (W' : WX) (pn : List (Addr × Obj)) (xe : Value → Shared → Prop), Ctx (X.tr pn xe) W' → PassesOwn (model X.prog X.w) X.A X.env xe → DSs (X.tr pn xe) W' body g) (hh : HdsT X (h₀ :: hds) l) :
    DS X W (.Try body (h₀ :: hds) [] [] pos) (sTryT em g l) := by
  subst hem
  refine ⟨PS.imp (ps_try_any (tb := fun W' => tS X.K W' g) hs hf cx.takes (fun W' pn xe tk ow => (hb W' pn xe ⟨cx.units, cx.calm, cx.guards, tk, cx.nd⟩ ow).pss) hh.ok) fun Z σ H hq => ?_⟩
  obtain ⟨ρ, σd, S, he, hr, q⟩ := hq
  refine ⟨ρ, σd, S, he, hr, ?_⟩
  unfold sTryT at q
  cases e1 : g σd S with
  | raise c σ1 S1 =>
    rw [e1] at q
    simp only at q
    intro σ' H' ρ' x hr' he'
    have go : ∀ l : List HDT, PRS X.K H' ρ' W Z (catchT (PySem.W.exmOne X.K) l c σ1 S1) → wAll W Z (readT X.K l) c none σ' H' := by
      intro l
      induction l with
      | nil => exact fun q => q σ' H' ρ' .refl hr' he'
      | cons p r ih =>
        intro q
        unfold catchT at q
        cases em : anyM (PySem.W.exmOne X.K) c p.1 with
        | none => rw [em] at q; exact q.elim
        | some b =>
          rw [em] at q
          refine ⟨b, em, fun eb a ha => ?_, fun eb => ?_⟩
          · subst eb
            refine ⟨ρ', σ1, S1, he', hr', ?_⟩
            have q' : PRS X.K H' ρ' W Z (p.2 σ1 S1).noR := q
            cases e7 : p.2 σ1 S1 with
            | raise c2 σ2 S2 => rw [e7] at q'; exact q'.elim
            | stuck => rw [e7] at q'; exact q'
            | _ => rw [e7] at q'; exact q'
          · subst eb
            exact ih q
    exact go l (PRS.ext x q)
  | _ => rw [e1] at q; exact q
end
@[simp] theorem ap_sTryT {m : Value → Value → Option Bool} {p : FS} {hs : List HDT} {σ : En} {S : Sto} : sTryT m p hs σ S = match p σ S with | .raise c σ1 S1 => catchT m hs c σ1 S1 | r => r := rfl
@[simp] theorem ap_catchT0 {m : Value → Value → Option Bool} {v : Value} {σ : En} {S : Sto} : catchT m [] v σ S = .raise v σ S := rfl
@[simp] theorem ap_catchT1 {m : Value → Value → Option Bool} {v : Value} {ks : List Value} {p : FS} {r : List HDT} {σ : En} {S : Sto} : catchT m ((ks, p) :: r) v σ S = match anyM m v ks with | some true => (p σ S).noR | some false => catchT m r v σ S | none => .stuck := rfl
end DL
end

section
set_option Elab.async false
set_option linter.all false
set_option maxRecDepth 100000
set_option maxHeartbeats 4000000
/-! max and min of a tuple or a list of ints; methods of texts without arguments -/
namespace DL
open PySem PySem.Spec PyProof.Rows L2
open PySem.W (AlikeAll max_list_data max_tuple_data min_list_data min_tuple_data maxD_ints minD_ints)
def intsOf : List D → Option (List Int)
  | [] => some []
  | .int i :: r => (intsOf r).map (i :: ·)
  | _ => none
def anyT : D → Sto → Option (List D)
  | .tup xs, _ => some xs
  | d, S => anyL d S
theorem anyT_rep {K : PySem.W.Frag} {H : Hp} {ρ : Rho} {S : Sto} {d : D} {v : V} {xs : List D} (hr : HRep K H ρ S) (h : RepV K H ρ d v) (e : anyT d S = some xs) : ∃ a vs, v = .ref a ∧ (SqL K H a vs ∨ SqT K H a vs) ∧ RepVs K H ρ xs vs := by
  cases d with
  | tup ys =>
    cases e
    unfold RepV at h
    obtain ⟨a, vs, rfl, h1, h2⟩ := h
    exact ⟨a, vs, rfl, .inr h1.sq, h2⟩
  | _ =>
    obtain ⟨a, vs, h1, h2, h3⟩ := anyL_rep hr h e
    exact ⟨a, vs, h1, .inl h2, h3⟩
theorem intsOf_rep {K : PySem.W.Frag} {H : Hp} {ρ : Rho} : ∀ {ds : List D} {vs : List V} {ns : List Int}, RepVs K H ρ ds vs → intsOf ds = some ns → vs = ns.map V.int
  | [], vs, ns, h, e => by cases e; rw [h.of_nil]; rfl
  | d :: ds, vs, ns, h, e => by
    obtain ⟨v, vr, rfl, h1, h2⟩ := h.of_cons
    cases d with
    | int i =>
      simp only [intsOf] at e
      obtain ⟨ms, e1, rfl⟩ := Option.map_eq_some_iff.mp e
      unfold RepV at h1
      subst h1
      rw [intsOf_rep h2 e1]; rfl
    | _ => simp [intsOf] at e
theorem reads_ints {h : Heap} : ∀ {ns : List Int} {us : List Value}, Vals (ns.map V.int) us → ReadsAll h us (ns.map PyData.int) []
  | [], us, r => by cases r; exact .nil
  | n :: ns, us, r => by
    rw [List.map_cons] at r
    cases r with
    | cons r1 r2 =>
      obtain ⟨t, rfl⟩ := r1
      exact .cons (as := []) (.int n t) (reads_ints r2)
theorem alike_ints (ns : List Int) : AlikeAll (ns.map PyData.int) := by
  refine ⟨fun x hx y hy => ?_, fun x hx => ?_⟩
  · obtain ⟨i, _, rfl⟩ := List.mem_map.mp hx
    obtain ⟨j, _, rfl⟩ := List.mem_map.mp hy
    rfl
  · obtain ⟨i, _, rfl⟩ := List.mem_map.mp hx
    intro z; cases z
theorem depth_ints (ns : List Int) : PyData.depthAll (ns.map PyData.int) = 0 := by
  induction ns with
  | nil => simp [PyData.depthAll]
  | cons n ns ih => simp [PyData.depthAll, PyData.depth, ih]
def rMaxA (K : PySem.W.Frag) (f : Int → Int → Int) : List V → Hp → VK → Prop := fun xs H Q => ∃ (a : Addr) (n : Int) (ns : List Int), xs = [.ref a] ∧ (SqL K H a ((n :: ns).map V.int) ∨ SqT K H a ((n :: ns).map V.int)) ∧ Q (.int (ns.foldl f n)) H
theorem call_maxA {X : Cx} (hc : X.calm = true) (hu : X.A.units + 65 < cLine) : CallR X (.builtin "max") (rMaxA X.K max) := by
  intro pins s σ H vs us Q I r h
  obtain ⟨a, n, ns, rfl, hs, q⟩ := h
  rw [Vals.ref1 r]
  have dd := depth_ints (n :: ns)
  have fin : ∀ (its : List Value), Vals ((n :: ns).map V.int) its → (ReadsAll s.heap its.toArray.toList (PyData.int n :: ns.map PyData.int) []) := fun its rv => reads_ints rv
  rcases hs with hs | hs
  · obtain ⟨its, rv, hl, _⟩ := I.list hs
    refine max_list_data (I.ok.hd hc) hl.isList (fin its rv) (alike_ints (n :: ns)) (by rw [show PyData.int n :: ns.map PyData.int = (n :: ns).map PyData.int from rfl, dd]; omega) fun i v h' tk bs hi hrd hk => ?_
    rw [maxD_ints] at hrd
    cases hrd
    exact ⟨.int _, H, I.kept hk, ⟨_, rfl⟩, q⟩
  · obtain ⟨its, rv, hl, _⟩ := I.tuple hs
    refine max_tuple_data (I.ok.hd hc) hl (fin its rv) (alike_ints (n :: ns)) (by rw [show PyData.int n :: ns.map PyData.int = (n :: ns).map PyData.int from rfl, dd]; omega) fun i v h' tk bs hi hrd hk => ?_
    rw [maxD_ints] at hrd
    cases hrd
    exact ⟨.int _, H, I.kept hk, ⟨_, rfl⟩, q⟩
theorem call_minA {X : Cx} (hc : X.calm = true) (hu : X.A.units + 65 < cLine) : CallR X (.builtin "min") (rMaxA X.K min) := by
  intro pins s σ H vs us Q I r h
  obtain ⟨a, n, ns, rfl, hs, q⟩ := h
  rw [Vals.ref1 r]
  have dd := depth_ints (n :: ns)
  have fin : ∀ (its : List Value), Vals ((n :: ns).map V.int) its → (ReadsAll s.heap its.toArray.toList (PyData.int n :: ns.map PyData.int) []) := fun its rv => reads_ints rv
  rcases hs with hs | hs
  · obtain ⟨its, rv, hl, _⟩ := I.list hs
    refine min_list_data (I.ok.hd hc) hl.isList (fin its rv) (alike_ints (n :: ns)) (by rw [show PyData.int n :: ns.map PyData.int = (n :: ns).map PyData.int from rfl, dd]; omega) fun i v h' tk bs hi hrd hk => ?_
    rw [minD_ints] at hrd
    cases hrd
    exact ⟨.int _, H, I.kept hk, ⟨_, rfl⟩, q⟩
  · obtain ⟨its, rv, hl, _⟩ := I.tuple hs
    refine min_tuple_data (I.ok.hd hc) hl (fin its rv) (alike_ints (n :: ns)) (by rw [show PyData.int n :: ns.map PyData.int = (n :: ns).map PyData.int from rfl, dd]; omega) fun i v h' tk bs hi hrd hk => ?_
    rw [minD_ints] at hrd
    cases hrd
    exact ⟨.int _, H, I.kept hk, ⟨_, rfl⟩, q⟩
def cBest (f : Int → Int → Int) : List D → Sto → Option D
  | [d], S => (anyT d S).bind fun xs => (intsOf xs).bind fun ns => match ns with
    | n :: r => some (.int (r.foldl f n))
    | [] => none
  | _, _ => none
theorem callD_best {K : PySem.W.Frag} {f : Int → Int → Int} : CallD K (rMaxA K f) (cBest f) := by
  intro vs H ρ S ds d Q hr hvs e q
  match ds, e with
  | [x], e =>
    obtain ⟨xs, e1, e⟩ := Option.bind_eq_some_iff.mp (show ((anyT x S).bind fun xs => (intsOf xs).bind fun ns => match ns with
      | n :: r => some (D.int (r.foldl f n))
      | [] => none) = some d from e)
    obtain ⟨ns, e2, e⟩ := Option.bind_eq_some_iff.mp e
    cases ns with
    | nil => cases e
    | cons n r =>
      cases e
      obtain ⟨v, vr, rfl, h1, h2⟩ := hvs.of_cons
      rw [h2.of_nil]
      obtain ⟨a, ws, rfl, h3, h4⟩ := anyT_rep hr h1 e1
      have := intsOf_rep h4 e2
      subst this
      exact ⟨a, n, r, rfl, h3, q _ H .refl hr (by unfold RepV; rfl)⟩
/-! ### methods of texts -/
def fS0 (g : Str → Option D) (f : FE) : FE := fun σ S => (f σ S).bind fun x S1 => match x with
  | .str a => ofO (g a) S1
  | _ => .stuck
def gUpper (a : Str) : Option D := if a.length ≤ 1000 then some (.str (Txt.upper a)) else none
section
variable {X : Cx} {W : WX} {o : Expr} {f : FE} {pos apos : Pos}
theorem de_upper (ha : DE X W o f) (hbase : attributeBase o "upper" X.env (eval o X.env) = eval o X.env := by rfl) (hline : (apos.endLine == pos.line) = true := by rfl) :
    DE X W (.Call (.Attribute o "upper" apos) [] [] pos) (fS0 gUpper f) := by
  refine ⟨PE.imp (pe_upper ha.pe hbase hline) fun σ H Q hq => ?_⟩
  obtain ⟨ρ, σd, S, he, hr, q⟩ := hq
  refine ⟨ρ, σd, S, he, hr, PR.imp (PR.bind q) (fun x S1 H1 ρ1 x1 hr1 q1 v hv => ?_) fun _ _ _ _ _ _ q => q⟩
  cases x with
  | str a =>
    have q2 : PR X.K H1 ρ1 (ofO (gUpper a) S1) _ _ := q1
    unfold RepV at hv
    subst hv
    unfold gUpper at q2
    split at q2
    · rename_i c
      exact ⟨⟨a, rfl⟩, a, rfl, rfl, by omega, q2 H1 ρ1 .refl hr1 _ (by unfold RepV; rfl)⟩
    · exact q2.elim
  | _ => exact q1.elim
end
@[simp] theorem ap_fS0 {g : Str → Option D} {f : FE} {σ : En} {S : Sto} : fS0 g f σ S = (f σ S).bind fun x S1 => match x with
  | .str a => ofO (g a) S1
  | _ => .stuck := rfl
@[simp] theorem ap_fStuck {σ : En} {S : Sto} : fStuck σ S = .stuck := rfl
@[simp] theorem ap_sStuck {σ : En} {S : Sto} : sStuck σ S = .stuck := rfl
end DL
end

section
set_option Elab.async false
set_option linter.all false
set_option maxRecDepth 100000
namespace DL
open PySem PySem.Spec PyProof.Rows L2
/-- the own errors -/
inductive XN where
  | TwinpurseError | BadProgram | BadStanding | BadFan | BadRoad | BadArgument | BadText | TooLarge | BadLine
  deriving DecidableEq
/-- what the functions of data ask of the text: the test of except clauses, the errors' classes, the defs' places, the turns of a while -/
structure EX where
  em : Value → Value → Option Bool
  km : Value → Value → Option Bool
  x : XN → Addr
  f : String → Addr
  nW : Nat
theorem ds_tryE {X : Cx} {W : WX} {body : List Stmt} {h₀ : ExceptHandler} {hds : List ExceptHandler} {l : List HD} {g : FS} {pos : Pos} {em : Value → Value → Option Bool} (hem : em = PySem.W.exmOne X.K) (cx : Ctx X W) (hs : X.stack = X.env :: X.outer) (hf : X.env.frame = some X.env.locals)
    (hb : ∀ (W' : WX) (pn : List (Addr × Obj)) (xe : Value → Shared → Prop), Ctx (X.tr pn xe) W' → PassesOwn (model X.prog X.w) X.A X.env xe → DSs (X.tr pn xe) W' body g) (hh : HdsD X (h₀ :: hds) l) :
    DS X W (.Try body (h₀ :: hds) [] [] pos) (sTry em g l) := by
  rw [hem]
  exact ds_try cx hs hf hb hh
end DL
open DL PySem L2
noncomputable def M.b__law_mixed (e : EX) : FS := (sSeq (sSet 2 (fBin dMod (fBin dAdd (fBin dAdd (fBin dMul (fVar 0) (fC (.int 48271))) (fBin dMul (fVar 1) (fC (.int 69621)))) (fC (.int 12345))) (fC (.int 2147483647)))) (sRet (fBin dMod (fBin dAdd (fBin dMul (fVar 2) (fBin dAdd (fBin dDiv (fVar 2) (fC (.int 65536))) (fC (.int 3)))) (fVar 1)) (fC (.int 2147483647)))))
noncomputable def M._law_mixed (e : EX) : Fn := (runF 3 (M.b__law_mixed e))
noncomputable def M.b__law_draw (e : EX) : FS := (sSeq (sSet 1 (fBin dIx (fVar 0) (fC (.int 1)))) (sSeq (sPut (fVar 0) (fC (.int 1)) (fBin dAdd (fVar 1) (fC (.int 1)))) (sSeq (sIf (tBl (fBin dLt (fVar 1) (fB cLen (aCons (fBin dIx (fVar 0) (fC (.int 0))) aNil)))) (sRet (fBin dIx (fBin dIx (fVar 0) (fC (.int 0))) (fVar 1))) sNil) (sSeq (sSet 2 (fBin dAdd (fC (.int 1)) (fVar 1))) (sSeq (sIf (tBl (fBin dGt (fB cLen (aCons (fBin dIx (fVar 0) (fC (.int 0))) aNil)) (fC (.int 0)))) (sSet 2 (fBin dAdd (fVar 2) (fBin dMul (fC (.int 1009)) (fBin dIx (fBin dIx (fVar 0) (fC (.int 0))) (fC (.int 0)))))) sNil) (sRet (fBin dMod (fCall (M._law_mixed e) (aCons (fCall (M._law_mixed e) (aCons (fVar 2) (aCons (fVar 1) aNil))) (aCons (fC (.int 5)) aNil))) (fC (.int 1000000)))))))))
noncomputable def M._law_draw (e : EX) : Fn := (runF 3 (M.b__law_draw e))
noncomputable def M._law_program_1 (e : EX) : FS := (sSeq (sSet 4 (fBin dMod (fCall (M._law_draw e) (aCons (fVar 0) aNil)) (fVar 1))) (sSeq (sSet 5 (fBin dMod (fCall (M._law_draw e) (aCons (fVar 0) aNil)) (fVar 1))) (sExpr (fM mAppend (fVar 2) (aCons (fTup (aCons (fVar 4) (aCons (fVar 5) (aCons (fBin dSub (fBin dMod (fCall (M._law_draw e) (aCons (fVar 0) aNil)) (fC (.int 5))) (fC (.int 2))) (aCons (fBin dSub (fBin dMod (fCall (M._law_draw e) (aCons (fVar 0) aNil)) (fC (.int 5))) (fC (.int 2))) aNil))))) aNil)))))
noncomputable def M._law_program_2 (e : EX) : FS := (sExpr (fM mAppend (fVar 6) (aCons (fTup (aCons (fBin dMod (fCall (M._law_draw e) (aCons (fVar 0) aNil)) (fVar 1)) (aCons (fBin dMod (fCall (M._law_draw e) (aCons (fVar 0) aNil)) (fVar 1)) aNil))) aNil)))
noncomputable def M.b__law_program (e : EX) : FS := (sSeq (sSet 1 (fBin dIx (fLst (aCons (fC (.int 1)) (aCons (fC (.int 2)) (aCons (fC (.int 1)) (aCons (fC (.int 3)) (aCons (fC (.int 2)) aNil)))))) (fBin dMod (fCall (M._law_draw e) (aCons (fVar 0) aNil)) (fC (.int 5))))) (sSeq (sSet 2 (fNew aNil)) (sSeq (sFor (iRg1 (aCons (fBin dIx (fLst (aCons (fC (.int 2)) (aCons (fC (.int 3)) (aCons (fC (.int 1)) (aCons (fC (.int 4)) (aCons (fC (.int 4)) (aCons (fC (.int 3)) (aCons (fC (.int 0)) aNil)))))))) (fBin dMod (fCall (M._law_draw e) (aCons (fVar 0) aNil)) (fC (.int 7)))) aNil)) (gNm 3) (M._law_program_1 e)) (sSeq (sSet 6 (fNew aNil)) (sSeq (sFor (iRg1 (aCons (fBin dIx (fLst (aCons (fC (.int 0)) (aCons (fC (.int 1)) (aCons (fC (.int 0)) (aCons (fC (.int 2)) (aCons (fC (.int 1)) aNil)))))) (fBin dMod (fCall (M._law_draw e) (aCons (fVar 0) aNil)) (fC (.int 5)))) aNil)) (gNm 3) (M._law_program_2 e)) (sRet (fTup (aCons (fVar 1) (aCons (fB cTup (aCons (fVar 2) aNil)) (aCons (fB cTup (aCons (fVar 6) aNil)) aNil))))))))))
noncomputable def M._law_program (e : EX) : Fn := frz (runF 7 (M.b__law_program e))
noncomputable def M.b__law_spoilt (e : EX) : FS := (sSeq (sAsg (gTp 3 (gsCons (gNm 3) (gsCons (gNm 4) (gsCons (gNm 5) gsNil)))) (fVar 2)) (sSeq (sSet 6 (fBin dMod (fCall (M._law_draw e) (aCons (fVar 0) aNil)) (fC (.int 4)))) (sSeq (sIf (tBl (fBin dEq (fVar 6) (fC (.int 0)))) (sRet (fTup (aCons (fBin dIx (fLst (aCons (fUn dNeg (fC (.int 1))) (aCons (fVar 1) (aCons (fC (.int 3)) (aCons (fC (.bl true)) (aCons (fC .non) (aCons (fC (.str "0")) (aCons (fBin dPow (fC (.int 10)) (fC (.int 9))) (aCons (fC (.bl false)) aNil))))))))) (fBin dMod (fCall (M._law_draw e) (aCons (fVar 0) aNil)) (fC (.int 8)))) (aCons (fVar 4) (aCons (fVar 5) aNil))))) sNil) (sSeq (sIf (tBl (fBin dEq (fVar 6) (fC (.int 1)))) (sRet (fTup (aCons (fVar 3) (aCons (fBin dIx (fLst (aCons (fUn dNeg (fC (.int 1))) (aCons (fUn dNeg (fBin dPow (fC (.int 10)) (fC (.int 30)))) (aCons (fC (.bl true)) (aCons (fC .non) (aCons (fC (.str "0")) (aCons (fC (.bl false)) aNil))))))) (fBin dMod (fCall (M._law_draw e) (aCons (fVar 0) aNil)) (fC (.int 6)))) (aCons (fVar 5) aNil))))) sNil) (sSeq (sIf (tBl (fBin dEq (fVar 6) (fC (.int 2)))) (sRet (fTup (aCons (fVar 3) (aCons (fVar 4) (aCons (fBin dIx (fLst (aCons (fUn dNeg (fC (.int 1))) (aCons (fUn dNeg (fBin dPow (fC (.int 10)) (fC (.int 30)))) (aCons (fC (.bl true)) (aCons (fC .non) (aCons (fC (.str "0")) (aCons (fC (.bl false)) aNil))))))) (fBin dMod (fCall (M._law_draw e) (aCons (fVar 0) aNil)) (fC (.int 6)))) aNil))))) sNil) (sRet (fBin dIx (fLst (aCons (fTup (aCons (fVar 3) (aCons (fVar 4) aNil))) (aCons (fTup (aCons (fVar 3) (aCons (fVar 4) (aCons (fVar 5) (aCons (fC (.int 0)) aNil))))) (aCons (fLst (aCons (fVar 3) (aCons (fVar 4) (aCons (fVar 5) aNil)))) (aCons (fC .non) (aCons (fC (.int 0)) (aCons (fTup aNil) (aCons (fTup (aCons (fVar 3) (aCons (fTup (aCons (fVar 4) (aCons (fVar 5) aNil))) aNil))) aNil)))))))) (fBin dMod (fCall (M._law_draw e) (aCons (fVar 0) aNil)) (fC (.int 7))))))))))
noncomputable def M._law_spoilt (e : EX) : Fn := (runF 7 (M.b__law_spoilt e))
noncomputable def M._law_numbers_1 (e : EX) : FS := (sIf (tBl (fBin dGt (fVar 3) (fC (.int 0)))) (sSeq (sExpr (fM mAppend (fVar 1) (aCons (fBin dMod (fVar 3) (fC (.int 1000000))) aNil))) (sSet 3 (fBin dDiv (fVar 3) (fC (.int 1000000))))) sNil)
noncomputable def M._law_numbers_2 (e : EX) : FS := (sExpr (fM mAppend (fVar 1) (aCons (fBin dMod (fCall (M._law_mixed e) (aCons (fCall (M._law_mixed e) (aCons (fBin dMod (fVar 2) (fC (.int 2147483647))) (aCons (fVar 4) aNil))) (aCons (fBin dAdd (fVar 4) (fC (.int 7))) aNil))) (fC (.int 1000000))) aNil)))
noncomputable def M._law_numbers_3 (e : EX) : FS := (sIf (tBl (fBin dGe (fVar 2) (fBin dPow (fC (.int 10)) (fC (.int 18))))) (sSeq (sSet 3 (fVar 2)) (sFor (iRg1 (aCons (fC (.int 60)) aNil)) (gNm 4) (M._law_numbers_1 e))) (sSeq (sExpr (fM mAppend (fVar 1) (aCons (fBin dMod (fVar 2) (fC (.int 1000000))) aNil))) (sFor (iRg1 (aCons (fC (.int 5)) aNil)) (gNm 4) (M._law_numbers_2 e))))
noncomputable def M.b__law_numbers (e : EX) : FS := (sSeq (sSet 1 (fNew aNil)) (sSeq (sFor (iSeq (fVar 0)) (gNm 2) (M._law_numbers_3 e)) (sRet (fVar 1))))
noncomputable def M._law_numbers (e : EX) : Fn := frz (runF 5 (M.b__law_numbers e))
noncomputable def M.b__law_purse (e : EX) : FS := (sRet (fBin dIx (fLst (aCons (fBin dMod (fCall (M._law_draw e) (aCons (fVar 0) aNil)) (fC (.int 5))) (aCons (fC (.int 0)) (aCons (fBin dAdd (fBin dPow (fC (.int 10)) (fC (.int 30))) (fCall (M._law_draw e) (aCons (fVar 0) aNil))) (aCons (fCall (M._law_draw e) (aCons (fVar 0) aNil)) aNil))))) (fBin dMod (fCall (M._law_draw e) (aCons (fVar 0) aNil)) (fC (.int 4)))))
noncomputable def M._law_purse (e : EX) : Fn := (runF 1 (M.b__law_purse e))
noncomputable def M.b_is_tuple (e : EX) : FS := (sRet (fAnd (fB cIsi (aCons (fVar 0) (aCons (fC (.cst (.ty "tuple"))) aNil))) (fBin dEq (fB cLen (aCons (fVar 0) aNil)) (fVar 1))))
noncomputable def M.is_tuple (e : EX) : Fn := (runF 2 (M.b_is_tuple e))
noncomputable def M.b_is_within (e : EX) : FS := (sRet (fAnd (fB cIsi (aCons (fVar 0) (aCons (fC (.cst (.ty "int"))) aNil))) (fAnd (fUn dNot (fB cIsi (aCons (fVar 0) (aCons (fC (.cst (.ty "bool"))) aNil)))) (fChain dLe dLe (fVar 1) (fVar 0) (fVar 2)))))
noncomputable def M.is_within (e : EX) : Fn := (runF 3 (M.b_is_within e))
noncomputable def M.check_program_1 (e : EX) : FS := (sSeq (sIf (tOrD (tNotD (tTru (fCall (M.is_tuple e) (aCons (fVar 4) (aCons (fC (.int 4)) aNil))))) (tOrD (tNotD (tTru (fCall (M.is_within e) (aCons (fBin dIx (fVar 4) (fC (.int 0))) (aCons (fC (.int 0)) (aCons (fBin dSub (fVar 1) (fC (.int 1))) aNil)))))) (tNotD (tTru (fCall (M.is_within e) (aCons (fBin dIx (fVar 4) (fC (.int 1))) (aCons (fC (.int 0)) (aCons (fBin dSub (fVar 1) (fC (.int 1))) aNil)))))))) (sRaise (e.x .BadProgram)) sNil) (sIf (tOrD (tNotD (tTru (fCall (M.is_within e) (aCons (fBin dIx (fVar 4) (fC (.int 2))) (aCons (fUn dNeg (fC (.int 2))) (aCons (fC (.int 2)) aNil)))))) (tNotD (tTru (fCall (M.is_within e) (aCons (fBin dIx (fVar 4) (fC (.int 3))) (aCons (fUn dNeg (fC (.int 2))) (aCons (fC (.int 2)) aNil))))))) (sRaise (e.x .BadProgram)) sNil))
noncomputable def M.check_program_2 (e : EX) : FS := (sIf (tOrD (tNotD (tTru (fCall (M.is_tuple e) (aCons (fVar 5) (aCons (fC (.int 2)) aNil))))) (tOrD (tNotD (tTru (fCall (M.is_within e) (aCons (fBin dIx (fVar 5) (fC (.int 0))) (aCons (fC (.int 0)) (aCons (fBin dSub (fVar 1) (fC (.int 1))) aNil)))))) (tNotD (tTru (fCall (M.is_within e) (aCons (fBin dIx (fVar 5) (fC (.int 1))) (aCons (fC (.int 0)) (aCons (fBin dSub (fVar 1) (fC (.int 1))) aNil)))))))) (sRaise (e.x .BadProgram)) sNil)
noncomputable def M.b_check_program (e : EX) : FS := (sSeq (sIf (tNotD (tTru (fCall (M.is_tuple e) (aCons (fVar 0) (aCons (fC (.int 3)) aNil))))) (sRaise (e.x .BadProgram)) sNil) (sSeq (sAsg (gTp 3 (gsCons (gNm 1) (gsCons (gNm 2) (gsCons (gNm 3) gsNil)))) (fVar 0)) (sSeq (sIf (tNotD (tTru (fCall (M.is_within e) (aCons (fVar 1) (aCons (fC (.int 1)) (aCons (fC (.int 3)) aNil)))))) (sRaise (e.x .BadProgram)) sNil) (sSeq (sIf (tOrD (tNotD (tTru (fB cIsi (aCons (fVar 2) (aCons (fC (.cst (.ty "tuple"))) aNil))))) (tBl (fBin dGt (fB cLen (aCons (fVar 2) aNil)) (fC (.int 4))))) (sRaise (e.x .BadProgram)) sNil) (sSeq (sFor (iSeq (fVar 2)) (gNm 4) (M.check_program_1 e)) (sSeq (sIf (tOrD (tNotD (tTru (fB cIsi (aCons (fVar 3) (aCons (fC (.cst (.ty "tuple"))) aNil))))) (tBl (fBin dGt (fB cLen (aCons (fVar 3) aNil)) (fC (.int 2))))) (sRaise (e.x .BadProgram)) sNil) (sFor (iSeq (fVar 3)) (gNm 5) (M.check_program_2 e))))))))
noncomputable def M.check_program (e : EX) : Fn := (runF 6 (M.b_check_program e))
noncomputable def M.b_is_natural (e : EX) : FS := (sRet (fAnd (fB cIsi (aCons (fVar 0) (aCons (fC (.cst (.ty "int"))) aNil))) (fAnd (fUn dNot (fB cIsi (aCons (fVar 0) (aCons (fC (.cst (.ty "bool"))) aNil)))) (fBin dGe (fVar 0) (fC (.int 0))))))
noncomputable def M.is_natural (e : EX) : Fn := (runF 1 (M.b_is_natural e))
noncomputable def M.b_is_place (e : EX) : FS := (sSeq (sIf (tOrD (tNotD (tTru (fCall (M.is_tuple e) (aCons (fVar 0) (aCons (fC (.int 3)) aNil))))) (tNotD (tTru (fCall (M.is_within e) (aCons (fBin dIx (fVar 0) (fC (.int 0))) (aCons (fC (.int 0)) (aCons (fBin dSub (fC (.int 3)) (fC (.int 1))) aNil))))))) (sRet (fC (.bl false))) sNil) (sRet (fAnd (fCall (M.is_natural e) (aCons (fBin dIx (fVar 0) (fC (.int 1))) aNil)) (fCall (M.is_natural e) (aCons (fBin dIx (fVar 0) (fC (.int 2))) aNil)))))
noncomputable def M.is_place (e : EX) : Fn := (runF 1 (M.b_is_place e))
noncomputable def M.b_check_standing (e : EX) : FS := (sSeq (sExpr (fCall (M.check_program e) (aCons (fVar 0) aNil))) (sIf (tOrD (tNotD (tTru (fCall (M.is_place e) (aCons (fVar 1) aNil)))) (tBl (fBin dGe (fBin dIx (fVar 1) (fC (.int 0))) (fBin dIx (fVar 0) (fC (.int 0)))))) (sRaise (e.x .BadStanding)) sNil))
noncomputable def M.check_standing (e : EX) : Fn := (runF 2 (M.b_check_standing e))
noncomputable def M.b__law_told (e : EX) : FS := (sSeq (sTry e.em (sIf (tBl (fBin dIsNot (fCall (M.check_standing e) (aCons (fVar 0) (aCons (fVar 1) aNil))) (fC .non))) (sRet (fC (.str "other"))) sNil) ((.ref (e.x .BadProgram), (sRet (fC (.str "program")))) :: ((.ref (e.x .BadStanding), (sRet (fC (.str "standing")))) :: []))) (sRet (fC (.str "right"))))
noncomputable def M._law_told (e : EX) : Fn := (runF 2 (M.b__law_told e))
noncomputable def M.b_law (e : EX) : FS := (sSeq (sSet 1 (fNew (aCons (fCall (M._law_numbers e) (aCons (fVar 0) aNil)) (aCons (fC (.int 0)) aNil)))) (sSeq (sSet 2 (fCall (M._law_program e) (aCons (fVar 1) aNil))) (sSeq (sSet 3 (fTup (aCons (fBin dMod (fCall (M._law_draw e) (aCons (fVar 1) aNil)) (fBin dIx (fVar 2) (fC (.int 0)))) (aCons (fCall (M._law_purse e) (aCons (fVar 1) aNil)) (aCons (fCall (M._law_purse e) (aCons (fVar 1) aNil)) aNil))))) (sSeq (sIf (tBl (fBin dNe (fCall (M._law_told e) (aCons (fVar 2) (aCons (fVar 3) aNil))) (fC (.str "right")))) (sRet (fC (.bl false))) sNil) (sSeq (sSet 4 (fCall (M._law_spoilt e) (aCons (fVar 1) (aCons (fBin dIx (fVar 2) (fC (.int 0))) (aCons (fVar 3) aNil))))) (sSeq (sIf (tBl (fBin dNe (fCall (M._law_told e) (aCons (fVar 2) (aCons (fVar 4) aNil))) (fC (.str "standing")))) (sRet (fC (.bl false))) sNil) (sSeq (sSet 5 (fBin dIx (fLst (aCons (fC .non) (aCons (fTup (aCons (fC (.int 0)) (aCons (fTup aNil) (aCons (fTup aNil) aNil)))) (aCons (fLst (aCons (fC (.int 1)) (aCons (fTup aNil) (aCons (fTup aNil) aNil)))) (aCons (fTup (aCons (fC (.int 1)) (aCons (fTup (aCons (fTup (aCons (fC (.int 0)) (aCons (fC (.int 0)) (aCons (fC (.int 3)) (aCons (fC (.int 0)) aNil))))) aNil)) (aCons (fTup aNil) aNil)))) aNil))))) (fBin dMod (fCall (M._law_draw e) (aCons (fVar 1) aNil)) (fC (.int 4))))) (sRet (fAnd (fBin dEq (fCall (M._law_told e) (aCons (fVar 5) (aCons (fVar 4) aNil))) (fC (.str "program"))) (fBin dEq (fCall (M._law_told e) (aCons (fVar 5) (aCons (fVar 3) aNil))) (fC (.str "program"))))))))))))
noncomputable def M.law (e : EX) : Fn := (runF 6 (M.b_law e))
noncomputable def M.b__law_bad (e : EX) : FS := (sSeq (sSet 3 (fBin dMod (fCall (M._law_draw e) (aCons (fVar 0) aNil)) (fC (.int 40)))) (sRet (fBin dIx (fLst (aCons (fBin dSub (fVar 1) (fC (.int 1))) (aCons (fBin dAdd (fVar 2) (fC (.int 1))) (aCons (fC (.bl true)) (aCons (fC .non) (aCons (fC (.str "1")) (aCons (fBin dPow (fC (.int 10)) (fC (.int 20))) (aCons (fUn dNeg (fBin dPow (fC (.int 10)) (fC (.int 20)))) (aCons (fC (.bl false)) (aCons (fBin dSub (fBin dSub (fVar 1) (fC (.int 1))) (fVar 3)) (aCons (fBin dAdd (fBin dAdd (fVar 2) (fC (.int 1))) (fVar 3)) aNil))))))))))) (fBin dMod (fCall (M._law_draw e) (aCons (fVar 0) aNil)) (fC (.int 10))))))
noncomputable def M._law_bad (e : EX) : Fn := (runF 4 (M.b__law_bad e))
noncomputable def M.b__law_put (e : EX) : FS := (sRet (fBin dAdd (fBin dAdd (fCut (fVar 0) oNone (oSome (fVar 1))) (fTup (aCons (fVar 2) aNil))) (fCut (fVar 0) (oSome (fBin dAdd (fVar 1) (fC (.int 1)))) oNone)))
noncomputable def M._law_put (e : EX) : Fn := (runF 3 (M.b__law_put e))
noncomputable def M.b__law_spoilt_row (e : EX) : FS := (sSeq (sSet 3 (fBin dMod (fCall (M._law_draw e) (aCons (fVar 0) aNil)) (fB cLen (aCons (fVar 1) aNil)))) (sSeq (sSet 4 (fBin dMod (fCall (M._law_draw e) (aCons (fVar 0) aNil)) (fC (.int 5)))) (sSeq (sIf (tAndD (tBl (fBin dLt (fVar 4) (fC (.int 3)))) (tBl (fBin dLt (fVar 3) (fC (.int 2))))) (sRet (fCall (M._law_put e) (aCons (fVar 1) (aCons (fVar 3) (aCons (fCall (M._law_bad e) (aCons (fVar 0) (aCons (fC (.int 0)) (aCons (fBin dSub (fVar 2) (fC (.int 1))) aNil)))) aNil))))) sNil) (sSeq (sIf (tBl (fBin dLt (fVar 4) (fC (.int 3)))) (sRet (fCall (M._law_put e) (aCons (fVar 1) (aCons (fVar 3) (aCons (fCall (M._law_bad e) (aCons (fVar 0) (aCons (fUn dNeg (fC (.int 2))) (aCons (fC (.int 2)) aNil)))) aNil))))) sNil) (sRet (fBin dIx (fLst (aCons (fCut (fVar 1) (oSome (fC (.int 1))) oNone) (aCons (fBin dAdd (fVar 1) (fTup (aCons (fC (.int 0)) aNil))) (aCons (fB cLst (aCons (fVar 1) aNil)) (aCons (fC .non) (aCons (fC (.int 0)) (aCons (fTup aNil) aNil))))))) (fBin dMod (fCall (M._law_draw e) (aCons (fVar 0) aNil)) (fC (.int 6)))))))))
noncomputable def M._law_spoilt_row (e : EX) : Fn := (runF 5 (M.b__law_spoilt_row e))
noncomputable def M.b__law_spoilt_v2 (e : EX) : FS := (sSeq (sAsg (gTp 3 (gsCons (gNm 2) (gsCons (gNm 3) (gsCons (gNm 4) gsNil)))) (fVar 1)) (sSeq (sSet 5 (fBin dMod (fCall (M._law_draw e) (aCons (fVar 0) aNil)) (fC (.int 7)))) (sSeq (sIf (tBl (fBin dEq (fVar 5) (fC (.int 0)))) (sRet (fTup (aCons (fCall (M._law_bad e) (aCons (fVar 0) (aCons (fC (.int 1)) (aCons (fC (.int 3)) aNil)))) (aCons (fVar 3) (aCons (fVar 4) aNil))))) sNil) (sSeq (sIf (tBl (fBin dEq (fVar 5) (fC (.int 1)))) (sRet (fBin dIx (fLst (aCons (fTup (aCons (fVar 2) (aCons (fVar 3) aNil))) (aCons (fTup (aCons (fVar 2) (aCons (fVar 3) (aCons (fVar 4) (aCons (fTup aNil) aNil))))) (aCons (fB cLst (aCons (fVar 1) aNil)) (aCons (fC .non) (aCons (fC (.int 3)) (aCons (fC (.str "program")) (aCons (fTup aNil) aNil)))))))) (fBin dMod (fCall (M._law_draw e) (aCons (fVar 0) aNil)) (fC (.int 7))))) sNil) (sSeq (sIf (tBl (fBin dEq (fVar 5) (fC (.int 2)))) (sRet (fTup (aCons (fVar 2) (aCons (fBin dIx (fLst (aCons (fBin dMul (fTup (aCons (fTup (aCons (fC (.int 0)) (aCons (fC (.int 0)) (aCons (fC (.int 1)) (aCons (fC (.int 1)) aNil))))) aNil)) (fBin dAdd (fC (.int 5)) (fBin dMod (fCall (M._law_draw e) (aCons (fVar 0) aNil)) (fC (.int 9))))) (aCons (fB cLst (aCons (fVar 3) aNil)) (aCons (fC .non) (aCons (fC (.int 0)) (aCons (fC (.str "")) (aCons (fC .emp) aNil))))))) (fBin dMod (fCall (M._law_draw e) (aCons (fVar 0) aNil)) (fC (.int 6)))) (aCons (fVar 4) aNil))))) sNil) (sSeq (sIf (tBl (fBin dEq (fVar 5) (fC (.int 3)))) (sRet (fTup (aCons (fVar 2) (aCons (fVar 3) (aCons (fBin dIx (fLst (aCons (fBin dMul (fTup (aCons (fTup (aCons (fC (.int 0)) (aCons (fC (.int 0)) aNil))) aNil)) (fBin dAdd (fC (.int 3)) (fBin dMod (fCall (M._law_draw e) (aCons (fVar 0) aNil)) (fC (.int 9))))) (aCons (fB cLst (aCons (fVar 4) aNil)) (aCons (fC .non) (aCons (fC (.int 0)) (aCons (fC (.str "")) (aCons (fC .emp) aNil))))))) (fBin dMod (fCall (M._law_draw e) (aCons (fVar 0) aNil)) (fC (.int 6)))) aNil))))) sNil) (sSeq (sIf (tBl (fBin dLt (fVar 5) (fC (.int 6)))) (sSeq (sSet 6 (fTup (aCons (fBin dMod (fCall (M._law_draw e) (aCons (fVar 0) aNil)) (fVar 2)) (aCons (fBin dMod (fCall (M._law_draw e) (aCons (fVar 0) aNil)) (fVar 2)) (aCons (fC (.int 2)) (aCons (fUn dNeg (fC (.int 2))) aNil)))))) (sSeq (sSet 7 (fBin dMod (fCall (M._law_draw e) (aCons (fVar 0) aNil)) (fC (.int 6)))) (sSeq (sSet 8 (fCut (fVar 3) oNone (oSome (fC (.int 3))))) (sRet (fTup (aCons (fVar 2) (aCons (fBin dAdd (fBin dAdd (fCut (fVar 8) oNone (oSome (fVar 7))) (fTup (aCons (fCall (M._law_spoilt_row e) (aCons (fVar 0) (aCons (fVar 6) (aCons (fVar 2) aNil)))) aNil))) (fCut (fVar 8) (oSome (fVar 7)) oNone)) (aCons (fVar 4) aNil)))))))) sNil) (sSeq (sSet 6 (fTup (aCons (fBin dMod (fCall (M._law_draw e) (aCons (fVar 0) aNil)) (fVar 2)) (aCons (fBin dMod (fCall (M._law_draw e) (aCons (fVar 0) aNil)) (fVar 2)) aNil)))) (sSeq (sSet 8 (fCut (fVar 4) oNone (oSome (fC (.int 1))))) (sSeq (sSet 7 (fBin dMod (fCall (M._law_draw e) (aCons (fVar 0) aNil)) (fC (.int 2)))) (sRet (fTup (aCons (fVar 2) (aCons (fVar 3) (aCons (fBin dAdd (fBin dAdd (fCut (fVar 8) oNone (oSome (fVar 7))) (fTup (aCons (fCall (M._law_spoilt_row e) (aCons (fVar 0) (aCons (fVar 6) (aCons (fVar 2) aNil)))) aNil))) (fCut (fVar 8) (oSome (fVar 7)) oNone)) aNil)))))))))))))))
noncomputable def M._law_spoilt_v2 (e : EX) : Fn := (runF 9 (M.b__law_spoilt_v2 e))
noncomputable def M.b__law_is_program (e : EX) : FS := (sSeq (sTryAs e.em (sIf (tBl (fBin dIsNot (fCall (M.check_program e) (aCons (fVar 0) aNil)) (fC .non))) (sRet (fC .non)) sNil) (.ref (e.x .BadProgram)) 1 (fun v b => (sSeq (sIf (tOrD (tNotD (tTru (fB (cIsE e.km v b) (aCons (fVar 1) (aCons (fC (.cst (.ref (e.x .TwinpurseError)))) aNil))))) (tNotD (tTru (fB (cIsE e.km v b) (aCons (fVar 1) (aCons (fC (.cst (.ty "ValueError"))) aNil)))))) (sRet (fC .non)) sNil) (sSeq (sIf (tTru (fB (cIsE e.km v b) (aCons (fVar 1) (aCons (fTup (aCons (fC (.cst (.ref (e.x .BadArgument)))) (aCons (fC (.cst (.ref (e.x .BadFan)))) (aCons (fC (.cst (.ref (e.x .BadLine)))) (aCons (fC (.cst (.ref (e.x .BadRoad)))) (aCons (fC (.cst (.ref (e.x .BadStanding)))) (aCons (fC (.cst (.ref (e.x .BadText)))) (aCons (fC (.cst (.ref (e.x .TooLarge)))) aNil)))))))) aNil)))) (sRet (fC .non)) sNil) (sRet (fC (.bl false))))))) (sRet (fC (.bl true))))
noncomputable def M._law_is_program (e : EX) : Fn := (runF 2 (M.b__law_is_program e))
noncomputable def M.b_law_v2 (e : EX) : FS := (sSeq (sSet 1 (fNew (aCons (fCall (M._law_numbers e) (aCons (fVar 0) aNil)) (aCons (fC (.int 0)) aNil)))) (sSeq (sSet 2 (fCall (M._law_program e) (aCons (fVar 1) aNil))) (sSeq (sIf (tBl (fBin dIsNot (fCall (M._law_is_program e) (aCons (fVar 2) aNil)) (fC (.bl true)))) (sRet (fC (.bl false))) sNil) (sSeq (sSet 3 (fTup (aCons (fC (.int 3)) (aCons (fBin dMul (fTup (aCons (fTup (aCons (fC (.int 2)) (aCons (fC (.int 2)) (aCons (fUn dNeg (fC (.int 2))) (aCons (fC (.int 2)) aNil))))) aNil)) (fC (.int 4))) (aCons (fTup (aCons (fTup (aCons (fC (.int 0)) (aCons (fC (.int 2)) aNil))) (aCons (fTup (aCons (fC (.int 2)) (aCons (fC (.int 0)) aNil))) aNil))) aNil))))) (sSeq (sIf (tOrD (tBl (fBin dIsNot (fCall (M._law_is_program e) (aCons (fVar 3) aNil)) (fC (.bl true)))) (tBl (fBin dIsNot (fCall (M._law_is_program e) (aCons (fTup (aCons (fC (.int 1)) (aCons (fTup aNil) (aCons (fTup aNil) aNil)))) aNil)) (fC (.bl true))))) (sRet (fC (.bl false))) sNil) (sSeq (sSet 4 (fCall (M._law_spoilt_v2 e) (aCons (fVar 1) (aCons (fVar 2) aNil)))) (sSeq (sSet 5 (fB cRepr2 (aCons (fVar 4) aNil))) (sRet (fAnd (fBin dIs (fCall (M._law_is_program e) (aCons (fVar 4) aNil)) (fC (.bl false))) (fBin dEq (fB cRepr2 (aCons (fVar 4) aNil)) (fVar 5)))))))))))
noncomputable def M.law_v2 (e : EX) : Fn := (runF 6 (M.b_law_v2 e))
noncomputable def M.b__law_number (e : EX) : FS := (sSeq (sSet 2 (fCall (M._law_draw e) (aCons (fVar 0) aNil))) (sSeq (sIf (tBl (fBin dGt (fVar 1) (fBin dPow (fC (.int 10)) (fC (.int 6))))) (sRet (fBin dAdd (fBin dMul (fVar 2) (fBin dPow (fC (.int 10)) (fC (.int 18)))) (fVar 2))) sNil) (sRet (fBin dMod (fVar 2) (fVar 1)))))
noncomputable def M._law_number (e : EX) : Fn := (runF 3 (M.b__law_number e))
noncomputable def M._law_fan_1 (e : EX) : FS := (sSeq (sSet 5 (fTup (aCons (fBin dMod (fCall (M._law_draw e) (aCons (fVar 0) aNil)) (fC (.int 7))) (aCons (fBin dMod (fCall (M._law_draw e) (aCons (fVar 0) aNil)) (fC (.int 7))) aNil)))) (sSeq (sIf (tBl (fBin dEq (fBin dMod (fCall (M._law_draw e) (aCons (fVar 0) aNil)) (fC (.int 3))) (fC (.int 0)))) (sSeq (sSet 6 (fBin dPow (fC (.int 10)) (fC (.int 12)))) (sSeq (sSet 5 (fLst (aCons (fTup (aCons (fC (.int 0)) (aCons (fBin dAdd (fC (.int 1)) (fBin dIx (fVar 5) (fC (.int 1)))) aNil))) (aCons (fTup (aCons (fBin dAdd (fC (.int 1)) (fBin dIx (fVar 5) (fC (.int 0)))) (aCons (fC (.int 0)) aNil))) (aCons (fTup (aCons (fBin dAdd (fBin dMul (fBin dIx (fVar 5) (fC (.int 0))) (fC (.int 5))) (fC (.int 1))) (aCons (fBin dAdd (fBin dMul (fBin dIx (fVar 5) (fC (.int 1))) (fC (.int 5))) (fC (.int 2))) aNil))) (aCons (fTup (aCons (fBin dAdd (fBin dMul (fBin dIx (fVar 5) (fC (.int 0))) (fVar 6)) (fC (.int 1))) (aCons (fBin dAdd (fBin dMul (fBin dIx (fVar 5) (fC (.int 1))) (fVar 6)) (fC (.int 3))) aNil))) aNil)))))) (sSet 5 (fBin dIx (fVar 5) (fBin dMod (fCall (M._law_draw e) (aCons (fVar 0) aNil)) (fC (.int 4))))))) sNil) (sIf (tAndD (tBl (fBin dNe (fVar 5) (fTup (aCons (fC (.int 0)) (aCons (fC (.int 0)) aNil))))) (tOrD (tBl (fBin dEq (fB cLen (aCons (fVar 3) aNil)) (fC (.int 0)))) (tBl (fBin dNe (fBin dMul (fBin dIx (fBin dIx (fVar 3) (fC (.int 0))) (fC (.int 0))) (fBin dIx (fVar 5) (fC (.int 1)))) (fBin dMul (fBin dIx (fBin dIx (fVar 3) (fC (.int 0))) (fC (.int 1))) (fBin dIx (fVar 5) (fC (.int 0)))))))) (sExpr (fM mAppend (fVar 3) (aCons (fVar 5) aNil))) sNil)))
noncomputable def M.b__law_fan (e : EX) : FS := (sSeq (sSet 2 (fTup (aCons (fCall (M._law_number e) (aCons (fVar 0) (aCons (fVar 1) aNil))) (aCons (fCall (M._law_number e) (aCons (fVar 0) (aCons (fVar 1) aNil))) aNil)))) (sSeq (sSet 3 (fNew aNil)) (sSeq (sFor (iRg1 (aCons (fBin dIx (fLst (aCons (fC (.int 2)) (aCons (fC (.int 1)) (aCons (fC (.int 2)) (aCons (fC (.int 0)) (aCons (fC (.int 2)) aNil)))))) (fBin dMod (fCall (M._law_draw e) (aCons (fVar 0) aNil)) (fC (.int 5)))) aNil)) (gNm 4) (M._law_fan_1 e)) (sRet (fTup (aCons (fBin dMod (fCall (M._law_draw e) (aCons (fVar 0) aNil)) (fC (.int 3))) (aCons (fVar 2) (aCons (fB cTup (aCons (fVar 3) aNil)) aNil))))))))
noncomputable def M._law_fan (e : EX) : Fn := frz (runF 7 (M.b__law_fan e))
noncomputable def M.b__law_bad_v2 (e : EX) : FS := (sRet (fBin dIx (fLst (aCons (fUn dNeg (fC (.int 1))) (aCons (fC (.bl true)) (aCons (fC .non) (aCons (fC (.str "1")) (aCons (fUn dNeg (fBin dPow (fC (.int 10)) (fC (.int 30)))) (aCons (fC (.bl false)) aNil))))))) (fBin dMod (fCall (M._law_draw e) (aCons (fVar 0) aNil)) (fC (.int 6)))))
noncomputable def M._law_bad_v2 (e : EX) : Fn := (runF 1 (M.b__law_bad_v2 e))
noncomputable def M.b__law_bad_pair (e : EX) : FS := (sRet (fBin dIx (fLst (aCons (fTup (aCons (fCall (M._law_bad_v2 e) (aCons (fVar 0) aNil)) (aCons (fC (.int 2)) aNil))) (aCons (fTup (aCons (fC (.int 2)) (aCons (fCall (M._law_bad_v2 e) (aCons (fVar 0) aNil)) aNil))) (aCons (fTup (aCons (fC (.int 2)) aNil)) (aCons (fTup (aCons (fC (.int 2)) (aCons (fC (.int 2)) (aCons (fC (.int 2)) aNil)))) (aCons (fLst (aCons (fC (.int 2)) (aCons (fC (.int 2)) aNil))) (aCons (fC .non) (aCons (fTup aNil) aNil)))))))) (fBin dMod (fCall (M._law_draw e) (aCons (fVar 0) aNil)) (fC (.int 7)))))
noncomputable def M._law_bad_pair (e : EX) : Fn := (runF 1 (M.b__law_bad_pair e))
noncomputable def M.b__law_spoilt_v3 (e : EX) : FS := (sSeq (sAsg (gTp 3 (gsCons (gNm 2) (gsCons (gNm 3) (gsCons (gNm 4) gsNil)))) (fVar 1)) (sSeq (sSet 5 (fBin dMod (fCall (M._law_draw e) (aCons (fVar 0) aNil)) (fC (.int 7)))) (sSeq (sIf (tBl (fBin dEq (fVar 5) (fC (.int 0)))) (sRet (fTup (aCons (fBin dIx (fLst (aCons (fUn dNeg (fC (.int 1))) (aCons (fC (.int 3)) (aCons (fC (.bl true)) (aCons (fC .non) (aCons (fC (.str "0")) (aCons (fBin dPow (fC (.int 10)) (fC (.int 30))) (aCons (fC (.bl false)) aNil)))))))) (fBin dMod (fCall (M._law_draw e) (aCons (fVar 0) aNil)) (fC (.int 7)))) (aCons (fVar 3) (aCons (fVar 4) aNil))))) sNil) (sSeq (sIf (tBl (fBin dEq (fVar 5) (fC (.int 1)))) (sRet (fTup (aCons (fVar 2) (aCons (fCall (M._law_bad_pair e) (aCons (fVar 0) aNil)) (aCons (fVar 4) aNil))))) sNil) (sSeq (sIf (tBl (fBin dEq (fVar 5) (fC (.int 2)))) (sRet (fTup (aCons (fVar 2) (aCons (fVar 3) (aCons (fBin dIx (fLst (aCons (fBin dAdd (fCut (fVar 4) oNone (oSome (fC (.int 1)))) (fTup (aCons (fCall (M._law_bad_pair e) (aCons (fVar 0) aNil)) aNil))) (aCons (fBin dAdd (fTup (aCons (fCall (M._law_bad_pair e) (aCons (fVar 0) aNil)) aNil)) (fCut (fVar 4) oNone (oSome (fC (.int 1))))) aNil))) (fBin dMod (fCall (M._law_draw e) (aCons (fVar 0) aNil)) (fC (.int 2)))) aNil))))) sNil) (sSeq (sIf (tBl (fBin dEq (fVar 5) (fC (.int 3)))) (sRet (fTup (aCons (fVar 2) (aCons (fVar 3) (aCons (fBin dIx (fLst (aCons (fTup (aCons (fTup (aCons (fC (.int 0)) (aCons (fC (.int 0)) aNil))) aNil)) (aCons (fTup (aCons (fTup (aCons (fC (.int 1)) (aCons (fC (.int 0)) aNil))) (aCons (fTup (aCons (fC (.int 0)) (aCons (fC (.int 0)) aNil))) aNil))) (aCons (fTup (aCons (fTup (aCons (fC (.int 0)) (aCons (fC (.int 0)) aNil))) (aCons (fTup (aCons (fC (.int 0)) (aCons (fC (.int 1)) aNil))) aNil))) aNil)))) (fBin dMod (fCall (M._law_draw e) (aCons (fVar 0) aNil)) (fC (.int 3)))) aNil))))) sNil) (sSeq (sIf (tBl (fBin dEq (fVar 5) (fC (.int 4)))) (sSeq (sSet 6 (fTup (aCons (fBin dAdd (fC (.int 1)) (fBin dMod (fCall (M._law_draw e) (aCons (fVar 0) aNil)) (fC (.int 4)))) (aCons (fBin dMod (fCall (M._law_draw e) (aCons (fVar 0) aNil)) (fC (.int 4))) aNil)))) (sSeq (sIf (tBl (fBin dEq (fBin dMod (fCall (M._law_draw e) (aCons (fVar 0) aNil)) (fC (.int 3))) (fC (.int 0)))) (sSet 6 (fTup (aCons (fC (.int 0)) (aCons (fBin dIx (fVar 6) (fC (.int 0))) aNil)))) sNil) (sSeq (sSet 7 (fBin dAdd (fC (.int 1)) (fBin dMod (fCall (M._law_draw e) (aCons (fVar 0) aNil)) (fC (.int 3))))) (sSeq (sSet 8 (fBin dAdd (fC (.int 1)) (fBin dMod (fCall (M._law_draw e) (aCons (fVar 0) aNil)) (fC (.int 3))))) (sRet (fTup (aCons (fVar 2) (aCons (fVar 3) (aCons (fTup (aCons (fTup (aCons (fBin dMul (fBin dIx (fVar 6) (fC (.int 0))) (fVar 7)) (aCons (fBin dMul (fBin dIx (fVar 6) (fC (.int 1))) (fVar 7)) aNil))) (aCons (fTup (aCons (fBin dMul (fBin dIx (fVar 6) (fC (.int 0))) (fVar 8)) (aCons (fBin dMul (fBin dIx (fVar 6) (fC (.int 1))) (fVar 8)) aNil))) aNil))) aNil))))))))) sNil) (sSeq (sIf (tBl (fBin dEq (fVar 5) (fC (.int 5)))) (sRet (fTup (aCons (fVar 2) (aCons (fVar 3) (aCons (fBin dIx (fLst (aCons (fTup (aCons (fTup (aCons (fC (.int 1)) (aCons (fC (.int 0)) aNil))) (aCons (fTup (aCons (fC (.int 0)) (aCons (fC (.int 1)) aNil))) (aCons (fTup (aCons (fC (.int 1)) (aCons (fC (.int 1)) aNil))) aNil)))) (aCons (fB cLst (aCons (fVar 4) aNil)) (aCons (fC .non) (aCons (fC (.int 0)) (aCons (fC (.str "")) (aCons (fC .emp) aNil))))))) (fBin dMod (fCall (M._law_draw e) (aCons (fVar 0) aNil)) (fC (.int 6)))) aNil))))) sNil) (sRet (fBin dIx (fLst (aCons (fTup (aCons (fVar 2) (aCons (fVar 3) aNil))) (aCons (fTup (aCons (fVar 2) (aCons (fVar 3) (aCons (fVar 4) (aCons (fC (.int 0)) aNil))))) (aCons (fLst (aCons (fVar 2) (aCons (fVar 3) (aCons (fVar 4) aNil)))) (aCons (fC .non) (aCons (fC (.int 0)) (aCons (fTup aNil) aNil))))))) (fBin dMod (fCall (M._law_draw e) (aCons (fVar 0) aNil)) (fC (.int 6)))))))))))))
noncomputable def M._law_spoilt_v3 (e : EX) : Fn := (runF 9 (M.b__law_spoilt_v3 e))
noncomputable def M.b_is_pair (e : EX) : FS := (sRet (fAnd (fCall (M.is_tuple e) (aCons (fVar 0) (aCons (fC (.int 2)) aNil))) (fAnd (fCall (M.is_natural e) (aCons (fBin dIx (fVar 0) (fC (.int 0))) aNil)) (fCall (M.is_natural e) (aCons (fBin dIx (fVar 0) (fC (.int 1))) aNil)))))
noncomputable def M.is_pair (e : EX) : Fn := (runF 1 (M.b_is_pair e))
noncomputable def M.b_cross (e : EX) : FS := (sRet (fBin dSub (fBin dMul (fBin dIx (fVar 0) (fC (.int 0))) (fBin dIx (fVar 1) (fC (.int 1)))) (fBin dMul (fBin dIx (fVar 0) (fC (.int 1))) (fBin dIx (fVar 1) (fC (.int 0))))))
noncomputable def M.cross (e : EX) : Fn := (runF 2 (M.b_cross e))
noncomputable def M.check_fan_1 (e : EX) : FS := (sIf (tOrD (tNotD (tTru (fCall (M.is_pair e) (aCons (fVar 2) aNil)))) (tBl (fBin dEq (fVar 2) (fTup (aCons (fC (.int 0)) (aCons (fC (.int 0)) aNil)))))) (sRaise (e.x .BadFan)) sNil)
noncomputable def M.b_check_fan (e : EX) : FS := (sSeq (sIf (tOrD (tNotD (tTru (fCall (M.is_tuple e) (aCons (fVar 0) (aCons (fC (.int 3)) aNil))))) (tOrD (tNotD (tTru (fCall (M.is_within e) (aCons (fBin dIx (fVar 0) (fC (.int 0))) (aCons (fC (.int 0)) (aCons (fBin dSub (fC (.int 3)) (fC (.int 1))) aNil)))))) (tNotD (tTru (fCall (M.is_pair e) (aCons (fBin dIx (fVar 0) (fC (.int 1))) aNil)))))) (sRaise (e.x .BadFan)) sNil) (sSeq (sSet 1 (fBin dIx (fVar 0) (fC (.int 2)))) (sSeq (sIf (tOrD (tNotD (tTru (fB cIsi (aCons (fVar 1) (aCons (fC (.cst (.ty "tuple"))) aNil))))) (tBl (fBin dGt (fB cLen (aCons (fVar 1) aNil)) (fC (.int 2))))) (sRaise (e.x .BadFan)) sNil) (sSeq (sFor (iSeq (fVar 1)) (gNm 2) (M.check_fan_1 e)) (sIf (tAndD (tBl (fBin dEq (fB cLen (aCons (fVar 1) aNil)) (fC (.int 2)))) (tBl (fBin dEq (fCall (M.cross e) (aCons (fBin dIx (fVar 1) (fC (.int 0))) (aCons (fBin dIx (fVar 1) (fC (.int 1))) aNil))) (fC (.int 0))))) (sRaise (e.x .BadFan)) sNil)))))
noncomputable def M.check_fan (e : EX) : Fn := (runF 3 (M.b_check_fan e))
noncomputable def M.check_lot_1 (e : EX) : FS := (sExpr (fCall (M.check_fan e) (aCons (fVar 1) aNil)))
noncomputable def M.b_check_lot (e : EX) : FS := (sSeq (sIf (tNotD (tTru (fB cIsi (aCons (fVar 0) (aCons (fC (.cst (.ty "list"))) aNil))))) (sRaise (e.x .BadFan)) sNil) (sFor (iSeq (fVar 0)) (gNm 1) (M.check_lot_1 e)))
noncomputable def M.check_lot (e : EX) : Fn := (runF 2 (M.b_check_lot e))
noncomputable def M.b__law_told_v2 (e : EX) : FS := (sTry e.em (sRet (fBin dIs (fCallL [(e.f "check_lot", M.check_lot e), (e.f "check_fan", M.check_fan e)] 0 (aCons (fVar 1) aNil)) (fC .non))) ((.ref (e.x .BadFan), (sRet (fC (.str "bad")))) :: []))
noncomputable def M._law_told_v2 (e : EX) : Fn := (runF 2 (M.b__law_told_v2 e))
noncomputable def M.law_v3_1 (e : EX) : FE := (fCall (M._law_fan e) (aCons (fVar 1) (aCons (fBin dIx (fLst (aCons (fC (.int 9)) (aCons (fC (.int 13)) (aCons (fBin dPow (fC (.int 10)) (fC (.int 24))) aNil)))) (fBin dMod (fCall (M._law_draw e) (aCons (fVar 1) aNil)) (fC (.int 3)))) aNil)))
noncomputable def M.b_law_v3 (e : EX) : FS := (sSeq (sSet 1 (fNew (aCons (fCall (M._law_numbers e) (aCons (fVar 0) aNil)) (aCons (fC (.int 0)) aNil)))) (sSeq (sSet 2 (fComp (iRg1 (aCons (fBin dMod (fCall (M._law_draw e) (aCons (fVar 1) aNil)) (fC (.int 8))) aNil)) (gNm 8) tYesD (M.law_v3_1 e) [8])) (sSeq (sSet 3 (fCall (M._law_fan e) (aCons (fVar 1) (aCons (fC (.int 9)) aNil)))) (sSeq (sIf (tOrD (tBl (fBin dIsNot (fCall (M._law_told_v2 e) (aCons (fC (.cst (.ref (e.f "check_lot")))) (aCons (fVar 2) aNil))) (fC (.bl true)))) (tOrD (tBl (fBin dIsNot (fCall (M._law_told_v2 e) (aCons (fC (.cst (.ref (e.f "check_fan")))) (aCons (fVar 3) aNil))) (fC (.bl true)))) (tBl (fBin dIsNot (fCall (M._law_told_v2 e) (aCons (fC (.cst (.ref (e.f "check_lot")))) (aCons (fBin dAdd (fLst (aCons (fVar 3) aNil)) (fVar 2)) aNil))) (fC (.bl true)))))) (sRet (fC (.bl false))) sNil) (sSeq (sSet 4 (fB cRepr2 (aCons (fVar 2) aNil))) (sSeq (sSet 5 (fBin dAdd (fCut (fVar 2) (oSome (fC (.int 1))) oNone) (fCut (fVar 2) oNone (oSome (fC (.int 1)))))) (sSeq (sIf (tOrD (tBl (fBin dIsNot (fCall (M._law_told_v2 e) (aCons (fC (.cst (.ref (e.f "check_lot")))) (aCons (fVar 5) aNil))) (fC (.bl true)))) (tBl (fBin dNe (fVar 5) (fBin dAdd (fCut (fVar 2) (oSome (fC (.int 1))) oNone) (fCut (fVar 2) oNone (oSome (fC (.int 1)))))))) (sRet (fC (.bl false))) sNil) (sSeq (sIf (tOrD (tBl (fBin dIsNot (fCall (M._law_told_v2 e) (aCons (fC (.cst (.ref (e.f "check_lot")))) (aCons (fVar 2) aNil))) (fC (.bl true)))) (tBl (fBin dNe (fB cRepr2 (aCons (fVar 2) aNil)) (fVar 4)))) (sRet (fC (.bl false))) sNil) (sSeq (sSet 6 (fCall (M._law_spoilt_v3 e) (aCons (fVar 1) (aCons (fVar 3) aNil)))) (sSeq (sSet 7 (fBin dMod (fCall (M._law_draw e) (aCons (fVar 1) aNil)) (fBin dAdd (fB cLen (aCons (fVar 2) aNil)) (fC (.int 1))))) (sSeq (sIf (tOrD (tBl (fBin dNe (fCall (M._law_told_v2 e) (aCons (fC (.cst (.ref (e.f "check_fan")))) (aCons (fVar 6) aNil))) (fC (.str "bad")))) (tBl (fBin dNe (fCall (M._law_told_v2 e) (aCons (fC (.cst (.ref (e.f "check_lot")))) (aCons (fBin dAdd (fBin dAdd (fCut (fVar 2) oNone (oSome (fVar 7))) (fLst (aCons (fVar 6) aNil))) (fCut (fVar 2) (oSome (fVar 7)) oNone)) aNil))) (fC (.str "bad"))))) (sRet (fC (.bl false))) sNil) (sRet (fBin dEq (fCall (M._law_told_v2 e) (aCons (fC (.cst (.ref (e.f "check_lot")))) (aCons (fBin dIx (fLst (aCons (fB cTup (aCons (fVar 2) aNil)) (aCons (fC .non) (aCons (fC (.int 0)) (aCons (fC (.str "")) (aCons (fC .emp) aNil)))))) (fBin dMod (fCall (M._law_draw e) (aCons (fVar 1) aNil)) (fC (.int 5)))) aNil))) (fC (.str "bad")))))))))))))))
noncomputable def M.law_v3 (e : EX) : Fn := (runF 9 (M.b_law_v3 e))
noncomputable def M.b_move_count (e : EX) : FS := (sRet (fBin dAdd (fB cLen (aCons (fBin dIx (fVar 0) (fC (.int 1))) aNil)) (fB cLen (aCons (fBin dIx (fVar 0) (fC (.int 2))) aNil))))
noncomputable def M.move_count (e : EX) : Fn := (runF 1 (M.b_move_count e))
noncomputable def M.b_is_test (e : EX) : FS := (sRet (fBin dGe (fVar 1) (fB cLen (aCons (fBin dIx (fVar 0) (fC (.int 1))) aNil))))
noncomputable def M.is_test (e : EX) : Fn := (runF 2 (M.b_is_test e))
noncomputable def M.b_source_of (e : EX) : FS := (sSeq (sIf (tTru (fCall (M.is_test e) (aCons (fVar 0) (aCons (fVar 1) aNil)))) (sRet (fBin dIx (fBin dIx (fBin dIx (fVar 0) (fC (.int 2))) (fBin dSub (fVar 1) (fB cLen (aCons (fBin dIx (fVar 0) (fC (.int 1))) aNil)))) (fC (.int 0)))) sNil) (sRet (fBin dIx (fBin dIx (fBin dIx (fVar 0) (fC (.int 1))) (fVar 1)) (fC (.int 0)))))
noncomputable def M.source_of (e : EX) : Fn := (runF 2 (M.b_source_of e))
noncomputable def M.moves_from_1 (e : EX) : FE := (fVar 2)
noncomputable def M.moves_from_2 (e : EX) : FT := (tBl (fBin dEq (fCall (M.source_of e) (aCons (fVar 0) (aCons (fVar 2) aNil))) (fVar 1)))
noncomputable def M.b_moves_from (e : EX) : FS := (sRet (fComp (iRg1 (aCons (fCall (M.move_count e) (aCons (fVar 0) aNil)) aNil)) (gNm 2) (M.moves_from_2 e) (M.moves_from_1 e) [2]))
noncomputable def M.moves_from (e : EX) : Fn := (runF 3 (M.b_moves_from e))
noncomputable def M.b_change_of (e : EX) : FS := (sSeq (sIf (tTru (fCall (M.is_test e) (aCons (fVar 0) (aCons (fVar 1) aNil)))) (sRet (fTup (aCons (fC (.int 0)) (aCons (fC (.int 0)) aNil)))) sNil) (sRet (fTup (aCons (fBin dIx (fBin dIx (fBin dIx (fVar 0) (fC (.int 1))) (fVar 1)) (fC (.int 2))) (aCons (fBin dIx (fBin dIx (fBin dIx (fVar 0) (fC (.int 1))) (fVar 1)) (fC (.int 3))) aNil)))))
noncomputable def M.change_of (e : EX) : Fn := (runF 2 (M.b_change_of e))
noncomputable def M.b_target_of (e : EX) : FS := (sSeq (sIf (tTru (fCall (M.is_test e) (aCons (fVar 0) (aCons (fVar 1) aNil)))) (sRet (fBin dIx (fBin dIx (fBin dIx (fVar 0) (fC (.int 2))) (fBin dSub (fVar 1) (fB cLen (aCons (fBin dIx (fVar 0) (fC (.int 1))) aNil)))) (fC (.int 1)))) sNil) (sRet (fBin dIx (fBin dIx (fBin dIx (fVar 0) (fC (.int 1))) (fVar 1)) (fC (.int 1)))))
noncomputable def M.target_of (e : EX) : Fn := (runF 2 (M.b_target_of e))
noncomputable def M.b_made (e : EX) : FS := (sSeq (sAsg (gTp 3 (gsCons (gNm 3) (gsCons (gNm 4) (gsCons (gNm 5) gsNil)))) (fVar 1)) (sSeq (sIf (tBl (fBin dNe (fCall (M.source_of e) (aCons (fVar 0) (aCons (fVar 2) aNil))) (fVar 3))) (sRet (fC .non)) sNil) (sSeq (sIf (tTru (fCall (M.is_test e) (aCons (fVar 0) (aCons (fVar 2) aNil)))) (sRet (fIf (tBl (fBin dEq (fVar 4) (fC (.int 0)))) (fTup (aCons (fCall (M.target_of e) (aCons (fVar 0) (aCons (fVar 2) aNil))) (aCons (fC (.int 0)) (aCons (fVar 5) aNil)))) (fC .non))) sNil) (sSeq (sSet 6 (fCall (M.change_of e) (aCons (fVar 0) (aCons (fVar 2) aNil)))) (sSeq (sIf (tOrD (tBl (fBin dLt (fBin dAdd (fVar 4) (fBin dIx (fVar 6) (fC (.int 0)))) (fC (.int 0)))) (tBl (fBin dLt (fBin dAdd (fVar 5) (fBin dIx (fVar 6) (fC (.int 1)))) (fC (.int 0))))) (sRet (fC .non)) sNil) (sRet (fTup (aCons (fCall (M.target_of e) (aCons (fVar 0) (aCons (fVar 2) aNil))) (aCons (fBin dAdd (fVar 4) (fBin dIx (fVar 6) (fC (.int 0)))) (aCons (fBin dAdd (fVar 5) (fBin dIx (fVar 6) (fC (.int 1)))) aNil))))))))))
noncomputable def M.made (e : EX) : Fn := (runF 7 (M.b_made e))
noncomputable def M.able_1 (e : EX) : FE := (fVar 2)
noncomputable def M.able_2 (e : EX) : FT := (tBl (fBin dIsNot (fCall (M.made e) (aCons (fVar 0) (aCons (fVar 1) (aCons (fVar 2) aNil)))) (fC .non)))
noncomputable def M.b_able (e : EX) : FS := (sSeq (sExpr (fCall (M.check_standing e) (aCons (fVar 0) (aCons (fVar 1) aNil)))) (sRet (fCompN (iSeq (fCall (M.moves_from e) (aCons (fVar 0) (aCons (fBin dIx (fVar 1) (fC (.int 0))) aNil)))) (gNm 2) (M.able_2 e) (M.able_1 e) [2])))
noncomputable def M.able (e : EX) : Fn := (runF 3 (M.b_able e))
noncomputable def M.b__law_make (e : EX) : FS := (sSeq (sAsg (gTp 3 (gsCons (gNm 3) (gsCons (gNm 4) (gsCons (gNm 5) gsNil)))) (fVar 0)) (sSeq (sAsg (gTp 3 (gsCons (gNm 6) (gsCons (gNm 7) (gsCons (gNm 8) gsNil)))) (fVar 1)) (sSeq (sIf (tBl (fBin dLt (fVar 2) (fB cLen (aCons (fVar 4) aNil)))) (sSeq (sAsg (gTp 4 (gsCons (gNm 9) (gsCons (gNm 10) (gsCons (gNm 11) (gsCons (gNm 12) gsNil))))) (fBin dIx (fVar 4) (fVar 2))) (sSeq (sIf (tOrD (tBl (fBin dNe (fVar 9) (fVar 6))) (tOrD (tBl (fBin dLt (fBin dAdd (fVar 7) (fVar 11)) (fC (.int 0)))) (tBl (fBin dLt (fBin dAdd (fVar 8) (fVar 12)) (fC (.int 0)))))) (sRet (fC .non)) sNil) (sRet (fTup (aCons (fVar 10) (aCons (fBin dAdd (fVar 7) (fVar 11)) (aCons (fBin dAdd (fVar 8) (fVar 12)) aNil))))))) sNil) (sSeq (sAsg (gTp 2 (gsCons (gNm 9) (gsCons (gNm 10) gsNil))) (fBin dIx (fVar 5) (fBin dSub (fVar 2) (fB cLen (aCons (fVar 4) aNil))))) (sSeq (sIf (tOrD (tBl (fBin dNe (fVar 9) (fVar 6))) (tBl (fBin dNe (fVar 7) (fC (.int 0))))) (sRet (fC .non)) sNil) (sRet (fTup (aCons (fVar 10) (aCons (fC (.int 0)) (aCons (fVar 8) aNil))))))))))
noncomputable def M._law_make (e : EX) : Fn := (runF 13 (M.b__law_make e))
noncomputable def M._law_able_1 (e : EX) : FE := (fVar 3)
noncomputable def M._law_able_2 (e : EX) : FT := (tBl (fBin dIsNot (fCall (M._law_make e) (aCons (fVar 0) (aCons (fVar 1) (aCons (fVar 3) aNil)))) (fC .non)))
noncomputable def M.b__law_able (e : EX) : FS := (sSeq (sSet 2 (fBin dAdd (fB cLen (aCons (fBin dIx (fVar 0) (fC (.int 1))) aNil)) (fB cLen (aCons (fBin dIx (fVar 0) (fC (.int 2))) aNil)))) (sRet (fComp (iRg1 (aCons (fVar 2) aNil)) (gNm 3) (M._law_able_2 e) (M._law_able_1 e) [3])))
noncomputable def M._law_able (e : EX) : Fn := (runF 4 (M.b__law_able e))
noncomputable def M._law_run_1 (e : EX) : FS := (sSeq (sSet 5 (fCall (M._law_able e) (aCons (fVar 1) (aCons (fVar 2) aNil)))) (sIf (tBl (fBin dGt (fB cLen (aCons (fVar 5) aNil)) (fC (.int 0)))) (sSeq (sSet 3 (fBin dAdd (fVar 3) (fTup (aCons (fBin dIx (fVar 5) (fBin dMod (fCall (M._law_draw e) (aCons (fVar 0) aNil)) (fB cLen (aCons (fVar 5) aNil)))) aNil)))) (sSet 2 (fCall (M._law_make e) (aCons (fVar 1) (aCons (fVar 2) (aCons (fBin dIx (fVar 3) (fBin dSub (fB cLen (aCons (fVar 3) aNil)) (fC (.int 1)))) aNil)))))) sNil))
noncomputable def M.b__law_run (e : EX) : FS := (sSeq (sSet 3 (fTup aNil)) (sSeq (sFor (iRg1 (aCons (fBin dMod (fCall (M._law_draw e) (aCons (fVar 0) aNil)) (fC (.int 13))) aNil)) (gNm 4) (M._law_run_1 e)) (sRet (fVar 3))))
noncomputable def M._law_run (e : EX) : Fn := (runF 6 (M.b__law_run e))
noncomputable def M.b__law_purse_v2 (e : EX) : FS := (sRet (fBin dIx (fLst (aCons (fBin dMod (fCall (M._law_draw e) (aCons (fVar 0) aNil)) (fC (.int 5))) (aCons (fC (.int 0)) (aCons (fBin dAdd (fBin dPow (fC (.int 10)) (fC (.int 30))) (fBin dMod (fCall (M._law_draw e) (aCons (fVar 0) aNil)) (fC (.int 3)))) (aCons (fC (.int 1)) (aCons (fBin dAdd (fC (.int 6)) (fCall (M._law_draw e) (aCons (fVar 0) aNil))) (aCons (fBin dPow (fC (.int 10)) (fC (.int 18))) aNil))))))) (fBin dMod (fCall (M._law_draw e) (aCons (fVar 0) aNil)) (fC (.int 6)))))
noncomputable def M._law_purse_v2 (e : EX) : Fn := (runF 1 (M.b__law_purse_v2 e))
noncomputable def M._law_all_equal_1 (e : EX) (rec : Fn) : FS := (sIf (tNotD (tTru (fCall rec (aCons (fBin dIx (fVar 0) (fVar 2)) (aCons (fBin dIx (fVar 1) (fVar 2)) aNil))))) (sRet (fC (.bl false))) sNil)
noncomputable def M.b__law_all_equal (e : EX) (rec : Fn) : FS := (sSeq (sFor (iRg1 (aCons (fB cLen (aCons (fVar 1) aNil)) aNil)) (gNm 2) (M._law_all_equal_1 e rec)) (sRet (fC (.bl true))))
noncomputable def M._law_all_equal_r (e : EX) (rec : Fn) : Fn := runF 3 (M.b__law_all_equal e rec)
noncomputable def M.b__law_equal (e : EX) (rec : Fn) : FS := (sSeq (sIf (tTru (fB cIsi (aCons (fVar 1) (aCons (fC (.cst (.ty "list"))) aNil)))) (sRet (fAnd (fB cIsi (aCons (fVar 0) (aCons (fC (.cst (.ty "list"))) aNil))) (fAnd (fBin dEq (fB cLen (aCons (fVar 0) aNil)) (fB cLen (aCons (fVar 1) aNil))) (fCall rec (aCons (fVar 0) (aCons (fVar 1) aNil)))))) sNil) (sSeq (sIf (tTru (fB cIsi (aCons (fVar 1) (aCons (fC (.cst (.ty "tuple"))) aNil)))) (sRet (fAnd (fB cIsi (aCons (fVar 0) (aCons (fC (.cst (.ty "tuple"))) aNil))) (fAnd (fBin dEq (fB cLen (aCons (fVar 0) aNil)) (fB cLen (aCons (fVar 1) aNil))) (fCall rec (aCons (fVar 0) (aCons (fVar 1) aNil)))))) sNil) (sSeq (sIf (tTru (fB cIsi (aCons (fVar 1) (aCons (fC (.cst (.ty "bool"))) aNil)))) (sRet (fAnd (fB cIsi (aCons (fVar 0) (aCons (fC (.cst (.ty "bool"))) aNil))) (fBin dEq (fVar 0) (fVar 1)))) sNil) (sSeq (sIf (tTru (fB cIsi (aCons (fVar 1) (aCons (fC (.cst (.ty "int"))) aNil)))) (sRet (fAnd (fB cIsi (aCons (fVar 0) (aCons (fC (.cst (.ty "int"))) aNil))) (fAnd (fUn dNot (fB cIsi (aCons (fVar 0) (aCons (fC (.cst (.ty "bool"))) aNil)))) (fBin dEq (fVar 0) (fVar 1))))) sNil) (sSeq (sIf (tTru (fB cIsi (aCons (fVar 1) (aCons (fC (.cst (.ty "str"))) aNil)))) (sRet (fAnd (fB cIsi (aCons (fVar 0) (aCons (fC (.cst (.ty "str"))) aNil))) (fBin dEq (fVar 0) (fVar 1)))) sNil) (sRet (fAnd (fBin dIs (fVar 0) (fC .non)) (fBin dIs (fVar 1) (fC .non)))))))))
noncomputable def M._law_equal_n (e : EX) : Nat → Fn
  | 0 => fnStuck
  | n + 1 => runF 2 (M.b__law_equal e (M._law_all_equal_r e (M._law_equal_n e n)))
noncomputable def M._law_equal (e : EX) : Fn := M._law_equal_n e 6
noncomputable def M.b_is_move (e : EX) : FS := (sRet (fCall (M.is_within e) (aCons (fVar 1) (aCons (fC (.int 0)) (aCons (fBin dSub (fCall (M.move_count e) (aCons (fVar 0) aNil)) (fC (.int 1))) aNil)))))
noncomputable def M.is_move (e : EX) : Fn := (runF 2 (M.b_is_move e))
noncomputable def M.b_make (e : EX) : FS := (sSeq (sExpr (fCall (M.check_standing e) (aCons (fVar 0) (aCons (fVar 1) aNil)))) (sSeq (sIf (tNotD (tTru (fCall (M.is_move e) (aCons (fVar 0) (aCons (fVar 2) aNil))))) (sRaise (e.x .BadArgument)) sNil) (sRet (fCall (M.made e) (aCons (fVar 0) (aCons (fVar 1) (aCons (fVar 2) aNil)))))))
noncomputable def M.make (e : EX) : Fn := (runF 3 (M.b_make e))
noncomputable def M.b__law_error_of_make (e : EX) : FS := (sSeq (sTry e.em (sExpr (fCall (M.make e) (aCons (fVar 0) (aCons (fVar 1) (aCons (fVar 2) aNil))))) ((.ref (e.x .BadProgram), (sRet (fC (.str "program")))) :: ((.ref (e.x .BadStanding), (sRet (fC (.str "standing")))) :: ((.ref (e.x .BadArgument), (sRet (fC (.str "argument")))) :: [])))) (sRet (fC (.str "none"))))
noncomputable def M._law_error_of_make (e : EX) : Fn := (runF 3 (M.b__law_error_of_make e))
noncomputable def M.is_word_1 (e : EX) : FS := (sIf (tNotD (tTru (fCall (M.is_move e) (aCons (fVar 0) (aCons (fVar 2) aNil))))) (sRet (fC (.bl false))) sNil)
noncomputable def M.b_is_word (e : EX) : FS := (sSeq (sIf (tNotD (tTru (fB cIsi (aCons (fVar 1) (aCons (fC (.cst (.ty "tuple"))) aNil))))) (sRet (fC (.bl false))) sNil) (sSeq (sFor (iSeq (fVar 1)) (gNm 2) (M.is_word_1 e)) (sRet (fC (.bl true)))))
noncomputable def M.is_word (e : EX) : Fn := (runF 3 (M.b_is_word e))
noncomputable def M.b_check_word (e : EX) : FS := (sIf (tNotD (tTru (fCall (M.is_word e) (aCons (fVar 0) (aCons (fVar 1) aNil))))) (sRaise (e.x .BadArgument)) sNil)
noncomputable def M.check_word (e : EX) : Fn := (runF 2 (M.b_check_word e))
noncomputable def M.played_1 (e : EX) : FS := (sSeq (sSet 1 (fCall (M.made e) (aCons (fVar 0) (aCons (fVar 1) (aCons (fVar 3) aNil))))) (sIf (tBl (fBin dIs (fVar 1) (fC .non))) (sRet (fC .non)) sNil))
noncomputable def M.b_played (e : EX) : FS := (sSeq (sFor (iSeq (fVar 2)) (gNm 3) (M.played_1 e)) (sRet (fVar 1)))
noncomputable def M.played (e : EX) : Fn := (runF 4 (M.b_played e))
noncomputable def M.b_play (e : EX) : FS := (sSeq (sExpr (fCall (M.check_standing e) (aCons (fVar 0) (aCons (fVar 1) aNil)))) (sSeq (sExpr (fCall (M.check_word e) (aCons (fVar 0) (aCons (fVar 2) aNil)))) (sRet (fCall (M.played e) (aCons (fVar 0) (aCons (fVar 1) (aCons (fVar 2) aNil)))))))
noncomputable def M.play (e : EX) : Fn := (runF 3 (M.b_play e))
noncomputable def M._law_play_1 (e : EX) : FS := (sIf (tBl (fBin dIsNot (fVar 1) (fC .non))) (sSet 1 (fCall (M._law_make e) (aCons (fVar 0) (aCons (fVar 1) (aCons (fVar 3) aNil))))) sNil)
noncomputable def M.b__law_play (e : EX) : FS := (sSeq (sFor (iSeq (fVar 2)) (gNm 3) (M._law_play_1 e)) (sRet (fVar 1)))
noncomputable def M._law_play (e : EX) : Fn := (runF 4 (M.b__law_play e))
noncomputable def M.b__law_error (e : EX) : FS := (sSeq (sTry e.em (sExpr (fCall (M.play e) (aCons (fVar 0) (aCons (fVar 1) (aCons (fVar 2) aNil))))) ((.ref (e.x .BadProgram), (sRet (fC (.str "program")))) :: ((.ref (e.x .BadStanding), (sRet (fC (.str "standing")))) :: ((.ref (e.x .BadArgument), (sRet (fC (.str "argument")))) :: [])))) (sRet (fC (.str "none"))))
noncomputable def M._law_error (e : EX) : Fn := (runF 3 (M.b__law_error e))
noncomputable def M.law_v4_1 (e : EX) : FS := (sIf (tNotD (tTru (fCall (M._law_equal e) (aCons (fCall (M.make e) (aCons (fVar 2) (aCons (fVar 4) (aCons (fVar 5) aNil)))) (aCons (fCall (M._law_make e) (aCons (fVar 2) (aCons (fVar 4) (aCons (fVar 5) aNil)))) aNil))))) (sRet (fC (.bl false))) sNil)
noncomputable def M.law_v4_2 (e : EX) : FE := (fBin dMod (fCall (M._law_draw e) (aCons (fVar 1) aNil)) (fVar 3))
noncomputable def M.law_v4_3 (e : EX) : FS := (sSeq (sSet 12 (fB cTup (aCons (fComp (iRg1 (aCons (fBin dMod (fCall (M._law_draw e) (aCons (fVar 1) aNil)) (fC (.int 6))) aNil)) (gNm 18) tYesD (M.law_v4_2 e) [18]) aNil))) (sIf (tNotD (tTru (fCall (M._law_equal e) (aCons (fCall (M.play e) (aCons (fVar 2) (aCons (fVar 4) (aCons (fVar 12) aNil)))) (aCons (fCall (M._law_play e) (aCons (fVar 2) (aCons (fVar 4) (aCons (fVar 12) aNil)))) aNil))))) (sRet (fC (.bl false))) sNil))
noncomputable def M.law_v4_4 (e : EX) : FE := (fVar 5)
noncomputable def M.law_v4_5 (e : EX) : FT := (tBl (fBin dIs (fCall (M._law_make e) (aCons (fVar 2) (aCons (fVar 4) (aCons (fVar 5) aNil)))) (fC .non)))
noncomputable def M.b_law_v4 (e : EX) : FS := (sSeq (sSet 1 (fNew (aCons (fCall (M._law_numbers e) (aCons (fVar 0) aNil)) (aCons (fC (.int 0)) aNil)))) (sSeq (sSet 2 (fCall (M._law_program e) (aCons (fVar 1) aNil))) (sSeq (sSet 3 (fBin dAdd (fB cLen (aCons (fBin dIx (fVar 2) (fC (.int 1))) aNil)) (fB cLen (aCons (fBin dIx (fVar 2) (fC (.int 2))) aNil)))) (sSeq (sSet 4 (fTup (aCons (fBin dMod (fCall (M._law_draw e) (aCons (fVar 1) aNil)) (fBin dIx (fVar 2) (fC (.int 0)))) (aCons (fCall (M._law_purse_v2 e) (aCons (fVar 1) aNil)) (aCons (fCall (M._law_purse_v2 e) (aCons (fVar 1) aNil)) aNil))))) (sSeq (sFor (iRg1 (aCons (fVar 3) aNil)) (gNm 5) (M.law_v4_1 e)) (sSeq (sSet 6 (fCall (M.able e) (aCons (fVar 2) (aCons (fVar 4) aNil)))) (sSeq (sSet 7 (fCall (M._law_able e) (aCons (fVar 2) (aCons (fVar 4) aNil)))) (sSeq (sIf (tNotD (tTru (fCall (M._law_equal e) (aCons (fVar 6) (aCons (fVar 7) aNil))))) (sRet (fC (.bl false))) sNil) (sSeq (sExpr (fM mAppend (fVar 6) (aCons (fC (.int 99)) aNil))) (sSeq (sIf (tNotD (tTru (fCall (M._law_equal e) (aCons (fCall (M.able e) (aCons (fVar 2) (aCons (fVar 4) aNil))) (aCons (fVar 7) aNil))))) (sRet (fC (.bl false))) sNil) (sSeq (sSet 8 (fCall (M._law_run e) (aCons (fVar 1) (aCons (fVar 2) (aCons (fVar 4) aNil))))) (sSeq (sIf (tNotD (tTru (fCall (M._law_equal e) (aCons (fCall (M.play e) (aCons (fVar 2) (aCons (fVar 4) (aCons (fVar 8) aNil)))) (aCons (fCall (M._law_play e) (aCons (fVar 2) (aCons (fVar 4) (aCons (fVar 8) aNil)))) aNil))))) (sRet (fC (.bl false))) sNil) (sSeq (sSet 9 (fTup (aCons (fBin dIx (fVar 4) (fC (.int 0))) (aCons (fBin dAdd (fBin dIx (fVar 4) (fC (.int 1))) (fBin dPow (fC (.int 10)) (fC (.int 30)))) (aCons (fBin dAdd (fBin dIx (fVar 4) (fC (.int 2))) (fBin dPow (fC (.int 10)) (fC (.int 30)))) aNil))))) (sSeq (sSet 10 (fBin dMulE (fCall (M._law_run e) (aCons (fVar 1) (aCons (fVar 2) (aCons (fVar 9) aNil)))) (fC (.int 300)))) (sSeq (sIf (tNotD (tTru (fCall (M._law_equal e) (aCons (fCall (M.play e) (aCons (fVar 2) (aCons (fVar 9) (aCons (fVar 10) aNil)))) (aCons (fCall (M._law_play e) (aCons (fVar 2) (aCons (fVar 9) (aCons (fVar 10) aNil)))) aNil))))) (sRet (fC (.bl false))) sNil) (sSeq (sIf (tNotD (tTru (fCall (M._law_equal e) (aCons (fCall (M.play e) (aCons (fVar 2) (aCons (fVar 4) (aCons (fTup aNil) aNil)))) (aCons (fVar 4) aNil))))) (sRet (fC (.bl false))) sNil) (sSeq (sIf (tBl (fBin dGt (fVar 3) (fC (.int 0)))) (sFor (iRg1 (aCons (fC (.int 3)) aNil)) (gNm 11) (M.law_v4_3 e)) sNil) (sSeq (sSet 13 (fBin dIx (fLst (aCons (fVar 3) (aCons (fUn dNeg (fC (.int 1))) (aCons (fBin dAdd (fVar 3) (fC (.int 7))) (aCons (fUn dNeg (fBin dPow (fC (.int 10)) (fC (.int 30)))) (aCons (fBin dPow (fC (.int 10)) (fC (.int 30))) (aCons (fC (.bl true)) (aCons (fC (.bl false)) aNil)))))))) (fBin dMod (fCall (M._law_draw e) (aCons (fVar 1) aNil)) (fC (.int 7))))) (sSeq (sSet 14 (fBin dMod (fCall (M._law_draw e) (aCons (fVar 1) aNil)) (fBin dAdd (fB cLen (aCons (fVar 8) aNil)) (fC (.int 1))))) (sSeq (sSet 15 (fBin dAdd (fBin dAdd (fCut (fVar 8) oNone (oSome (fVar 14))) (fTup (aCons (fVar 13) aNil))) (fCut (fVar 8) (oSome (fVar 14)) oNone))) (sSeq (sIf (tOrD (tBl (fBin dNe (fCall (M._law_error e) (aCons (fVar 2) (aCons (fVar 4) (aCons (fVar 15) aNil)))) (fC (.str "argument")))) (tBl (fBin dNe (fCall (M._law_error e) (aCons (fVar 2) (aCons (fVar 4) (aCons (fTup (aCons (fVar 13) aNil)) aNil)))) (fC (.str "argument"))))) (sRet (fC (.bl false))) sNil) (sSeq (sIf (tBl (fBin dNe (fCall (M._law_error_of_make e) (aCons (fVar 2) (aCons (fVar 4) (aCons (fVar 13) aNil)))) (fC (.str "argument")))) (sRet (fC (.bl false))) sNil) (sSeq (sSet 16 (fComp (iRg1 (aCons (fVar 3) aNil)) (gNm 5) (M.law_v4_5 e) (M.law_v4_4 e) [5])) (sSeq (sIf (tAndD (tBl (fBin dGt (fB cLen (aCons (fVar 16) aNil)) (fC (.int 0)))) (tBl (fBin dNe (fCall (M._law_error e) (aCons (fVar 2) (aCons (fVar 4) (aCons (fTup (aCons (fBin dIx (fVar 16) (fBin dMod (fCall (M._law_draw e) (aCons (fVar 1) aNil)) (fB cLen (aCons (fVar 16) aNil)))) (aCons (fVar 13) aNil))) aNil)))) (fC (.str "argument"))))) (sRet (fC (.bl false))) sNil) (sSeq (sSet 17 (fBin dIx (fLst (aCons (fTup (aCons (fBin dIx (fVar 2) (fC (.int 0))) (aCons (fC (.int 0)) (aCons (fC (.int 0)) aNil)))) (aCons (fTup (aCons (fC (.int 0)) (aCons (fUn dNeg (fC (.int 1))) (aCons (fC (.int 0)) aNil)))) (aCons (fTup (aCons (fC (.int 0)) (aCons (fC (.int 0)) (aCons (fUn dNeg (fC (.int 1))) aNil)))) (aCons (fTup (aCons (fC (.int 0)) (aCons (fC (.int 0)) aNil))) (aCons (fC .non) aNil)))))) (fBin dMod (fCall (M._law_draw e) (aCons (fVar 1) aNil)) (fC (.int 5))))) (sSeq (sIf (tOrD (tBl (fBin dNe (fCall (M._law_error e) (aCons (fVar 2) (aCons (fVar 17) (aCons (fTup (aCons (fVar 13) aNil)) aNil)))) (fC (.str "standing")))) (tBl (fBin dNe (fCall (M._law_error_of_make e) (aCons (fVar 2) (aCons (fVar 17) (aCons (fVar 13) aNil)))) (fC (.str "standing"))))) (sRet (fC (.bl false))) sNil) (sRet (fAnd (fBin dEq (fCall (M._law_error e) (aCons (fTup (aCons (fC (.int 1)) (aCons (fTup aNil) aNil))) (aCons (fVar 17) (aCons (fTup (aCons (fVar 13) aNil)) aNil)))) (fC (.str "program"))) (fBin dEq (fCall (M._law_error_of_make e) (aCons (fC .non) (aCons (fVar 17) (aCons (fVar 13) aNil)))) (fC (.str "program")))))))))))))))))))))))))))))))
noncomputable def M.law_v4 (e : EX) : Fn := (runF 19 (M.b_law_v4 e))
noncomputable def M._law_at_1 (e : EX) : FS := (sSeq (sSet 3 (fBin dAdd (fVar 3) (fBin dMul (fBin dIx (fVar 1) (fVar 5)) (fBin dIx (fBin dIx (fBin dIx (fVar 0) (fC (.int 2))) (fVar 5)) (fC (.int 0)))))) (sSet 4 (fBin dAdd (fVar 4) (fBin dMul (fBin dIx (fVar 1) (fVar 5)) (fBin dIx (fBin dIx (fBin dIx (fVar 0) (fC (.int 2))) (fVar 5)) (fC (.int 1)))))))
noncomputable def M.b__law_at (e : EX) : FS := (sSeq (sPar3 2 3 4 (aCons (fBin dIx (fVar 0) (fC (.int 0))) (aCons (fBin dIx (fBin dIx (fVar 0) (fC (.int 1))) (fC (.int 0))) (aCons (fBin dIx (fBin dIx (fVar 0) (fC (.int 1))) (fC (.int 1))) aNil)))) (sSeq (sFor (iRg1 (aCons (fB cLen (aCons (fVar 1) aNil)) aNil)) (gNm 5) (M._law_at_1 e)) (sRet (fTup (aCons (fVar 2) (aCons (fVar 3) (aCons (fVar 4) aNil)))))))
noncomputable def M._law_at (e : EX) : Fn := (runF 6 (M.b__law_at e))
noncomputable def M.b_check_place (e : EX) : FS := (sIf (tNotD (tTru (fCall (M.is_place e) (aCons (fVar 0) aNil)))) (sRaise (e.x .BadStanding)) sNil)
noncomputable def M.check_place (e : EX) : Fn := (runF 1 (M.b_check_place e))
noncomputable def M.b_counts_to (e : EX) : FS := (sSeq (sIf (tBl (fBin dEq (fB cLen (aCons (fVar 0) aNil)) (fC (.int 0)))) (sRet (fIf (tAndD (tBl (fBin dEq (fVar 1) (fC (.int 0)))) (tBl (fBin dEq (fVar 2) (fC (.int 0))))) (fTup aNil) (fC .non))) sNil) (sSeq (sIf (tBl (fBin dEq (fB cLen (aCons (fVar 0) aNil)) (fC (.int 1)))) (sSeq (sSet 3 (fBin dIx (fVar 0) (fC (.int 0)))) (sSeq (sSet 4 (fIf (tBl (fBin dGt (fBin dIx (fVar 3) (fC (.int 0))) (fC (.int 0)))) (fBin dDivN (fVar 1) (fBin dIx (fVar 3) (fC (.int 0)))) (fBin dDivN (fVar 2) (fBin dIx (fVar 3) (fC (.int 1)))))) (sSeq (sIf (tAndD (tBl (fBin dGe (fVar 4) (fC (.int 0)))) (tAndD (tBl (fBin dEq (fBin dMul (fVar 4) (fBin dIx (fVar 3) (fC (.int 0)))) (fVar 1))) (tBl (fBin dEq (fBin dMul (fVar 4) (fBin dIx (fVar 3) (fC (.int 1)))) (fVar 2))))) (sRet (fTup (aCons (fVar 4) aNil))) sNil) (sRet (fC .non))))) sNil) (sSeq (sSet 5 (fCall (M.cross e) (aCons (fBin dIx (fVar 0) (fC (.int 0))) (aCons (fBin dIx (fVar 0) (fC (.int 1))) aNil)))) (sSeq (sSet 6 (fCall (M.cross e) (aCons (fTup (aCons (fVar 1) (aCons (fVar 2) aNil))) (aCons (fBin dIx (fVar 0) (fC (.int 1))) aNil)))) (sSeq (sSet 7 (fCall (M.cross e) (aCons (fBin dIx (fVar 0) (fC (.int 0))) (aCons (fTup (aCons (fVar 1) (aCons (fVar 2) aNil))) aNil)))) (sSeq (sIf (tOrD (tBl (fBin dNe (fBin dModN (fVar 6) (fVar 5)) (fC (.int 0)))) (tOrD (tBl (fBin dNe (fBin dModN (fVar 7) (fVar 5)) (fC (.int 0)))) (tOrD (tBl (fBin dLt (fBin dDivN (fVar 6) (fVar 5)) (fC (.int 0)))) (tBl (fBin dLt (fBin dDivN (fVar 7) (fVar 5)) (fC (.int 0))))))) (sRet (fC .non)) sNil) (sRet (fTup (aCons (fBin dDivN (fVar 6) (fVar 5)) (aCons (fBin dDivN (fVar 7) (fVar 5)) aNil))))))))))
noncomputable def M.counts_to (e : EX) : Fn := (runF 8 (M.b_counts_to e))
noncomputable def M.b_found (e : EX) : FS := (sSeq (sIf (tBl (fBin dNe (fBin dIx (fVar 0) (fC (.int 0))) (fBin dIx (fVar 1) (fC (.int 0))))) (sRet (fC .non)) sNil) (sRet (fCall (M.counts_to e) (aCons (fBin dIx (fVar 0) (fC (.int 2))) (aCons (fBin dSub (fBin dIx (fVar 1) (fC (.int 1))) (fBin dIx (fBin dIx (fVar 0) (fC (.int 1))) (fC (.int 0)))) (aCons (fBin dSub (fBin dIx (fVar 1) (fC (.int 2))) (fBin dIx (fBin dIx (fVar 0) (fC (.int 1))) (fC (.int 1)))) aNil))))))
noncomputable def M.found (e : EX) : Fn := (runF 2 (M.b_found e))
noncomputable def M.has_1 (e : EX) : FS := (sIf (tBl (fBin dIsNot (fCall (M.found e) (aCons (fVar 2) (aCons (fVar 1) aNil))) (fC .non))) (sRet (fC (.bl true))) sNil)
noncomputable def M.b_has (e : EX) : FS := (sSeq (sExpr (fCall (M.check_lot e) (aCons (fVar 0) aNil))) (sSeq (sExpr (fCall (M.check_place e) (aCons (fVar 1) aNil))) (sSeq (sFor (iSeq (fVar 0)) (gNm 2) (M.has_1 e)) (sRet (fC (.bl false))))))
noncomputable def M.has (e : EX) : Fn := (runF 3 (M.b_has e))
noncomputable def M.point_at_1 (e : EX) : FS := (sSeq (sAug 3 (dI (fun _ _ => true) fun i j => .int (i + j)) (fBin dMul (fBin dIx (fVar 5) (fC (.int 0))) (fVar 6))) (sAug 4 (dI (fun _ _ => true) fun i j => .int (i + j)) (fBin dMul (fBin dIx (fVar 5) (fC (.int 1))) (fVar 6))))
noncomputable def M.b_point_at (e : EX) : FS := (sSeq (sAsg (gTp 2 (gsCons (gNm 3) (gsCons (gNm 4) gsNil))) (fVar 0)) (sSeq (sFor (iZp (aCons (fVar 1) (aCons (fVar 2) aNil))) (gTp 2 (gsCons (gNm 5) (gsCons (gNm 6) gsNil))) (M.point_at_1 e)) (sRet (fTup (aCons (fVar 3) (aCons (fVar 4) aNil))))))
noncomputable def M.point_at (e : EX) : Fn := (runF 7 (M.b_point_at e))
noncomputable def M.are_counts_1 (e : EX) : FS := (sIf (tNotD (tTru (fCall (M.is_natural e) (aCons (fVar 2) aNil)))) (sRet (fC (.bl false))) sNil)
noncomputable def M.b_are_counts (e : EX) : FS := (sSeq (sIf (tNotD (tTru (fCall (M.is_tuple e) (aCons (fVar 0) (aCons (fVar 1) aNil))))) (sRet (fC (.bl false))) sNil) (sSeq (sFor (iSeq (fVar 0)) (gNm 2) (M.are_counts_1 e)) (sRet (fC (.bl true)))))
noncomputable def M.are_counts (e : EX) : Fn := (runF 3 (M.b_are_counts e))
noncomputable def M.b_standing_at (e : EX) : FS := (sSeq (sExpr (fCall (M.check_fan e) (aCons (fVar 0) aNil))) (sSeq (sIf (tNotD (tTru (fCall (M.are_counts e) (aCons (fVar 1) (aCons (fB cLen (aCons (fBin dIx (fVar 0) (fC (.int 2))) aNil)) aNil))))) (sRaise (e.x .BadArgument)) sNil) (sSeq (sAsg (gTp 2 (gsCons (gNm 2) (gsCons (gNm 3) gsNil))) (fCall (M.point_at e) (aCons (fBin dIx (fVar 0) (fC (.int 1))) (aCons (fBin dIx (fVar 0) (fC (.int 2))) (aCons (fVar 1) aNil))))) (sRet (fTup (aCons (fBin dIx (fVar 0) (fC (.int 0))) (aCons (fVar 2) (aCons (fVar 3) aNil))))))))
noncomputable def M.standing_at (e : EX) : Fn := (runF 4 (M.b_standing_at e))
noncomputable def M.b__law_refused (e : EX) : FS := (sSeq (sTry e.em (sExpr (fCall (M.standing_at e) (aCons (fVar 0) (aCons (fVar 1) aNil)))) ((.ref (e.x .BadArgument), (sRet (fC (.bl true)))) :: [])) (sRet (fC (.bl false))))
noncomputable def M._law_refused (e : EX) : Fn := (runF 2 (M.b__law_refused e))
noncomputable def M.b_counts_of (e : EX) : FS := (sSeq (sExpr (fCall (M.check_fan e) (aCons (fVar 0) aNil))) (sSeq (sExpr (fCall (M.check_place e) (aCons (fVar 1) aNil))) (sRet (fCall (M.found e) (aCons (fVar 0) (aCons (fVar 1) aNil))))))
noncomputable def M.counts_of (e : EX) : Fn := (runF 2 (M.b_counts_of e))
noncomputable def M._law_none_1 (e : EX) : FS := (sTry e.em (sSeq (sIf (tBl (fBin dEq (fVar 2) (fC (.int 0)))) (sExpr (fCall (M.counts_of e) (aCons (fVar 0) (aCons (fVar 1) aNil)))) (sIf (tBl (fBin dEq (fVar 2) (fC (.int 1)))) (sExpr (fCall (M.has e) (aCons (fLst (aCons (fVar 0) aNil)) (aCons (fVar 1) aNil)))) (sExpr (fCall (M.has e) (aCons (fLst aNil) (aCons (fVar 1) aNil)))))) (sRet (fC (.bl false)))) ((.ref (e.x .BadStanding), sNil) :: []))
noncomputable def M.b__law_none (e : EX) : FS := (sSeq (sFor (iRg1 (aCons (fC (.int 3)) aNil)) (gNm 2) (M._law_none_1 e)) (sRet (fC (.bl true))))
noncomputable def M._law_none (e : EX) : Fn := (runF 3 (M.b__law_none e))
noncomputable def M.b__law_count (e : EX) : FS := (sRet (fBin dIx (fLst (aCons (fBin dMod (fCall (M._law_draw e) (aCons (fVar 0) aNil)) (fC (.int 5))) (aCons (fBin dAdd (fBin dPow (fC (.int 10)) (fC (.int 30))) (fCall (M._law_draw e) (aCons (fVar 0) aNil))) (aCons (fC (.int 0)) (aCons (fCall (M._law_draw e) (aCons (fVar 0) aNil)) aNil))))) (fBin dMod (fCall (M._law_draw e) (aCons (fVar 0) aNil)) (fC (.int 4)))))
noncomputable def M._law_count (e : EX) : Fn := (runF 1 (M.b__law_count e))
noncomputable def M.b__law_counts (e : EX) : FS := (sSeq (sAsg (gTp 3 (gsCons (gNm 2) (gsCons (gNm 3) (gsCons (gNm 4) gsNil)))) (fVar 0)) (sSeq (sIf (tBl (fBin dNe (fVar 2) (fBin dIx (fVar 1) (fC (.int 0))))) (sRet (fC .non)) sNil) (sSeq (sSet 5 (fBin dSub (fBin dIx (fVar 1) (fC (.int 1))) (fBin dIx (fVar 3) (fC (.int 0))))) (sSeq (sSet 6 (fBin dSub (fBin dIx (fVar 1) (fC (.int 2))) (fBin dIx (fVar 3) (fC (.int 1))))) (sSeq (sIf (tBl (fBin dEq (fB cLen (aCons (fVar 4) aNil)) (fC (.int 0)))) (sRet (fIf (tAndD (tBl (fBin dEq (fVar 5) (fC (.int 0)))) (tBl (fBin dEq (fVar 6) (fC (.int 0))))) (fTup aNil) (fC .non))) sNil) (sSeq (sAsg (gTp 2 (gsCons (gNm 7) (gsCons (gNm 8) gsNil))) (fBin dIx (fVar 4) (fC (.int 0)))) (sSeq (sIf (tBl (fBin dEq (fB cLen (aCons (fVar 4) aNil)) (fC (.int 1)))) (sSeq (sSet 9 (fIf (tBl (fBin dGt (fVar 7) (fC (.int 0)))) (fBin dDiv (fVar 5) (fVar 7)) (fBin dDiv (fVar 6) (fVar 8)))) (sRet (fIf (tAndD (tBl (fBin dGe (fVar 9) (fC (.int 0)))) (tAndD (tBl (fBin dEq (fBin dMul (fVar 9) (fVar 7)) (fVar 5))) (tBl (fBin dEq (fBin dMul (fVar 9) (fVar 8)) (fVar 6))))) (fTup (aCons (fVar 9) aNil)) (fC .non)))) sNil) (sSeq (sAsg (gTp 2 (gsCons (gNm 10) (gsCons (gNm 11) gsNil))) (fBin dIx (fVar 4) (fC (.int 1)))) (sSeq (sSet 12 (fBin dSub (fBin dMul (fVar 7) (fVar 11)) (fBin dMul (fVar 8) (fVar 10)))) (sSeq (sSet 13 (fBin dSub (fBin dMul (fVar 5) (fVar 11)) (fBin dMul (fVar 6) (fVar 10)))) (sSeq (sSet 14 (fBin dSub (fBin dMul (fVar 7) (fVar 6)) (fBin dMul (fVar 8) (fVar 5)))) (sSeq (sIf (tBl (fBin dLt (fVar 12) (fC (.int 0)))) (sSeq (sSet 12 (fUn dNeg (fVar 12))) (sSeq (sSet 13 (fUn dNeg (fVar 13))) (sSet 14 (fUn dNeg (fVar 14))))) sNil) (sSeq (sIf (tOrD (tBl (fBin dLt (fVar 13) (fC (.int 0)))) (tOrD (tBl (fBin dLt (fVar 14) (fC (.int 0)))) (tOrD (tBl (fBin dNe (fBin dMod (fVar 13) (fVar 12)) (fC (.int 0)))) (tBl (fBin dNe (fBin dMod (fVar 14) (fVar 12)) (fC (.int 0))))))) (sRet (fC .non)) sNil) (sRet (fTup (aCons (fBin dDiv (fVar 13) (fVar 12)) (aCons (fBin dDiv (fVar 14) (fVar 12)) aNil)))))))))))))))))
noncomputable def M._law_counts (e : EX) : Fn := (runF 15 (M.b__law_counts e))
noncomputable def M._law_right_1 (e : EX) : FS := (sIf (tNotD (tTru (fCall (M._law_equal e) (aCons (fCall (M.counts_of e) (aCons (fVar 2) (aCons (fVar 1) aNil))) (aCons (fCall (M._law_counts e) (aCons (fVar 2) (aCons (fVar 1) aNil))) aNil))))) (sRet (fC (.bl false))) sNil)
noncomputable def M._law_right_2 (e : EX) : FE := (fVar 2)
noncomputable def M._law_right_3 (e : EX) : FT := (tBl (fBin dIsNot (fCall (M._law_counts e) (aCons (fVar 2) (aCons (fVar 1) aNil))) (fC .non)))
noncomputable def M.b__law_right (e : EX) : FS := (sSeq (sFor (iSeq (fVar 0)) (gNm 2) (M._law_right_1 e)) (sSeq (sSet 3 (fBin dGt (fB cLen (aCons (fComp (iSeq (fVar 0)) (gNm 2) (M._law_right_3 e) (M._law_right_2 e) [2]) aNil)) (fC (.int 0)))) (sSeq (sSet 4 (fB cRepr3 (aCons (fVar 0) aNil))) (sRet (fAnd (fCall (M._law_equal e) (aCons (fCall (M.has e) (aCons (fVar 0) (aCons (fVar 1) aNil))) (aCons (fVar 3) aNil))) (fBin dEq (fB cRepr3 (aCons (fVar 0) aNil)) (fVar 4)))))))
noncomputable def M._law_right (e : EX) : Fn := (runF 5 (M.b__law_right e))
noncomputable def M.b__law_near (e : EX) : FS := (sSeq (sAsg (gTp 3 (gsCons (gNm 2) (gsCons (gNm 3) (gsCons (gNm 4) gsNil)))) (fVar 1)) (sSeq (sSet 5 (fBin dMod (fCall (M._law_draw e) (aCons (fVar 0) aNil)) (fC (.int 4)))) (sSeq (sIf (tBl (fBin dEq (fVar 5) (fC (.int 0)))) (sRet (fTup (aCons (fBin dMod (fBin dAdd (fVar 2) (fC (.int 1))) (fC (.int 3))) (aCons (fVar 3) (aCons (fVar 4) aNil))))) sNil) (sSeq (sSet 6 (fBin dSub (fBin dMod (fCall (M._law_draw e) (aCons (fVar 0) aNil)) (fC (.int 7))) (fC (.int 3)))) (sSeq (sSet 7 (fBin dSub (fBin dMod (fCall (M._law_draw e) (aCons (fVar 0) aNil)) (fC (.int 7))) (fC (.int 3)))) (sRet (fTup (aCons (fVar 2) (aCons (fB cMax2 (aCons (fC (.int 0)) (aCons (fBin dAdd (fVar 3) (fVar 6)) aNil))) (aCons (fB cMax2 (aCons (fC (.int 0)) (aCons (fBin dAdd (fVar 4) (fVar 7)) aNil))) aNil))))))))))
noncomputable def M._law_near (e : EX) : Fn := (runF 8 (M.b__law_near e))
noncomputable def M.law_v5_1 (e : EX) : FS := (sExpr (fM mAppend (fVar 2) (aCons (fCall (M._law_fan e) (aCons (fVar 1) (aCons (fBin dIx (fLst (aCons (fC (.int 13)) (aCons (fBin dPow (fC (.int 10)) (fC (.int 24))) aNil))) (fBin dDiv (fBin dMod (fCall (M._law_draw e) (aCons (fVar 1) aNil)) (fC (.int 4))) (fC (.int 3)))) aNil))) aNil)))
noncomputable def M.law_v5_2 (e : EX) : FE := (fCall (M._law_count e) (aCons (fVar 1) aNil))
noncomputable def M.law_v5_3 (e : EX) : FS := (sIf (tNotD (tTru (fCall (M._law_right e) (aCons (fVar 2) (aCons (fCall (M._law_near e) (aCons (fVar 1) (aCons (fVar 6) aNil))) aNil))))) (sRet (fC (.bl false))) sNil)
noncomputable def M.law_v5_4 (e : EX) : FS := (sSeq (sSet 5 (fB cTup (aCons (fComp (iSeq (fBin dIx (fVar 4) (fC (.int 2)))) (gNm 10) tYesD (M.law_v5_2 e) [10]) aNil))) (sSeq (sSet 6 (fCall (M._law_at e) (aCons (fVar 4) (aCons (fVar 5) aNil)))) (sSeq (sIf (tOrD (tNotD (tTru (fCall (M._law_equal e) (aCons (fCall (M.standing_at e) (aCons (fVar 4) (aCons (fVar 5) aNil))) (aCons (fVar 6) aNil))))) (tNotD (tTru (fCall (M._law_equal e) (aCons (fCall (M.counts_of e) (aCons (fVar 4) (aCons (fVar 6) aNil))) (aCons (fVar 5) aNil)))))) (sRet (fC (.bl false))) sNil) (sSeq (sIf (tOrD (tNotD (tTru (fCall (M._law_right e) (aCons (fVar 2) (aCons (fVar 6) aNil))))) (tNotD (tTru (fCall (M._law_right e) (aCons (fVar 2) (aCons (fBin dAdd (fTup (aCons (fBin dIx (fVar 4) (fC (.int 0))) aNil)) (fBin dIx (fVar 4) (fC (.int 1)))) aNil)))))) (sRet (fC (.bl false))) sNil) (sSeq (sFor (iRg1 (aCons (fC (.int 3)) aNil)) (gNm 3) (M.law_v5_3 e)) (sSeq (sSet 7 (fBin dIx (fLst (aCons (fBin dAdd (fVar 5) (fTup (aCons (fC (.int 0)) aNil))) (aCons (fBin dMul (fTup (aCons (fC (.int 0)) aNil)) (fBin dAdd (fB cLen (aCons (fVar 5) aNil)) (fC (.int 2)))) (aCons (fCut (fVar 5) oNone (oSome (fUn dNeg (fC (.int 1))))) (aCons (fTup aNil) aNil))))) (fBin dMod (fCall (M._law_draw e) (aCons (fVar 1) aNil)) (fBin dIx (fLst (aCons (fC (.int 2)) (aCons (fC (.int 4)) aNil))) (fB cInt (aCons (fBin dGt (fB cLen (aCons (fVar 5) aNil)) (fC (.int 0))) aNil)))))) (sSeq (sIf (tAndD (tBl (fBin dGt (fB cLen (aCons (fVar 5) aNil)) (fC (.int 0)))) (tBl (fBin dGt (fBin dMod (fCall (M._law_draw e) (aCons (fVar 1) aNil)) (fC (.int 4))) (fC (.int 0))))) (sSeq (sSet 8 (fBin dMod (fCall (M._law_draw e) (aCons (fVar 1) aNil)) (fB cLen (aCons (fVar 5) aNil)))) (sSet 7 (fBin dAdd (fBin dAdd (fCut (fVar 5) oNone (oSome (fVar 8))) (fTup (aCons (fBin dIx (fLst (aCons (fUn dNeg (fC (.int 1))) (aCons (fUn dNeg (fBin dPow (fC (.int 10)) (fC (.int 30)))) (aCons (fC (.bl true)) (aCons (fC (.bl false)) aNil))))) (fBin dMod (fCall (M._law_draw e) (aCons (fVar 1) aNil)) (fC (.int 4)))) aNil))) (fCut (fVar 5) (oSome (fBin dAdd (fVar 8) (fC (.int 1)))) oNone)))) sNil) (sSeq (sIf (tNotD (tTru (fCall (M._law_refused e) (aCons (fVar 4) (aCons (fVar 7) aNil))))) (sRet (fC (.bl false))) sNil) (sSeq (sSet 9 (fLst (aCons (fTup (aCons (fC (.int 3)) (aCons (fC (.int 0)) (aCons (fC (.int 0)) aNil)))) (aCons (fTup (aCons (fUn dNeg (fC (.int 1))) (aCons (fC (.int 0)) (aCons (fC (.int 0)) aNil)))) (aCons (fTup (aCons (fC (.int 0)) (aCons (fUn dNeg (fC (.int 1))) (aCons (fC (.int 0)) aNil)))) (aCons (fTup (aCons (fC (.int 0)) (aCons (fC (.int 0)) (aCons (fUn dNeg (fC (.int 1))) aNil)))) (aCons (fTup (aCons (fC (.int 0)) (aCons (fC (.int 0)) aNil))) (aCons (fC .non) (aCons (fTup (aCons (fC (.bl true)) (aCons (fC (.int 0)) (aCons (fC (.int 0)) aNil)))) (aCons (fTup (aCons (fC (.bl false)) (aCons (fC (.int 1)) (aCons (fC (.int 1)) aNil)))) (aCons (fTup (aCons (fC (.int 0)) (aCons (fC (.str "1")) (aCons (fC (.int 0)) aNil)))) (aCons (fTup (aCons (fC (.int 0)) (aCons (fC (.int 0)) (aCons (fC (.bl true)) aNil)))) (aCons (fLst (aCons (fC (.int 0)) (aCons (fC (.int 0)) (aCons (fC (.int 0)) aNil)))) (aCons (fTup (aCons (fC (.int 0)) (aCons (fC (.int 0)) (aCons (fC (.int 0)) (aCons (fC (.int 0)) aNil))))) (aCons (fC (.str "000")) (aCons (fTup aNil) aNil)))))))))))))))) (sSeq (sSet 9 (fBin dIx (fVar 9) (fBin dMod (fCall (M._law_draw e) (aCons (fVar 1) aNil)) (fC (.int 14))))) (sIf (tNotD (tTru (fCall (M._law_none e) (aCons (fVar 4) (aCons (fVar 9) aNil))))) (sRet (fC (.bl false))) sNil)))))))))))
noncomputable def M.b_law_v5 (e : EX) : FS := (sSeq (sSet 1 (fNew (aCons (fCall (M._law_numbers e) (aCons (fVar 0) aNil)) (aCons (fC (.int 0)) aNil)))) (sSeq (sSet 2 (fNew aNil)) (sSeq (sFor (iRg1 (aCons (fBin dAdd (fC (.int 1)) (fBin dMod (fCall (M._law_draw e) (aCons (fVar 1) aNil)) (fC (.int 4)))) aNil)) (gNm 3) (M.law_v5_1 e)) (sSeq (sFor (iSeq (fVar 2)) (gNm 4) (M.law_v5_4 e)) (sRet (fBin dIs (fCall (M.has e) (aCons (fLst aNil) (aCons (fTup (aCons (fC (.int 0)) (aCons (fC (.int 0)) (aCons (fC (.int 0)) aNil)))) aNil))) (fC (.bl false))))))))
noncomputable def M.law_v5 (e : EX) : Fn := (runF 11 (M.b_law_v5 e))
noncomputable def M.b__law_ends (e : EX) : FS := (sSeq (sAsg (gTp 3 (gsCons (gNm 2) (gsCons (gNm 3) (gsCons (gNm 4) gsNil)))) (fVar 0)) (sSeq (sIf (tBl (fBin dLt (fVar 1) (fB cLen (aCons (fVar 3) aNil)))) (sRet (fBin dIx (fVar 3) (fVar 1))) sNil) (sRet (fBin dAdd (fBin dIx (fVar 4) (fBin dSub (fVar 1) (fB cLen (aCons (fVar 3) aNil)))) (fTup (aCons (fC (.int 0)) (aCons (fC (.int 0)) aNil)))))))
noncomputable def M._law_ends (e : EX) : Fn := (runF 5 (M.b__law_ends e))
noncomputable def M._law_walk_1 (e : EX) : FE := (fVar 7)
noncomputable def M._law_walk_2 (e : EX) : FT := (tBl (fBin dEq (fBin dIx (fCall (M._law_ends e) (aCons (fVar 1) (aCons (fVar 7) aNil))) (fC (.int 0))) (fVar 3)))
noncomputable def M._law_walk_3 (e : EX) : FS := (sSeq (sSet 6 (fComp (iRg1 (aCons (fVar 2) aNil)) (gNm 7) (M._law_walk_2 e) (M._law_walk_1 e) [7])) (sIf (tBl (fBin dGt (fB cLen (aCons (fVar 6) aNil)) (fC (.int 0)))) (sSeq (sSet 7 (fBin dIx (fVar 6) (fBin dMod (fCall (M._law_draw e) (aCons (fVar 0) aNil)) (fB cLen (aCons (fVar 6) aNil))))) (sSeq (sSet 4 (fBin dAdd (fVar 4) (fTup (aCons (fVar 7) aNil)))) (sSet 3 (fBin dIx (fCall (M._law_ends e) (aCons (fVar 1) (aCons (fVar 7) aNil))) (fC (.int 1)))))) sNil))
noncomputable def M.b__law_walk (e : EX) : FS := (sSeq (sSet 2 (fBin dAdd (fB cLen (aCons (fBin dIx (fVar 1) (fC (.int 1))) aNil)) (fB cLen (aCons (fBin dIx (fVar 1) (fC (.int 2))) aNil)))) (sSeq (sSet 3 (fBin dMod (fCall (M._law_draw e) (aCons (fVar 0) aNil)) (fBin dIx (fVar 1) (fC (.int 0))))) (sSeq (sSet 4 (fTup aNil)) (sSeq (sFor (iRg1 (aCons (fBin dMod (fCall (M._law_draw e) (aCons (fVar 0) aNil)) (fC (.int 10))) aNil)) (gNm 5) (M._law_walk_3 e)) (sRet (fVar 4))))))
noncomputable def M._law_walk (e : EX) : Fn := (runF 8 (M.b__law_walk e))
noncomputable def M._law_need_1 (e : EX) : FS := (sSeq (sSet 7 (fCall (M._law_ends e) (aCons (fVar 0) (aCons (fVar 6) aNil)))) (sSeq (sIf (tBl (fBin dGe (fVar 6) (fB cLen (aCons (fBin dIx (fVar 0) (fC (.int 1))) aNil)))) (sExpr (fM mAppend (fVar 5) (aCons (fUn dNeg (fVar 2)) aNil))) sNil) (sSeq (sSet 2 (fBin dAdd (fVar 2) (fBin dIx (fVar 7) (fC (.int 2))))) (sSeq (sSet 3 (fBin dAdd (fVar 3) (fBin dIx (fVar 7) (fC (.int 3))))) (sSet 4 (fLst (aCons (fB cMin2 (aCons (fBin dIx (fVar 4) (fC (.int 0))) (aCons (fVar 2) aNil))) (aCons (fB cMin2 (aCons (fBin dIx (fVar 4) (fC (.int 1))) (aCons (fVar 3) aNil))) aNil))))))))
noncomputable def M.b__law_need (e : EX) : FS := (sSeq (sSet 2 (fC (.int 0))) (sSeq (sSet 3 (fC (.int 0))) (sSeq (sSet 4 (fLst (aCons (fC (.int 0)) (aCons (fC (.int 0)) aNil)))) (sSeq (sSet 5 (fNew aNil)) (sSeq (sFor (iSeq (fVar 1)) (gNm 6) (M._law_need_1 e)) (sSeq (sIf (tBl (fBin dEq (fB cLen (aCons (fVar 5) aNil)) (fC (.int 0)))) (sRet (fTup (aCons (fUn dNeg (fBin dIx (fVar 4) (fC (.int 0)))) (aCons (fUn dNeg (fBin dIx (fVar 4) (fC (.int 1)))) (aCons (fC (.bl false)) aNil))))) sNil) (sSeq (sIf (tOrD (tBl (fBin dNeE (fVar 5) (fBin dMul (fLst (aCons (fBin dIx (fVar 5) (fC (.int 0))) aNil)) (fB cLen (aCons (fVar 5) aNil))))) (tBl (fBin dLt (fBin dAdd (fBin dIx (fVar 5) (fC (.int 0))) (fBin dIx (fVar 4) (fC (.int 0)))) (fC (.int 0))))) (sRet (fC .non)) sNil) (sRet (fTup (aCons (fBin dIx (fVar 5) (fC (.int 0))) (aCons (fUn dNeg (fBin dIx (fVar 4) (fC (.int 1)))) (aCons (fC (.bl true)) aNil))))))))))))
noncomputable def M._law_need (e : EX) : Fn := frz (runF 8 (M.b__law_need e))
noncomputable def M._law_is_walk_1 (e : EX) : FS := (sIf (tBl (fBin dNe (fBin dIx (fCall (M._law_ends e) (aCons (fVar 0) (aCons (fBin dIx (fVar 1) (fBin dSub (fVar 2) (fC (.int 1)))) aNil))) (fC (.int 1))) (fBin dIx (fCall (M._law_ends e) (aCons (fVar 0) (aCons (fBin dIx (fVar 1) (fVar 2)) aNil))) (fC (.int 0))))) (sRet (fC (.bl false))) sNil)
noncomputable def M.b__law_is_walk (e : EX) : FS := (sSeq (sFor (iRg2 (aCons (fC (.int 1)) (aCons (fB cLen (aCons (fVar 1) aNil)) aNil))) (gNm 2) (M._law_is_walk_1 e)) (sRet (fC (.bl true))))
noncomputable def M._law_is_walk (e : EX) : Fn := (runF 3 (M.b__law_is_walk e))
noncomputable def M.need_of_1 (e : EX) : FS := (sIf (tTru (fCall (M.is_test e) (aCons (fVar 0) (aCons (fVar 7) aNil)))) (sSeq (sIf (tAndD (tBl (fBin dIsNot (fVar 6) (fC .non))) (tBl (fBin dNe (fVar 6) (fUn dNeg (fVar 2))))) (sRet (fC .non)) sNil) (sSet 6 (fUn dNeg (fVar 2)))) (sSeq (sSet 8 (fCall (M.change_of e) (aCons (fVar 0) (aCons (fVar 7) aNil)))) (sSeq (sAug 2 (dI (fun _ _ => true) fun i j => .int (i + j)) (fBin dIx (fVar 8) (fC (.int 0)))) (sSeq (sAug 3 (dI (fun _ _ => true) fun i j => .int (i + j)) (fBin dIx (fVar 8) (fC (.int 1)))) (sSeq (sSet 4 (fB cMax2 (aCons (fVar 4) (aCons (fUn dNeg (fVar 2)) aNil)))) (sSet 5 (fB cMax2 (aCons (fVar 5) (aCons (fUn dNeg (fVar 3)) aNil)))))))))
noncomputable def M.b_need_of (e : EX) : FS := (sSeq (sSet 2 (fC (.int 0))) (sSeq (sSet 3 (fC (.int 0))) (sSeq (sSet 4 (fC (.int 0))) (sSeq (sSet 5 (fC (.int 0))) (sSeq (sSet 6 (fC .non)) (sSeq (sFor (iSeq (fVar 1)) (gNm 7) (M.need_of_1 e)) (sSeq (sIf (tBl (fBin dIs (fVar 6) (fC .non))) (sRet (fTup (aCons (fVar 4) (aCons (fVar 5) (aCons (fC (.bl false)) aNil))))) sNil) (sSeq (sIf (tBl (fBin dLt (fVar 6) (fVar 4))) (sRet (fC .non)) sNil) (sRet (fTup (aCons (fVar 6) (aCons (fVar 5) (aCons (fC (.bl true)) aNil)))))))))))))
noncomputable def M.need_of (e : EX) : Fn := (runF 9 (M.b_need_of e))
noncomputable def M.walks_1 (e : EX) : FS := (sIf (tBl (fBin dNe (fCall (M.source_of e) (aCons (fVar 0) (aCons (fBin dIx (fVar 1) (fVar 2)) aNil))) (fCall (M.target_of e) (aCons (fVar 0) (aCons (fBin dIx (fVar 1) (fBin dSub (fVar 2) (fC (.int 1)))) aNil))))) (sRet (fC (.bl false))) sNil)
noncomputable def M.b_walks (e : EX) : FS := (sSeq (sFor (iRg2 (aCons (fC (.int 1)) (aCons (fB cLen (aCons (fVar 1) aNil)) aNil))) (gNm 2) (M.walks_1 e)) (sRet (fC (.bl true))))
noncomputable def M.walks (e : EX) : Fn := (runF 3 (M.b_walks e))
noncomputable def M.b_need (e : EX) : FS := (sSeq (sExpr (fCall (M.check_program e) (aCons (fVar 0) aNil))) (sSeq (sExpr (fCall (M.check_word e) (aCons (fVar 0) (aCons (fVar 1) aNil)))) (sSeq (sIf (tNotD (tTru (fCall (M.walks e) (aCons (fVar 0) (aCons (fVar 1) aNil))))) (sRaise (e.x .BadArgument)) sNil) (sRet (fCall (M.need_of e) (aCons (fVar 0) (aCons (fVar 1) aNil)))))))
noncomputable def M.need (e : EX) : Fn := (runF 2 (M.b_need e))
noncomputable def M.effect_of_1 (e : EX) : FS := (sSeq (sSet 5 (fCall (M.change_of e) (aCons (fVar 0) (aCons (fVar 4) aNil)))) (sSeq (sAug 2 (dI (fun _ _ => true) fun i j => .int (i + j)) (fBin dIx (fVar 5) (fC (.int 0)))) (sAug 3 (dI (fun _ _ => true) fun i j => .int (i + j)) (fBin dIx (fVar 5) (fC (.int 1))))))
noncomputable def M.b_effect_of (e : EX) : FS := (sSeq (sSet 2 (fC (.int 0))) (sSeq (sSet 3 (fC (.int 0))) (sSeq (sFor (iSeq (fVar 1)) (gNm 4) (M.effect_of_1 e)) (sRet (fTup (aCons (fVar 2) (aCons (fVar 3) aNil)))))))
noncomputable def M.effect_of (e : EX) : Fn := (runF 6 (M.b_effect_of e))
noncomputable def M.b_effect (e : EX) : FS := (sSeq (sExpr (fCall (M.check_program e) (aCons (fVar 0) aNil))) (sSeq (sExpr (fCall (M.check_word e) (aCons (fVar 0) (aCons (fVar 1) aNil)))) (sRet (fCall (M.effect_of e) (aCons (fVar 0) (aCons (fVar 1) aNil))))))
noncomputable def M.effect (e : EX) : Fn := (runF 2 (M.b_effect e))
noncomputable def M.b_is_walk (e : EX) : FS := (sSeq (sExpr (fCall (M.check_program e) (aCons (fVar 0) aNil))) (sSeq (sExpr (fCall (M.check_word e) (aCons (fVar 0) (aCons (fVar 1) aNil)))) (sRet (fCall (M.walks e) (aCons (fVar 0) (aCons (fVar 1) aNil))))))
noncomputable def M.is_walk (e : EX) : Fn := (runF 2 (M.b_is_walk e))
noncomputable def M.b_rings (e : EX) : FS := (sRet (fAnd (fBin dGt (fB cLen (aCons (fVar 1) aNil)) (fC (.int 0))) (fAnd (fCall (M.walks e) (aCons (fVar 0) (aCons (fVar 1) aNil))) (fBin dEq (fCall (M.target_of e) (aCons (fVar 0) (aCons (fBin dIx (fVar 1) (fUn dNeg (fC (.int 1)))) aNil))) (fCall (M.source_of e) (aCons (fVar 0) (aCons (fBin dIx (fVar 1) (fC (.int 0))) aNil)))))))
noncomputable def M.rings (e : EX) : Fn := (runF 2 (M.b_rings e))
noncomputable def M.b_is_ring (e : EX) : FS := (sSeq (sExpr (fCall (M.check_program e) (aCons (fVar 0) aNil))) (sSeq (sExpr (fCall (M.check_word e) (aCons (fVar 0) (aCons (fVar 1) aNil)))) (sRet (fCall (M.rings e) (aCons (fVar 0) (aCons (fVar 1) aNil))))))
noncomputable def M.is_ring (e : EX) : Fn := (runF 2 (M.b_is_ring e))
noncomputable def M.b__law_refused_v2 (e : EX) : FS := (sSeq (sTry e.em (sIf (tBl (fBin dEq (fVar 0) (fC (.str "need")))) (sExpr (fCall (M.need e) (aCons (fVar 1) (aCons (fVar 2) aNil)))) (sIf (tBl (fBin dEq (fVar 0) (fC (.str "effect")))) (sExpr (fCall (M.effect e) (aCons (fVar 1) (aCons (fVar 2) aNil)))) (sIf (tBl (fBin dEq (fVar 0) (fC (.str "walk")))) (sExpr (fCall (M.is_walk e) (aCons (fVar 1) (aCons (fVar 2) aNil)))) (sExpr (fCall (M.is_ring e) (aCons (fVar 1) (aCons (fVar 2) aNil))))))) ((.ref (e.x .BadArgument), (sRet (fC (.bl true)))) :: [])) (sRet (fC (.bl false))))
noncomputable def M._law_refused_v2 (e : EX) : Fn := (runF 3 (M.b__law_refused_v2 e))
noncomputable def M.b__law_least (e : EX) : FS := (sSeq (sSet 3 (fBin dIx (fCall (M._law_ends e) (aCons (fVar 0) (aCons (fBin dIx (fVar 1) (fC (.int 0))) aNil))) (fC (.int 0)))) (sSeq (sAsg (gTp 3 (gsCons (gNm 4) (gsCons (gNm 5) (gsCons (gNm 6) gsNil)))) (fVar 2)) (sSeq (sSet 7 (fBin dPow (fC (.int 10)) (fC (.int 20)))) (sSeq (sIf (tOrD (tBl (fBin dIs (fCall (M.play e) (aCons (fVar 0) (aCons (fTup (aCons (fVar 3) (aCons (fVar 4) (aCons (fVar 5) aNil)))) (aCons (fVar 1) aNil)))) (fC .non))) (tBl (fBin dIs (fCall (M.play e) (aCons (fVar 0) (aCons (fTup (aCons (fVar 3) (aCons (fVar 4) (aCons (fBin dAdd (fVar 5) (fVar 7)) aNil)))) (aCons (fVar 1) aNil)))) (fC .non)))) (sRet (fC (.bl false))) sNil) (sSeq (sIf (tAndD (tBl (fBin dGt (fVar 4) (fC (.int 0)))) (tBl (fBin dIsNot (fCall (M.play e) (aCons (fVar 0) (aCons (fTup (aCons (fVar 3) (aCons (fBin dSub (fVar 4) (fC (.int 1))) (aCons (fBin dAdd (fVar 5) (fC (.int 9))) aNil)))) (aCons (fVar 1) aNil)))) (fC .non)))) (sRet (fC (.bl false))) sNil) (sSeq (sIf (tAndD (tBl (fBin dGt (fVar 5) (fC (.int 0)))) (tBl (fBin dIsNot (fCall (M.play e) (aCons (fVar 0) (aCons (fTup (aCons (fVar 3) (aCons (fVar 4) (aCons (fBin dSub (fVar 5) (fC (.int 1))) aNil)))) (aCons (fVar 1) aNil)))) (fC .non)))) (sRet (fC (.bl false))) sNil) (sRet (fBin dEq (fBin dIs (fCall (M.play e) (aCons (fVar 0) (aCons (fTup (aCons (fVar 3) (aCons (fBin dAdd (fVar 4) (fVar 7)) (aCons (fVar 5) aNil)))) (aCons (fVar 1) aNil)))) (fC .non)) (fVar 6)))))))))
noncomputable def M._law_least (e : EX) : Fn := (runF 8 (M.b__law_least e))
noncomputable def M.b__law_is_ring (e : EX) : FS := (sSeq (sIf (tOrD (tBl (fBin dEq (fB cLen (aCons (fVar 1) aNil)) (fC (.int 0)))) (tNotD (tTru (fCall (M._law_is_walk e) (aCons (fVar 0) (aCons (fVar 1) aNil)))))) (sRet (fC (.bl false))) sNil) (sRet (fBin dEq (fBin dIx (fCall (M._law_ends e) (aCons (fVar 0) (aCons (fBin dIx (fVar 1) (fC (.int 0))) aNil))) (fC (.int 0))) (fBin dIx (fCall (M._law_ends e) (aCons (fVar 0) (aCons (fBin dIx (fVar 1) (fBin dSub (fB cLen (aCons (fVar 1) aNil)) (fC (.int 1)))) aNil))) (fC (.int 1))))))
noncomputable def M._law_is_ring (e : EX) : Fn := (runF 2 (M.b__law_is_ring e))
noncomputable def M._law_effect_1 (e : EX) : FS := (sSeq (sSet 5 (fCall (M._law_ends e) (aCons (fVar 0) (aCons (fVar 4) aNil)))) (sSeq (sSet 2 (fBin dAdd (fVar 2) (fBin dIx (fVar 5) (fC (.int 2))))) (sSet 3 (fBin dAdd (fVar 3) (fBin dIx (fVar 5) (fC (.int 3)))))))
noncomputable def M.b__law_effect (e : EX) : FS := (sSeq (sSet 2 (fC (.int 0))) (sSeq (sSet 3 (fC (.int 0))) (sSeq (sFor (iSeq (fVar 1)) (gNm 4) (M._law_effect_1 e)) (sRet (fTup (aCons (fVar 2) (aCons (fVar 3) aNil)))))))
noncomputable def M._law_effect (e : EX) : Fn := (runF 6 (M.b__law_effect e))
noncomputable def M.b__law_right_v2 (e : EX) : FS := (sSeq (sIf (tNotD (tTru (fCall (M._law_equal e) (aCons (fCall (M.is_walk e) (aCons (fVar 0) (aCons (fVar 1) aNil))) (aCons (fCall (M._law_is_walk e) (aCons (fVar 0) (aCons (fVar 1) aNil))) aNil))))) (sRet (fC (.bl false))) sNil) (sSeq (sIf (tNotD (tTru (fCall (M._law_equal e) (aCons (fCall (M.is_ring e) (aCons (fVar 0) (aCons (fVar 1) aNil))) (aCons (fCall (M._law_is_ring e) (aCons (fVar 0) (aCons (fVar 1) aNil))) aNil))))) (sRet (fC (.bl false))) sNil) (sSeq (sIf (tNotD (tTru (fCall (M._law_equal e) (aCons (fCall (M.effect e) (aCons (fVar 0) (aCons (fVar 1) aNil))) (aCons (fCall (M._law_effect e) (aCons (fVar 0) (aCons (fVar 1) aNil))) aNil))))) (sRet (fC (.bl false))) sNil) (sSeq (sIf (tNotD (tTru (fCall (M._law_is_walk e) (aCons (fVar 0) (aCons (fVar 1) aNil))))) (sRet (fCall (M._law_refused_v2 e) (aCons (fC (.str "need")) (aCons (fVar 0) (aCons (fVar 1) aNil))))) sNil) (sSeq (sSet 2 (fCall (M._law_need e) (aCons (fVar 0) (aCons (fVar 1) aNil)))) (sSeq (sIf (tNotD (tTru (fCall (M._law_equal e) (aCons (fCall (M.need e) (aCons (fVar 0) (aCons (fVar 1) aNil))) (aCons (fVar 2) aNil))))) (sRet (fC (.bl false))) sNil) (sRet (fOr (fBin dIs (fVar 2) (fC .non)) (fOr (fBin dEq (fB cLen (aCons (fVar 1) aNil)) (fC (.int 0))) (fCall (M._law_least e) (aCons (fVar 0) (aCons (fVar 1) (aCons (fVar 2) aNil)))))))))))))
noncomputable def M._law_right_v2 (e : EX) : Fn := (runF 3 (M.b__law_right_v2 e))
noncomputable def M.law_v6_1 (e : EX) : FE := (fBin dMod (fCall (M._law_draw e) (aCons (fVar 1) aNil)) (fVar 3))
noncomputable def M.law_v6_2 (e : EX) : FS := (sIf (tNotD (tTru (fCall (M._law_right_v2 e) (aCons (fVar 2) (aCons (fVar 5) aNil))))) (sRet (fC (.bl false))) sNil)
noncomputable def M.law_v6_3 (e : EX) : FS := (sIf (tNotD (tTru (fCall (M._law_refused_v2 e) (aCons (fVar 8) (aCons (fVar 2) (aCons (fVar 7) aNil)))))) (sRet (fC (.bl false))) sNil)
noncomputable def M.b_law_v6 (e : EX) : FS := (sSeq (sSet 1 (fNew (aCons (fCall (M._law_numbers e) (aCons (fVar 0) aNil)) (aCons (fC (.int 0)) aNil)))) (sSeq (sSet 2 (fCall (M._law_program e) (aCons (fVar 1) aNil))) (sSeq (sSet 3 (fBin dAdd (fB cLen (aCons (fBin dIx (fVar 2) (fC (.int 1))) aNil)) (fB cLen (aCons (fBin dIx (fVar 2) (fC (.int 2))) aNil)))) (sSeq (sSet 4 (fNew (aCons (fTup aNil) (aCons (fCall (M._law_walk e) (aCons (fVar 1) (aCons (fVar 2) aNil))) (aCons (fCall (M._law_walk e) (aCons (fVar 1) (aCons (fVar 2) aNil))) (aCons (fCall (M._law_walk e) (aCons (fVar 1) (aCons (fVar 2) aNil))) aNil)))))) (sSeq (sIf (tBl (fBin dGt (fVar 3) (fC (.int 0)))) (sExpr (fM mAppend (fVar 4) (aCons (fB cTup (aCons (fComp (iRg1 (aCons (fBin dMod (fCall (M._law_draw e) (aCons (fVar 1) aNil)) (fC (.int 6))) aNil)) (gNm 9) tYesD (M.law_v6_1 e) [9]) aNil)) aNil))) sNil) (sSeq (sExpr (fM mAppend (fVar 4) (aCons (fBin dMulE (fBin dIx (fVar 4) (fC (.int 2))) (fC (.int 300))) aNil))) (sSeq (sFor (iSeq (fVar 4)) (gNm 5) (M.law_v6_2 e)) (sSeq (sSet 5 (fBin dIx (fVar 4) (fBin dAdd (fC (.int 1)) (fBin dMod (fCall (M._law_draw e) (aCons (fVar 1) aNil)) (fBin dSub (fB cLen (aCons (fVar 4) aNil)) (fC (.int 2))))))) (sSeq (sSet 6 (fBin dMod (fCall (M._law_draw e) (aCons (fVar 1) aNil)) (fBin dAdd (fB cLen (aCons (fVar 5) aNil)) (fC (.int 1))))) (sSeq (sSet 7 (fBin dAdd (fBin dAdd (fCut (fVar 5) oNone (oSome (fVar 6))) (fTup (aCons (fBin dIx (fLst (aCons (fVar 3) (aCons (fUn dNeg (fC (.int 1))) (aCons (fBin dPow (fC (.int 10)) (fC (.int 30))) (aCons (fC (.bl true)) (aCons (fC (.bl false)) aNil)))))) (fBin dMod (fCall (M._law_draw e) (aCons (fVar 1) aNil)) (fC (.int 5)))) aNil))) (fCut (fVar 5) (oSome (fVar 6)) oNone))) (sSeq (sFor (iSeq (fLst (aCons (fC (.str "effect")) (aCons (fC (.str "walk")) (aCons (fC (.str "ring")) (aCons (fC (.str "need")) aNil)))))) (gNm 8) (M.law_v6_3 e)) (sRet (fC (.bl true))))))))))))))
noncomputable def M.law_v6 (e : EX) : Fn := (runF 10 (M.b_law_v6 e))
noncomputable def M.b__law_leaf (e : EX) : FS := (sSeq (sSet 1 (fBin dMod (fCall (M._law_draw e) (aCons (fVar 0) aNil)) (fC (.int 5)))) (sSeq (sIf (tBl (fBin dEq (fVar 1) (fC (.int 0)))) (sRet (fTup (aCons (fC (.str "room")) (aCons (fBin dMod (fCall (M._law_draw e) (aCons (fVar 0) aNil)) (fC (.int 3))) aNil)))) sNil) (sSeq (sSet 2 (fBin dSub (fBin dMod (fCall (M._law_draw e) (aCons (fVar 0) aNil)) (fC (.int 13))) (fC (.int 6)))) (sSeq (sSet 3 (fBin dSub (fBin dMod (fCall (M._law_draw e) (aCons (fVar 0) aNil)) (fC (.int 13))) (fC (.int 6)))) (sSeq (sIf (tBl (fBin dLt (fVar 1) (fC (.int 3)))) (sSeq (sSet 4 (fBin dMod (fCall (M._law_draw e) (aCons (fVar 0) aNil)) (fC (.int 2)))) (sRet (fTup (aCons (fC (.str "most")) (aCons (fVar 2) (aCons (fVar 3) (aCons (fBin dSub (fBin dMod (fCall (M._law_draw e) (aCons (fVar 0) aNil)) (fBin dIx (fLst (aCons (fC (.int 21)) (aCons (fC (.int 199)) aNil))) (fVar 4))) (fBin dIx (fLst (aCons (fC (.int 10)) (aCons (fC (.int 99)) aNil))) (fVar 4))) aNil))))))) sNil) (sSeq (sSet 5 (fBin dAdd (fC (.int 2)) (fBin dMod (fCall (M._law_draw e) (aCons (fVar 0) aNil)) (fC (.int 5))))) (sRet (fTup (aCons (fC (.str "rest")) (aCons (fVar 2) (aCons (fVar 3) (aCons (fVar 5) (aCons (fBin dMod (fCall (M._law_draw e) (aCons (fVar 0) aNil)) (fVar 5)) aNil)))))))))))))
noncomputable def M._law_leaf (e : EX) : Fn := (runF 6 (M.b__law_leaf e))
noncomputable def M._law_question_1 (e : EX) : FE := (fCall (M._law_leaf e) (aCons (fVar 0) aNil))
noncomputable def M._law_question_2 (e : EX) : FE := (fBin dIx (fVar 1) (fVar 6))
noncomputable def M._law_question_3 (e : EX) : FT := (tAndD (tBl (fBin dNe (fVar 6) (fVar 3))) (tBl (fBin dNe (fVar 6) (fVar 4))))
noncomputable def M._law_question_4 (e : EX) : FT := (tOrD (tBl (fBin dGt (fB cLen (aCons (fVar 1) aNil)) (fC (.int 1)))) (tAndD (tBl (fBin dGt (fVar 2) (fC (.int 3)))) (tBl (fBin dEq (fBin dMod (fCall (M._law_draw e) (aCons (fVar 0) aNil)) (fC (.int 2))) (fC (.int 0))))))
noncomputable def M._law_question_5 (e : EX) : FS := (sSeq (sSet 2 (fBin dSub (fVar 2) (fC (.int 1)))) (sSeq (sSet 3 (fBin dMod (fCall (M._law_draw e) (aCons (fVar 0) aNil)) (fB cLen (aCons (fVar 1) aNil)))) (sIf (tOrD (tBl (fBin dEq (fB cLen (aCons (fVar 1) aNil)) (fC (.int 1)))) (tAndD (tBl (fBin dGe (fVar 2) (fB cLen (aCons (fVar 1) aNil)))) (tBl (fBin dEq (fBin dMod (fCall (M._law_draw e) (aCons (fVar 0) aNil)) (fC (.int 3))) (fC (.int 0)))))) (sPut (fVar 1) (fVar 3) (fTup (aCons (fC (.str "not")) (aCons (fBin dIx (fVar 1) (fVar 3)) aNil)))) (sSeq (sSet 4 (fBin dMod (fBin dAdd (fVar 3) (fC (.int 1))) (fB cLen (aCons (fVar 1) aNil)))) (sSeq (sSet 5 (fTup (aCons (fBin dIx (fLst (aCons (fC (.str "and")) (aCons (fC (.str "or")) aNil))) (fBin dMod (fCall (M._law_draw e) (aCons (fVar 0) aNil)) (fC (.int 2)))) (aCons (fBin dIx (fVar 1) (fVar 3)) (aCons (fBin dIx (fVar 1) (fVar 4)) aNil))))) (sSet 1 (fAddN (fComp (iRg1 (aCons (fB cLen (aCons (fVar 1) aNil)) aNil)) (gNm 6) (M._law_question_3 e) (M._law_question_2 e) [6]) (fLst (aCons (fVar 5) aNil)))))))))
noncomputable def M.b__law_question (e : EX) : FS := (sSeq (sSet 1 (fCompN (iRg1 (aCons (fBin dAdd (fC (.int 1)) (fBin dMod (fCall (M._law_draw e) (aCons (fVar 0) aNil)) (fC (.int 4)))) aNil)) (gNm 6) tYesD (M._law_question_1 e) [6])) (sSeq (sSet 2 (fC (.int 7))) (sSeq (whileF (M._law_question_4 e) (M._law_question_5 e) e.nW) (sRet (fBin dIx (fVar 1) (fC (.int 0)))))))
noncomputable def M._law_question (e : EX) : Fn := frz (runF 7 (M.b__law_question e))
noncomputable def M.b__law_standing (e : EX) : FS := (sSeq (sSet 1 (fBin dIx (fLst (aCons (fC (.int 6)) (aCons (fC (.int 30)) (aCons (fC (.int 1000000)) (aCons (fBin dPow (fC (.int 10)) (fC (.int 20))) (aCons (fBin dPow (fC (.int 10)) (fC (.int 45))) aNil)))))) (fBin dMod (fCall (M._law_draw e) (aCons (fVar 0) aNil)) (fC (.int 5))))) (sSeq (sSet 2 (fBin dMod (fBin dAdd (fBin dMul (fBin dMul (fBin dMul (fCall (M._law_draw e) (aCons (fVar 0) aNil)) (fC (.int 1000003))) (fC (.int 999983))) (fBin dAdd (fBin dPow (fC (.int 10)) (fC (.int 6))) (fBin dPow (fC (.int 10)) (fC (.int 30))))) (fCall (M._law_draw e) (aCons (fVar 0) aNil))) (fVar 1))) (sSeq (sSet 3 (fBin dMod (fBin dAdd (fBin dMul (fBin dMul (fBin dMul (fCall (M._law_draw e) (aCons (fVar 0) aNil)) (fC (.int 1000033))) (fC (.int 999979))) (fBin dAdd (fBin dPow (fC (.int 10)) (fC (.int 6))) (fBin dPow (fC (.int 10)) (fC (.int 30))))) (fCall (M._law_draw e) (aCons (fVar 0) aNil))) (fVar 1))) (sRet (fTup (aCons (fBin dMod (fCall (M._law_draw e) (aCons (fVar 0) aNil)) (fC (.int 3))) (aCons (fVar 2) (aCons (fVar 3) aNil))))))))
noncomputable def M._law_standing (e : EX) : Fn := (runF 4 (M.b__law_standing e))
noncomputable def M.b_is_plain (e : EX) : FS := (sSeq (sSet 1 (fBin dIx (fVar 0) (fC (.int 0)))) (sSeq (sIf (tBl (fBin dEq (fVar 1) (fC (.str "room")))) (sRet (fAnd (fBin dEq (fB cLen (aCons (fVar 0) aNil)) (fC (.int 2))) (fCall (M.is_within e) (aCons (fBin dIx (fVar 0) (fC (.int 1))) (aCons (fC (.int 0)) (aCons (fBin dSub (fC (.int 3)) (fC (.int 1))) aNil)))))) sNil) (sSeq (sIf (tOrD (tBl (fBin (dInT true) (fVar 1) (fTup (aCons (fC (.str "most")) (aCons (fC (.str "rest")) aNil))))) (tBl (fBin dNe (fB cLen (aCons (fVar 0) aNil)) (fIf (tBl (fBin dEq (fVar 1) (fC (.str "most")))) (fC (.int 4)) (fC (.int 5)))))) (sRet (fC (.bl false))) sNil) (sSeq (sIf (tOrD (tNotD (tTru (fCall (M.is_within e) (aCons (fBin dIx (fVar 0) (fC (.int 1))) (aCons (fUn dNeg (fC (.int 6))) (aCons (fC (.int 6)) aNil)))))) (tNotD (tTru (fCall (M.is_within e) (aCons (fBin dIx (fVar 0) (fC (.int 2))) (aCons (fUn dNeg (fC (.int 6))) (aCons (fC (.int 6)) aNil))))))) (sRet (fC (.bl false))) sNil) (sSeq (sIf (tBl (fBin dEq (fVar 1) (fC (.str "most")))) (sRet (fCall (M.is_within e) (aCons (fBin dIx (fVar 0) (fC (.int 3))) (aCons (fUn dNeg (fC (.int 99))) (aCons (fC (.int 99)) aNil))))) sNil) (sRet (fAnd (fCall (M.is_within e) (aCons (fBin dIx (fVar 0) (fC (.int 3))) (aCons (fC (.int 2)) (aCons (fC (.int 6)) aNil)))) (fCall (M.is_within e) (aCons (fBin dIx (fVar 0) (fC (.int 4))) (aCons (fC (.int 0)) (aCons (fBin dSub (fBin dIx (fVar 0) (fC (.int 3))) (fC (.int 1))) aNil)))))))))))
noncomputable def M.is_plain (e : EX) : Fn := (runF 2 (M.b_is_plain e))
noncomputable def M.is_question_1 (e : EX) : FT := (tTru (fVar 1))
noncomputable def M.is_question_2 (e : EX) : FS := (sSeq (sSet 4 (fM mPop (fVar 1) aNil)) (sSeq (sIf (tOrD (tNotD (tTru (fB cIsi (aCons (fVar 4) (aCons (fC (.cst (.ty "tuple"))) aNil))))) (tOrD (tNotD (tTru (fVar 4))) (tNotD (tTru (fB cIsi (aCons (fBin dIx (fVar 4) (fC (.int 0))) (aCons (fC (.cst (.ty "str"))) aNil))))))) (sRet (fC (.bl false))) sNil) (sSeq (sIf (tBl (fBin (dInT false) (fBin dIx (fVar 4) (fC (.int 0))) (fTup (aCons (fC (.str "not")) (aCons (fC (.str "and")) (aCons (fC (.str "or")) aNil)))))) (sSeq (sIf (tBl (fBin dNe (fB cLen (aCons (fVar 4) aNil)) (fIf (tBl (fBin dEq (fBin dIx (fVar 4) (fC (.int 0))) (fC (.str "not")))) (fC (.int 2)) (fC (.int 3))))) (sRet (fC (.bl false))) sNil) (sSeq (sSet 3 (fBin dAdd (fVar 3) (fC (.int 1)))) (sExpr (fM mExtend (fVar 1) (aCons (fB cLst (aCons (fCut (fVar 4) (oSome (fC (.int 1))) oNone) aNil)) aNil))))) (sIf (tTru (fCall (M.is_plain e) (aCons (fVar 4) aNil))) (sSet 2 (fBin dAdd (fVar 2) (fC (.int 1)))) (sRet (fC (.bl false))))) (sIf (tOrD (tBl (fBin dGt (fVar 2) (fC (.int 4)))) (tBl (fBin dGt (fVar 3) (fC (.int 6))))) (sRet (fC (.bl false))) sNil))))
noncomputable def M.b_is_question (e : EX) : FS := (sSeq (sSet 1 (fNew (aCons (fVar 0) aNil))) (sSeq (sSet 2 (fC (.int 0))) (sSeq (sSet 3 (fC (.int 0))) (sSeq (whileF (M.is_question_1 e) (M.is_question_2 e) e.nW) (sRet (fC (.bl true)))))))
noncomputable def M.is_question (e : EX) : Fn := frz (runF 5 (M.b_is_question e))
noncomputable def M.b_check_question (e : EX) : FS := (sIf (tNotD (tTru (fCall (M.is_question e) (aCons (fVar 0) aNil)))) (sRaise (e.x .BadArgument)) sNil)
noncomputable def M.check_question (e : EX) : Fn := (runF 1 (M.b_check_question e))
noncomputable def M.b_is_so (e : EX) (rec : Fn) : FS := (sSeq (sSet 2 (fBin dIx (fVar 0) (fC (.int 0)))) (sSeq (sAsg (gTp 3 (gsCons (gNm 3) (gsCons (gNm 4) (gsCons (gNm 5) gsNil)))) (fVar 1)) (sSeq (sIf (tBl (fBin dEq (fVar 2) (fC (.str "room")))) (sRet (fBin dEq (fBin dIx (fVar 0) (fC (.int 1))) (fVar 3))) sNil) (sSeq (sIf (tBl (fBin dEq (fVar 2) (fC (.str "most")))) (sRet (fBin dLe (fBin dAdd (fBin dMul (fBin dIx (fVar 0) (fC (.int 1))) (fVar 4)) (fBin dMul (fBin dIx (fVar 0) (fC (.int 2))) (fVar 5))) (fBin dIx (fVar 0) (fC (.int 3))))) sNil) (sSeq (sIf (tBl (fBin dEq (fVar 2) (fC (.str "rest")))) (sRet (fBin dEq (fBin dMod (fBin dAdd (fBin dMul (fBin dIx (fVar 0) (fC (.int 1))) (fVar 4)) (fBin dMul (fBin dIx (fVar 0) (fC (.int 2))) (fVar 5))) (fBin dIx (fVar 0) (fC (.int 3)))) (fBin dIx (fVar 0) (fC (.int 4))))) sNil) (sSeq (sIf (tBl (fBin dEq (fVar 2) (fC (.str "not")))) (sRet (fUn dNot (fCall rec (aCons (fBin dIx (fVar 0) (fC (.int 1))) (aCons (fVar 1) aNil))))) sNil) (sSeq (sIf (tBl (fBin dEq (fVar 2) (fC (.str "and")))) (sRet (fAnd (fCall rec (aCons (fBin dIx (fVar 0) (fC (.int 1))) (aCons (fVar 1) aNil))) (fCall rec (aCons (fBin dIx (fVar 0) (fC (.int 2))) (aCons (fVar 1) aNil))))) sNil) (sRet (fOr (fCall rec (aCons (fBin dIx (fVar 0) (fC (.int 1))) (aCons (fVar 1) aNil))) (fCall rec (aCons (fBin dIx (fVar 0) (fC (.int 2))) (aCons (fVar 1) aNil))))))))))))
noncomputable def M.is_so_n (e : EX) : Nat → Fn
  | 0 => fnStuck
  | n + 1 => (runF 6 (M.b_is_so e (M.is_so_n e n)))
noncomputable def M.is_so (e : EX) : Fn := M.is_so_n e 12
noncomputable def M.b_holds (e : EX) : FS := (sSeq (sExpr (fCall (M.check_question e) (aCons (fVar 0) aNil))) (sSeq (sIf (tNotD (tTru (fCall (M.is_place e) (aCons (fVar 1) aNil)))) (sRaise (e.x .BadStanding)) sNil) (sRet (fCall (M.is_so e) (aCons (fVar 0) (aCons (fVar 1) aNil))))))
noncomputable def M.holds (e : EX) : Fn := (runF 2 (M.b_holds e))
noncomputable def M.b__law_refused_v3 (e : EX) : FS := (sSeq (sTryAs e.em (sExpr (fCall (M.holds e) (aCons (fVar 0) (aCons (fVar 1) aNil)))) (.ref (e.x .BadStanding)) 2 (fun v b => (sRet (fUn dNot (fB (cIsE e.km v b) (aCons (fVar 2) (aCons (fC (.cst (.ref (e.x .BadArgument)))) aNil))))))) (sRet (fC (.bl false))))
noncomputable def M._law_refused_v3 (e : EX) : Fn := (runF 3 (M.b__law_refused_v3 e))
noncomputable def M.b__law_equal_v2 (e : EX) (rec : Fn) : FS := (sSeq (sIf (tTru (fB cIsi (aCons (fVar 1) (aCons (fC (.cst (.ty "list"))) aNil)))) (sSeq (sIf (tOrD (tNotD (tTru (fB cIsi (aCons (fVar 0) (aCons (fC (.cst (.ty "list"))) aNil))))) (tBl (fBin dNe (fB cLen (aCons (fVar 0) aNil)) (fB cLen (aCons (fVar 1) aNil))))) (sRet (fC (.bl false))) sNil) (sRet (fCall rec (aCons (fVar 0) (aCons (fVar 1) aNil))))) sNil) (sSeq (sIf (tTru (fB cIsi (aCons (fVar 1) (aCons (fC (.cst (.ty "tuple"))) aNil)))) (sSeq (sIf (tOrD (tNotD (tTru (fB cIsi (aCons (fVar 0) (aCons (fC (.cst (.ty "tuple"))) aNil))))) (tBl (fBin dNe (fB cLen (aCons (fVar 0) aNil)) (fB cLen (aCons (fVar 1) aNil))))) (sRet (fC (.bl false))) sNil) (sRet (fCall rec (aCons (fVar 0) (aCons (fVar 1) aNil))))) sNil) (sSeq (sIf (tTru (fB cIsi (aCons (fVar 1) (aCons (fC (.cst (.ty "bool"))) aNil)))) (sRet (fAnd (fB cIsi (aCons (fVar 0) (aCons (fC (.cst (.ty "bool"))) aNil))) (fBin dEq (fVar 0) (fVar 1)))) sNil) (sSeq (sIf (tTru (fB cIsi (aCons (fVar 1) (aCons (fC (.cst (.ty "int"))) aNil)))) (sRet (fAnd (fB cIsi (aCons (fVar 0) (aCons (fC (.cst (.ty "int"))) aNil))) (fAnd (fUn dNot (fB cIsi (aCons (fVar 0) (aCons (fC (.cst (.ty "bool"))) aNil)))) (fBin dEq (fVar 0) (fVar 1))))) sNil) (sSeq (sIf (tTru (fB cIsi (aCons (fVar 1) (aCons (fC (.cst (.ty "str"))) aNil)))) (sRet (fAnd (fB cIsi (aCons (fVar 0) (aCons (fC (.cst (.ty "str"))) aNil))) (fBin dEq (fVar 0) (fVar 1)))) sNil) (sRet (fBin dIs (fVar 0) (fC .non))))))))
noncomputable def M._law_equal_v2_n (e : EX) : Nat → Fn
  | 0 => fnStuck
  | n + 1 => runF 2 (M.b__law_equal_v2 e (M._law_all_equal_r e (M._law_equal_v2_n e n)))
noncomputable def M._law_equal_v2 (e : EX) : Fn := M._law_equal_v2_n e 6
noncomputable def M.b__law_bad_v3 (e : EX) : FS := (sSeq (sSet 2 (fBin dAdd (fC (.int 1)) (fBin dMod (fCall (M._law_draw e) (aCons (fVar 0) aNil)) (fC (.int 2))))) (sSeq (sSet 3 (fBin dMod (fCall (M._law_draw e) (aCons (fVar 0) aNil)) (fC (.int 6)))) (sSeq (sIf (tBl (fBin dEq (fVar 3) (fC (.int 5)))) (sRet (fBin dIx (fLst (aCons (fC .non) (aCons (fC (.int 5)) (aCons (fC (.str "0 0 0")) aNil)))) (fBin dMod (fCall (M._law_draw e) (aCons (fVar 0) aNil)) (fC (.int 3))))) sNil) (sSeq (sIf (tBl (fBin dEq (fVar 3) (fC (.int 0)))) (sRet (fBin dAdd (fTup (aCons (fBin dIx (fLst (aCons (fUn dNeg (fC (.int 1))) (aCons (fC (.int 3)) (aCons (fC (.bl true)) (aCons (fC .non) aNil))))) (fBin dMod (fCall (M._law_draw e) (aCons (fVar 0) aNil)) (fC (.int 4)))) aNil)) (fCut (fVar 1) (oSome (fC (.int 1))) oNone))) sNil) (sSeq (sIf (tBl (fBin dEq (fVar 3) (fC (.int 1)))) (sRet (fBin dAdd (fBin dAdd (fCut (fVar 1) oNone (oSome (fVar 2))) (fTup (aCons (fBin dIx (fLst (aCons (fUn dNeg (fC (.int 1))) (aCons (fC (.bl true)) (aCons (fC .non) aNil)))) (fBin dMod (fCall (M._law_draw e) (aCons (fVar 0) aNil)) (fC (.int 3)))) aNil))) (fCut (fVar 1) (oSome (fBin dAdd (fVar 2) (fC (.int 1)))) oNone))) sNil) (sSeq (sIf (tBl (fBin dEq (fVar 3) (fC (.int 2)))) (sRet (fB cLst (aCons (fVar 1) aNil))) sNil) (sSeq (sIf (tBl (fBin dEq (fVar 3) (fC (.int 3)))) (sRet (fBin dAdd (fVar 1) (fTup (aCons (fC (.int 0)) aNil)))) sNil) (sRet (fCut (fVar 1) oNone (oSome (fC (.int 2))))))))))))
noncomputable def M._law_bad_v3 (e : EX) : Fn := (runF 4 (M.b__law_bad_v3 e))
noncomputable def M.b__law_holds (e : EX) (rec : Fn) : FS := (sSeq (sSet 2 (fBin dIx (fVar 0) (fC (.int 0)))) (sSeq (sIf (tBl (fBin dEq (fVar 2) (fC (.str "room")))) (sRet (fBin dEq (fBin dIx (fVar 1) (fC (.int 0))) (fBin dIx (fVar 0) (fC (.int 1))))) sNil) (sSeq (sIf (tBl (fBin dEq (fVar 2) (fC (.str "most")))) (sRet (fBin dLe (fBin dAdd (fBin dMul (fBin dIx (fVar 0) (fC (.int 1))) (fBin dIx (fVar 1) (fC (.int 1)))) (fBin dMul (fBin dIx (fVar 0) (fC (.int 2))) (fBin dIx (fVar 1) (fC (.int 2))))) (fBin dIx (fVar 0) (fC (.int 3))))) sNil) (sSeq (sIf (tBl (fBin dEq (fVar 2) (fC (.str "rest")))) (sRet (fBin dEq (fBin dMod (fB cInt (aCons (fBin dAdd (fBin dMul (fBin dIx (fVar 0) (fC (.int 1))) (fBin dIx (fVar 1) (fC (.int 1)))) (fBin dMul (fBin dIx (fVar 0) (fC (.int 2))) (fBin dIx (fVar 1) (fC (.int 2))))) aNil)) (fBin dIx (fVar 0) (fC (.int 3)))) (fBin dIx (fVar 0) (fC (.int 4))))) sNil) (sSeq (sIf (tBl (fBin dEq (fVar 2) (fC (.str "not")))) (sRet (fUn dNot (fCall rec (aCons (fBin dIx (fVar 0) (fC (.int 1))) (aCons (fVar 1) aNil))))) sNil) (sSeq (sIf (tBl (fBin dEq (fVar 2) (fC (.str "and")))) (sRet (fAnd (fCall rec (aCons (fBin dIx (fVar 0) (fC (.int 1))) (aCons (fVar 1) aNil))) (fCall rec (aCons (fBin dIx (fVar 0) (fC (.int 2))) (aCons (fVar 1) aNil))))) sNil) (sRet (fOr (fCall rec (aCons (fBin dIx (fVar 0) (fC (.int 1))) (aCons (fVar 1) aNil))) (fCall rec (aCons (fBin dIx (fVar 0) (fC (.int 2))) (aCons (fVar 1) aNil)))))))))))
noncomputable def M._law_holds_n (e : EX) : Nat → Fn
  | 0 => fnStuck
  | n + 1 => (runF 3 (M.b__law_holds e (M._law_holds_n e n)))
noncomputable def M._law_holds (e : EX) : Fn := M._law_holds_n e 12
noncomputable def M.law_v7_1 (e : EX) : FS := (sSeq (sSet 5 (fCall (M._law_standing e) (aCons (fVar 1) aNil))) (sIf (tNotD (tTru (fCall (M._law_equal_v2 e) (aCons (fCall (M.holds e) (aCons (fVar 3) (aCons (fVar 5) aNil))) (aCons (fCall (M._law_holds e) (aCons (fVar 3) (aCons (fVar 5) aNil))) aNil))))) (sRet (fC (.bl false))) sNil))
noncomputable def M.law_v7_2 (e : EX) : FS := (sSeq (sSet 3 (fCall (M._law_question e) (aCons (fVar 1) aNil))) (sSeq (sFor (iRg1 (aCons (fC (.int 12)) aNil)) (gNm 4) (M.law_v7_1 e)) (sIf (tNotD (tTru (fCall (M._law_refused_v3 e) (aCons (fVar 3) (aCons (fCall (M._law_bad_v3 e) (aCons (fVar 1) (aCons (fVar 5) aNil))) aNil))))) (sRet (fC (.bl false))) sNil)))
noncomputable def M.b_law_v7 (e : EX) : FS := (sSeq (sSet 1 (fNew (aCons (fCall (M._law_numbers e) (aCons (fVar 0) aNil)) (aCons (fC (.int 0)) aNil)))) (sSeq (sFor (iRg1 (aCons (fC (.int 4)) aNil)) (gNm 2) (M.law_v7_2 e)) (sRet (fC (.bl true)))))
noncomputable def M.law_v7 (e : EX) : Fn := (runF 6 (M.b_law_v7 e))
noncomputable def M.b__law_odd (e : EX) : FS := (sRet (fBin dIx (fLst (aCons (fC (.bl true)) (aCons (fC .non) (aCons (fC (.str "1")) (aCons (fTup (aCons (fC (.int 1)) aNil)) (aCons (fC (.int 1000)) aNil)))))) (fBin dMod (fCall (M._law_draw e) (aCons (fVar 0) aNil)) (fC (.int 5)))))
noncomputable def M._law_odd (e : EX) : Fn := (runF 1 (M.b__law_odd e))
noncomputable def M.b__law_spoilt_leaf (e : EX) : FS := (sSeq (sSet 2 (fBin dMod (fCall (M._law_draw e) (aCons (fVar 0) aNil)) (fC (.int 7)))) (sSeq (sSet 3 (fBin dAdd (fC (.int 1)) (fBin dMod (fCall (M._law_draw e) (aCons (fVar 0) aNil)) (fBin dSub (fB cLen (aCons (fVar 1) aNil)) (fC (.int 1)))))) (sSeq (sIf (tBl (fBin dEq (fVar 2) (fC (.int 0)))) (sRet (fB cLst (aCons (fVar 1) aNil))) sNil) (sSeq (sIf (tBl (fBin dEq (fVar 2) (fC (.int 1)))) (sRet (fBin dIx (fLst (aCons (fCut (fVar 1) oNone (oSome (fBin dSub (fB cLen (aCons (fVar 1) aNil)) (fC (.int 1))))) (aCons (fBin dAdd (fVar 1) (fTup (aCons (fC (.int 0)) aNil))) (aCons (fTup aNil) aNil)))) (fBin dMod (fCall (M._law_draw e) (aCons (fVar 0) aNil)) (fC (.int 3))))) sNil) (sSeq (sIf (tBl (fBin dEq (fVar 2) (fC (.int 2)))) (sRet (fBin dAdd (fTup (aCons (fBin dIx (fLst (aCons (fC (.str "Room")) (aCons (fC (.str "least")) (aCons (fC (.str "")) (aCons (fC (.int 0)) (aCons (fC .non) aNil)))))) (fBin dMod (fCall (M._law_draw e) (aCons (fVar 0) aNil)) (fC (.int 5)))) aNil)) (fCut (fVar 1) (oSome (fC (.int 1))) oNone))) sNil) (sSeq (sIf (tBl (fBin dEq (fVar 2) (fC (.int 3)))) (sRet (fBin dAdd (fBin dAdd (fCut (fVar 1) oNone (oSome (fVar 3))) (fTup (aCons (fCall (M._law_odd e) (aCons (fVar 0) aNil)) aNil))) (fCut (fVar 1) (oSome (fBin dAdd (fVar 3) (fC (.int 1)))) oNone))) sNil) (sSeq (sIf (tBl (fBin dEq (fVar 2) (fC (.int 4)))) (sRet (fCall (M._law_odd e) (aCons (fVar 0) aNil))) sNil) (sSeq (sIf (tBl (fBin dEq (fBin dIx (fVar 1) (fC (.int 0))) (fC (.str "room")))) (sRet (fTup (aCons (fC (.str "room")) (aCons (fBin dIx (fLst (aCons (fUn dNeg (fC (.int 1))) (aCons (fC (.int 3)) aNil))) (fBin dMod (fCall (M._law_draw e) (aCons (fVar 0) aNil)) (fC (.int 2)))) aNil)))) sNil) (sSeq (sIf (tBl (fBin dLt (fVar 3) (fC (.int 3)))) (sRet (fBin dAdd (fBin dAdd (fCut (fVar 1) oNone (oSome (fVar 3))) (fTup (aCons (fBin dIx (fLst (aCons (fUn dNeg (fC (.int 7))) (aCons (fC (.int 7)) aNil))) (fBin dMod (fCall (M._law_draw e) (aCons (fVar 0) aNil)) (fC (.int 2)))) aNil))) (fCut (fVar 1) (oSome (fBin dAdd (fVar 3) (fC (.int 1)))) oNone))) sNil) (sSeq (sIf (tBl (fBin dEq (fBin dIx (fVar 1) (fC (.int 0))) (fC (.str "most")))) (sRet (fBin dAdd (fCut (fVar 1) oNone (oSome (fC (.int 3)))) (fTup (aCons (fBin dIx (fLst (aCons (fUn dNeg (fC (.int 100))) (aCons (fC (.int 100)) aNil))) (fBin dMod (fCall (M._law_draw e) (aCons (fVar 0) aNil)) (fC (.int 2)))) aNil)))) sNil) (sSeq (sIf (tBl (fBin dEq (fVar 3) (fC (.int 3)))) (sRet (fBin dAdd (fCut (fVar 1) oNone (oSome (fC (.int 3)))) (fTup (aCons (fBin dIx (fLst (aCons (fC (.int 1)) (aCons (fC (.int 7)) (aCons (fC (.int 0)) aNil)))) (fBin dMod (fCall (M._law_draw e) (aCons (fVar 0) aNil)) (fC (.int 3)))) (aCons (fC (.int 0)) aNil))))) sNil) (sRet (fBin dAdd (fCut (fVar 1) oNone (oSome (fC (.int 4)))) (fTup (aCons (fBin dIx (fLst (aCons (fUn dNeg (fC (.int 1))) (aCons (fBin dIx (fVar 1) (fC (.int 3))) aNil))) (fBin dMod (fCall (M._law_draw e) (aCons (fVar 0) aNil)) (fC (.int 2)))) aNil)))))))))))))))
noncomputable def M._law_spoilt_leaf (e : EX) : Fn := (runF 4 (M.b__law_spoilt_leaf e))
noncomputable def M.b__law_spoilt_v4 (e : EX) (rec : Fn) : FS := (sSeq (sSet 2 (fBin dIx (fVar 1) (fC (.int 0)))) (sSeq (sIf (tBl (fBin (dInT false) (fVar 2) (fLst (aCons (fC (.str "room")) (aCons (fC (.str "most")) (aCons (fC (.str "rest")) aNil)))))) (sRet (fCall (M._law_spoilt_leaf e) (aCons (fVar 0) (aCons (fVar 1) aNil)))) sNil) (sSeq (sSet 3 (fBin dMod (fCall (M._law_draw e) (aCons (fVar 0) aNil)) (fC (.int 5)))) (sSeq (sIf (tBl (fBin dEq (fVar 3) (fC (.int 0)))) (sSeq (sSet 4 (fBin dAdd (fTup (aCons (fS0 gUpper (fVar 2)) aNil)) (fCut (fVar 1) (oSome (fC (.int 1))) oNone))) (sRet (fBin dIx (fLst (aCons (fB cLst (aCons (fVar 1) aNil)) (aCons (fCut (fVar 1) oNone (oSome (fC (.int 1)))) (aCons (fBin dAdd (fVar 1) (fTup (aCons (fTup (aCons (fC (.str "room")) (aCons (fC (.int 0)) aNil))) aNil))) (aCons (fVar 4) aNil))))) (fBin dMod (fCall (M._law_draw e) (aCons (fVar 0) aNil)) (fC (.int 4)))))) sNil) (sSeq (sSet 5 (fBin dAdd (fC (.int 1)) (fBin dMod (fCall (M._law_draw e) (aCons (fVar 0) aNil)) (fBin dSub (fB cLen (aCons (fVar 1) aNil)) (fC (.int 1)))))) (sRet (fBin dAdd (fBin dAdd (fCut (fVar 1) oNone (oSome (fVar 5))) (fTup (aCons (fCall rec (aCons (fVar 0) (aCons (fBin dIx (fVar 1) (fVar 5)) aNil))) aNil))) (fCut (fVar 1) (oSome (fBin dAdd (fVar 5) (fC (.int 1)))) oNone))))))))
noncomputable def M._law_spoilt_v4_n (e : EX) : Nat → Fn
  | 0 => fnStuck
  | n + 1 => (runF 6 (M.b__law_spoilt_v4 e (M._law_spoilt_v4_n e n)))
noncomputable def M._law_spoilt_v4 (e : EX) : Fn := M._law_spoilt_v4_n e 12
noncomputable def M._law_too_many_1 (e : EX) : FS := (sSet 1 (fBin dIx (fLst (aCons (fTup (aCons (fC (.str "and")) (aCons (fVar 1) (aCons (fCall (M._law_leaf e) (aCons (fVar 0) aNil)) aNil)))) (aCons (fTup (aCons (fC (.str "or")) (aCons (fCall (M._law_leaf e) (aCons (fVar 0) aNil)) (aCons (fVar 1) aNil)))) aNil))) (fBin dMod (fCall (M._law_draw e) (aCons (fVar 0) aNil)) (fC (.int 2)))))
noncomputable def M._law_too_many_2 (e : EX) : FS := (sSet 1 (fTup (aCons (fC (.str "not")) (aCons (fVar 1) aNil))))
noncomputable def M.b__law_too_many (e : EX) : FS := (sSeq (sIf (tBl (fBin dEq (fBin dMod (fCall (M._law_draw e) (aCons (fVar 0) aNil)) (fC (.int 2))) (fC (.int 0)))) (sSeq (sSet 1 (fCall (M._law_leaf e) (aCons (fVar 0) aNil))) (sSeq (sFor (iRg1 (aCons (fC (.int 4)) aNil)) (gNm 2) (M._law_too_many_1 e)) (sRet (fVar 1)))) sNil) (sSeq (sSet 1 (fTup (aCons (fC (.str "and")) (aCons (fCall (M._law_leaf e) (aCons (fVar 0) aNil)) (aCons (fTup (aCons (fC (.str "or")) (aCons (fCall (M._law_leaf e) (aCons (fVar 0) aNil)) (aCons (fCall (M._law_leaf e) (aCons (fVar 0) aNil)) aNil)))) aNil))))) (sSeq (sFor (iRg1 (aCons (fC (.int 5)) aNil)) (gNm 2) (M._law_too_many_2 e)) (sRet (fVar 1)))))
noncomputable def M._law_too_many (e : EX) : Fn := (runF 3 (M.b__law_too_many e))
noncomputable def M.is_small_1 (e : EX) : FE := (fVar 1)
noncomputable def M.is_small_2 (e : EX) : FT := (tBl (fBin dGt (fB (cBest max) (aCons (fVar 1) aNil)) (fC (.int 4))))
noncomputable def M.b_is_small (e : EX) : FS := (sSeq (sIf (tBl (fBin dGt (fB (cBest max) (aCons (fBin dIx (fVar 0) (fC (.int 1))) aNil)) (fC (.int 12)))) (sRet (fC (.bl false))) sNil) (sRet (fUn dNot (fComp (iSeq (fBin dIx (fVar 0) (fC (.int 2)))) (gNm 1) (M.is_small_2 e) (M.is_small_1 e) [1]))))
noncomputable def M.is_small (e : EX) : Fn := (runF 2 (M.b_is_small e))
noncomputable def M.check_small_1 (e : EX) : FS := (sSeq (sIf (tNotD (tTru (fCall (M.is_small e) (aCons (fVar 3) aNil)))) (sRaise (e.x .TooLarge)) sNil) (sSeq (sSet 1 fStuck) (sIf (tBl (fBin dGt (fVar 1) (fC (.int 6)))) (sRaise (e.x .TooLarge)) sNil)))
noncomputable def M.check_small_2 (e : EX) : FS := (sSeq (sIf (tBl (fBin dGt (fB cLen (aCons (fVar 2) aNil)) (fC (.int 4)))) (sRaise (e.x .TooLarge)) sNil) (sFor (iSeq (fVar 2)) (gNm 3) (M.check_small_1 e)))
noncomputable def M.b_check_small (e : EX) : FS := (sSeq (sSet 1 (fC (.int 1))) (sFor (iSeq (fVar 0)) (gNm 2) (M.check_small_2 e)))
noncomputable def M.check_small (e : EX) : Fn := (runF 4 (M.b_check_small e))
noncomputable def M.b_answers (e : EX) : FS := (sSeq (sExpr (fCall (M.check_lot e) (aCons (fVar 0) aNil))) (sSeq (sExpr (fCall (M.check_question e) (aCons (fVar 1) aNil))) (sSeq (sExpr (fCall (M.check_small e) (aCons (fLst (aCons (fVar 0) aNil)) aNil))) (sRet fStuck))))
noncomputable def M.answers (e : EX) : Fn := (runF 2 (M.b_answers e))
noncomputable def M.b_every (e : EX) : FS := (sSeq (sExpr (fCall (M.check_lot e) (aCons (fVar 0) aNil))) (sSeq (sExpr (fCall (M.check_question e) (aCons (fVar 1) aNil))) (sSeq (sExpr (fCall (M.check_small e) (aCons (fLst (aCons (fVar 0) aNil)) aNil))) (sRet fStuck))))
noncomputable def M.every (e : EX) : Fn := (runF 2 (M.b_every e))
noncomputable def M.b_format_question (e : EX) : FS := (sSeq (sExpr (fCall (M.check_question e) (aCons (fVar 0) aNil))) (sRet fStuck))
noncomputable def M.format_question (e : EX) : Fn := (runF 1 (M.b_format_question e))
noncomputable def M.b__law_error_v2 (e : EX) : FS := (sSeq (sTryT e.em (sIf (tBl (fBin dEq (fVar 0) (fC (.int 0)))) (sExpr (fCall (M.check_question e) (aCons (fVar 1) aNil))) (sIf (tBl (fBin dEq (fVar 0) (fC (.int 1)))) (sExpr (fCall (M.holds e) (aCons (fVar 1) (aCons (fTup (aCons (fC (.int 9)) (aCons (fUn dNeg (fC (.int 1))) (aCons (fC (.int 0)) aNil)))) aNil)))) (sIf (tBl (fBin dEq (fVar 0) (fC (.int 2)))) (sExpr (fCall (M.answers e) (aCons (fLst (aCons (fTup (aCons (fC (.int 0)) (aCons (fTup (aCons (fC (.int 50)) (aCons (fC (.int 0)) aNil))) (aCons (fTup aNil) aNil)))) aNil)) (aCons (fVar 1) aNil)))) (sIf (tBl (fBin dEq (fVar 0) (fC (.int 3)))) (sExpr (fCall (M.every e) (aCons (fLst (aCons (fTup (aCons (fC (.int 0)) (aCons (fTup (aCons (fC (.int 50)) (aCons (fC (.int 0)) aNil))) (aCons (fTup aNil) aNil)))) aNil)) (aCons (fVar 1) aNil)))) (sExpr (fCall (M.format_question e) (aCons (fVar 1) aNil))))))) (([.ref (e.x .BadArgument)], (sRet (fC (.str "argument")))) :: (([.ref (e.x .BadFan), .ref (e.x .BadStanding), .ref (e.x .TooLarge)], (sRet (fC (.str "other")))) :: []))) (sRet (fC (.str "none"))))
noncomputable def M._law_error_v2 (e : EX) : Fn := (runF 2 (M.b__law_error_v2 e))
noncomputable def M.law_v8_1 (e : EX) : FS := (sIf (tBl (fBin dNe (fCall (M._law_error_v2 e) (aCons (fVar 5) (aCons (fVar 3) aNil))) (fC (.str "argument")))) (sRet (fC (.bl false))) sNil)
noncomputable def M.law_v8_2 (e : EX) : FS := (sSeq (sSet 3 (fCall (M._law_question e) (aCons (fVar 1) aNil))) (sSeq (sSet 4 (fBin dMod (fCall (M._law_draw e) (aCons (fVar 1) aNil)) (fC (.int 3)))) (sSeq (sIf (tBl (fBin dEq (fVar 4) (fC (.int 1)))) (sSet 3 (fCall (M._law_spoilt_v4 e) (aCons (fVar 1) (aCons (fVar 3) aNil)))) sNil) (sSeq (sIf (tAndD (tBl (fBin dEq (fVar 4) (fC (.int 2)))) (tBl (fBin dEq (fBin dMod (fCall (M._law_draw e) (aCons (fVar 1) aNil)) (fC (.int 3))) (fC (.int 0))))) (sSeq (sSet 3 (fCall (M._law_too_many e) (aCons (fVar 1) aNil))) (sSet 4 (fC (.int 1)))) sNil) (sSeq (sIf (tBl (fBin dEq (fVar 4) (fC (.int 2)))) (sSeq (sSet 3 (fCall (M._law_spoilt_v4 e) (aCons (fVar 1) (aCons (fVar 3) aNil)))) (sSet 4 (fC (.int 1)))) sNil) (sIf (tBl (fBin dEq (fVar 4) (fC (.int 1)))) (sFor (iRg1 (aCons (fC (.int 5)) aNil)) (gNm 5) (M.law_v8_1 e)) (sIf (tOrD (tBl (fBin dIsNot (fCall (M.check_question e) (aCons (fVar 3) aNil)) (fC .non))) (tBl (fBin dNe (fCall (M._law_error_v2 e) (aCons (fBin dAdd (fC (.int 1)) (fBin dMod (fCall (M._law_draw e) (aCons (fVar 1) aNil)) (fC (.int 3)))) (aCons (fVar 3) aNil))) (fC (.str "other"))))) (sRet (fC (.bl false))) sNil)))))))
noncomputable def M.b_law_v8 (e : EX) : FS := (sSeq (sSet 1 (fNew (aCons (fCall (M._law_numbers e) (aCons (fVar 0) aNil)) (aCons (fC (.int 0)) aNil)))) (sSeq (sFor (iRg1 (aCons (fC (.int 6)) aNil)) (gNm 2) (M.law_v8_2 e)) (sRet (fC (.bl true)))))
noncomputable def M.law_v8 (e : EX) : Fn := (runF 6 (M.b_law_v8 e))
end

section
set_option Elab.async false
set_option linter.all false
set_option maxRecDepth 100000
set_option maxHeartbeats 1000000
/-! evaluation by simp -/
namespace DL
open PySem L2
section
variable {b o o' : D → D → Sto → Option D} {f g h : FE} {fs : FA} {t u : FT} {p q : FS} {l m : FO} {F : Fn} {σ : En} {S : Sto} {d : D} {i j : Nat} {x y : Int} {c : List D → Sto → Option D} {gt : FG} {gs : FGs} {em : Value → Value → Option Bool}
@[simp] theorem ap_fVar : fVar i σ S = match σ[i]? with | some (some d) => .ok d S | _ => .stuck := rfl
@[simp] theorem ap_fC : fC d σ S = .ok d S := rfl
@[simp] theorem ap_fBin : fBin b f g σ S = (f σ S).bind fun x S1 => (g σ S1).bind fun y S2 => ofO (b x y S2) S2 := rfl
@[simp] theorem ap_fUn {u : D → Sto → Option D} : fUn u f σ S = (f σ S).bind fun x S1 => ofO (u x S1) S1 := rfl
@[simp] theorem ap_fAnd : fAnd f g σ S = (f σ S).bind fun x S1 => (ofO (dTruth x S1) S1).bind fun k S1 => if k = true then g σ S1 else .ok x S1 := rfl
@[simp] theorem ap_fOr : fOr f g σ S = (f σ S).bind fun x S1 => (ofO (dTruth x S1) S1).bind fun k S1 => if k = true then .ok x S1 else g σ S1 := rfl
@[simp] theorem ap_aNil : aNil σ S = .ok [] S := rfl
@[simp] theorem ap_aCons : aCons f fs σ S = (f σ S).bind fun d S1 => (fs σ S1).bind fun ds S2 => .ok (d :: ds) S2 := rfl
@[simp] theorem ap_fTup : fTup fs σ S = (fs σ S).bind fun ds S1 => if ds.length ≤ BIG then .ok (.tup ds) S1 else .stuck := rfl
@[simp] theorem ap_fLst : fLst fs σ S = (fs σ S).bind fun ds S1 => if ds.length ≤ BIG then .ok (.lst ds) S1 else .stuck := rfl
@[simp] theorem ap_fNew : fNew fs σ S = (fs σ S).bind fun ds S1 => if ds.length ≤ BIG then .ok (.ref S1.length) (S1 ++ [.lst ds]) else .stuck := rfl
@[simp] theorem ap_oNone : oNone σ S = .ok none S := rfl
@[simp] theorem ap_oSome : oSome f σ S = (f σ S).bind fun d S1 => match d with | .int i => .ok (some i) S1 | _ => .stuck := rfl
@[simp] theorem ap_fCut : fCut f l m σ S = (f σ S).bind fun x S1 => (l σ S1).bind fun lo S2 => (m σ S2).bind fun hi S3 => ofO (dCut x lo hi S3) S3 := rfl
@[simp] theorem ap_tTru : tTru f σ S = (f σ S).bind fun d S1 => ofO (dTruth d S1) S1 := rfl
@[simp] theorem ap_tBl : tBl f σ S = (f σ S).bind fun d S1 => match d with | .bl k => .ok k S1 | _ => .stuck := rfl
@[simp] theorem ap_tAndD : tAndD t u σ S = (t σ S).bind fun k S1 => if k = true then u σ S1 else .ok false S1 := rfl
@[simp] theorem ap_tOrD : tOrD t u σ S = (t σ S).bind fun k S1 => if k = true then .ok true S1 else u σ S1 := rfl
@[simp] theorem ap_tNotD : tNotD t σ S = (t σ S).bind fun k S1 => .ok (!k) S1 := rfl
@[simp] theorem ap_fIf : fIf t f g σ S = (t σ S).bind fun k S1 => if k = true then f σ S1 else g σ S1 := rfl
@[simp] theorem ap_fCall : fCall F fs σ S = (fs σ S).bind fun ds S1 => F ds S1 := rfl
@[simp] theorem ap_fB : fB c fs σ S = (fs σ S).bind fun ds S1 => ofO (c ds S1) S1 := rfl
@[simp] theorem ap_fChain : fChain o o' f g h σ S = (f σ S).bind fun x S1 => (g σ S1).bind fun y S2 => (ofO (o x y S2) S2).bind fun z S2 => match z with
  | .bl k => if k = true then (h σ S2).bind fun w S3 => ofO (o' y w S3) S3 else .ok (.bl false) S2
  | _ => .stuck := rfl
@[simp] theorem ap_sNil : sNil σ S = .nx σ S := rfl
@[simp] theorem ap_sSeq : sSeq p q σ S = (p σ S).seq q := rfl
@[simp] theorem ap_sExpr : sExpr f σ S = RS.of (f σ S) σ fun _ S1 => .nx σ S1 := rfl
@[simp] theorem ap_sRet : sRet f σ S = RS.of (f σ S) σ fun d S1 => .rt d S1 := rfl
@[simp] theorem ap_sRetN : sRetN σ S = .rt .non S := rfl
@[simp] theorem ap_sBreak : sBreak σ S = .bk σ S := rfl
@[simp] theorem ap_sCont : sCont σ S = .ct σ S := rfl
@[simp] theorem ap_sSet : sSet i f σ S = RS.of (f σ S) σ fun d S1 => .nx (σ.set i (some d)) S1 := rfl
@[simp] theorem ap_sIf : sIf t p q σ S = RS.of (t σ S) σ fun k S1 => if k = true then p σ S1 else q σ S1 := rfl
@[simp] theorem ap_sRaise {a : Addr} : sRaise a σ S = .raise (.ref a) σ S := rfl
@[simp] theorem ap_sAsg : sAsg gt f σ S = RS.of (f σ S) σ fun d S1 => match gt d σ S1 with | some σ1 => .nx σ1 S1 | none => .stuck := rfl
@[simp] theorem ap_sPar : sPar i j fs σ S = RS.of (fs σ S) σ fun ds S1 => match ds with | [d1, d2] => .nx ((σ.set i (some d1)).set j (some d2)) S1 | _ => .stuck := rfl
@[simp] theorem ap_sPut : sPut f g h σ S = RS.of (h σ S) σ fun d S1 => RS.of (f σ S1) σ fun o S2 => RS.of (g σ S2) σ fun i S3 => match putL o i d S3 with | some S4 => .nx σ S4 | none => .stuck := rfl
@[simp] theorem ap_sAug : sAug i o f σ S = match σ[i]? with
  | some (some d) => RS.of (f σ S) σ fun d2 S1 => match o d d2 S1 with | some d3 => .nx (σ.set i (some d3)) S1 | none => .stuck
  | _ => .stuck := rfl
@[simp] theorem ap_gNm : gNm i d σ S = some (σ.set i (some d)) := rfl
@[simp] theorem ap_gTp {n : Nat} {xs : List D} : gTp n gs (.tup xs) σ S = if xs.length = n then gs xs σ S else none := rfl
@[simp] theorem ap_gsNil : gsNil [] σ S = some σ := rfl
@[simp] theorem ap_gsCons {r : List D} : gsCons gt gs (d :: r) σ S = (gt d σ S).bind fun σ1 => gs r σ1 S := rfl
@[simp] theorem ap_runF {n : Nat} {ds : List D} : runF n p ds S = endF (p (startD n ds) S) := rfl
@[simp] theorem ap_startD {n : Nat} {ds : List D} : startD n ds = ds.map some ++ List.replicate (n - ds.length) none := rfl
@[simp] theorem ap_sTry {hs : List HD} : sTry em p hs σ S = match p σ S with | .raise c σ1 S1 => catchF em hs c σ1 S1 | r => r := rfl
@[simp] theorem ap_catch0 {v : Value} : catchF em [] v σ S = .raise v σ S := rfl
@[simp] theorem ap_catch1 {v k : Value} {r : List HD} : catchF em ((k, p) :: r) v σ S = match em v k with | some true => (p σ S).noR | some false => catchF em r v σ S | none => .stuck := rfl
@[simp] theorem noR_nx : (RS.nx σ S).noR = .nx σ S := rfl
@[simp] theorem noR_rt : (RS.rt d S).noR = .rt d S := rfl
/-! values -/
@[simp] theorem v_add : dAdd (.int x) (.int y) S = some (.int (x + y)) := rfl
@[simp] theorem v_sub : dSub (.int x) (.int y) S = some (.int (x - y)) := rfl
theorem v_mul : dMul (.int x) (.int y) S = if mulOk x y = true then some (.int (x * y)) else none := dMul_int x y S
@[simp] theorem v_mulL (hy : in64 y = true) : dMul (.int x) (.int y) S = some (.int (x * y)) := by
  rw [v_mul, if_pos]; unfold mulOk; rw [hy]; simp
@[simp] theorem v_mulR (hx : in64 x = true) : dMul (.int x) (.int y) S = some (.int (x * y)) := by
  rw [v_mul, if_pos]; unfold mulOk; rw [hx]; simp
theorem v_mulM (hx : mid x = true) (hy : mid y = true) : dMul (.int x) (.int y) S = some (.int (x * y)) := by
  rw [v_mul, if_pos]; unfold mulOk; rw [hx, hy]; simp
@[simp] theorem v_div (hy : 0 < y) (hm : mid y = true) : dDiv (.int x) (.int y) S = some (.int (x / y)) := by
  show (if divOk x y = true then some (D.int (x / y)) else none) = _
  rw [if_pos]; unfold divOk; rw [hm]; simp [hy]
@[simp] theorem v_mod (hy : 0 < y) : dMod (.int x) (.int y) S = some (.int (x % y)) := by
  show (if decide (0 < y) = true then some (D.int (x % y)) else none) = _
  rw [if_pos]; simpa using hy
@[simp] theorem v_lt : dLt (.int x) (.int y) S = some (.bl (decide (x < y))) := rfl
@[simp] theorem v_le : dLe (.int x) (.int y) S = some (.bl (decide (x ≤ y))) := rfl
@[simp] theorem v_gt : dGt (.int x) (.int y) S = some (.bl (decide (y < x))) := rfl
@[simp] theorem v_ge : dGe (.int x) (.int y) S = some (.bl (decide (y ≤ x))) := rfl
@[simp] theorem v_neg : dNeg (.int x) S = some (.int (-x)) := rfl
@[simp] theorem in64_18 : in64 1000000 = true := by decide
theorem in64_of (h1 : -(18446744073709551616) < x) (h2 : x < 18446744073709551616) : in64 x = true := by
  unfold in64; simp [h1, h2]
theorem eqv_ii (a b : Int) : PyData.eqv (.int a) (.int b) = decide (a = b) := by
  rw [PyData.eqv]; rfl
theorem shaped_int (a : Int) : SeqAt.shaped (.int a) = true := by simp [SeqAt.shaped, PyData.canLay0, PyData.depth]
@[simp] theorem v_eq : dEq (.int x) (.int y) S = some (.bl (decide (x = y))) := by
  unfold dEq dEqS dEqD
  simp [toPy, shaped_int, eqv_ii]
@[simp] theorem v_ne : dNe (.int x) (.int y) S = some (.bl (!decide (x = y))) := by
  unfold dNe dNeS dNeD
  simp [toPy, shaped_int, eqv_ii]
@[simp] theorem v_eqS {s r : Str} : dEq (.str s) (.str r) S = some (.bl (decide (s = r))) := rfl
@[simp] theorem v_neS {s r : Str} : dNe (.str s) (.str r) S = some (.bl (!decide (s = r))) := rfl
@[simp] theorem v_isN : dIs .non .non S = some (.bl true) := rfl
@[simp] theorem v_isNotN : dIsNot .non .non S = some (.bl false) := rfl
@[simp] theorem v_isB {k k' : Bool} : dIs (.bl k) (.bl k') S = some (.bl (k == k')) := rfl
@[simp] theorem v_isNotB {k k' : Bool} : dIsNot (.bl k) (.bl k') S = some (.bl (!(k == k'))) := rfl
@[simp] theorem v_ixT {xs : List D} : dIx (.tup xs) (.int x) S = atI xs x := rfl
@[simp] theorem v_ixL {xs : List D} : dIx (.lst xs) (.int x) S = atI xs x := rfl
@[simp] theorem v_ixF {xs : List D} : dIx (.frz xs) (.int x) S = atI xs x := rfl
@[simp] theorem v_truB {k : Bool} : dTruth (.bl k) S = some k := rfl
@[simp] theorem v_truN : dTruth .non S = some false := rfl
@[simp] theorem v_truI : dTruth (.int x) S = some (x != 0) := rfl
@[simp] theorem v_not {k : Bool} : dNot (.bl k) S = some (.bl (!k)) := rfl
@[simp] theorem v_lenT {xs : List D} : cLen [.tup xs] S = some (.int xs.length) := rfl
@[simp] theorem v_lenL {xs : List D} : cLen [.lst xs] S = some (.int xs.length) := rfl
@[simp] theorem v_lenF {xs : List D} : cLen [.frz xs] S = some (.int xs.length) := rfl
@[simp] theorem v_tupL {xs : List D} : cTup [.lst xs] S = some (.tup xs) := rfl
@[simp] theorem v_tupT {xs : List D} : cTup [.tup xs] S = some (.tup xs) := rfl
@[simp] theorem v_lstT {xs : List D} : cLst [.tup xs] S = some (.lst xs) := rfl
theorem atI_cons0 {a : D} {xs : List D} : atI (a :: xs) 0 = some a := by
  have : atI (a :: xs) ((0 : Nat) : Int) = some a := atI_nat rfl
  exact this
@[simp] theorem atI_0 {a : D} {xs : List D} : atI (a :: xs) 0 = some a := atI_cons0
@[simp] theorem atI_1 {a b : D} {xs : List D} : atI (a :: b :: xs) 1 = some b := by
  have : atI (a :: b :: xs) ((1 : Nat) : Int) = some b := atI_nat rfl
  exact this
@[simp] theorem atI_2 {a b c : D} {xs : List D} : atI (a :: b :: c :: xs) 2 = some c := by
  have : atI (a :: b :: c :: xs) ((2 : Nat) : Int) = some c := atI_nat rfl
  exact this
@[simp] theorem atI_3 {a b c d : D} {xs : List D} : atI (a :: b :: c :: d :: xs) 3 = some d := by
  have : atI (a :: b :: c :: d :: xs) ((3 : Nat) : Int) = some d := atI_nat rfl
  exact this
end
/-- isinstance, by the built-in classes that are asked -/
def isA (d : D) (n : String) : Option Bool := match d, n with
  | _, _ => none
@[simp] theorem k_int_int : kitB "int" "int" = some true := by decide +kernel
@[simp] theorem k_int_bool : kitB "int" "bool" = some false := by decide +kernel
@[simp] theorem k_int_str : kitB "int" "str" = some false := by decide +kernel
@[simp] theorem k_int_tuple : kitB "int" "tuple" = some false := by decide +kernel
@[simp] theorem k_int_list : kitB "int" "list" = some false := by decide +kernel
@[simp] theorem k_bool_int : kitB "bool" "int" = some true := by decide +kernel
@[simp] theorem k_bool_bool : kitB "bool" "bool" = some true := by decide +kernel
@[simp] theorem k_bool_str : kitB "bool" "str" = some false := by decide +kernel
@[simp] theorem k_bool_tuple : kitB "bool" "tuple" = some false := by decide +kernel
@[simp] theorem k_bool_list : kitB "bool" "list" = some false := by decide +kernel
@[simp] theorem k_str_int : kitB "str" "int" = some false := by decide +kernel
@[simp] theorem k_str_bool : kitB "str" "bool" = some false := by decide +kernel
@[simp] theorem k_str_str : kitB "str" "str" = some true := by decide +kernel
@[simp] theorem k_str_tuple : kitB "str" "tuple" = some false := by decide +kernel
@[simp] theorem k_str_list : kitB "str" "list" = some false := by decide +kernel
@[simp] theorem k_tuple_int : kitB "tuple" "int" = some false := by decide +kernel
@[simp] theorem k_tuple_bool : kitB "tuple" "bool" = some false := by decide +kernel
@[simp] theorem k_tuple_str : kitB "tuple" "str" = some false := by decide +kernel
@[simp] theorem k_tuple_tuple : kitB "tuple" "tuple" = some true := by decide +kernel
@[simp] theorem k_tuple_list : kitB "tuple" "list" = some false := by decide +kernel
@[simp] theorem k_list_int : kitB "list" "int" = some false := by decide +kernel
@[simp] theorem k_list_bool : kitB "list" "bool" = some false := by decide +kernel
@[simp] theorem k_list_str : kitB "list" "str" = some false := by decide +kernel
@[simp] theorem k_list_tuple : kitB "list" "tuple" = some false := by decide +kernel
@[simp] theorem k_list_list : kitB "list" "list" = some true := by decide +kernel
@[simp] theorem k_none_int : kitB "NoneType" "int" = some false := by decide +kernel
@[simp] theorem k_none_bool : kitB "NoneType" "bool" = some false := by decide +kernel
@[simp] theorem k_none_str : kitB "NoneType" "str" = some false := by decide +kernel
@[simp] theorem k_none_tuple : kitB "NoneType" "tuple" = some false := by decide +kernel
@[simp] theorem k_none_list : kitB "NoneType" "list" = some false := by decide +kernel
@[simp] theorem k_dict_int : kitB "dict" "int" = some false := by decide +kernel
@[simp] theorem k_dict_bool : kitB "dict" "bool" = some false := by decide +kernel
@[simp] theorem k_dict_str : kitB "dict" "str" = some false := by decide +kernel
@[simp] theorem k_dict_tuple : kitB "dict" "tuple" = some false := by decide +kernel
@[simp] theorem k_dict_list : kitB "dict" "list" = some false := by decide +kernel
section
variable {S : Sto} {n : String} {d : D}
@[simp] theorem v_isi : cIsi [d, .cst (.ty n)] S = (clsOf d S).bind fun t => (kitB t n).map fun b => .bl b := rfl
@[simp] theorem cls_non : clsOf .non S = some "NoneType" := rfl
@[simp] theorem cls_bl {b : Bool} : clsOf (.bl b) S = some "bool" := rfl
@[simp] theorem cls_int {i : Int} : clsOf (.int i) S = some "int" := rfl
@[simp] theorem cls_str {x : Str} : clsOf (.str x) S = some "str" := rfl
@[simp] theorem cls_tup {xs : List D} : clsOf (.tup xs) S = some "tuple" := rfl
@[simp] theorem cls_lst {xs : List D} : clsOf (.lst xs) S = some "list" := rfl
@[simp] theorem cls_frz {xs : List D} : clsOf (.frz xs) S = some "list" := rfl
@[simp] theorem cls_emp : clsOf .emp S = some "dict" := rfl
end
end DL
end

section
set_option Elab.async false
set_option linter.all false
set_option maxRecDepth 100000
set_option maxHeartbeats 1000000
namespace DL
open PySem L2
/-! ### the laws' draws -/
def mixedZ (n k : Int) : Int := ((n * 48271 + k * 69621 + 12345) % 2147483647 * ((n * 48271 + k * 69621 + 12345) % 2147483647 / 65536 + 3) + k) % 2147483647
theorem mixed_eq (e : EX) (n k : Int) (S : Sto) : M._law_mixed e [.int n, .int k] S = .ok (.int (mixedZ n k)) S := by
  have hm : in64 ((n * 48271 + k * 69621 + 12345) % 2147483647) = true := in64_of (by omega) (by omega)
  have a1 : in64 48271 = true := by decide
  have a2 : in64 69621 = true := by decide
  have a3 : mid 65536 = true := by decide +kernel
  simp [M._law_mixed, M.b__law_mixed, mixedZ, a1, a2, a3, hm]
end DL
namespace DL
open PySem L2
theorem mixedZ_nonneg (n k : Int) : 0 ≤ mixedZ n k := by unfold mixedZ; omega
/-- the store: the numbers and the place -/
def DSt (ns : List Int) (k : Int) : Sto := [.lst [.lst (ns.map .int), .int k]]
/-- what is drawn -/
def drw (ns : List Int) (k : Int) : Int := if k < ns.length then ns.getD k.toNat 0 else
  mixedZ (mixedZ (if 0 < ns.length then 1 + k + 1009 * ns.getD 0 0 else 1 + k) k) 5 % 1000000
theorem atI_map {ns : List Int} {k : Int} (h0 : 0 ≤ k) (h : k < ns.length) : atI (ns.map D.int) k = some (.int (ns.getD k.toNat 0)) := by
  obtain ⟨m, rfl⟩ := Int.eq_ofNat_of_zero_le h0
  have hm : m < ns.length := by omega
  have : (ns.map D.int)[m]? = some (.int (ns.getD m 0)) := by
    rw [List.getElem?_map, List.getElem?_eq_getElem hm, List.getD_eq_getElem?_getD, List.getElem?_eq_getElem hm]
    rfl
  exact atI_nat this
theorem draw_eq (e : EX) (ns : List Int) (k : Int) (R : Sto) (hk : 0 ≤ k) : M._law_draw e [.ref 0] (DSt ns k ++ R) = .ok (.int (drw ns k)) (DSt ns (k + 1) ++ R) := by
  have hp : putL (.ref 0) (.int 1) (.int (k + 1)) (DSt ns k ++ R) = some (DSt ns (k + 1) ++ R) := by
    simp [putL, DSt, ixN]
  by_cases c : k < ns.length
  · simp [M._law_draw, M.b__law_draw, drw, DSt, dIx, anyL, lstOf, c, atI_map hk c, putL, ixN]
  · have a1 : in64 1009 = true := by decide
    by_cases c0 : 0 < ns.length
    · have h00 := atI_map (ns := ns) (k := 0) (by omega) (by omega)
      simp [M._law_draw, M.b__law_draw, drw, DSt, dIx, anyL, lstOf, c, c0, h00, mixed_eq, a1, putL, ixN]
    · simp [M._law_draw, M.b__law_draw, drw, DSt, dIx, anyL, lstOf, c, c0, mixed_eq, putL, ixN]
end DL
namespace DL
open PySem L2
/-! ### loops that append to the last list of the store -/
theorem lstOf_last {S : Sto} {xs : List D} : lstOf (.ref S.length) (S ++ [.lst xs]) = some xs := by simp [lstOf]
theorem set_last {S : Sto} {o o' : SO} : (S ++ [o]).set S.length o' = S ++ [o'] := by
  rw [List.set_append_right _ _ (Nat.le_refl _)]; simp
theorem ap_fM {m : FM} {f : FE} {fs : FA} {σ : En} {S : Sto} : fM m f fs σ S = (f σ S).bind fun x S1 => match x with
  | .ref n => (ofO (lstOf (.ref n) S1) S1).bind fun _ S1 => (fs σ S1).bind fun ys S2 => (ofO (lstOf (.ref n) S2) S2).bind fun xs S2 => match m xs ys S2 with
    | some (xs', d) => .ok d (S2.set n (.lst xs'))
    | none => .stuck
  | _ => .stuck := rfl
theorem ap_mAppend {xs : List D} {y : D} {S : Sto} (h : xs.length < BIG) : mAppend xs [y] S = some (xs ++ [y], .non) := by simp [mAppend, h]
/-- a number that the laws keep -/
def small (m : Int) : Prop := 0 ≤ m ∧ m < 1000000
theorem watch_none {ds : List D} {S : Sto} : watchOk none ds S := trivial
theorem loop_nil {it : Items} {gt : FG} {g : FS} {σ : En} {S : Sto} (h : watchOk it.w it.ds S) : loopF it gt g [] σ S = .nx σ S := by
  unfold loopF; rw [if_pos h]
theorem loop_cons {it : Items} {gt : FG} {g : FS} {σ σ1 : En} {S : Sto} {d : D} {r : List D} (h : watchOk it.w it.ds S) (hg : gt d σ S = some σ1) : loopF it gt g (d :: r) σ S = (g σ1 S).turn (loopF it gt g r) := by
  rw [loopF, if_pos h, hg]
/-- a loop whose turns all go on -/
theorem loop_ok {it : Items} {gt : FG} {g : FS} (hw : it.w = none) (I : Nat → En → Sto → Prop) : ∀ (ds : List D) (i : Nat) (σ : En) (S : Sto), I i σ S →
    (∀ (j : Nat) (d : D) (σ : En) (S : Sto), ds[j]? = some d → I (i + j) σ S → ∃ σ1 σ2 S2, gt d σ S = some σ1 ∧ g σ1 S = .nx σ2 S2 ∧ I (i + j + 1) σ2 S2) →
    ∃ σ' S', loopF it gt g ds σ S = .nx σ' S' ∧ I (i + ds.length) σ' S'
  | [], i, σ, S, h, _ => ⟨σ, S, loop_nil (by rw [hw]; trivial), h⟩
  | d :: ds, i, σ, S, h, hs => by
    obtain ⟨σ1, σ2, S2, e1, e2, h2⟩ := hs 0 d σ S rfl h
    obtain ⟨σ', S', e3, h3⟩ := loop_ok hw I ds (i + 1) σ2 S2 h2 (fun j d σ S e hI => by
      obtain ⟨a, b, c, k1, k2, k3⟩ := hs (j + 1) d σ S (by simpa using e) (by rw [show i + (j + 1) = i + 1 + j by omega]; exact hI)
      exact ⟨a, b, c, k1, k2, by rw [show i + 1 + j + 1 = i + (j + 1) + 1 by omega]; exact k3⟩)
    refine ⟨σ', S', ?_, by rw [List.length_cons, show i + (ds.length + 1) = i + 1 + ds.length by omega]; exact h3⟩
    rw [loop_cons (by rw [hw]; trivial) e1, e2, RS.turn_nx, e3]
theorem big_lt {n : Nat} (h : n < 100000) : n < BIG := Nat.lt_trans h (by decide)
/-- within the loops over the script's cells -/
def NumI (S : Sto) (b : Nat) (i : Nat) (σ : En) (T : Sto) : Prop := ∃ (sc : D) (c r k : Option D) (acc : List Int), σ = [some sc, some (.ref S.length), c, r, k] ∧ T = S ++ [.lst (acc.map .int)] ∧ acc.length ≤ b + i ∧ ∀ m ∈ acc, small m
theorem num1 (e : EX) (it : Items) (hw : it.w = none) (S : Sto) (ds : List D) (sc : D) (c : Option D) (rest : Int) (k : Option D) (acc : List Int) (hb : acc.length + ds.length < 100000) (hs : ∀ m ∈ acc, small m) :
    ∃ σ' S', loopF it (gNm 4) (M._law_numbers_1 e) ds [some sc, some (.ref S.length), c, some (.int rest), k] (S ++ [.lst (acc.map .int)]) = .nx σ' S' ∧
      ∃ (r' k' : Option D) (acc' : List Int), σ' = [some sc, some (.ref S.length), c, r', k'] ∧ S' = S ++ [.lst (acc'.map .int)] ∧ acc'.length ≤ acc.length + ds.length ∧ ∀ m ∈ acc', small m := by
  obtain ⟨σ', S', e1, r', k', acc', e2, e3, e4, e5⟩ := loop_ok (it := it) (gt := gNm 4) (g := M._law_numbers_1 e) hw
    (fun i σ T => ∃ (r : Int) (k' : Option D) (acc' : List Int), σ = [some sc, some (.ref S.length), c, some (.int r), k'] ∧ T = S ++ [.lst (acc'.map .int)] ∧ acc'.length ≤ acc.length + i ∧ ∀ m ∈ acc', small m)
    ds 0 _ _ ⟨rest, k, acc, rfl, rfl, by omega, hs⟩ (by
      rintro j d σ T ed ⟨r, k', acc', rfl, rfl, hl, hsm⟩
      have hj : j < ds.length := (List.getElem?_eq_some_iff.mp ed).1
      by_cases c0 : 0 < r
      · have hbb : (acc'.map D.int).length < BIG := big_lt (by simp; omega)
        have a1 : mid 1000000 = true := by decide +kernel
        refine ⟨_, _, _, rfl, ?_, r / 1000000, some d, acc' ++ [r % 1000000], rfl, rfl, by simp; omega, ?_⟩
        · simp [M._law_numbers_1, c0, ap_fM, lstOf_last, ap_mAppend hbb, set_last, a1]
        · intro m hm
          rcases List.mem_append.mp hm with hm | hm
          · exact hsm m hm
          · rw [List.mem_singleton.mp hm]; constructor <;> omega
      · refine ⟨_, _, _, rfl, ?_, r, some d, acc', rfl, rfl, by omega, hsm⟩
        simp [M._law_numbers_1, c0])
  exact ⟨σ', S', e1, some (.int r'), k', acc', e2, e3, by omega, e5⟩
theorem num2 (e : EX) (it : Items) (hw : it.w = none) (S : Sto) (sc : D) (cell : Int) (r k : Option D) (acc : List Int) (n : Nat) (hb : acc.length + n < 100000) (hs : ∀ m ∈ acc, small m) :
    ∃ σ' S', loopF it (gNm 4) (M._law_numbers_2 e) (rgD 0 n) [some sc, some (.ref S.length), some (.int cell), r, k] (S ++ [.lst (acc.map .int)]) = .nx σ' S' ∧
      ∃ (k' : Option D) (acc' : List Int), σ' = [some sc, some (.ref S.length), some (.int cell), r, k'] ∧ S' = S ++ [.lst (acc'.map .int)] ∧ acc'.length ≤ acc.length + n ∧ ∀ m ∈ acc', small m := by
  have hn : (rgD 0 n).length = n := by simp [rgD]
  obtain ⟨σ', S', e1, k', acc', e2, e3, e4, e5⟩ := loop_ok (it := it) (gt := gNm 4) (g := M._law_numbers_2 e) hw
    (fun i σ T => ∃ (k' : Option D) (acc' : List Int), σ = [some sc, some (.ref S.length), some (.int cell), r, k'] ∧ T = S ++ [.lst (acc'.map .int)] ∧ acc'.length ≤ acc.length + i ∧ ∀ m ∈ acc', small m)
    (rgD 0 n) 0 _ _ ⟨k, acc, rfl, rfl, by omega, hs⟩ (by
      rintro j d σ T ed ⟨k', acc', rfl, rfl, hl, hsm⟩
      have hj : j < n := by rw [← hn]; exact (List.getElem?_eq_some_iff.mp ed).1
      have hd : d = .int j := by
        simp [rgD, List.getElem?_map, List.getElem?_range hj] at ed
        exact ed.symm
      subst hd
      have hbb : (acc'.map D.int).length < BIG := big_lt (by simp; omega)
      refine ⟨_, _, _, rfl, ?_, some (.int j), acc' ++ [mixedZ (mixedZ (cell % 2147483647) j) (j + 7) % 1000000], rfl, rfl, by simp; omega, ?_⟩
      · simp [M._law_numbers_2, ap_fM, lstOf_last, ap_mAppend hbb, set_last, mixed_eq]
      · intro m hm
        rcases List.mem_append.mp hm with hm | hm
        · exact hsm m hm
        · rw [List.mem_singleton.mp hm]; constructor <;> omega)
  exact ⟨σ', S', e1, k', acc', e2, e3, by rw [hn] at e4; omega, e5⟩
theorem numbers_eq (e : EX) (ns : List Int) (S : Sto) (hl : ns.length ≤ 63) (hc : cleanS S.length S = true) : ∃ ms : List Int, (∀ m ∈ ms, small m) ∧ ms.length ≤ 4000 ∧ M._law_numbers e [.frz (ns.map .int)] S = .ok (.lst (ms.map .int)) S := by
  obtain ⟨σ', S', e1, c', r', k', acc', e2, e3, e4, e5⟩ := loop_ok (it := ⟨ns.map .int, none⟩) (gt := gNm 2) (g := M._law_numbers_3 e) rfl
    (fun i σ T => ∃ (c r k : Option D) (acc : List Int), σ = [some (.frz (ns.map .int)), some (.ref S.length), c, r, k] ∧ T = S ++ [.lst (acc.map .int)] ∧ acc.length ≤ 60 * i ∧ ∀ m ∈ acc, small m)
    (ns.map .int) 0 [some (.frz (ns.map .int)), some (.ref S.length), none, none, none] (S ++ [.lst []]) ⟨none, none, none, [], rfl, rfl, by simp, by simp⟩ (by
      rintro j d σ T ed ⟨c, r, k, acc, rfl, rfl, hl2, hsm⟩
      obtain ⟨cell, hcell, rfl⟩ : ∃ cell, ns[j]? = some cell ∧ d = .int cell := by
        rw [List.getElem?_map] at ed
        obtain ⟨x, h1, h2⟩ := Option.map_eq_some_iff.mp ed
        exact ⟨x, h1, h2.symm⟩
      have hj : j < 63 := Nat.lt_of_lt_of_le (List.getElem?_eq_some_iff.mp hcell).1 hl
      have i60 : in62 60 = true := by decide
      have i5 : in62 5 = true := by decide
      have p18 : dPow (.int 10) (.int 18) = fun _ => some (.int 1000000000000000000) := by
        funext S
        simp [dPow, dI]
      have l60 : (rgD 0 60).length = 60 := by simp [rgD]
      by_cases c18 : 1000000000000000000 ≤ cell
      · obtain ⟨σ2, S2, k1, r2, k2, acc2, rfl, rfl, k5, k6⟩ := num1 e ⟨rgD 0 60, none⟩ rfl S (rgD 0 60) (.frz (ns.map .int)) (some (.int cell)) cell k acc (by rw [l60]; omega) hsm
        refine ⟨_, _, _, rfl, ?_, some (.int cell), r2, k2, acc2, rfl, rfl, by rw [l60] at k5; omega, k6⟩
        simp [M._law_numbers_3, p18, c18, sFor, iRg1, i60, k1]
      · have hbb : (acc.map D.int).length < BIG := big_lt (by simp; omega)
        obtain ⟨σ2, S2, k1, k2, acc2, rfl, rfl, k5, k6⟩ := num2 e ⟨rgD 0 5, none⟩ rfl S (.frz (ns.map .int)) cell r k (acc ++ [cell % 1000000]) 5 (by simp; omega) (by
          intro m hm
          rcases List.mem_append.mp hm with hm | hm
          · exact hsm m hm
          · rw [List.mem_singleton.mp hm]; constructor <;> omega)
        refine ⟨_, _, _, rfl, ?_, some (.int cell), r, k2, acc2, rfl, rfl, by simp at k5; omega, k6⟩
        simp only [List.map_append, List.map_cons, List.map_nil] at k1
        have k1' : loopF ⟨rgD 0 5, none⟩ (gNm 4) (M._law_numbers_2 e) (rgD 0 5) _ _ = _ := k1
        simp [M._law_numbers_3, p18, c18, sFor, iRg1, i5, ap_fM, lstOf_last, ap_mAppend hbb, set_last, k1'])
  refine ⟨acc', e5, by simp at e4; omega, ?_⟩
  subst e2 e3
  have cl : cleans S.length (acc'.map D.int) = true := by
    clear e1 e4 e5
    induction acc' with
    | nil => rfl
    | cons a l ih => simp [cleans, clean, ih]
  simp [M._law_numbers, M.b__law_numbers, frz, sFor, iSeq, e1, hc, letGo, cl]
end DL
end

section
set_option Elab.async false
set_option linter.all false
set_option maxRecDepth 100000
set_option maxHeartbeats 1000000
namespace DL
open PySem L2
/-! ### programs and standings are checked -/
mutual
/-- no changeable thing within -/
def plain : D → Bool
  | .tup xs => plains xs
  | .lst xs => plains xs
  | .frz xs => plains xs
  | .ref _ => false
  | .cst _ => false
  | _ => true
def plains : List D → Bool
  | [] => true
  | d :: ds => plain d && plains ds
end
theorem plains_mem : ∀ {ds : List D} {d : D}, plains ds = true → d ∈ ds → plain d = true
  | [], d, _, h => by cases h
  | x :: ds, d, h, hm => by
    unfold plains at h
    have h' := Bool.and_eq_true_iff.mp h
    rcases List.mem_cons.mp hm with rfl | hm
    · exact h'.1
    · exact plains_mem h'.2 hm
def isTup (d : D) (n : Int) : Bool := match d with
  | .tup xs => decide ((xs.length : Int) = n)
  | _ => false
def isIn (d : D) (lo hi : Int) : Bool := match d with
  | .int i => decide (lo ≤ i) && decide (i ≤ hi)
  | _ => false
def isNat (d : D) : Bool := match d with
  | .int i => decide (0 ≤ i)
  | _ => false
theorem is_tuple_eq (e : EX) (d : D) (n : Int) (S : Sto) (h : plain d = true) : M.is_tuple e [d, .int n] S = .ok (.bl (isTup d n)) S := by
  cases d <;> first
    | (exfalso; simp [plain] at h; done)
    | (simp [M.is_tuple, M.b_is_tuple, isTup]; done)
theorem is_within_eq (e : EX) (d : D) (lo hi : Int) (S : Sto) (h : plain d = true) : M.is_within e [d, .int lo, .int hi] S = .ok (.bl (isIn d lo hi)) S := by
  cases d with
  | int i =>
    by_cases c : lo ≤ i
    · simp [M.is_within, M.b_is_within, isIn, c]
    · simp [M.is_within, M.b_is_within, isIn, c]
  | ref n => simp [plain] at h
  | cst n => simp [plain] at h
  | _ => simp [M.is_within, M.b_is_within, isIn]
theorem is_natural_eq (e : EX) (d : D) (S : Sto) (h : plain d = true) : M.is_natural e [d] S = .ok (.bl (isNat d)) S := by
  cases d with
  | ref n => simp [plain] at h
  | cst n => simp [plain] at h
  | _ => simp [M.is_natural, M.b_is_natural, isNat]
def isStepB (r : Int) (d : D) : Bool := match d with
  | .tup [a, b, f, g] => isIn a 0 (r - 1) && isIn b 0 (r - 1) && isIn f (-2) 2 && isIn g (-2) 2
  | _ => false
def isTestB (r : Int) (d : D) : Bool := match d with
  | .tup [a, b] => isIn a 0 (r - 1) && isIn b 0 (r - 1)
  | _ => false
def isProgB (d : D) : Bool := match d with
  | .tup [r, ss, ts] => isIn r 1 3 && (match r, ss, ts with
    | .int r, .tup ss, .tup ts => decide (ss.length ≤ 4) && ss.all (isStepB r) && decide (ts.length ≤ 2) && ts.all (isTestB r)
    | _, _, _ => false)
  | _ => false
theorem len4 {xs : List D} (h : xs.length = 4) : ∃ a b c d, xs = [a, b, c, d] := by
  match xs, h with
  | [a, b, c, d], _ => exact ⟨a, b, c, d, rfl⟩
theorem len3 {xs : List D} (h : xs.length = 3) : ∃ a b c, xs = [a, b, c] := by
  match xs, h with
  | [a, b, c], _ => exact ⟨a, b, c, rfl⟩
theorem len2 {xs : List D} (h : xs.length = 2) : ∃ a b, xs = [a, b] := by
  match xs, h with
  | [a, b], _ => exact ⟨a, b, rfl⟩
theorem step_body (e : EX) (S : Sto) (p s t x : Option D) (r : Int) (d : D) (hd : plain d = true) :
    M.check_program_1 e [p, some (.int r), s, t, some d, x] S = if isStepB r d = true then .nx [p, some (.int r), s, t, some d, x] S else .raise (.ref (e.x .BadProgram)) [p, some (.int r), s, t, some d, x] S := by
  cases d with
  | tup xs =>
    by_cases hl : xs.length = 4
    · obtain ⟨a, b, f, g, rfl⟩ := len4 hl
      simp only [plain, plains, Bool.and_eq_true, Bool.and_true] at hd
      have hp : plain (.tup [a, b, f, g]) = true := by simp [plain, plains, hd]
      simp only [M.check_program_1]
      cases h1 : isIn a 0 (r - 1) <;> cases h2 : isIn b 0 (r - 1) <;> cases h3 : isIn f (-2) 2 <;> cases h4 : isIn g (-2) 2 <;>
        simp [is_tuple_eq, hp, is_within_eq, hd, isTup, isStepB, h1, h2, h3, h4]
    · have hp : plain (.tup xs) = true := hd
      have h0 : isStepB r (.tup xs) = false := by
        match xs, hl with
        | [a, b, c, d], hl => simp at hl
        | [], _ => rfl
        | [_], _ => rfl
        | [_, _], _ => rfl
        | [_, _, _], _ => rfl
        | _ :: _ :: _ :: _ :: _ :: _, _ => rfl
      have h1 : isTup (.tup xs) 4 = false := by simp [isTup]; omega
      simp [M.check_program_1, is_tuple_eq, hp, h0, h1]
  | ref n => simp [plain] at hd
  | cst n => simp [plain] at hd
  | _ => simp [M.check_program_1, is_tuple_eq, hd, isTup, isStepB]
end DL
namespace DL
open PySem L2
theorem test_body (e : EX) (S : Sto) (p s t x : Option D) (r : Int) (d : D) (hd : plain d = true) :
    M.check_program_2 e [p, some (.int r), s, t, x, some d] S = if isTestB r d = true then .nx [p, some (.int r), s, t, x, some d] S else .raise (.ref (e.x .BadProgram)) [p, some (.int r), s, t, x, some d] S := by
  cases d with
  | tup xs =>
    by_cases hl : xs.length = 2
    · obtain ⟨a, b, rfl⟩ := len2 hl
      simp only [plain, plains, Bool.and_eq_true, Bool.and_true] at hd
      have hp : plain (.tup [a, b]) = true := by simp [plain, plains, hd]
      simp only [M.check_program_2]
      cases h1 : isIn a 0 (r - 1) <;> cases h2 : isIn b 0 (r - 1) <;>
        simp [is_tuple_eq, hp, is_within_eq, hd, isTup, isTestB, h1, h2]
    · have hp : plain (.tup xs) = true := hd
      have h0 : isTestB r (.tup xs) = false := by
        match xs, hl with
        | [a, b], hl => simp at hl
        | [], _ => rfl
        | [_], _ => rfl
        | _ :: _ :: _ :: _, _ => rfl
      have h1 : isTup (.tup xs) 2 = false := by simp [isTup]; omega
      simp [M.check_program_2, is_tuple_eq, hp, h0, h1]
  | ref n => simp [plain] at hd
  | cst n => simp [plain] at hd
  | _ => simp [M.check_program_2, is_tuple_eq, hd, isTup, isTestB]
/-- a loop that checks each item -/
theorem loop_chk {it : Items} {gt : FG} {g : FS} (hw : it.w = none) (c : Value) (p : D → Bool) (σf : Option D → En) (hg : ∀ d y S, gt d (σf y) S = some (σf (some d))) :
    ∀ (ds : List D) (y : Option D) (S : Sto), (∀ d ∈ ds, g (σf (some d)) S = if p d = true then .nx (σf (some d)) S else .raise c (σf (some d)) S) →
    (ds.all p = true → ∃ y', loopF it gt g ds (σf y) S = .nx (σf y') S) ∧ (ds.all p = false → ∃ y', loopF it gt g ds (σf y) S = .raise c (σf y') S)
  | [], y, S, _ => ⟨fun _ => ⟨y, loop_nil (by rw [hw]; trivial)⟩, fun h => by simp at h⟩
  | d :: ds, y, S, hb => by
    have ih := loop_chk hw c p σf hg ds (some d) S (fun d' h => hb d' (List.mem_cons_of_mem _ h))
    have hd := hb d List.mem_cons_self
    have e1 : loopF it gt g (d :: ds) (σf y) S = (g (σf (some d)) S).turn (loopF it gt g ds) := loop_cons (by rw [hw]; trivial) (hg d y S)
    constructor
    · intro h
      simp only [List.all_cons, Bool.and_eq_true] at h
      rw [if_pos h.1] at hd
      obtain ⟨y', h'⟩ := ih.1 h.2
      exact ⟨y', by rw [e1, hd, RS.turn_nx, h']⟩
    · intro h
      by_cases hp : p d = true
      · rw [if_pos hp] at hd
        simp only [List.all_cons, hp, Bool.true_and] at h
        obtain ⟨y', h'⟩ := ih.2 h
        exact ⟨y', by rw [e1, hd, RS.turn_nx, h']⟩
      · rw [if_neg hp] at hd
        exact ⟨some d, by rw [e1, hd, RS.turn_raise]⟩
theorem chk_tup (e : EX) (x : D) (hx : plain x = true) (S : Sto) (n : Int) : (∃ xs, x = .tup xs ∧ cIsi [x, .cst (.ty "tuple")] S = some (.bl true)) ∨ ((∀ xs, x ≠ .tup xs) ∧ cIsi [x, .cst (.ty "tuple")] S = some (.bl false)) := by
  cases x with
  | tup xs => exact .inl ⟨xs, rfl, by simp⟩
  | ref n => simp [plain] at hx
  | cst n => simp [plain] at hx
  | _ => exact .inr ⟨(fun xs h => by cases h), (by simp)⟩
theorem check_program_eq (e : EX) (d : D) (S : Sto) (hd : plain d = true) : M.check_program e [d] S = if isProgB d = true then .ok .non S else .raise (.ref (e.x .BadProgram)) S := by
  by_cases h3 : isTup d 3 = true
  · cases d with
    | tup xs =>
      have hl : xs.length = 3 := by simp [isTup] at h3; omega
      obtain ⟨r, ss, ts, rfl⟩ := len3 hl
      have hp := hd
      simp only [plain, plains, Bool.and_eq_true, Bool.and_true] at hp
      obtain ⟨hr, hs, ht⟩ := hp
      by_cases h1 : isIn r 1 3 = true
      · cases r with
        | int r =>
          rcases chk_tup e ss hs S 0 with ⟨ss, rfl, c1⟩ | ⟨n1, c1⟩
          · have hs' : ∀ d ∈ ss, plain d = true := fun d h => plains_mem (by simpa [plain] using hs) h
            by_cases h4 : ss.length ≤ 4
            · have h4' : ¬ (4 : Int) < ss.length := by omega
              have L := loop_chk (it := ⟨ss, none⟩) (gt := gNm 4) (g := M.check_program_1 e) rfl (.ref (e.x .BadProgram)) (isStepB r) (fun y => [some (.tup [.int r, .tup ss, ts]), some (.int r), some (.tup ss), some ts, y, none]) (fun _ _ _ => rfl) ss none S
                (fun d h => step_body e S _ _ _ _ r d (hs' d h))
              by_cases ha : ss.all (isStepB r) = true
              · obtain ⟨y, ey⟩ := L.1 ha
                rcases chk_tup e ts ht S 0 with ⟨ts, rfl, c2⟩ | ⟨n2, c2⟩
                · have ht' : ∀ d ∈ ts, plain d = true := fun d h => plains_mem (by simpa [plain] using ht) h
                  by_cases h2 : ts.length ≤ 2
                  · have h2' : ¬ (2 : Int) < ts.length := by omega
                    have L2 := loop_chk (it := ⟨ts, none⟩) (gt := gNm 5) (g := M.check_program_2 e) rfl (.ref (e.x .BadProgram)) (isTestB r) (fun x => [some (.tup [.int r, .tup ss, .tup ts]), some (.int r), some (.tup ss), some (.tup ts), y, x]) (fun _ _ _ => rfl) ts none S
                      (fun d h => test_body e S _ _ _ _ r d (ht' d h))
                    by_cases hb : ts.all (isTestB r) = true
                    · obtain ⟨x, ex⟩ := L2.1 hb
                      have hB : isProgB (.tup [.int r, .tup ss, .tup ts]) = true := by simp only [isProgB, h1, h4, ha, h2, hb]; simp
                      simp [M.check_program, M.b_check_program, is_tuple_eq, hd, h3, is_within_eq, hr, h1, c1, h4', sFor, iSeq, ey, c2, h2', ex, hB]
                    · have hb' : ts.all (isTestB r) = false := by simpa using hb
                      obtain ⟨x, ex⟩ := L2.2 hb'
                      have hB : isProgB (.tup [.int r, .tup ss, .tup ts]) = false := by simp only [isProgB, hb']; simp
                      simp [M.check_program, M.b_check_program, is_tuple_eq, hd, h3, is_within_eq, hr, h1, c1, h4', sFor, iSeq, ey, c2, h2', ex, hB]
                  · have h2' : (2 : Int) < ts.length := by omega
                    have hB : isProgB (.tup [.int r, .tup ss, .tup ts]) = false := by simp [isProgB, h2]
                    simp [M.check_program, M.b_check_program, is_tuple_eq, hd, h3, is_within_eq, hr, h1, c1, h4', sFor, iSeq, ey, c2, h2', hB]
                · have hB : isProgB (.tup [.int r, .tup ss, ts]) = false := by
                    cases ts <;> first | (exfalso; exact n2 _ rfl) | simp [isProgB]
                  simp [M.check_program, M.b_check_program, is_tuple_eq, hd, h3, is_within_eq, hr, h1, c1, h4', sFor, iSeq, ey, c2, hB]
              · have ha' : ss.all (isStepB r) = false := by simpa using ha
                obtain ⟨y, ey⟩ := L.2 ha'
                have hB : isProgB (.tup [.int r, .tup ss, ts]) = false := by
                  cases ts <;> simp only [isProgB, ha'] <;> simp
                simp [M.check_program, M.b_check_program, is_tuple_eq, hd, h3, is_within_eq, hr, h1, c1, h4', sFor, iSeq, ey, hB]
            · have h4' : (4 : Int) < ss.length := by omega
              have hB : isProgB (.tup [.int r, .tup ss, ts]) = false := by
                cases ts <;> simp [isProgB, h4]
              simp [M.check_program, M.b_check_program, is_tuple_eq, hd, h3, is_within_eq, hr, h1, c1, h4', hB]
          · have hB : isProgB (.tup [.int r, ss, ts]) = false := by
              cases ss <;> first | (exfalso; exact n1 _ rfl) | simp [isProgB]
            simp [M.check_program, M.b_check_program, is_tuple_eq, hd, h3, is_within_eq, hr, h1, c1, hB]
        | _ => simp [isIn] at h1
      · have h1' : isIn r 1 3 = false := by simpa using h1
        have hB : isProgB (.tup [r, ss, ts]) = false := by simp only [isProgB, h1']; simp
        simp [M.check_program, M.b_check_program, is_tuple_eq, hd, h3, is_within_eq, hr, h1', hB]
    | _ => simp [isTup] at h3
  · have h3' : isTup d 3 = false := by simpa using h3
    have hB : isProgB d = false := by
      cases d with
      | tup xs =>
        match xs, h3' with
        | [a, b, c], h => simp [isTup] at h
        | [], _ => rfl
        | [_], _ => rfl
        | [_, _], _ => rfl
        | _ :: _ :: _ :: _ :: _, _ => rfl
      | _ => rfl
    simp [M.check_program, M.b_check_program, is_tuple_eq, hd, h3', hB]
def isPlaceB (d : D) : Bool := match d with
  | .tup [r, a, b] => isIn r 0 2 && isNat a && isNat b
  | _ => false
theorem is_place_eq (e : EX) (d : D) (S : Sto) (hd : plain d = true) : M.is_place e [d] S = .ok (.bl (isPlaceB d)) S := by
  by_cases h3 : isTup d 3 = true
  · cases d with
    | tup xs =>
      have hl : xs.length = 3 := by simp [isTup] at h3; omega
      obtain ⟨r, a, b, rfl⟩ := len3 hl
      have hp := hd
      simp only [plain, plains, Bool.and_eq_true, Bool.and_true] at hp
      obtain ⟨hr, ha, hb⟩ := hp
      cases h1 : isIn r 0 2 <;> cases h2 : isNat a <;> cases h4 : isNat b <;>
        simp [M.is_place, M.b_is_place, is_tuple_eq, hd, h3, is_within_eq, hr, is_natural_eq, ha, hb, isPlaceB, h1, h2, h4]
    | _ => simp [isTup] at h3
  · have h3' : isTup d 3 = false := by simpa using h3
    have hB : isPlaceB d = false := by
      cases d with
      | tup xs =>
        match xs, h3' with
        | [a, b, c], h => simp [isTup] at h
        | [], _ => rfl
        | [_], _ => rfl
        | [_, _], _ => rfl
        | _ :: _ :: _ :: _ :: _, _ => rfl
      | _ => rfl
    simp [M.is_place, M.b_is_place, is_tuple_eq, hd, h3', hB]
end DL
end

section
set_option Elab.async false
set_option linter.all false
set_option maxRecDepth 100000
set_option maxHeartbeats 1000000
namespace DL
open PySem L2
/-! ### what is drawn, by the number of draws -/
def DN (ns : List Int) (k : Nat) : Sto := [.lst [.lst (ns.map .int), .int k]]
def dr (ns : List Int) (k : Nat) : Int := drw ns k
theorem DN_eq {ns : List Int} {k : Nat} : DN ns k = DSt ns (k : Int) := rfl
@[simp] theorem draw_nR (e : EX) (ns : List Int) (k : Nat) (R : Sto) : M._law_draw e [.ref 0] (DN ns k ++ R) = .ok (.int (dr ns k)) (DN ns (k + 1) ++ R) := by
  have h := draw_eq e ns k R (by omega)
  rw [DN_eq, DN_eq, h]; rfl
@[simp] theorem draw_n (e : EX) (ns : List Int) (k : Nat) : M._law_draw e [.ref 0] (DN ns k) = .ok (.int (dr ns k)) (DN ns (k + 1)) := by
  have h := draw_nR e ns k []
  simpa using h
theorem dr_small {ns : List Int} (h : ∀ m ∈ ns, small m) (k : Nat) : small (dr ns k) := by
  unfold dr drw
  by_cases c : (k : Int) < ns.length
  · rw [if_pos c]
    have hk : k < ns.length := by omega
    rw [show (k : Int).toNat = k by omega, List.getD_eq_getElem?_getD, List.getElem?_eq_getElem hk]
    exact h _ (List.getElem_mem hk)
  · rw [if_neg c]
    constructor
    · omega
    · omega
@[simp] theorem atI_4 {a b c d f : D} {xs : List D} : atI (a :: b :: c :: d :: f :: xs) 4 = some f := by
  have : atI (a :: b :: c :: d :: f :: xs) ((4 : Nat) : Int) = some f := atI_nat rfl
  exact this
@[simp] theorem atI_5 {a b c d f g : D} {xs : List D} : atI (a :: b :: c :: d :: f :: g :: xs) 5 = some g := by
  have : atI (a :: b :: c :: d :: f :: g :: xs) ((5 : Nat) : Int) = some g := atI_nat rfl
  exact this
@[simp] theorem atI_6 {a b c d f g h : D} {xs : List D} : atI (a :: b :: c :: d :: f :: g :: h :: xs) 6 = some h := by
  have : atI (a :: b :: c :: d :: f :: g :: h :: xs) ((6 : Nat) : Int) = some h := atI_nat rfl
  exact this
@[simp] theorem atI_7 {a b c d f g h i : D} {xs : List D} : atI (a :: b :: c :: d :: f :: g :: h :: i :: xs) 7 = some i := by
  have : atI (a :: b :: c :: d :: f :: g :: h :: i :: xs) ((7 : Nat) : Int) = some i := atI_nat rfl
  exact this
/-- one of a list's items, by a rest -/
theorem atI_pick (xs : List D) (x : Int) (n : Nat) (hn : xs.length = n) (h0 : 0 < n) : ∃ d ∈ xs, atI xs (x % n) = some d := by
  have h1 : 0 ≤ x % (n : Int) := Int.emod_nonneg _ (by omega)
  have h2 : x % (n : Int) < n := Int.emod_lt_of_pos _ (by omega)
  obtain ⟨m, hm⟩ := Int.eq_ofNat_of_zero_le h1
  have hml : m < xs.length := by omega
  exact ⟨xs[m], List.getElem_mem hml, by rw [hm]; exact atI_nat (List.getElem?_eq_getElem hml)⟩
theorem pick_rooms (x : Int) : ∃ r : Int, 1 ≤ r ∧ r ≤ 3 ∧ atI [D.int 1, .int 2, .int 1, .int 3, .int 2] (x % 5) = some (.int r) := by
  obtain ⟨d, h1, h2⟩ := atI_pick [D.int 1, .int 2, .int 1, .int 3, .int 2] x 5 rfl (by omega)
  simp only [List.mem_cons, List.not_mem_nil, or_false] at h1
  rcases h1 with rfl | rfl | rfl | rfl | rfl <;> exact ⟨_, by decide, by decide, h2⟩
theorem pick_steps (x : Int) : ∃ r : Nat, r ≤ 4 ∧ atI [D.int 2, .int 3, .int 1, .int 4, .int 4, .int 3, .int 0] (x % 7) = some (.int r) := by
  obtain ⟨d, h1, h2⟩ := atI_pick [D.int 2, .int 3, .int 1, .int 4, .int 4, .int 3, .int 0] x 7 rfl (by omega)
  simp only [List.mem_cons, List.not_mem_nil, or_false] at h1
  rcases h1 with rfl | rfl | rfl | rfl | rfl | rfl | rfl <;> first | exact ⟨2, by decide, h2⟩ | exact ⟨3, by decide, h2⟩ | exact ⟨1, by decide, h2⟩ | exact ⟨4, by decide, h2⟩ | exact ⟨0, by decide, h2⟩
theorem pick_tests (x : Int) : ∃ r : Nat, r ≤ 2 ∧ atI [D.int 0, .int 1, .int 0, .int 2, .int 1] (x % 5) = some (.int r) := by
  obtain ⟨d, h1, h2⟩ := atI_pick [D.int 0, .int 1, .int 0, .int 2, .int 1] x 5 rfl (by omega)
  simp only [List.mem_cons, List.not_mem_nil, or_false] at h1
  rcases h1 with rfl | rfl | rfl | rfl | rfl <;> first | exact ⟨2, by decide, h2⟩ | exact ⟨1, by decide, h2⟩ | exact ⟨0, by decide, h2⟩
/-! ### the laws' programs -/
def stepD (a b f g : Int) : D := .tup [.int a, .int b, .int f, .int g]
theorem isIn_of {i lo hi : Int} (h1 : lo ≤ i) (h2 : i ≤ hi) : isIn (.int i) lo hi = true := by simp [isIn, h1, h2]
theorem lstOf_lastR {A S : Sto} {xs : List D} {n : Nat} (h : A.length = n) : lstOf (.ref n) (A ++ [.lst xs]) = some xs := by subst h; exact lstOf_last
@[simp] theorem DN_len {ns : List Int} {k : Nat} : (DN ns k).length = 1 := rfl
theorem lstOf_1 {ns : List Int} {k : Nat} {xs : List D} {R : Sto} : lstOf (.ref 1) (DN ns k ++ .lst xs :: R) = some xs := rfl
theorem lstOf_2 {ns : List Int} {k : Nat} {o : SO} {xs : List D} {R : Sto} : lstOf (.ref 2) (DN ns k ++ o :: .lst xs :: R) = some xs := rfl
theorem set_1 {ns : List Int} {k : Nat} {o o' : SO} {R : Sto} : (DN ns k ++ o :: R).set 1 o' = DN ns k ++ o' :: R := rfl
theorem set_2 {ns : List Int} {k : Nat} {o p o' : SO} {R : Sto} : (DN ns k ++ p :: o :: R).set 2 o' = DN ns k ++ p :: o' :: R := rfl
theorem plains_app {xs ys : List D} (h : plains xs = true) (h' : plains ys = true) : plains (xs ++ ys) = true := by
  induction xs with
  | nil => exact h'
  | cons a l ih =>
    simp only [plains, Bool.and_eq_true] at h
    simp only [List.cons_append, plains, h.1, ih h.2]
    rfl
theorem emod_in (x : Int) {r : Int} (r1 : 1 ≤ r) : isIn (.int (x % r)) 0 (r - 1) = true := by
  have h1 : 0 ≤ x % r := Int.emod_nonneg _ (by omega)
  have h2 : x % r < r := Int.emod_lt_of_pos _ (by omega)
  exact isIn_of h1 (by omega)
theorem emod5_in (x : Int) : isIn (.int (x % 5 - 2)) (-2) 2 = true := isIn_of (by omega) (by omega)
@[simp] theorem big_ok {n : Nat} (h : n ≤ 100000) : n ≤ BIG := Nat.le_trans h (by decide +kernel)
theorem big4 : (4 : Nat) ≤ BIG := by decide +kernel
theorem big2 : (2 : Nat) ≤ BIG := by decide +kernel
theorem big3 : (3 : Nat) ≤ BIG := by decide +kernel
theorem big5 : (5 : Nat) ≤ BIG := by decide +kernel
theorem big6 : (6 : Nat) ≤ BIG := by decide +kernel
theorem big7 : (7 : Nat) ≤ BIG := by decide +kernel
theorem big8 : (8 : Nat) ≤ BIG := by decide +kernel
theorem in62_nat {n : Nat} (h : n ≤ 1000000) : in62 (n : Int) = true := by
  unfold in62
  have h1 : -(4611686018427387904) ≤ (n : Int) := by omega
  have h2 : (n : Int) < 4611686018427387904 := by omega
  simp only [h1, h2, decide_true, Bool.and_self]
theorem rgD_len {n : Nat} : (rgD 0 (n : Int)).length = n := by simp [rgD]
def StepI (ns : List Int) (r : Int) (i : Nat) (σ : En) (T : Sto) : Prop := ∃ (v3 v4 v5 : Option D) (k' : Nat) (acc : List D), σ = [some (.ref 0), some (.int r), some (.ref 1), v3, v4, v5, none] ∧ T = DN ns k' ++ [.lst acc] ∧ acc.length = i ∧ acc.all (isStepB r) = true ∧ plains acc = true
theorem prog_steps (e : EX) (ns : List Int) (k : Nat) (r : Int) (r1 : 1 ≤ r) (n : Nat) (hn : n ≤ 4) : ∃ σ' S', loopF ⟨rgD 0 (n : Int), none⟩ (gNm 3) (M._law_program_1 e) (rgD 0 (n : Int)) [some (.ref 0), some (.int r), some (.ref 1), none, none, none, none] (DN ns k ++ [.lst []]) = .nx σ' S' ∧ StepI ns r (0 + (rgD 0 (n : Int)).length) σ' S' := by
  refine loop_ok rfl (StepI ns r) (rgD 0 (n : Int)) 0 _ _ ⟨none, none, none, k, [], rfl, rfl, rfl, rfl, rfl⟩ ?_
  rintro j d σ T ed ⟨v3, v4, v5, k', acc, rfl, rfl, hl, hs, hp⟩
  have hj : j < n := by
    have := (List.getElem?_eq_some_iff.mp ed).1
    rwa [rgD_len] at this
  have hb : acc.length < BIG := big_lt (by omega)
  have r0 : 0 < r := by omega
  refine ⟨_, _, _, rfl, ?_, some d, some (.int (dr ns k' % r)), some (.int (dr ns (k' + 1) % r)), k' + 1 + 1 + 1 + 1, acc ++ [stepD (dr ns k' % r) (dr ns (k' + 1) % r) (dr ns (k' + 1 + 1) % 5 - 2) (dr ns (k' + 1 + 1 + 1) % 5 - 2)], rfl, rfl, by simp; omega, ?_, plains_app hp rfl⟩
  · simp [M._law_program_1, r0, ap_fM, lstOf_1, ap_mAppend hb, set_1, stepD, big4]
  · have : isStepB r (stepD (dr ns k' % r) (dr ns (k' + 1) % r) (dr ns (k' + 1 + 1) % 5 - 2) (dr ns (k' + 1 + 1 + 1) % 5 - 2)) = true := by
      simp only [isStepB, stepD, emod_in _ r1, emod5_in, Bool.and_self]
    simp only [List.all_append, hs, List.all_cons, this, List.all_nil, Bool.and_self]
def TestI (ns : List Int) (r : Int) (v4 v5 : Option D) (ss : List D) (i : Nat) (σ : En) (T : Sto) : Prop := ∃ (v3 : Option D) (k' : Nat) (acc : List D), σ = [some (.ref 0), some (.int r), some (.ref 1), v3, v4, v5, some (.ref 2)] ∧ T = DN ns k' ++ [.lst ss, .lst acc] ∧ acc.length = i ∧ acc.all (isTestB r) = true ∧ plains acc = true
theorem prog_tests (e : EX) (ns : List Int) (k : Nat) (r : Int) (r1 : 1 ≤ r) (n : Nat) (hn : n ≤ 2) (v3 v4 v5 : Option D) (ss : List D) : ∃ σ' S', loopF ⟨rgD 0 (n : Int), none⟩ (gNm 3) (M._law_program_2 e) (rgD 0 (n : Int)) [some (.ref 0), some (.int r), some (.ref 1), v3, v4, v5, some (.ref 2)] (DN ns k ++ [.lst ss, .lst []]) = .nx σ' S' ∧ TestI ns r v4 v5 ss (0 + (rgD 0 (n : Int)).length) σ' S' := by
  refine loop_ok rfl (TestI ns r v4 v5 ss) (rgD 0 (n : Int)) 0 _ _ ⟨v3, k, [], rfl, rfl, rfl, rfl, rfl⟩ ?_
  rintro j d σ T ed ⟨v3, k', acc, rfl, rfl, hl, hs, hp⟩
  have hj : j < n := by
    have := (List.getElem?_eq_some_iff.mp ed).1
    rwa [rgD_len] at this
  have hb : acc.length < BIG := big_lt (by omega)
  have r0 : 0 < r := by omega
  refine ⟨_, _, _, rfl, ?_, some d, k' + 1 + 1, acc ++ [.tup [.int (dr ns k' % r), .int (dr ns (k' + 1) % r)]], rfl, rfl, by simp; omega, ?_, plains_app hp rfl⟩
  · simp [M._law_program_2, r0, ap_fM, lstOf_2, ap_mAppend hb, set_2, big2]
  · have : isTestB r (.tup [.int (dr ns k' % r), .int (dr ns (k' + 1) % r)]) = true := by
      simp only [isTestB, emod_in _ r1, Bool.and_self]
    simp only [List.all_append, hs, List.all_cons, this, List.all_nil, Bool.and_self]
mutual
theorem plain_clean (n : Nat) : ∀ d : D, plain d = true → clean n d = true
  | .tup xs, h => by unfold plain at h; unfold clean; exact plains_cleans n xs h
  | .lst xs, h => by unfold plain at h; unfold clean; exact plains_cleans n xs h
  | .frz xs, h => by unfold plain at h; unfold clean; exact plains_cleans n xs h
  | .ref _, h => by simp [plain] at h
  | .cst _, h => by simp [plain] at h
  | .non, _ => by unfold clean; rfl
  | .bl _, _ => by unfold clean; rfl
  | .int _, _ => by unfold clean; rfl
  | .str _, _ => by unfold clean; rfl
  | .emp, _ => by unfold clean; rfl
theorem plains_cleans (n : Nat) : ∀ ds : List D, plains ds = true → cleans n ds = true
  | [], _ => by unfold cleans; rfl
  | d :: ds, h => by
    unfold plains at h
    have h' := Bool.and_eq_true_iff.mp h
    unfold cleans
    rw [plain_clean n d h'.1, plains_cleans n ds h'.2]
    rfl
end
theorem letGo_plain {n : Nat} {d : D} {S : Sto} (h : plain d = true) : letGo n d S = some d := by
  cases d with
  | ref m => simp [plain] at h
  | _ => have hc := plain_clean n _ h; simp [letGo, hc]
theorem plains_ints (ns : List Int) : plains (ns.map D.int) = true := by
  induction ns with
  | nil => rfl
  | cons a l ih => simp only [List.map_cons, plains, plain, ih, Bool.and_self]
@[simp] theorem clean_DN {ns : List Int} {k : Nat} : cleanS 1 (DN ns k) = true := by
  have h : plains [D.lst (ns.map .int), .int k] = true := by simp only [plains, plain, plains_ints, Bool.and_self]
  have := plains_cleans 1 _ h
  simp only [cleanS, DN, List.all_cons, cleanO, this, List.all_nil, Bool.and_self]
@[simp] theorem take_DN {ns : List Int} {k : Nat} {R : Sto} : List.take 1 (DN ns k ++ R) = DN ns k := rfl
theorem program_eq (e : EX) (ns : List Int) (k : Nat) : ∃ (r : Int) (ss ts : List D) (k' : Nat), 1 ≤ r ∧ r ≤ 3 ∧ isProgB (.tup [.int r, .tup ss, .tup ts]) = true ∧ plain (.tup [.int r, .tup ss, .tup ts]) = true ∧
    M._law_program e [.ref 0] (DN ns k) = .ok (.tup [.int r, .tup ss, .tup ts]) (DN ns k') := by
  obtain ⟨r, r1, r2, er⟩ := pick_rooms (dr ns k)
  obtain ⟨n, hn, en⟩ := pick_steps (dr ns (k + 1))
  have i62 : in62 (n : Int) = true := in62_nat (by omega)
  obtain ⟨σ1, S1, e1, v3, v4, v5, k1, ss, rfl, rfl, hs1, hs2, hs3⟩ := prog_steps e ns (k + 1 + 1) r r1 n hn
  obtain ⟨m, hm, em⟩ := pick_tests (dr ns k1)
  have i62' : in62 (m : Int) = true := in62_nat (by omega)
  obtain ⟨σ2, S2, e2, w3, k2, ts, rfl, rfl, ht1, ht2, ht3⟩ := prog_tests e ns (k1 + 1) r r1 m hm v3 v4 v5 ss
  rw [rgD_len] at hs1 ht1
  have hp1 : isProgB (.tup [.int r, .tup ss, .tup ts]) = true := by
    have q1 : ss.length ≤ 4 := by omega
    have q2 : ts.length ≤ 2 := by omega
    simp only [isProgB, isIn_of r1 r2, q1, q2, hs2, ht2, decide_true, Bool.and_self]
  have hp2 : plain (.tup [.int r, .tup ss, .tup ts]) = true := by
    simp only [plain, plains, hs3, ht3, Bool.and_self]
  refine ⟨r, ss, ts, k2, r1, r2, hp1, hp2, ?_⟩
  have cS : cTup [.ref 1] (DN ns k2 ++ [.lst ss, .lst ts]) = some (.tup ss) := rfl
  have cT : cTup [.ref 2] (DN ns k2 ++ [.lst ss, .lst ts]) = some (.tup ts) := rfl
  simp -implicitDefEqProofs [M._law_program, M.b__law_program, frz, big5, big7, big3, er, en, sFor, iRg1, i62, e1, em, i62', e2, cS, cT, letGo_plain hp2]
end DL
end

section
set_option Elab.async false
set_option linter.all false
set_option maxRecDepth 100000
set_option maxHeartbeats 1000000
namespace DL
open PySem L2
/-! ### standings are checked -/
def roomsOf (d : D) : Int := match d with
  | .tup (.int r :: _) => r
  | _ => 0
def isStandB (r : Int) (d : D) : Bool := match d with
  | .tup [.int a, b, c] => isPlaceB (.tup [.int a, b, c]) && decide (a < r)
  | _ => false
theorem prog_shape {d : D} (h : isProgB d = true) : ∃ r ss ts, d = .tup [.int r, .tup ss, .tup ts] := by
  cases d with
  | tup xs =>
    match xs, h with
    | [r, ss, ts], h =>
      cases r with
      | int r =>
        cases ss with
        | tup ss =>
          cases ts with
          | tup ts => exact ⟨r, ss, ts, rfl⟩
          | _ => simp [isProgB] at h
        | _ => simp [isProgB] at h
      | _ => simp [isProgB, isIn] at h
    | [], h => simp [isProgB] at h
    | [_], h => simp [isProgB] at h
    | [_, _], h => simp [isProgB] at h
    | _ :: _ :: _ :: _ :: _, h => simp [isProgB] at h
  | _ => simp [isProgB] at h
theorem place_shape {d : D} (h : isPlaceB d = true) : ∃ r a b, d = .tup [.int r, .int a, .int b] ∧ 0 ≤ r ∧ r ≤ 2 ∧ 0 ≤ a ∧ 0 ≤ b := by
  cases d with
  | tup xs =>
    match xs, h with
    | [r, a, b], h =>
      simp only [isPlaceB, Bool.and_eq_true] at h
      obtain ⟨⟨h1, h2⟩, h3⟩ := h
      cases r with
      | int r =>
        cases a with
        | int a =>
          cases b with
          | int b =>
            simp only [isIn, isNat, Bool.and_eq_true, decide_eq_true_eq] at h1 h2 h3
            exact ⟨r, a, b, rfl, h1.1, h1.2, h2, h3⟩
          | _ => simp [isNat] at h3
        | _ => simp [isNat] at h2
      | _ => simp [isIn] at h1
    | [], h => simp [isPlaceB] at h
    | [_], h => simp [isPlaceB] at h
    | [_, _], h => simp [isPlaceB] at h
    | _ :: _ :: _ :: _ :: _, h => simp [isPlaceB] at h
  | _ => simp [isPlaceB] at h
theorem stand_false {r : Int} {d : D} (h : isPlaceB d = false) : isStandB r d = false := by
  unfold isStandB
  split
  · rw [h]; rfl
  · rfl
theorem check_standing_eq (e : EX) (d s : D) (S : Sto) (hd : plain d = true) (hs : plain s = true) :
    M.check_standing e [d, s] S = if isProgB d = true then (if isStandB (roomsOf d) s = true then .ok .non S else .raise (.ref (e.x .BadStanding)) S) else .raise (.ref (e.x .BadProgram)) S := by
  by_cases h1 : isProgB d = true
  · obtain ⟨r, ss, ts, rfl⟩ := prog_shape h1
    by_cases h2 : isPlaceB s = true
    · obtain ⟨a, b, c, rfl, _⟩ := place_shape h2
      by_cases h3 : a < r
      · have h3' : ¬ r ≤ a := by omega
        have h4 : isStandB r (.tup [.int a, .int b, .int c]) = true := by simp only [isStandB, h2, h3, decide_true, Bool.and_self]
        simp -implicitDefEqProofs [M.check_standing, M.b_check_standing, check_program_eq, hd, h1, is_place_eq, hs, h2, h3, h3', h4, roomsOf]
      · have h3' : r ≤ a := by omega
        have h4 : isStandB r (.tup [.int a, .int b, .int c]) = false := by simp only [isStandB, h2, h3, decide_false, Bool.and_false]
        simp -implicitDefEqProofs [M.check_standing, M.b_check_standing, check_program_eq, hd, h1, is_place_eq, hs, h2, h3, h3', h4, roomsOf]
    · have h2' : isPlaceB s = false := by simpa using h2
      have h4 : isStandB r s = false := stand_false h2'
      simp -implicitDefEqProofs [M.check_standing, M.b_check_standing, check_program_eq, hd, h1, is_place_eq, hs, h2', h4, roomsOf]
  · simp -implicitDefEqProofs [M.check_standing, M.b_check_standing, check_program_eq, hd, h1]
end DL
end

section
set_option Elab.async false
set_option linter.all false
set_option maxRecDepth 100000
set_option maxHeartbeats 1000000
/-! numbers and draws, where the law names its number otherwise -/
namespace DL
open PySem L2
theorem mixed_eq2 (e : EX) (n k : Int) (S : Sto) : M._law_mixed e [.int n, .int k] S = .ok (.int (mixedZ n k)) S := by
  have hm : in64 ((n * 48271 + k * 69621 + 12345) % 2147483647) = true := in64_of (by omega) (by omega)
  have a1 : in64 48271 = true := by decide
  have a2 : in64 69621 = true := by decide
  have a3 : mid 65536 = true := by decide +kernel
  simp [M._law_mixed, M.b__law_mixed, mixedZ, a1, a2, a3, hm]
theorem draw_eq2 (e : EX) (ns : List Int) (k : Int) (R : Sto) (hk : 0 ≤ k) : M._law_draw e [.ref 0] (DSt ns k ++ R) = .ok (.int (drw ns k)) (DSt ns (k + 1) ++ R) := by
  have hp : putL (.ref 0) (.int 1) (.int (k + 1)) (DSt ns k ++ R) = some (DSt ns (k + 1) ++ R) := by
    simp [putL, DSt, ixN]
  by_cases c : k < ns.length
  · simp [M._law_draw, M.b__law_draw, drw, DSt, dIx, anyL, lstOf, c, atI_map hk c, putL, ixN]
  · have a1 : in64 1009 = true := by decide
    by_cases c0 : 0 < ns.length
    · have h00 := atI_map (ns := ns) (k := 0) (by omega) (by omega)
      simp [M._law_draw, M.b__law_draw, drw, DSt, dIx, anyL, lstOf, c, c0, h00, mixed_eq2, a1, putL, ixN]
    · simp [M._law_draw, M.b__law_draw, drw, DSt, dIx, anyL, lstOf, c, c0, mixed_eq2, putL, ixN]
theorem num12 (e : EX) (it : Items) (hw : it.w = none) (S : Sto) (ds : List D) (sc : D) (c : Option D) (rest : Int) (k : Option D) (acc : List Int) (hb : acc.length + ds.length < 100000) (hs : ∀ m ∈ acc, small m) :
    ∃ σ' S', loopF it (gNm 4) (M._law_numbers_1 e) ds [some sc, some (.ref S.length), c, some (.int rest), k] (S ++ [.lst (acc.map .int)]) = .nx σ' S' ∧
      ∃ (r' k' : Option D) (acc' : List Int), σ' = [some sc, some (.ref S.length), c, r', k'] ∧ S' = S ++ [.lst (acc'.map .int)] ∧ acc'.length ≤ acc.length + ds.length ∧ ∀ m ∈ acc', small m := by
  obtain ⟨σ', S', e1, r', k', acc', e2, e3, e4, e5⟩ := loop_ok (it := it) (gt := gNm 4) (g := M._law_numbers_1 e) hw
    (fun i σ T => ∃ (r : Int) (k' : Option D) (acc' : List Int), σ = [some sc, some (.ref S.length), c, some (.int r), k'] ∧ T = S ++ [.lst (acc'.map .int)] ∧ acc'.length ≤ acc.length + i ∧ ∀ m ∈ acc', small m)
    ds 0 _ _ ⟨rest, k, acc, rfl, rfl, by omega, hs⟩ (by
      rintro j d σ T ed ⟨r, k', acc', rfl, rfl, hl, hsm⟩
      have hj : j < ds.length := (List.getElem?_eq_some_iff.mp ed).1
      by_cases c0 : 0 < r
      · have hbb : (acc'.map D.int).length < BIG := big_lt (by simp; omega)
        have a1 : mid 1000000 = true := by decide +kernel
        refine ⟨_, _, _, rfl, ?_, r / 1000000, some d, acc' ++ [r % 1000000], rfl, rfl, by simp; omega, ?_⟩
        · simp [M._law_numbers_1, c0, ap_fM, lstOf_last, ap_mAppend hbb, set_last, a1]
        · intro m hm
          rcases List.mem_append.mp hm with hm | hm
          · exact hsm m hm
          · rw [List.mem_singleton.mp hm]; constructor <;> omega
      · refine ⟨_, _, _, rfl, ?_, r, some d, acc', rfl, rfl, by omega, hsm⟩
        simp [M._law_numbers_1, c0])
  exact ⟨σ', S', e1, some (.int r'), k', acc', e2, e3, by omega, e5⟩
theorem num22 (e : EX) (it : Items) (hw : it.w = none) (S : Sto) (sc : D) (cell : Int) (r k : Option D) (acc : List Int) (n : Nat) (hb : acc.length + n < 100000) (hs : ∀ m ∈ acc, small m) :
    ∃ σ' S', loopF it (gNm 4) (M._law_numbers_2 e) (rgD 0 n) [some sc, some (.ref S.length), some (.int cell), r, k] (S ++ [.lst (acc.map .int)]) = .nx σ' S' ∧
      ∃ (k' : Option D) (acc' : List Int), σ' = [some sc, some (.ref S.length), some (.int cell), r, k'] ∧ S' = S ++ [.lst (acc'.map .int)] ∧ acc'.length ≤ acc.length + n ∧ ∀ m ∈ acc', small m := by
  have hn : (rgD 0 n).length = n := by simp [rgD]
  obtain ⟨σ', S', e1, k', acc', e2, e3, e4, e5⟩ := loop_ok (it := it) (gt := gNm 4) (g := M._law_numbers_2 e) hw
    (fun i σ T => ∃ (k' : Option D) (acc' : List Int), σ = [some sc, some (.ref S.length), some (.int cell), r, k'] ∧ T = S ++ [.lst (acc'.map .int)] ∧ acc'.length ≤ acc.length + i ∧ ∀ m ∈ acc', small m)
    (rgD 0 n) 0 _ _ ⟨k, acc, rfl, rfl, by omega, hs⟩ (by
      rintro j d σ T ed ⟨k', acc', rfl, rfl, hl, hsm⟩
      have hj : j < n := by rw [← hn]; exact (List.getElem?_eq_some_iff.mp ed).1
      have hd : d = .int j := by
        simp [rgD, List.getElem?_map, List.getElem?_range hj] at ed
        exact ed.symm
      subst hd
      have hbb : (acc'.map D.int).length < BIG := big_lt (by simp; omega)
      refine ⟨_, _, _, rfl, ?_, some (.int j), acc' ++ [mixedZ (mixedZ (cell % 2147483647) j) (j + 7) % 1000000], rfl, rfl, by simp; omega, ?_⟩
      · simp [M._law_numbers_2, ap_fM, lstOf_last, ap_mAppend hbb, set_last, mixed_eq2]
      · intro m hm
        rcases List.mem_append.mp hm with hm | hm
        · exact hsm m hm
        · rw [List.mem_singleton.mp hm]; constructor <;> omega)
  exact ⟨σ', S', e1, k', acc', e2, e3, by rw [hn] at e4; omega, e5⟩
theorem numbers_eq2 (e : EX) (ns : List Int) (S : Sto) (hl : ns.length ≤ 63) (hc : cleanS S.length S = true) : ∃ ms : List Int, (∀ m ∈ ms, small m) ∧ ms.length ≤ 4000 ∧ M._law_numbers e [.frz (ns.map .int)] S = .ok (.lst (ms.map .int)) S := by
  obtain ⟨σ', S', e1, c', r', k', acc', e2, e3, e4, e5⟩ := loop_ok (it := ⟨ns.map .int, none⟩) (gt := gNm 2) (g := M._law_numbers_3 e) rfl
    (fun i σ T => ∃ (c r k : Option D) (acc : List Int), σ = [some (.frz (ns.map .int)), some (.ref S.length), c, r, k] ∧ T = S ++ [.lst (acc.map .int)] ∧ acc.length ≤ 60 * i ∧ ∀ m ∈ acc, small m)
    (ns.map .int) 0 [some (.frz (ns.map .int)), some (.ref S.length), none, none, none] (S ++ [.lst []]) ⟨none, none, none, [], rfl, rfl, by simp, by simp⟩ (by
      rintro j d σ T ed ⟨c, r, k, acc, rfl, rfl, hl2, hsm⟩
      obtain ⟨cell, hcell, rfl⟩ : ∃ cell, ns[j]? = some cell ∧ d = .int cell := by
        rw [List.getElem?_map] at ed
        obtain ⟨x, h1, h2⟩ := Option.map_eq_some_iff.mp ed
        exact ⟨x, h1, h2.symm⟩
      have hj : j < 63 := Nat.lt_of_lt_of_le (List.getElem?_eq_some_iff.mp hcell).1 hl
      have i60 : in62 60 = true := by decide
      have i5 : in62 5 = true := by decide
      have p18 : dPow (.int 10) (.int 18) = fun _ => some (.int 1000000000000000000) := by
        funext S
        simp [dPow, dI]
      have l60 : (rgD 0 60).length = 60 := by simp [rgD]
      by_cases c18 : 1000000000000000000 ≤ cell
      · obtain ⟨σ2, S2, k1, r2, k2, acc2, rfl, rfl, k5, k6⟩ := num12 e ⟨rgD 0 60, none⟩ rfl S (rgD 0 60) (.frz (ns.map .int)) (some (.int cell)) cell k acc (by rw [l60]; omega) hsm
        refine ⟨_, _, _, rfl, ?_, some (.int cell), r2, k2, acc2, rfl, rfl, by rw [l60] at k5; omega, k6⟩
        simp [M._law_numbers_3, p18, c18, sFor, iRg1, i60, k1]
      · have hbb : (acc.map D.int).length < BIG := big_lt (by simp; omega)
        obtain ⟨σ2, S2, k1, k2, acc2, rfl, rfl, k5, k6⟩ := num22 e ⟨rgD 0 5, none⟩ rfl S (.frz (ns.map .int)) cell r k (acc ++ [cell % 1000000]) 5 (by simp; omega) (by
          intro m hm
          rcases List.mem_append.mp hm with hm | hm
          · exact hsm m hm
          · rw [List.mem_singleton.mp hm]; constructor <;> omega)
        refine ⟨_, _, _, rfl, ?_, some (.int cell), r, k2, acc2, rfl, rfl, by simp at k5; omega, k6⟩
        simp only [List.map_append, List.map_cons, List.map_nil] at k1
        have k1' : loopF ⟨rgD 0 5, none⟩ (gNm 4) (M._law_numbers_2 e) (rgD 0 5) _ _ = _ := k1
        simp [M._law_numbers_3, p18, c18, sFor, iRg1, i5, ap_fM, lstOf_last, ap_mAppend hbb, set_last, k1'])
  refine ⟨acc', e5, by simp at e4; omega, ?_⟩
  subst e2 e3
  have cl : cleans S.length (acc'.map D.int) = true := by
    clear e1 e4 e5
    induction acc' with
    | nil => rfl
    | cons a l ih => simp [cleans, clean, ih]
  simp [M._law_numbers, M.b__law_numbers, frz, sFor, iSeq, e1, hc, letGo, cl]
@[simp] theorem draw_nR2 (e : EX) (ns : List Int) (k : Nat) (R : Sto) : M._law_draw e [.ref 0] (DN ns k ++ R) = .ok (.int (dr ns k)) (DN ns (k + 1) ++ R) := by
  have h := draw_eq2 e ns k R (by omega)
  rw [DN_eq, DN_eq, h]; rfl
@[simp] theorem draw_n2 (e : EX) (ns : List Int) (k : Nat) : M._law_draw e [.ref 0] (DN ns k) = .ok (.int (dr ns k)) (DN ns (k + 1)) := by
  have h := draw_nR2 e ns k []
  simpa using h
end DL
end

section
set_option Elab.async false
set_option linter.all false
set_option maxRecDepth 100000
set_option maxHeartbeats 1000000
namespace DL
open PySem L2
@[simp] theorem v_cutT {xs : List D} {lo hi : Option Int} {S : Sto} : dCut (.tup xs) lo hi S = some (.tup (cutD xs lo hi)) := rfl
@[simp] theorem v_addT {xs ys : List D} {S : Sto} (h : xs.length + ys.length ≤ 100000) : dAdd (.tup xs) (.tup ys) S = some (.tup (xs ++ ys)) := by
  show (none.or ((none : Option D).or ((if xs.length + ys.length ≤ BIG then some (D.tup (xs ++ ys)) else none).or _))) = _
  rw [if_pos (big_ok h)]; rfl
theorem v_mulT {xs : List D} {k : Int} {S : Sto} (h0 : xs ≠ []) (h1 : 2 ≤ k) (h2 : k ≤ 1000) (h3 : xs.length ≤ 1000) : dMul (.tup xs) (.int k) S = some (.tup (List.replicate k.toNat xs).flatten) := by
  show ((none : Option D).or ((if xs ≠ [] ∧ 2 ≤ k ∧ k ≤ 1000 ∧ xs.length ≤ 1000 then some (D.tup (List.replicate k.toNat xs).flatten) else none).or _)) = _
  rw [if_pos ⟨h0, h1, h2, h3⟩]; rfl
theorem cut_mem {xs : List D} {lo hi : Option Int} {d : D} (h : d ∈ cutD xs lo hi) : d ∈ xs := by
  unfold cutD at h
  exact List.mem_of_mem_drop (List.mem_of_mem_take h)
theorem cut_len {xs : List D} {lo hi : Option Int} : (cutD xs lo hi).length ≤ xs.length := by
  unfold cutD
  rw [List.length_take, List.length_drop]
  omega
theorem tryAs_raise {m : Value → Value → Option Bool} {g : FS} {k c : Value} {i : Nat} {h : Value → Addr → FS} {σ σ1 : En} {S S1 : Sto} {r : RS} (h1 : g σ S = .raise c σ1 S1) (h2 : m c k = some true)
    (h3 : ∀ a, ((h c a (σ1.set i (some (.cst (.ref a)))) S1).noR.clr i) = r) : sTryAs m g k i h σ S = r := by
  unfold sTryAs
  rw [h1]
  simp only [h2]
  rw [if_pos (fun a => by rw [h3 a, h3 0])]
  exact h3 0
theorem tryAs_nx {m : Value → Value → Option Bool} {g : FS} {k : Value} {i : Nat} {h : Value → Addr → FS} {σ σ1 : En} {S S1 : Sto} (h1 : g σ S = .nx σ1 S1) : sTryAs m g k i h σ S = .nx σ1 S1 := by
  unfold sTryAs; rw [h1]
/-! what can be shown and is plain -/
structure G (k : Nat) (d : D) : Prop where
  p : plain d = true
  r : Rp k d = true
  e : noEmp d = true
theorem Rp_mono : ∀ (k : Nat) (d : D), Rp k d = true → Rp (k + 1) d = true := by
  intro k
  induction k with
  | zero => intro d h; cases d <;> first | exact h | (simp [Rp] at h)
  | succ k ih =>
    intro d h
    cases d with
    | tup xs =>
      simp only [Rp, Bool.and_eq_true, List.all_eq_true] at h ⊢
      exact ⟨h.1, fun x hx => ih x (h.2 x hx)⟩
    | lst xs =>
      simp only [Rp, Bool.and_eq_true, List.all_eq_true] at h ⊢
      exact ⟨h.1, fun x hx => ih x (h.2 x hx)⟩
    | _ => exact h
theorem G.up {k : Nat} {d : D} (h : G k d) : G (k + 1) d := ⟨h.p, Rp_mono k d h.r, h.e⟩
theorem plains_of {xs : List D} (h : ∀ x ∈ xs, plain x = true) : plains xs = true := by
  induction xs with
  | nil => rfl
  | cons a l ih =>
    simp only [plains, h a List.mem_cons_self, ih (fun x hx => h x (List.mem_cons_of_mem _ hx)), Bool.and_self]
theorem noEmps_of {xs : List D} (h : ∀ x ∈ xs, noEmp x = true) : noEmps xs = true := by
  induction xs with
  | nil => rfl
  | cons a l ih =>
    simp only [noEmps, h a List.mem_cons_self, ih (fun x hx => h x (List.mem_cons_of_mem _ hx)), Bool.and_self]
theorem noLsts_of {xs : List D} (h : ∀ x ∈ xs, noLst x = true) : noLsts xs = true := by
  induction xs with
  | nil => rfl
  | cons a l ih =>
    simp only [noLsts, h a List.mem_cons_self, ih (fun x hx => h x (List.mem_cons_of_mem _ hx)), Bool.and_self]
theorem G.tup {k : Nat} {xs : List D} (hl : xs.length ≤ 15) (h : ∀ x ∈ xs, G k x) : G (k + 1) (.tup xs) :=
  ⟨plains_of fun x hx => (h x hx).p, by simp only [Rp, Bool.and_eq_true, List.all_eq_true, decide_eq_true_eq]; exact ⟨hl, fun x hx => (h x hx).r⟩, noEmps_of fun x hx => (h x hx).e⟩
theorem G.lst {k : Nat} {xs : List D} (hl : xs.length ≤ 15) (h : ∀ x ∈ xs, G k x) : G (k + 1) (.lst xs) :=
  ⟨plains_of fun x hx => (h x hx).p, by simp only [Rp, Bool.and_eq_true, List.all_eq_true, decide_eq_true_eq]; exact ⟨hl, fun x hx => (h x hx).r⟩, noEmps_of fun x hx => (h x hx).e⟩
theorem mid_of {i : Int} (h1 : -1000000000000000000000000000000000 < i) (h2 : i < 1000000000000000000000000000000000) : mid i = true := by
  unfold mid
  simp only [Bool.and_eq_true, decide_eq_true_eq]
  constructor <;> omega
theorem G.int {k : Nat} {i : Int} (h1 : -1000000000000000000000000000000000 < i) (h2 : i < 1000000000000000000000000000000000) : G k (.int i) := ⟨rfl, by cases k <;> exact mid_of h1 h2, rfl⟩
theorem G.non {k : Nat} : G k .non := ⟨rfl, by cases k <;> rfl, rfl⟩
theorem G.bl {k : Nat} {b : Bool} : G k (.bl b) := ⟨rfl, by cases k <;> rfl, rfl⟩
theorem G.str {k : Nat} {x : Str} (h : shortS x = true) : G k (.str x) := ⟨rfl, by cases k <;> exact h, rfl⟩
theorem isIn_G {k : Nat} {d : D} {lo hi : Int} (h : isIn d lo hi = true) (h1 : -100 ≤ lo) (h2 : hi ≤ 100) : G k d ∧ noLst d = true := by
  cases d with
  | int i =>
    simp only [isIn, Bool.and_eq_true, decide_eq_true_eq] at h
    exact ⟨.int (by omega) (by omega), rfl⟩
  | _ => simp [isIn] at h
theorem step_G {r : Int} {d : D} (hr : r ≤ 3) (h : isStepB r d = true) : G 1 d ∧ noLst d = true := by
  cases d with
  | tup xs =>
    match xs, h with
    | [a, b, f, g], h =>
      simp only [isStepB, Bool.and_eq_true] at h
      obtain ⟨⟨⟨h1, h2⟩, h3⟩, h4⟩ := h
      have a1 := isIn_G (k := 0) h1 (by omega) (by omega)
      have a2 := isIn_G (k := 0) h2 (by omega) (by omega)
      have a3 := isIn_G (k := 0) h3 (by omega) (by omega)
      have a4 := isIn_G (k := 0) h4 (by omega) (by omega)
      refine ⟨.tup (by simp) fun x hx => ?_, noLsts_of fun x hx => ?_⟩ <;>
        (simp only [List.mem_cons, List.not_mem_nil, or_false] at hx; rcases hx with rfl | rfl | rfl | rfl)
      · exact a1.1
      · exact a2.1
      · exact a3.1
      · exact a4.1
      · exact a1.2
      · exact a2.2
      · exact a3.2
      · exact a4.2
    | [], h => simp [isStepB] at h
    | [_], h => simp [isStepB] at h
    | [_, _], h => simp [isStepB] at h
    | [_, _, _], h => simp [isStepB] at h
    | _ :: _ :: _ :: _ :: _ :: _, h => simp [isStepB] at h
  | _ => simp [isStepB] at h
theorem test_G {r : Int} {d : D} (hr : r ≤ 3) (h : isTestB r d = true) : G 1 d ∧ noLst d = true := by
  cases d with
  | tup xs =>
    match xs, h with
    | [a, b], h =>
      simp only [isTestB, Bool.and_eq_true] at h
      have a1 := isIn_G (k := 0) h.1 (by omega) (by omega)
      have a2 := isIn_G (k := 0) h.2 (by omega) (by omega)
      refine ⟨.tup (by simp) fun x hx => ?_, noLsts_of fun x hx => ?_⟩ <;>
        (simp only [List.mem_cons, List.not_mem_nil, or_false] at hx; rcases hx with rfl | rfl)
      · exact a1.1
      · exact a2.1
      · exact a1.2
      · exact a2.2
    | [], h => simp [isTestB] at h
    | [_], h => simp [isTestB] at h
    | _ :: _ :: _ :: _, h => simp [isTestB] at h
  | _ => simp [isTestB] at h
end DL
namespace Ka
open PySem L2 DL
structure Own (e : EX) : Prop where
  pp : e.em (.ref (e.x .BadProgram)) (.ref (e.x .BadProgram)) = some true
  k1 : e.km (.ref (e.x .BadProgram)) (.ref (e.x .TwinpurseError)) = some true
  k2 : e.km (.ref (e.x .BadProgram)) (.type "ValueError") = some true
  k3 : e.km (.ref (e.x .BadProgram)) (.ref (e.x .BadArgument)) = some false
  k4 : e.km (.ref (e.x .BadProgram)) (.ref (e.x .BadFan)) = some false
  k5 : e.km (.ref (e.x .BadProgram)) (.ref (e.x .BadLine)) = some false
  k6 : e.km (.ref (e.x .BadProgram)) (.ref (e.x .BadRoad)) = some false
  k7 : e.km (.ref (e.x .BadProgram)) (.ref (e.x .BadStanding)) = some false
  k8 : e.km (.ref (e.x .BadProgram)) (.ref (e.x .BadText)) = some false
  k9 : e.km (.ref (e.x .BadProgram)) (.ref (e.x .TooLarge)) = some false
theorem is_prog_eq {e : EX} (o : Own e) (d : D) (S : Sto) (hd : DL.plain d = true) : M._law_is_program e [d] S = .ok (.bl (isProgB d)) S := by
  cases h1 : isProgB d with
  | true =>
    simp -implicitDefEqProofs only [M._law_is_program, M.b__law_is_program, ap_runF, ap_sSeq, ap_startD]
    rw [tryAs_nx (σ1 := [some d, none]) (S1 := S) (by simp -implicitDefEqProofs [check_program_eq, hd, h1])]
    simp
  | false =>
    simp -implicitDefEqProofs only [M._law_is_program, M.b__law_is_program, ap_runF, ap_sSeq, ap_startD]
    rw [tryAs_raise (c := .ref (e.x .BadProgram)) (σ1 := [some d, none]) (S1 := S) (r := .rt (.bl false) S) (by simp -implicitDefEqProofs [check_program_eq, hd, h1]) o.pp (fun a => by
      simp -implicitDefEqProofs [cIsE, isE, clsVal, kmAny, o.k1, o.k2, o.k3, o.k4, o.k5, o.k6, o.k7, o.k8, o.k9, RS.clr])]
    simp
theorem p20 {S : Sto} : dPow (.int 10) (.int 20) S = some (.int 100000000000000000000) := by simp [dPow, dI]
theorem bad_eq (e : EX) (ns : List Int) (k : Nat) (lo hi : Int) (h1 : -2 ≤ lo) (h2 : hi ≤ 3) (h3 : -2 ≤ hi) (h4 : lo ≤ 3) : ∃ (b : D) (k' : Nat), isIn b lo hi = false ∧ (∀ n, G n b) ∧ noLst b = true ∧ M._law_bad e [.ref 0, .int lo, .int hi] (DN ns k) = .ok b (DN ns k') := by
  have m1 : 0 ≤ dr ns k % 40 := by omega
  have m2 : dr ns k % 40 < 40 := by omega
  obtain ⟨d, g1, g2⟩ := atI_pick [D.int (lo - 1), .int (hi + 1), .bl true, .non, .str "1", .int 100000000000000000000, .int (-100000000000000000000), .bl false, .int (lo - 1 - dr ns k % 40), .int (hi + 1 + dr ns k % 40)] (dr ns (k + 1)) 10 rfl (by omega)
  have g2' : atI [D.int (lo - 1), .int (hi + 1), .bl true, .non, .str "1", .int 100000000000000000000, .int (-100000000000000000000), .bl false, .int (lo - 1 - dr ns k % 40), .int (hi + 1 + dr ns k % 40)] (dr ns (k + 1) % 10) = some d := g2
  refine ⟨d, k + 1 + 1, ?_, ?_, ?_, ?_⟩
  · simp only [List.mem_cons, List.not_mem_nil, or_false] at g1
    rcases g1 with rfl | rfl | rfl | rfl | rfl | rfl | rfl | rfl | rfl | rfl <;> simp [isIn] <;> omega
  · simp only [List.mem_cons, List.not_mem_nil, or_false] at g1
    intro n
    rcases g1 with rfl | rfl | rfl | rfl | rfl | rfl | rfl | rfl | rfl | rfl <;> first | exact .int (by omega) (by omega) | exact .bl | exact .non | exact .str (by decide +kernel)
  · simp only [List.mem_cons, List.not_mem_nil, or_false] at g1
    rcases g1 with rfl | rfl | rfl | rfl | rfl | rfl | rfl | rfl | rfl | rfl <;> rfl
  · simp -implicitDefEqProofs [M._law_bad, M.b__law_bad, p20, g2']
theorem put_eq (e : EX) (row : List D) (at_ : Int) (v : D) (S : Sto) (h : row.length ≤ 100) : M._law_put e [.tup row, .int at_, v] S = .ok (.tup (cutD row none (some at_) ++ [v] ++ cutD row (some (at_ + 1)) none)) S := by
  have c1 := cut_len (xs := row) (lo := none) (hi := some at_)
  have c2 := cut_len (xs := row) (lo := some (at_ + 1)) (hi := none)
  have c3 : (cutD row none (some at_)).length + [v].length ≤ 100000 := by simp; omega
  have c4 : (cutD row none (some at_) ++ [v]).length + (cutD row (some (at_ + 1)) none).length ≤ 100000 := by simp; omega
  simp -implicitDefEqProofs [M._law_put, M.b__law_put, v_addT c3]
  rw [v_addT c4]
  simp

theorem drop_row {k : Nat} {row : List D} {lo hi : Option Int} (h : ∀ x ∈ row, G k x) : ∀ x ∈ cutD row lo hi, G k x := fun x hx => h x (cut_mem hx)
/-- a spoilt row: of a step -/
theorem row4_eq (e : EX) (ns : List Int) (k : Nat) (r x y : Int) (r1 : 1 ≤ r) (r3 : r ≤ 3) (hx : 0 ≤ x ∧ x < r) (hy : 0 ≤ y ∧ y < r) : ∃ (w : D) (k' : Nat), isStepB r w = false ∧ G 1 w ∧
    M._law_spoilt_row e [.ref 0, .tup [.int x, .int y, .int 2, .int (-2)], .int r] (DN ns k) = .ok w (DN ns k') := by
  obtain ⟨at_, ha⟩ : ∃ a, a = dr ns k % 4 := ⟨_, rfl⟩
  obtain ⟨pk, hp⟩ : ∃ a, a = dr ns (k + 1) % 5 := ⟨_, rfl⟩
  have a0 : 0 ≤ at_ := by omega
  have a4 : at_ < 4 := by omega
  by_cases c1 : pk < 3
  · by_cases c2 : at_ < 2
    · obtain ⟨b, k', h1, h2, _, h3⟩ := bad_eq e ns (k + 1 + 1) 0 (r - 1) (by omega) (by omega) (by omega) (by omega)
      refine ⟨.tup (cutD [.int x, .int y, .int 2, .int (-2)] none (some at_) ++ [b] ++ cutD [.int x, .int y, .int 2, .int (-2)] (some (at_ + 1)) none), k', ?_, ?_, ?_⟩
      · have : at_ = 0 ∨ at_ = 1 := by omega
        rcases this with z | z <;> rw [z]
        · show isStepB r (.tup [b, .int y, .int 2, .int (-2)]) = false
          simp [isStepB, h1]
        · show isStepB r (.tup [.int x, b, .int 2, .int (-2)]) = false
          simp [isStepB, h1]
      · have : at_ = 0 ∨ at_ = 1 := by omega
        rcases this with z | z <;> rw [z]
        · show G 1 (.tup [b, .int y, .int 2, .int (-2)])
          refine .tup (by simp) fun w hw => ?_
          simp only [List.mem_cons, List.not_mem_nil, or_false] at hw
          rcases hw with rfl | rfl | rfl | rfl <;> first | exact h2 0 | exact .int (by omega) (by omega)
        · show G 1 (.tup [.int x, b, .int 2, .int (-2)])
          refine .tup (by simp) fun w hw => ?_
          simp only [List.mem_cons, List.not_mem_nil, or_false] at hw
          rcases hw with rfl | rfl | rfl | rfl <;> first | exact h2 0 | exact .int (by omega) (by omega)
      · simp -implicitDefEqProofs [M._law_spoilt_row, M.b__law_spoilt_row, ← ha, ← hp, c1, c2, h3, put_eq]
    · obtain ⟨b, k', h1, h2, _, h3⟩ := bad_eq e ns (k + 1 + 1) (-2) 2 (by omega) (by omega) (by omega) (by omega)
      refine ⟨.tup (cutD [.int x, .int y, .int 2, .int (-2)] none (some at_) ++ [b] ++ cutD [.int x, .int y, .int 2, .int (-2)] (some (at_ + 1)) none), k', ?_, ?_, ?_⟩
      · have : at_ = 2 ∨ at_ = 3 := by omega
        rcases this with z | z <;> rw [z]
        · show isStepB r (.tup [.int x, .int y, b, .int (-2)]) = false
          simp [isStepB, h1]
        · show isStepB r (.tup [.int x, .int y, .int 2, b]) = false
          simp [isStepB, h1]
      · have : at_ = 2 ∨ at_ = 3 := by omega
        rcases this with z | z <;> rw [z]
        · show G 1 (.tup [.int x, .int y, b, .int (-2)])
          refine .tup (by simp) fun w hw => ?_
          simp only [List.mem_cons, List.not_mem_nil, or_false] at hw
          rcases hw with rfl | rfl | rfl | rfl <;> first | exact h2 0 | exact .int (by omega) (by omega)
        · show G 1 (.tup [.int x, .int y, .int 2, b])
          refine .tup (by simp) fun w hw => ?_
          simp only [List.mem_cons, List.not_mem_nil, or_false] at hw
          rcases hw with rfl | rfl | rfl | rfl <;> first | exact h2 0 | exact .int (by omega) (by omega)
      · simp -implicitDefEqProofs [M._law_spoilt_row, M.b__law_spoilt_row, ← ha, ← hp, c1, c2, h3, put_eq]
  · have ec : cutD [.int x, .int y, .int 2, .int (-2)] (some 1) none = [.int y, .int 2, .int (-2)] := rfl
    obtain ⟨d, g1, g2⟩ := atI_pick [D.tup [.int y, .int 2, .int (-2)], .tup [.int x, .int y, .int 2, .int (-2), .int 0], .lst [.int x, .int y, .int 2, .int (-2)], .non, .int 0, .tup []] (dr ns (k + 1 + 1)) 6 rfl (by omega)
    have g2' : atI [D.tup [.int y, .int 2, .int (-2)], .tup [.int x, .int y, .int 2, .int (-2), .int 0], .lst [.int x, .int y, .int 2, .int (-2)], .non, .int 0, .tup []] (dr ns (k + 1 + 1) % 6) = some d := g2
    refine ⟨d, k + 1 + 1 + 1, ?_, ?_, ?_⟩
    · simp only [List.mem_cons, List.not_mem_nil, or_false] at g1
      rcases g1 with rfl | rfl | rfl | rfl | rfl | rfl <;> rfl
    · simp only [List.mem_cons, List.not_mem_nil, or_false] at g1
      rcases g1 with rfl | rfl | rfl | rfl | rfl | rfl
      · refine .tup (by simp) fun w hw => ?_
        simp only [List.mem_cons, List.not_mem_nil, or_false] at hw
        rcases hw with rfl | rfl | rfl <;> exact .int (by omega) (by omega)
      · refine .tup (by simp) fun w hw => ?_
        simp only [List.mem_cons, List.not_mem_nil, or_false] at hw
        rcases hw with rfl | rfl | rfl | rfl | rfl <;> exact .int (by omega) (by omega)
      · refine .lst (by simp) fun w hw => ?_
        simp only [List.mem_cons, List.not_mem_nil, or_false] at hw
        rcases hw with rfl | rfl | rfl | rfl <;> exact .int (by omega) (by omega)
      · exact .non
      · exact .int (by omega) (by omega)
      · exact .tup (by simp) fun w hw => by cases hw
    · simp -implicitDefEqProofs [M._law_spoilt_row, M.b__law_spoilt_row, ← ha, ← hp, c1, g2', ec]
/-- .. of a test -/
theorem row2_eq (e : EX) (ns : List Int) (k : Nat) (r x y : Int) (r1 : 1 ≤ r) (r3 : r ≤ 3) (hx : 0 ≤ x ∧ x < r) (hy : 0 ≤ y ∧ y < r) : ∃ (w : D) (k' : Nat), isTestB r w = false ∧ G 1 w ∧
    M._law_spoilt_row e [.ref 0, .tup [.int x, .int y], .int r] (DN ns k) = .ok w (DN ns k') := by
  obtain ⟨at_, ha⟩ : ∃ a, a = dr ns k % 2 := ⟨_, rfl⟩
  obtain ⟨pk, hp⟩ : ∃ a, a = dr ns (k + 1) % 5 := ⟨_, rfl⟩
  have a0 : 0 ≤ at_ := by omega
  have c2 : at_ < 2 := by omega
  by_cases c1 : pk < 3
  · obtain ⟨b, k', h1, h2, _, h3⟩ := bad_eq e ns (k + 1 + 1) 0 (r - 1) (by omega) (by omega) (by omega) (by omega)
    refine ⟨.tup (cutD [.int x, .int y] none (some at_) ++ [b] ++ cutD [.int x, .int y] (some (at_ + 1)) none), k', ?_, ?_, ?_⟩
    · have : at_ = 0 ∨ at_ = 1 := by omega
      rcases this with z | z <;> rw [z]
      · show isTestB r (.tup [b, .int y]) = false
        simp [isTestB, h1]
      · show isTestB r (.tup [.int x, b]) = false
        simp [isTestB, h1]
    · have : at_ = 0 ∨ at_ = 1 := by omega
      rcases this with z | z <;> rw [z]
      · show G 1 (.tup [b, .int y])
        refine .tup (by simp) fun w hw => ?_
        simp only [List.mem_cons, List.not_mem_nil, or_false] at hw
        rcases hw with rfl | rfl <;> first | exact h2 0 | exact .int (by omega) (by omega)
      · show G 1 (.tup [.int x, b])
        refine .tup (by simp) fun w hw => ?_
        simp only [List.mem_cons, List.not_mem_nil, or_false] at hw
        rcases hw with rfl | rfl <;> first | exact h2 0 | exact .int (by omega) (by omega)
    · simp -implicitDefEqProofs [M._law_spoilt_row, M.b__law_spoilt_row, ← ha, ← hp, c1, c2, h3, put_eq]
  · have ec : cutD [.int x, .int y] (some 1) none = [.int y] := rfl
    obtain ⟨d, g1, g2⟩ := atI_pick [D.tup [.int y], .tup [.int x, .int y, .int 0], .lst [.int x, .int y], .non, .int 0, .tup []] (dr ns (k + 1 + 1)) 6 rfl (by omega)
    have g2' : atI [D.tup [.int y], .tup [.int x, .int y, .int 0], .lst [.int x, .int y], .non, .int 0, .tup []] (dr ns (k + 1 + 1) % 6) = some d := g2
    refine ⟨d, k + 1 + 1 + 1, ?_, ?_, ?_⟩
    · simp only [List.mem_cons, List.not_mem_nil, or_false] at g1
      rcases g1 with rfl | rfl | rfl | rfl | rfl | rfl <;> rfl
    · simp only [List.mem_cons, List.not_mem_nil, or_false] at g1
      rcases g1 with rfl | rfl | rfl | rfl | rfl | rfl
      · refine .tup (by simp) fun w hw => ?_
        simp only [List.mem_cons, List.not_mem_nil, or_false] at hw
        rcases hw with rfl; exact .int (by omega) (by omega)
      · refine .tup (by simp) fun w hw => ?_
        simp only [List.mem_cons, List.not_mem_nil, or_false] at hw
        rcases hw with rfl | rfl | rfl <;> exact .int (by omega) (by omega)
      · refine .lst (by simp) fun w hw => ?_
        simp only [List.mem_cons, List.not_mem_nil, or_false] at hw
        rcases hw with rfl | rfl <;> exact .int (by omega) (by omega)
      · exact .non
      · exact .int (by omega) (by omega)
      · exact .tup (by simp) fun w hw => by cases hw
    · simp -implicitDefEqProofs [M._law_spoilt_row, M.b__law_spoilt_row, ← ha, ← hp, c1, c2, g2', ec]
end Ka
end

section
set_option Elab.async false
set_option linter.all false
set_option maxRecDepth 100000
set_option maxHeartbeats 2000000
namespace Kg
open PySem L2 DL
/-- questions -/
inductive Qn where
  | room (n : Int)
  | most (u v c : Int)
  | rest (u v m c : Int)
  | not (q : Qn)
  | and (p q : Qn)
  | or (p q : Qn)
def Qn.d : Qn → D
  | .room n => .tup [.str "room", .int n]
  | .most u v c => .tup [.str "most", .int u, .int v, .int c]
  | .rest u v m c => .tup [.str "rest", .int u, .int v, .int m, .int c]
  | .not q => .tup [.str "not", q.d]
  | .and p q => .tup [.str "and", p.d, q.d]
  | .or p q => .tup [.str "or", p.d, q.d]
def Qn.so (x a b : Int) : Qn → Bool
  | .room n => decide (n = x)
  | .most u v c => decide (u * a + v * b ≤ c)
  | .rest u v m c => decide ((u * a + v * b) % m = c)
  | .not q => !q.so x a b
  | .and p q => p.so x a b && q.so x a b
  | .or p q => p.so x a b || q.so x a b
def Qn.dep : Qn → Nat
  | .not q => q.dep + 1
  | .and p q => max p.dep q.dep + 1
  | .or p q => max p.dep q.dep + 1
  | _ => 0
/-- what the program asks of its numbers -/
def Qn.fit : Qn → Prop
  | .room n => 0 ≤ n ∧ n ≤ 2
  | .most u v c => (-6 ≤ u ∧ u ≤ 6) ∧ (-6 ≤ v ∧ v ≤ 6) ∧ -99 ≤ c ∧ c ≤ 99
  | .rest u v m c => (-6 ≤ u ∧ u ≤ 6) ∧ (-6 ≤ v ∧ v ≤ 6) ∧ (2 ≤ m ∧ m ≤ 6) ∧ 0 ≤ c ∧ c ≤ m - 1
  | .not q => q.fit
  | .and p q => p.fit ∧ q.fit
  | .or p q => p.fit ∧ q.fit
theorem so_n (e : EX) (n : Nat) : M.is_so_n e (n + 1) = runF 6 (M.b_is_so e (M.is_so_n e n)) := rfl
theorem holds_n (e : EX) (n : Nat) : M._law_holds_n e (n + 1) = runF 3 (M.b__law_holds e (M._law_holds_n e n)) := rfl
theorem i6 {u : Int} (h : -6 ≤ u ∧ u ≤ 6) : in64 u = true := in64_of (by omega) (by omega)
theorem so_eq (e : EX) (x a b : Int) : ∀ (q : Qn) (n : Nat) (S : Sto), q.fit → q.dep < n → M.is_so_n e n [q.d, .tup [.int x, .int a, .int b]] S = .ok (.bl (q.so x a b)) S
  | q, 0, S, _, h => by omega
  | .room k, n + 1, S, _, _ => by
    rw [so_n]
    simp -implicitDefEqProofs [M.b_is_so, Qn.d, Qn.so]
  | .most u v c, n + 1, S, h, _ => by
    have h1 := i6 h.1
    have h2 := i6 h.2.1
    rw [so_n]
    simp -implicitDefEqProofs [M.b_is_so, Qn.d, Qn.so, h1, h2, show ¬ (Str.ofString "most" = Str.ofString "room") by decide]
  | .rest u v m c, n + 1, S, h, _ => by
    have h1 := i6 h.1
    have h2 := i6 h.2.1
    have h3 : 0 < m := by have := h.2.2.1; omega
    rw [so_n]
    simp -implicitDefEqProofs [M.b_is_so, Qn.d, Qn.so, h1, h2, h3, show ¬ (Str.ofString "rest" = Str.ofString "room") by decide, show ¬ (Str.ofString "rest" = Str.ofString "most") by decide]
  | .not q, n + 1, S, h, hd => by
    have ih := so_eq e x a b q n S h (by simp only [Qn.dep] at hd; omega)
    rw [so_n]
    simp -implicitDefEqProofs [M.b_is_so, Qn.d, Qn.so, ih, show ¬ (Str.ofString "not" = Str.ofString "room") by decide, show ¬ (Str.ofString "not" = Str.ofString "most") by decide, show ¬ (Str.ofString "not" = Str.ofString "rest") by decide]
  | .and p q, n + 1, S, h, hd => by
    have i1 := so_eq e x a b p n S h.1 (by simp only [Qn.dep] at hd; omega)
    have i2 := so_eq e x a b q n S h.2 (by simp only [Qn.dep] at hd; omega)
    rw [so_n]
    cases hp : p.so x a b <;> rw [hp] at i1 <;> simp -implicitDefEqProofs [M.b_is_so, Qn.d, Qn.so, i1, i2, hp, show ¬ (Str.ofString "and" = Str.ofString "room") by decide, show ¬ (Str.ofString "and" = Str.ofString "most") by decide, show ¬ (Str.ofString "and" = Str.ofString "rest") by decide, show ¬ (Str.ofString "and" = Str.ofString "not") by decide]
  | .or p q, n + 1, S, h, hd => by
    have i1 := so_eq e x a b p n S h.1 (by simp only [Qn.dep] at hd; omega)
    have i2 := so_eq e x a b q n S h.2 (by simp only [Qn.dep] at hd; omega)
    rw [so_n]
    cases hp : p.so x a b <;> rw [hp] at i1 <;> simp -implicitDefEqProofs [M.b_is_so, Qn.d, Qn.so, i1, i2, hp, show ¬ (Str.ofString "or" = Str.ofString "room") by decide, show ¬ (Str.ofString "or" = Str.ofString "most") by decide, show ¬ (Str.ofString "or" = Str.ofString "rest") by decide, show ¬ (Str.ofString "or" = Str.ofString "not") by decide, show ¬ (Str.ofString "or" = Str.ofString "and") by decide]
theorem cint (i : Int) (S : Sto) : cInt [.int i] S = some (.int i) := rfl
theorem holds_eq (e : EX) (x a b : Int) : ∀ (q : Qn) (n : Nat) (S : Sto), q.fit → q.dep < n → M._law_holds_n e n [q.d, .tup [.int x, .int a, .int b]] S = .ok (.bl (q.so x a b)) S
  | q, 0, S, _, h => by omega
  | .room k, n + 1, S, _, _ => by
    have c : decide (x = k) = decide (k = x) := by by_cases h : x = k <;> simp [h]; intro z; exact absurd z.symm h
    rw [holds_n]
    simp -implicitDefEqProofs [M.b__law_holds, Qn.d, Qn.so, c]
  | .most u v c, n + 1, S, h, _ => by
    have h1 := i6 h.1
    have h2 := i6 h.2.1
    rw [holds_n]
    simp -implicitDefEqProofs [M.b__law_holds, Qn.d, Qn.so, h1, h2, show ¬ (Str.ofString "most" = Str.ofString "room") by decide]
  | .rest u v m c, n + 1, S, h, _ => by
    have h1 := i6 h.1
    have h2 := i6 h.2.1
    have h3 : 0 < m := by have := h.2.2.1; omega
    rw [holds_n]
    simp -implicitDefEqProofs [M.b__law_holds, Qn.d, Qn.so, h1, h2, h3, cint, show ¬ (Str.ofString "rest" = Str.ofString "room") by decide, show ¬ (Str.ofString "rest" = Str.ofString "most") by decide]
  | .not q, n + 1, S, h, hd => by
    have ih := holds_eq e x a b q n S h (by simp only [Qn.dep] at hd; omega)
    rw [holds_n]
    simp -implicitDefEqProofs [M.b__law_holds, Qn.d, Qn.so, ih, show ¬ (Str.ofString "not" = Str.ofString "room") by decide, show ¬ (Str.ofString "not" = Str.ofString "most") by decide, show ¬ (Str.ofString "not" = Str.ofString "rest") by decide]
  | .and p q, n + 1, S, h, hd => by
    have i1 := holds_eq e x a b p n S h.1 (by simp only [Qn.dep] at hd; omega)
    have i2 := holds_eq e x a b q n S h.2 (by simp only [Qn.dep] at hd; omega)
    rw [holds_n]
    cases hp : p.so x a b <;> rw [hp] at i1 <;> simp -implicitDefEqProofs [M.b__law_holds, Qn.d, Qn.so, i1, i2, hp, show ¬ (Str.ofString "and" = Str.ofString "room") by decide, show ¬ (Str.ofString "and" = Str.ofString "most") by decide, show ¬ (Str.ofString "and" = Str.ofString "rest") by decide, show ¬ (Str.ofString "and" = Str.ofString "not") by decide]
  | .or p q, n + 1, S, h, hd => by
    have i1 := holds_eq e x a b p n S h.1 (by simp only [Qn.dep] at hd; omega)
    have i2 := holds_eq e x a b q n S h.2 (by simp only [Qn.dep] at hd; omega)
    rw [holds_n]
    cases hp : p.so x a b <;> rw [hp] at i1 <;> simp -implicitDefEqProofs [M.b__law_holds, Qn.d, Qn.so, i1, i2, hp, show ¬ (Str.ofString "or" = Str.ofString "room") by decide, show ¬ (Str.ofString "or" = Str.ofString "most") by decide, show ¬ (Str.ofString "or" = Str.ofString "rest") by decide, show ¬ (Str.ofString "or" = Str.ofString "not") by decide, show ¬ (Str.ofString "or" = Str.ofString "and") by decide]
end Kg
end

section
set_option Elab.async false
set_option linter.all false
set_option maxRecDepth 100000
set_option maxHeartbeats 2000000
namespace Kg
open PySem L2 DL
theorem in_w {w : Str} {ws : List Str} {b : Bool} (neg : Bool) (S : Sto) (h : inV (.str w) (ws.map V.str) = b) : dInT neg (.str w) (.tup (ws.map D.str)) S = some (.bl (if neg = true then !b else b)) := by
  have q : ∀ l : List Str, flDs (l.map D.str) = some (l.map V.str) := fun l => by
    induction l with
    | nil => rfl
    | cons a l ih => simp only [List.map_cons, flDs, flD, ih]; rfl
  show ((flD (.str w)).bind fun v => (flDs (ws.map D.str)).map fun vs => D.bl (if neg = true then !inV v vs else inV v vs)) = _
  rw [q]
  simp only [flD, Option.bind_some, Option.map_some, h]
/-- a leaf is plain -/
theorem plain_leaf (e : EX) (q : Qn) (hf : q.fit) (hl : (∃ n, q = .room n) ∨ (∃ u v c, q = .most u v c) ∨ ∃ u v m c, q = .rest u v m c) (S : Sto) : M.is_plain e [q.d] S = .ok (.bl true) S := by
  rcases hl with ⟨n, rfl⟩ | ⟨u, v, c, rfl⟩ | ⟨u, v, m, c, rfl⟩
  · have w := is_within_eq e (.int n) 0 2 S rfl
    rw [isIn_of hf.1 hf.2] at w
    simp -implicitDefEqProofs [M.is_plain, M.b_is_plain, Qn.d, w]
  · obtain ⟨h1, h2, h3, h4⟩ := hf
    have w1 := is_within_eq e (.int u) (-6) 6 S rfl
    have w2 := is_within_eq e (.int v) (-6) 6 S rfl
    have w3 := is_within_eq e (.int c) (-99) 99 S rfl
    rw [isIn_of h1.1 h1.2] at w1
    rw [isIn_of h2.1 h2.2] at w2
    rw [isIn_of h3 h4] at w3
    have i := in_w (w := "most") (ws := ["most", "rest"]) (b := true) true S (by decide +kernel)
    have i' : dInT true (.str "most") (.tup [.str "most", .str "rest"]) S = some (.bl false) := i
    simp -implicitDefEqProofs [M.is_plain, M.b_is_plain, Qn.d, w1, w2, w3, i', show ¬ (Str.ofString "most" = Str.ofString "room") by decide]
  · obtain ⟨h1, h2, h3, h4⟩ := hf
    have w1 := is_within_eq e (.int u) (-6) 6 S rfl
    have w2 := is_within_eq e (.int v) (-6) 6 S rfl
    have w3 := is_within_eq e (.int m) 2 6 S rfl
    have w4 := is_within_eq e (.int c) 0 (m - 1) S rfl
    rw [isIn_of h1.1 h1.2] at w1
    rw [isIn_of h2.1 h2.2] at w2
    rw [isIn_of h3.1 h3.2] at w3
    rw [isIn_of h4.1 h4.2] at w4
    have i := in_w (w := "rest") (ws := ["most", "rest"]) (b := true) true S (by decide +kernel)
    have i' : dInT true (.str "rest") (.tup [.str "most", .str "rest"]) S = some (.bl false) := i
    simp -implicitDefEqProofs [M.is_plain, M.b_is_plain, Qn.d, w1, w2, w3, w4, i', show ¬ (Str.ofString "rest" = Str.ofString "room") by decide, show ¬ (Str.ofString "rest" = Str.ofString "most") by decide]
end Kg
end

section
set_option Elab.async false
set_option linter.all false
set_option maxRecDepth 100000
set_option maxHeartbeats 2000000
namespace Kg
open PySem L2 DL
theorem ap_mPop {xs : List D} {y : D} {S : Sto} : mPop (xs ++ [y]) [] S = some (xs, y) := by
  show ((xs ++ [y])[(xs ++ [y]).length - 1]?).map (fun y' => ((xs ++ [y]).dropLast, y')) = _
  simp
theorem ap_mExt {xs ys : List D} {S : Sto} (h : xs.length + ys.length ≤ 100000) : mExtend xs [.lst ys] S = some (xs ++ ys, .non) := by
  show ((lstOf (.lst ys) S).bind fun zs => if xs.length + zs.length ≤ BIG then some (xs ++ zs, D.non) else none) = _
  show (if xs.length + ys.length ≤ BIG then some (xs ++ ys, D.non) else none) = _
  rw [if_pos (big_ok h)]
def Qn.sz : Qn → Nat
  | .not q => q.sz + 1
  | .and p q => p.sz + q.sz + 1
  | .or p q => p.sz + q.sz + 1
  | _ => 1
def Qn.lv : Qn → Nat
  | .not q => q.lv
  | .and p q => p.lv + q.lv
  | .or p q => p.lv + q.lv
  | _ => 1
def Qn.jn : Qn → Nat
  | .not q => q.jn + 1
  | .and p q => p.jn + q.jn + 1
  | .or p q => p.jn + q.jn + 1
  | _ => 0
def isLeaf (q : Qn) : Prop := (∃ n, q = .room n) ∨ (∃ u v c, q = .most u v c) ∨ ∃ u v m c, q = .rest u v m c
theorem leaf_body (e : EX) (S : Sto) (q0 : D) (qs : List D) (q : Qn) (hf : q.fit) (hl : isLeaf q) (pl jn : Int) (v : Option D) (h1 : pl + 1 ≤ 4) (h2 : jn ≤ 6) :
    M.is_question_2 e [some q0, some (.ref S.length), some (.int pl), some (.int jn), v] (S ++ [.lst (qs ++ [q.d])]) = .nx [some q0, some (.ref S.length), some (.int (pl + 1)), some (.int jn), some q.d] (S ++ [.lst qs]) := by
  have pp := plain_leaf e q hf hl (S ++ [.lst qs])
  have n1 : ¬ (4 < pl + 1) := by omega
  have n2 : ¬ (6 < jn) := by omega
  have tt : ∀ (x : D) (xs : List D) S, dTruth (.tup (x :: xs)) S = some true := fun _ _ _ => rfl
  have po := fun T => ap_mPop (xs := qs) (y := q.d) (S := T)
  rcases hl with ⟨n, rfl⟩ | ⟨u, w, c, rfl⟩ | ⟨u, w, m, c, rfl⟩
  · have i := in_w (w := "room") (ws := ["not", "and", "or"]) (b := false) false (S ++ [.lst qs]) (by decide +kernel)
    have i' : dInT false (.str "room") (.tup [.str "not", .str "and", .str "or"]) (S ++ [.lst qs]) = some (.bl false) := i
    simp only [Qn.d] at pp po ⊢
    simp -implicitDefEqProofs [M.is_question_2, ap_fM, lstOf_last, po, set_last, tt, i', pp, n1, n2]
  · have i := in_w (w := "most") (ws := ["not", "and", "or"]) (b := false) false (S ++ [.lst qs]) (by decide +kernel)
    have i' : dInT false (.str "most") (.tup [.str "not", .str "and", .str "or"]) (S ++ [.lst qs]) = some (.bl false) := i
    simp only [Qn.d] at pp po ⊢
    simp -implicitDefEqProofs [M.is_question_2, ap_fM, lstOf_last, po, set_last, tt, i', pp, n1, n2]
  · have i := in_w (w := "rest") (ws := ["not", "and", "or"]) (b := false) false (S ++ [.lst qs]) (by decide +kernel)
    have i' : dInT false (.str "rest") (.tup [.str "not", .str "and", .str "or"]) (S ++ [.lst qs]) = some (.bl false) := i
    simp only [Qn.d] at pp po ⊢
    simp -implicitDefEqProofs [M.is_question_2, ap_fM, lstOf_last, po, set_last, tt, i', pp, n1, n2]
theorem not_body (e : EX) (S : Sto) (q0 : D) (qs : List D) (q : D) (pl jn : Int) (v : Option D) (h1 : pl ≤ 4) (h2 : jn + 1 ≤ 6) (hl : qs.length ≤ 1000) :
    M.is_question_2 e [some q0, some (.ref S.length), some (.int pl), some (.int jn), v] (S ++ [.lst (qs ++ [.tup [.str "not", q]])]) = .nx [some q0, some (.ref S.length), some (.int pl), some (.int (jn + 1)), some (.tup [.str "not", q])] (S ++ [.lst (qs ++ [q])]) := by
  have n1 : ¬ (4 < pl) := by omega
  have n2 : ¬ (6 < jn + 1) := by omega
  have tt : ∀ (x : D) (xs : List D) S, dTruth (.tup (x :: xs)) S = some true := fun _ _ _ => rfl
  have po := fun T => ap_mPop (xs := qs) (y := .tup [.str "not", q]) (S := T)
  have i := in_w (w := "not") (ws := ["not", "and", "or"]) (b := true) false (S ++ [.lst qs]) (by decide +kernel)
  have i' : dInT false (.str "not") (.tup [.str "not", .str "and", .str "or"]) (S ++ [.lst qs]) = some (.bl true) := i
  have cu : ∀ T, dCut (.tup [D.str "not", q]) (some 1) none T = some (.tup [q]) := fun _ => rfl
  have ex := fun T => ap_mExt (xs := qs) (ys := [q]) (S := T) (by simp; omega)
  simp -implicitDefEqProofs [M.is_question_2, ap_fM, lstOf_last, po, set_last, tt, i', cu, ex, n1, n2]
theorem two_body (e : EX) (S : Sto) (q0 : D) (qs : List D) (w : Str) (hw : w = "and" ∨ w = "or") (p q : D) (pl jn : Int) (v : Option D) (h1 : pl ≤ 4) (h2 : jn + 1 ≤ 6) (hl : qs.length ≤ 1000) :
    M.is_question_2 e [some q0, some (.ref S.length), some (.int pl), some (.int jn), v] (S ++ [.lst (qs ++ [.tup [.str w, p, q]])]) = .nx [some q0, some (.ref S.length), some (.int pl), some (.int (jn + 1)), some (.tup [.str w, p, q])] (S ++ [.lst (qs ++ [p, q])]) := by
  have n1 : ¬ (4 < pl) := by omega
  have n2 : ¬ (6 < jn + 1) := by omega
  have tt : ∀ (x : D) (xs : List D) S, dTruth (.tup (x :: xs)) S = some true := fun _ _ _ => rfl
  have po := fun T => ap_mPop (xs := qs) (y := .tup [.str w, p, q]) (S := T)
  have i' : dInT false (.str w) (.tup [.str "not", .str "and", .str "or"]) (S ++ [.lst qs]) = some (.bl true) := by
    rcases hw with rfl | rfl
    · exact in_w (w := "and") (ws := ["not", "and", "or"]) (b := true) false (S ++ [.lst qs]) (by decide +kernel)
    · exact in_w (w := "or") (ws := ["not", "and", "or"]) (b := true) false (S ++ [.lst qs]) (by decide +kernel)
  have nw : ¬ w = Str.ofString "not" := by rcases hw with rfl | rfl <;> decide
  have cu : ∀ T, dCut (.tup [D.str w, p, q]) (some 1) none T = some (.tup [p, q]) := fun _ => rfl
  have ex := fun T => ap_mExt (xs := qs) (ys := [p, q]) (S := T) (by simp; omega)
  simp -implicitDefEqProofs [M.is_question_2, ap_fM, lstOf_last, po, set_last, tt, i', nw, cu, ex, n1, n2]
end Kg
end

section
set_option Elab.async false
set_option linter.all false
set_option maxRecDepth 100000
set_option maxHeartbeats 2000000
namespace Kg
open PySem L2 DL
def szs (qs : List Qn) : Nat := (qs.map Qn.sz).sum
def lvs (qs : List Qn) : Nat := (qs.map Qn.lv).sum
def jns (qs : List Qn) : Nat := (qs.map Qn.jn).sum
theorem szs_app (a b : List Qn) : szs (a ++ b) = szs a + szs b := by simp [szs]
theorem lvs_app (a b : List Qn) : lvs (a ++ b) = lvs a + lvs b := by simp [lvs]
theorem jns_app (a b : List Qn) : jns (a ++ b) = jns a + jns b := by simp [jns]
theorem sz_pos (q : Qn) : 1 ≤ q.sz := by cases q <;> simp [Qn.sz]
theorem len_szs (qs : List Qn) : qs.length ≤ szs qs := by
  induction qs with
  | nil => simp
  | cons q qs ih =>
    have := sz_pos q
    simp only [szs, List.map_cons, List.sum_cons, List.length_cons] at ih ⊢
    omega
theorem tr_ref (S : Sto) (xs : List D) : dTruth (.ref S.length) (S ++ [.lst xs]) = some (!xs.isEmpty) := by
  have : anyL (.ref S.length) (S ++ [.lst xs]) = some xs := lstOf_last
  simp [dTruth, this, lstOf]
theorem q_loop (e : EX) (S : Sto) (q0 : D) : ∀ (n : Nat) (qs : List Qn) (pl jn : Int) (v : Option D), szs qs ≤ n → n ≤ 500 → (∀ q ∈ qs, q.fit) → pl + lvs qs ≤ 4 → jn + jns qs ≤ 6 →
    ∃ σ', whileF (M.is_question_1 e) (M.is_question_2 e) (n + 1) [some q0, some (.ref S.length), some (.int pl), some (.int jn), v] (S ++ [.lst (qs.map Qn.d)]) = .nx σ' (S ++ [.lst []]) := by
  intro n
  induction n with
  | zero =>
    intro qs pl jn v h hn hf h1 h2
    have : qs = [] := List.eq_nil_of_length_eq_zero (by have := len_szs qs; omega)
    subst this
    have t := tr_ref S []
    refine ⟨[some q0, some (.ref S.length), some (.int pl), some (.int jn), v], ?_⟩
    simp only [List.map_nil]
    unfold whileF
    simp -implicitDefEqProofs [M.is_question_1, t]
  | succ n ih =>
    intro qs pl jn v h hn hf h1 h2
    rcases List.eq_nil_or_concat qs with rfl | ⟨qs, q, rfl⟩
    · have t := tr_ref S []
      refine ⟨[some q0, some (.ref S.length), some (.int pl), some (.int jn), v], ?_⟩
      simp only [List.map_nil]
      unfold whileF
      simp -implicitDefEqProofs [M.is_question_1, t]
    · rw [List.concat_eq_append] at h hf h1 h2 ⊢
      have hq := hf q (List.mem_append_right _ List.mem_cons_self)
      have hr : ∀ p ∈ qs, p.fit := fun p hp => hf p (List.mem_append_left _ hp)
      rw [szs_app] at h
      rw [lvs_app] at h1
      rw [jns_app] at h2
      have one : szs [q] = q.sz ∧ lvs [q] = q.lv ∧ jns [q] = q.jn := by simp [szs, lvs, jns]
      rw [one.1] at h
      rw [one.2.1] at h1
      rw [one.2.2] at h2
      have ln : (qs.map Qn.d).length ≤ 1000 := by have := len_szs qs; simp; omega
      have t := tr_ref S (qs.map Qn.d ++ [q.d])
      have t' : dTruth (.ref S.length) (S ++ [.lst (qs.map Qn.d ++ [q.d])]) = some true := by rw [t]; simp
      rw [List.map_append, List.map_cons, List.map_nil]
      have go : ∀ (σ2 : En) (qs2 : List Qn) (pl2 jn2 : Int) (v2 : Option D), M.is_question_2 e [some q0, some (.ref S.length), some (.int pl), some (.int jn), v] (S ++ [.lst (qs.map Qn.d ++ [q.d])]) = .nx [some q0, some (.ref S.length), some (.int pl2), some (.int jn2), v2] (S ++ [.lst (qs2.map Qn.d)]) →
          szs qs2 ≤ n → (∀ q ∈ qs2, q.fit) → pl2 + lvs qs2 ≤ 4 → jn2 + jns qs2 ≤ 6 → ∃ σ', whileF (M.is_question_1 e) (M.is_question_2 e) (n + 1 + 1) [some q0, some (.ref S.length), some (.int pl), some (.int jn), v] (S ++ [.lst (qs.map Qn.d ++ [q.d])]) = .nx σ' (S ++ [.lst []]) := by
        intro σ2 qs2 pl2 jn2 v2 b s1 s2 s3 s4
        obtain ⟨σ', q'⟩ := ih qs2 pl2 jn2 v2 s1 (by omega) s2 s3 s4
        refine ⟨σ', ?_⟩
        have c1 : M.is_question_1 e [some q0, some (.ref S.length), some (.int pl), some (.int jn), v] (S ++ [.lst (qs.map Qn.d ++ [q.d])]) = .ok true (S ++ [.lst (qs.map Qn.d ++ [q.d])]) := by
          simp -implicitDefEqProofs [M.is_question_1, t']
        show RS.of (M.is_question_1 e _ _) _ (fun k S1 => if k = true then (M.is_question_2 e _ S1).turn (whileF (M.is_question_1 e) (M.is_question_2 e) (n + 1)) else .nx _ S1) = _
        rw [c1]
        show (M.is_question_2 e _ _).turn _ = _
        rw [b, RS.turn_nx, q']
      have nn1 : 0 ≤ lvs qs := Nat.zero_le _
      have nn2 : 0 ≤ jns qs := Nat.zero_le _
      cases q with
      | room k => exact go [] qs (pl + 1) jn _ (leaf_body e S q0 _ _ hq (.inl ⟨k, rfl⟩) pl jn v (by simp only [Qn.lv] at h1; omega) (by simp only [Qn.jn] at h2; omega)) (by simp only [Qn.sz] at h; omega) hr (by simp only [Qn.lv] at h1; omega) (by simp only [Qn.jn] at h2; omega)
      | most u w c => exact go [] qs (pl + 1) jn _ (leaf_body e S q0 _ _ hq (.inr (.inl ⟨u, w, c, rfl⟩)) pl jn v (by simp only [Qn.lv] at h1; omega) (by simp only [Qn.jn] at h2; omega)) (by simp only [Qn.sz] at h; omega) hr (by simp only [Qn.lv] at h1; omega) (by simp only [Qn.jn] at h2; omega)
      | rest u w m c => exact go [] qs (pl + 1) jn _ (leaf_body e S q0 _ _ hq (.inr (.inr ⟨u, w, m, c, rfl⟩)) pl jn v (by simp only [Qn.lv] at h1; omega) (by simp only [Qn.jn] at h2; omega)) (by simp only [Qn.sz] at h; omega) hr (by simp only [Qn.lv] at h1; omega) (by simp only [Qn.jn] at h2; omega)
      | not p =>
        simp only [Qn.lv] at h1
        simp only [Qn.jn] at h2
        simp only [Qn.sz] at h
        have b := not_body e S q0 (qs.map Qn.d) p.d pl jn v (by omega) (by omega) ln
        have o2 : szs [p] = p.sz ∧ lvs [p] = p.lv ∧ jns [p] = p.jn := by simp [szs, lvs, jns]
        refine go [] (qs ++ [p]) pl (jn + 1) _ (by rw [List.map_append]; exact b) (by rw [szs_app, o2.1]; omega) (fun y hy => ?_) (by rw [lvs_app, o2.2.1]; omega) (by rw [jns_app, o2.2.2]; omega)
        rcases List.mem_append.mp hy with hy | hy
        · exact hr y hy
        · rw [List.mem_singleton.mp hy]; exact hq
      | and p p' =>
        simp only [Qn.lv] at h1
        simp only [Qn.jn] at h2
        simp only [Qn.sz] at h
        have b := two_body e S q0 (qs.map Qn.d) "and" (.inl rfl) p.d p'.d pl jn v (by omega) (by omega) ln
        have o2 : szs [p, p'] = p.sz + p'.sz ∧ lvs [p, p'] = p.lv + p'.lv ∧ jns [p, p'] = p.jn + p'.jn := by simp [szs, lvs, jns]
        refine go [] (qs ++ [p, p']) pl (jn + 1) _ (by rw [List.map_append]; exact b) (by rw [szs_app, o2.1]; omega) (fun y hy => ?_) (by rw [lvs_app, o2.2.1]; omega) (by rw [jns_app, o2.2.2]; omega)
        rcases List.mem_append.mp hy with hy | hy
        · exact hr y hy
        · simp only [List.mem_cons, List.not_mem_nil, or_false] at hy
          rcases hy with rfl | rfl
          · exact hq.1
          · exact hq.2
      | or p p' =>
        simp only [Qn.lv] at h1
        simp only [Qn.jn] at h2
        simp only [Qn.sz] at h
        have b := two_body e S q0 (qs.map Qn.d) "or" (.inr rfl) p.d p'.d pl jn v (by omega) (by omega) ln
        have o2 : szs [p, p'] = p.sz + p'.sz ∧ lvs [p, p'] = p.lv + p'.lv ∧ jns [p, p'] = p.jn + p'.jn := by simp [szs, lvs, jns]
        refine go [] (qs ++ [p, p']) pl (jn + 1) _ (by rw [List.map_append]; exact b) (by rw [szs_app, o2.1]; omega) (fun y hy => ?_) (by rw [lvs_app, o2.2.1]; omega) (by rw [jns_app, o2.2.2]; omega)
        rcases List.mem_append.mp hy with hy | hy
        · exact hr y hy
        · simp only [List.mem_cons, List.not_mem_nil, or_false] at hy
          rcases hy with rfl | rfl
          · exact hq.1
          · exact hq.2
end Kg
end

section
set_option Elab.async false
set_option linter.all false
set_option maxRecDepth 100000
set_option maxHeartbeats 2000000
namespace Kg
open PySem L2 DL
theorem is_question_eq (e : EX) (hW : e.nW = 40) (S : Sto) (hc : cleanS S.length S = true) (q : Qn) (hf : q.fit) (h1 : q.lv ≤ 4) (h2 : q.jn ≤ 6) (h3 : q.sz ≤ 39) : M.is_question e [q.d] S = .ok (.bl true) S := by
  obtain ⟨σ', l⟩ := q_loop e S q.d 39 [q] 0 0 none (by simpa [szs] using h3) (by omega) (fun p hp => by rw [List.mem_singleton.mp hp]; exact hf) (by simp [lvs]; omega) (by simp [jns]; omega)
  have l' : whileF (M.is_question_1 e) (M.is_question_2 e) 40 [some q.d, some (.ref S.length), some (.int 0), some (.int 0), none] (S ++ [.lst [q.d]]) = .nx σ' (S ++ [.lst []]) := l
  have lg : ∀ T, letGo S.length (.bl true) T = some (.bl true) := fun T => letGo_plain rfl
  simp -implicitDefEqProofs [M.is_question, M.b_is_question, frz, hW, l', hc, lg]
theorem holds_ok (e : EX) (hW : e.nW = 40) (S : Sto) (hc : cleanS S.length S = true) (q : Qn) (hf : q.fit) (h1 : q.lv ≤ 4) (h2 : q.jn ≤ 6) (h3 : q.sz ≤ 39) (hd : q.dep < 12) {x a b : Int} (hp : 0 ≤ x ∧ x ≤ 2 ∧ 0 ≤ a ∧ 0 ≤ b) : M.holds e [q.d, .tup [.int x, .int a, .int b]] S = .ok (.bl (q.so x a b)) S := by
  have q1 := is_question_eq e hW S hc q hf h1 h2 h3
  have q2 := is_place_eq e (.tup [.int x, .int a, .int b]) S rfl
  have pl : isPlaceB (.tup [.int x, .int a, .int b]) = true := by
    obtain ⟨h1, h2, h3, h4⟩ := hp
    simp only [isPlaceB, isIn, isNat, h1, h2, h3, h4, decide_true, Bool.and_self]
  rw [pl] at q2
  have q3 : M.is_so e [q.d, .tup [.int x, .int a, .int b]] S = .ok (.bl (q.so x a b)) S := so_eq e x a b q 12 S hf hd
  simp -implicitDefEqProofs [M.holds, M.b_holds, M.check_question, M.b_check_question, q1, q2, q3]
end Kg
end

section
set_option Elab.async false
set_option linter.all false
set_option maxRecDepth 100000
set_option maxHeartbeats 2000000
namespace Kg
open PySem L2 DL
theorem leaf_eq (e : EX) (ns : List Int) (k : Nat) (R : Sto) : ∃ (q : Qn) (k' : Nat), isLeaf q ∧ q.fit ∧ M._law_leaf e [.ref 0] (DN ns k ++ R) = .ok q.d (DN ns k' ++ R) := by
  by_cases c0 : dr ns k % 5 = 0
  · refine ⟨.room (dr ns (k + 1) % 3), k + 1 + 1, .inl ⟨_, rfl⟩, by constructor <;> omega, ?_⟩
    simp -implicitDefEqProofs [M._law_leaf, M.b__law_leaf, c0, Qn.d]
  · by_cases c1 : dr ns k % 5 < 3
    · have z : dr ns (k + 1 + 1 + 1) % 2 = 0 ∨ dr ns (k + 1 + 1 + 1) % 2 = 1 := by omega
      rcases z with z | z
      · refine ⟨.most (dr ns (k + 1) % 13 - 6) (dr ns (k + 1 + 1) % 13 - 6) (dr ns (k + 1 + 1 + 1 + 1) % 21 - 10), k + 1 + 1 + 1 + 1 + 1, .inr (.inl ⟨_, _, _, rfl⟩), ⟨by omega, by omega, by omega, by omega⟩, ?_⟩
        simp -implicitDefEqProofs [M._law_leaf, M.b__law_leaf, c0, c1, z, Qn.d]
      · refine ⟨.most (dr ns (k + 1) % 13 - 6) (dr ns (k + 1 + 1) % 13 - 6) (dr ns (k + 1 + 1 + 1 + 1) % 199 - 99), k + 1 + 1 + 1 + 1 + 1, .inr (.inl ⟨_, _, _, rfl⟩), ⟨by omega, by omega, by omega, by omega⟩, ?_⟩
        simp -implicitDefEqProofs [M._law_leaf, M.b__law_leaf, c0, c1, z, Qn.d]
    · obtain ⟨m, hm⟩ : ∃ m, 2 + dr ns (k + 1 + 1 + 1) % 5 = m := ⟨_, rfl⟩
      have m0 : 0 < m := by omega
      have u1 : 0 ≤ dr ns (k + 1 + 1 + 1 + 1) % m := Int.emod_nonneg _ (by omega)
      have u2 : dr ns (k + 1 + 1 + 1 + 1) % m < m := Int.emod_lt_of_pos _ m0
      refine ⟨.rest (dr ns (k + 1) % 13 - 6) (dr ns (k + 1 + 1) % 13 - 6) m (dr ns (k + 1 + 1 + 1 + 1) % m), k + 1 + 1 + 1 + 1 + 1, .inr (.inr ⟨_, _, _, _, rfl⟩), ⟨by omega, by omega, by omega, by omega, by omega⟩, ?_⟩
      simp -implicitDefEqProofs [M._law_leaf, M.b__law_leaf, c0, c1, hm, m0, Qn.d]
end Kg
end

section
set_option Elab.async false
set_option linter.all false
set_option maxRecDepth 100000
set_option maxHeartbeats 2000000
namespace Kg
open PySem L2 DL
theorem p6' {S : Sto} : dPow (.int 10) (.int 6) S = some (.int 1000000) := by simp [dPow, dI]
theorem p20' {S : Sto} : dPow (.int 10) (.int 20) S = some (.int 100000000000000000000) := by simp [dPow, dI]
theorem p30' {S : Sto} : dPow (.int 10) (.int 30) S = some (.int 1000000000000000000000000000000) := by simp [dPow, dI]
theorem p45' {S : Sto} : dPow (.int 10) (.int 45) S = some (.int 1000000000000000000000000000000000000000000000) := by simp [dPow, dI]
theorem mid_of {d : Int} (h1 : 0 ≤ d) (h2 : d < 10000000000000000000) : mid d = true := by
  unfold mid
  simp only [Bool.and_eq_true, decide_eq_true_eq]
  omega
theorem standing_eq (e : EX) {ns : List Int} (sm : ∀ m ∈ ns, small m) (k : Nat) (R : Sto) : ∃ (r a b : Int) (k' : Nat), 0 ≤ r ∧ r ≤ 2 ∧ 0 ≤ a ∧ 0 ≤ b ∧ M._law_standing e [.ref 0] (DN ns k ++ R) = .ok (.tup [.int r, .int a, .int b]) (DN ns k' ++ R) := by
  have s1 := dr_small sm (k + 1)
  have s3 := dr_small sm (k + 1 + 1 + 1)
  obtain ⟨s1a, s1b⟩ := s1
  obtain ⟨s3a, s3b⟩ := s3
  have a1 : mid (dr ns (k + 1) * 1000003) = true := mid_of (by omega) (by omega)
  have a2 : mid (dr ns (k + 1) * 1000003 * 999983) = true := mid_of (by omega) (by omega)
  have b1 : mid (dr ns (k + 1 + 1 + 1) * 1000033) = true := mid_of (by omega) (by omega)
  have b2 : mid (dr ns (k + 1 + 1 + 1) * 1000033 * 999979) = true := mid_of (by omega) (by omega)
  have mP : mid 1000000000000000000000001000000 = true := by decide
  have mQ : mid (1000000 + 1000000000000000000000000000000) = true := by decide
  have z : dr ns k % 5 = 0 ∨ dr ns k % 5 = 1 ∨ dr ns k % 5 = 2 ∨ dr ns k % 5 = 3 ∨ dr ns k % 5 = 4 := by omega
  have i1 : in64 1000003 = true := by decide
  have i2 : in64 999983 = true := by decide
  have i3 : in64 1000033 = true := by decide
  have i4 : in64 999979 = true := by decide
  rcases z with z | z | z | z | z
  · refine ⟨dr ns (k + 1 + 1 + 1 + 1 + 1) % 3, (dr ns (k + 1) * 1000003 * 999983 * 1000000000000000000000001000000 + dr ns (k + 1 + 1)) % 6, (dr ns (k + 1 + 1 + 1) * 1000033 * 999979 * 1000000000000000000000001000000 + dr ns (k + 1 + 1 + 1 + 1)) % 6, k + 1 + 1 + 1 + 1 + 1 + 1, by omega, by omega, Int.emod_nonneg _ (by decide), Int.emod_nonneg _ (by decide), ?_⟩
    simp -implicitDefEqProofs [M._law_standing, M.b__law_standing, z, p6', p20', p30', p45', v_mulM, a1, a2, b1, b2, mP, mQ, i1, i2, i3, i4]
  · refine ⟨dr ns (k + 1 + 1 + 1 + 1 + 1) % 3, (dr ns (k + 1) * 1000003 * 999983 * 1000000000000000000000001000000 + dr ns (k + 1 + 1)) % 30, (dr ns (k + 1 + 1 + 1) * 1000033 * 999979 * 1000000000000000000000001000000 + dr ns (k + 1 + 1 + 1 + 1)) % 30, k + 1 + 1 + 1 + 1 + 1 + 1, by omega, by omega, Int.emod_nonneg _ (by decide), Int.emod_nonneg _ (by decide), ?_⟩
    simp -implicitDefEqProofs [M._law_standing, M.b__law_standing, z, p6', p20', p30', p45', v_mulM, a1, a2, b1, b2, mP, mQ, i1, i2, i3, i4]
  · refine ⟨dr ns (k + 1 + 1 + 1 + 1 + 1) % 3, (dr ns (k + 1) * 1000003 * 999983 * 1000000000000000000000001000000 + dr ns (k + 1 + 1)) % 1000000, (dr ns (k + 1 + 1 + 1) * 1000033 * 999979 * 1000000000000000000000001000000 + dr ns (k + 1 + 1 + 1 + 1)) % 1000000, k + 1 + 1 + 1 + 1 + 1 + 1, by omega, by omega, Int.emod_nonneg _ (by decide), Int.emod_nonneg _ (by decide), ?_⟩
    simp -implicitDefEqProofs [M._law_standing, M.b__law_standing, z, p6', p20', p30', p45', v_mulM, a1, a2, b1, b2, mP, mQ, i1, i2, i3, i4]
  · refine ⟨dr ns (k + 1 + 1 + 1 + 1 + 1) % 3, (dr ns (k + 1) * 1000003 * 999983 * 1000000000000000000000001000000 + dr ns (k + 1 + 1)) % 100000000000000000000, (dr ns (k + 1 + 1 + 1) * 1000033 * 999979 * 1000000000000000000000001000000 + dr ns (k + 1 + 1 + 1 + 1)) % 100000000000000000000, k + 1 + 1 + 1 + 1 + 1 + 1, by omega, by omega, Int.emod_nonneg _ (by decide), Int.emod_nonneg _ (by decide), ?_⟩
    simp -implicitDefEqProofs [M._law_standing, M.b__law_standing, z, p6', p20', p30', p45', v_mulM, a1, a2, b1, b2, mP, mQ, i1, i2, i3, i4]
  · refine ⟨dr ns (k + 1 + 1 + 1 + 1 + 1) % 3, (dr ns (k + 1) * 1000003 * 999983 * 1000000000000000000000001000000 + dr ns (k + 1 + 1)) % 1000000000000000000000000000000000000000000000, (dr ns (k + 1 + 1 + 1) * 1000033 * 999979 * 1000000000000000000000001000000 + dr ns (k + 1 + 1 + 1 + 1)) % 1000000000000000000000000000000000000000000000, k + 1 + 1 + 1 + 1 + 1 + 1, by omega, by omega, Int.emod_nonneg _ (by decide), Int.emod_nonneg _ (by decide), ?_⟩
    simp -implicitDefEqProofs [M._law_standing, M.b__law_standing, z, p6', p20', p30', p45', v_mulM, a1, a2, b1, b2, mP, mQ, i1, i2, i3, i4]
end Kg
end

section
set_option Elab.async false
set_option linter.all false
set_option maxRecDepth 100000
set_option maxHeartbeats 2000000
namespace Kg
open PySem L2 DL
theorem equ_n (e : EX) (n : Nat) : M._law_equal_v2_n e (n + 1) = runF 2 (M.b__law_equal_v2 e (M._law_all_equal_r e (M._law_equal_v2_n e n))) := rfl
theorem v_eqb (b : Bool) (S : Sto) : dEq (.bl b) (.bl b) S = some (.bl true) := by
  cases b <;> simp [dEq, dEqS, dEqD, toPy, SeqAt.shaped, PyData.canLay0, PyData.depth, PyData.eqv]
theorem eq_bool (e : EX) (b : Bool) (S : Sto) : M._law_equal_v2 e [.bl b, .bl b] S = .ok (.bl true) S := by
  show M._law_equal_v2_n e (5 + 1) _ _ = _
  rw [equ_n]
  simp -implicitDefEqProofs [M.b__law_equal_v2, v_eqb]
theorem cu1 {p q r : D} : cutD [p, q, r] (some 1) none = [q, r] := rfl
theorem cu2 {p q r : D} : cutD [p, q, r] (some 2) none = [r] := rfl
theorem cu3 {p q r : D} : cutD [p, q, r] (some 3) none = [] := rfl
theorem cu4 {p q r : D} : cutD [p, q, r] none (some 1) = [p] := rfl
theorem cu5 {p q r : D} : cutD [p, q, r] none (some 2) = [p, q] := rfl
theorem bad_eq (e : EX) (ns : List Int) (k : Nat) (R : Sto) (x a b : Int) (hx : 0 ≤ x ∧ x ≤ 2) : ∃ (d : D) (k' : Nat), isPlaceB d = false ∧ plain d = true ∧ M._law_bad_v3 e [.ref 0, .tup [.int x, .int a, .int b]] (DN ns k ++ R) = .ok d (DN ns k' ++ R) := by
  have y : dr ns k % 2 = 0 ∨ dr ns k % 2 = 1 := by omega
  have z : dr ns (k + 1) % 6 = 0 ∨ dr ns (k + 1) % 6 = 1 ∨ dr ns (k + 1) % 6 = 2 ∨ dr ns (k + 1) % 6 = 3 ∨ dr ns (k + 1) % 6 = 4 ∨ dr ns (k + 1) % 6 = 5 := by omega
  have w3 : dr ns (k + 1 + 1) % 3 = 0 ∨ dr ns (k + 1 + 1) % 3 = 1 ∨ dr ns (k + 1 + 1) % 3 = 2 := by omega
  have w4 : dr ns (k + 1 + 1) % 4 = 0 ∨ dr ns (k + 1 + 1) % 4 = 1 ∨ dr ns (k + 1 + 1) % 4 = 2 ∨ dr ns (k + 1 + 1) % 4 = 3 := by omega
  rcases z with z | z | z | z | z | z
  · rcases w4 with w | w | w | w
    · refine ⟨.tup [.int (-1), .int a, .int b], k + 1 + 1 + 1, rfl, rfl, ?_⟩; simp -implicitDefEqProofs [M._law_bad_v3, M.b__law_bad_v3, z, w, cu1, cu2, cu3, cu4, cu5]
    · refine ⟨.tup [.int 3, .int a, .int b], k + 1 + 1 + 1, rfl, rfl, ?_⟩; simp -implicitDefEqProofs [M._law_bad_v3, M.b__law_bad_v3, z, w, cu1, cu2, cu3, cu4, cu5]
    · refine ⟨.tup [.bl true, .int a, .int b], k + 1 + 1 + 1, rfl, rfl, ?_⟩; simp -implicitDefEqProofs [M._law_bad_v3, M.b__law_bad_v3, z, w, cu1, cu2, cu3, cu4, cu5]
    · refine ⟨.tup [.non, .int a, .int b], k + 1 + 1 + 1, rfl, rfl, ?_⟩; simp -implicitDefEqProofs [M._law_bad_v3, M.b__law_bad_v3, z, w, cu1, cu2, cu3, cu4, cu5]
  · rcases y with y | y <;> rcases w3 with w | w | w
    · refine ⟨.tup [.int x, .int (-1), .int b], k + 1 + 1 + 1, by simp [isPlaceB, isNat], rfl, ?_⟩; simp -implicitDefEqProofs [M._law_bad_v3, M.b__law_bad_v3, y, z, w, cu1, cu2, cu3, cu4, cu5]
    · refine ⟨.tup [.int x, .bl true, .int b], k + 1 + 1 + 1, by simp [isPlaceB, isNat], rfl, ?_⟩; simp -implicitDefEqProofs [M._law_bad_v3, M.b__law_bad_v3, y, z, w, cu1, cu2, cu3, cu4, cu5]
    · refine ⟨.tup [.int x, .non, .int b], k + 1 + 1 + 1, by simp [isPlaceB, isNat], rfl, ?_⟩; simp -implicitDefEqProofs [M._law_bad_v3, M.b__law_bad_v3, y, z, w, cu1, cu2, cu3, cu4, cu5]
    · refine ⟨.tup [.int x, .int a, .int (-1)], k + 1 + 1 + 1, by simp [isPlaceB, isNat], rfl, ?_⟩; simp -implicitDefEqProofs [M._law_bad_v3, M.b__law_bad_v3, y, z, w, cu1, cu2, cu3, cu4, cu5]
    · refine ⟨.tup [.int x, .int a, .bl true], k + 1 + 1 + 1, by simp [isPlaceB, isNat], rfl, ?_⟩; simp -implicitDefEqProofs [M._law_bad_v3, M.b__law_bad_v3, y, z, w, cu1, cu2, cu3, cu4, cu5]
    · refine ⟨.tup [.int x, .int a, .non], k + 1 + 1 + 1, by simp [isPlaceB, isNat], rfl, ?_⟩; simp -implicitDefEqProofs [M._law_bad_v3, M.b__law_bad_v3, y, z, w, cu1, cu2, cu3, cu4, cu5]
  · refine ⟨.lst [.int x, .int a, .int b], k + 1 + 1, rfl, rfl, ?_⟩; simp -implicitDefEqProofs [M._law_bad_v3, M.b__law_bad_v3, z, cu1, cu2, cu3, cu4, cu5]
  · refine ⟨.tup [.int x, .int a, .int b, .int 0], k + 1 + 1, rfl, rfl, ?_⟩; simp -implicitDefEqProofs [M._law_bad_v3, M.b__law_bad_v3, z, cu1, cu2, cu3, cu4, cu5]
  · refine ⟨.tup [.int x, .int a], k + 1 + 1, rfl, rfl, ?_⟩; simp -implicitDefEqProofs [M._law_bad_v3, M.b__law_bad_v3, z, cu1, cu2, cu3, cu4, cu5]
  · rcases w3 with w | w | w
    · refine ⟨.non, k + 1 + 1 + 1, rfl, rfl, ?_⟩; simp -implicitDefEqProofs [M._law_bad_v3, M.b__law_bad_v3, z, w, cu1, cu2, cu3, cu4, cu5]
    · refine ⟨.int 5, k + 1 + 1 + 1, rfl, rfl, ?_⟩; simp -implicitDefEqProofs [M._law_bad_v3, M.b__law_bad_v3, z, w, cu1, cu2, cu3, cu4, cu5]
    · refine ⟨.str "0 0 0", k + 1 + 1 + 1, rfl, rfl, ?_⟩; simp -implicitDefEqProofs [M._law_bad_v3, M.b__law_bad_v3, z, w, cu1, cu2, cu3, cu4, cu5]
end Kg
end

section
set_option Elab.async false
set_option linter.all false
set_option maxRecDepth 100000
set_option maxHeartbeats 2000000
namespace Kg
open PySem L2 DL
structure Own (e : EX) : Prop where
  ss : e.em (.ref (e.x .BadStanding)) (.ref (e.x .BadStanding)) = some true
  sa : e.km (.ref (e.x .BadStanding)) (.ref (e.x .BadArgument)) = some false
theorem refused_eq (e : EX) (o : Own e) (hW : e.nW = 40) (S : Sto) (hc : cleanS S.length S = true) (q : Qn) (hf : q.fit) (h1 : q.lv ≤ 4) (h2 : q.jn ≤ 6) (h3 : q.sz ≤ 39) (d : D) (hb : isPlaceB d = false) (hp : plain d = true) : M._law_refused_v3 e [q.d, d] S = .ok (.bl true) S := by
  have q1 := is_question_eq e hW S hc q hf h1 h2 h3
  have q2 := is_place_eq e d S hp
  rw [hb] at q2
  have q3 : M.holds e [q.d, d] S = .raise (.ref (e.x .BadStanding)) S := by
    simp -implicitDefEqProofs [M.holds, M.b_holds, M.check_question, M.b_check_question, q1, q2]
  simp -implicitDefEqProofs only [M._law_refused_v3, M.b__law_refused_v3, ap_runF, ap_sSeq, ap_startD]
  rw [tryAs_raise (c := .ref (e.x .BadStanding)) (σ1 := [some q.d, some d, none]) (S1 := S) (r := .rt (.bl true) S) (by simp -implicitDefEqProofs [q3]) o.ss (fun a => by
      simp -implicitDefEqProofs [cIsE, isE, clsVal, kmAny, o.sa, RS.clr])]
  simp
end Kg
end

section
set_option Elab.async false
set_option linter.all false
set_option maxRecDepth 100000
set_option maxHeartbeats 2000000
namespace Kg
open PySem L2 DL
theorem leaves_eq (e : EX) (ns : List Int) (R : Sto) (it : Items) (hw : it.w = none) : ∀ (ds acc : List D) (k : Nat), acc.length + ds.length < 100000 → ∃ (qs : List Qn) (k' : Nat), qs.length = ds.length ∧ (∀ q ∈ qs, isLeaf q ∧ q.fit) ∧
    compF it (gNm 6) tYesD (M._law_question_1 e) [some (.ref 0), none, none, none, none, none, none] ds (DN ns k ++ R) acc = .ok (acc ++ qs.map Qn.d) (DN ns k' ++ R)
  | [], acc, k, _ => ⟨[], k, rfl, by simp, by unfold compF; rw [if_pos (by rw [hw]; trivial)]; simp⟩
  | d :: ds, acc, k, hl => by
    obtain ⟨q, k1, l, f, e1⟩ := leaf_eq e ns k R
    have hb : acc.length < BIG := big_lt (by simp at hl; omega)
    obtain ⟨qs, k', g1, g2, g3⟩ := leaves_eq e ns R it hw ds (acc ++ [q.d]) k1 (by simp at hl ⊢; omega)
    refine ⟨q :: qs, k', by simp [g1], ?_, ?_⟩
    · intro p hp
      rcases List.mem_cons.mp hp with rfl | hp
      · exact ⟨l, f⟩
      · exact g2 p hp
    · rw [compF, if_pos (by rw [hw]; trivial), show gNm 6 d [some (.ref 0), none, none, none, none, none, none] (DN ns k ++ R) = some [some (.ref 0), none, none, none, none, none, some d] from rfl]
      have e0 : M._law_question_1 e [some (.ref 0), none, none, none, none, none, some d] (DN ns k ++ R) = .ok q.d (DN ns k1 ++ R) := by
        simp -implicitDefEqProofs [M._law_question_1, e1]
      have t0 : tYesD [some (.ref 0), none, none, none, none, none, some d] (DN ns k ++ R) = .ok true (DN ns k ++ R) := rfl
      simp only [t0, Res.noR_ok, Res.bind_ok, e0, if_true, if_pos hb]
      simpa using g3
end Kg
end

section
set_option Elab.async false
set_option linter.all false
set_option maxRecDepth 100000
set_option maxHeartbeats 2000000
namespace Kg
open PySem L2 DL
theorem plain_q : ∀ q : Qn, DL.plain q.d = true
  | .room n => rfl
  | .most u v c => rfl
  | .rest u v m c => rfl
  | .not q => by have := plain_q q; simp [Qn.d, DL.plain, DL.plains, this]
  | .and p q => by have h1 := plain_q p; have h2 := plain_q q; simp [Qn.d, DL.plain, DL.plains, h1, h2]
  | .or p q => by have h1 := plain_q p; have h2 := plain_q q; simp [Qn.d, DL.plain, DL.plains, h1, h2]
theorem sz_eq : ∀ q : Qn, q.sz = q.lv + q.jn
  | .room n => rfl
  | .most u v c => rfl
  | .rest u v m c => rfl
  | .not q => by have := sz_eq q; simp only [Qn.sz, Qn.lv, Qn.jn]; omega
  | .and p q => by have h1 := sz_eq p; have h2 := sz_eq q; simp only [Qn.sz, Qn.lv, Qn.jn]; omega
  | .or p q => by have h1 := sz_eq p; have h2 := sz_eq q; simp only [Qn.sz, Qn.lv, Qn.jn]; omega
theorem dep_le : ∀ q : Qn, q.dep ≤ q.jn
  | .room n => Nat.le_refl _
  | .most u v c => Nat.le_refl _
  | .rest u v m c => Nat.le_refl _
  | .not q => by have := dep_le q; simp only [Qn.dep, Qn.jn]; omega
  | .and p q => by have h1 := dep_le p; have h2 := dep_le q; simp only [Qn.dep, Qn.jn]; omega
  | .or p q => by have h1 := dep_le p; have h2 := dep_le q; simp only [Qn.dep, Qn.jn]; omega
end Kg
end

section
set_option Elab.async false
set_option linter.all false
set_option maxRecDepth 100000
set_option maxHeartbeats 2000000
namespace Kg
open PySem L2 DL
theorem len_ref' {S : Sto} {n : Nat} {xs : List D} (h : S[n]? = some (.lst xs)) : cLen [.ref n] S = some (.int xs.length) := by
  show (anyL (.ref n) S).map _ = _
  show (match S[n]? with | some (.lst xs) => some xs | _ => none).map _ = _
  rw [h]; rfl
theorem test_eq (e : EX) (ns : List Int) (k : Nat) (R : Sto) (n : Nat) (xs : List D) (l : Int) (v3 v4 v5 : Option D) (hn : ∀ k, (DN ns k ++ R)[n]? = some (.lst xs)) :
    ∃ (k' : Nat) (b : Bool), (1 < xs.length → b = true) ∧ (b = true → 1 < xs.length ∨ 3 < l) ∧ M._law_question_4 e [some (.ref 0), some (.ref n), some (.int l), v3, v4, v5, none] (DN ns k ++ R) = .ok b (DN ns k' ++ R) := by
  have q := len_ref' (hn k)
  by_cases h : 1 < xs.length
  · have h' : (1 : Int) < xs.length := by omega
    exact ⟨k, true, fun _ => rfl, fun _ => .inl h, by simp -implicitDefEqProofs [M._law_question_4, q, h']⟩
  · have h' : ¬ (1 : Int) < xs.length := by omega
    by_cases g : 3 < l
    · by_cases d : dr ns k % 2 = 0
      · exact ⟨k + 1, true, fun _ => rfl, fun _ => .inr g, by simp -implicitDefEqProofs [M._law_question_4, q, h', g, d]⟩
      · exact ⟨k + 1, false, fun x => absurd x h, by simp, by simp -implicitDefEqProofs [M._law_question_4, q, h', g, d]⟩
    · exact ⟨k, false, fun x => absurd x h, by simp, by simp -implicitDefEqProofs [M._law_question_4, q, h', g]⟩
end Kg
end

section
set_option Elab.async false
set_option linter.all false
set_option maxRecDepth 100000
set_option maxHeartbeats 4000000
namespace Kg
open PySem L2 DL
theorem ap_fAddN {f g : FE} {σ : En} {S : Sto} : fAddN f g σ S = (f σ S).bind fun x S1 => (g σ S1).bind fun y S2 => (ofO (lstOf x S2) S2).bind fun xs S2 => (ofO (lstOf y S2) S2).bind fun ys S2 =>
  if xs.length + ys.length ≤ BIG then .ok (.ref S2.length) (S2 ++ [.lst (xs ++ ys)]) else .stuck := rfl
theorem ap_fComp {fi : FI} {gt : FG} {t : FT} {f : FE} {vs : List Nat} {σ : En} {S : Sto} : fComp fi gt t f vs σ S = (fi σ S).bind fun it S1 => (compF it gt t f (wipeD σ vs) it.ds S1 []).bind fun ds S2 => .ok (.lst ds) S2 := rfl
theorem compF_nil {ds : List D} {gt : FG} {t : FT} {f : FE} {σ0 : En} {S : Sto} {acc : List D} : compF ⟨ds, none⟩ gt t f σ0 [] S acc = .ok acc S := by
  unfold compF; rw [if_pos (by trivial)]
theorem compF_cons {ds : List D} {gt : FG} {t : FT} {f : FE} {σ0 : En} {S : Sto} {acc : List D} {d : D} {r : List D} : compF ⟨ds, none⟩ gt t f σ0 (d :: r) S acc = (match gt d σ0 S with
    | some σ1 => (t σ1 S).noR.bind fun k S1 => if k = true then (f σ1 S1).noR.bind fun x S2 => if acc.length < BIG then compF ⟨ds, none⟩ gt t f σ0 r S2 (acc ++ [x]) else .stuck else compF ⟨ds, none⟩ gt t f σ0 r S1 acc
    | none => .stuck) := by
  rw [compF, if_pos (by trivial)] <;> rfl
theorem rg2 : rgD 0 2 = [.int 0, .int 1] := rfl
theorem rg3 : rgD 0 3 = [.int 0, .int 1, .int 2] := rfl
theorem rg4 : rgD 0 4 = [.int 0, .int 1, .int 2, .int 3] := rfl
theorem b0 : (0 : Nat) < BIG := by decide +kernel
theorem b1 : (1 : Nat) < BIG := by decide +kernel
theorem b2 : (2 : Nat) < BIG := by decide +kernel
structure At (ns : List Int) (A : Sto) (xs : List D) : Prop where
  ln : ∀ k, cLen [.ref (1 + A.length)] (DN ns k ++ (A ++ [.lst xs])) = some (.int xs.length)
  ix : ∀ k i, dIx (.ref (1 + A.length)) (.int i) (DN ns k ++ (A ++ [.lst xs])) = atI xs i
  ls : ∀ k, lstOf (.ref (1 + A.length)) (DN ns k ++ (A ++ [.lst xs])) = some xs
  pt : ∀ k i d, putL (.ref (1 + A.length)) (.int i) d (DN ns k ++ (A ++ [.lst xs])) = (ixN xs.length i).map fun j => DN ns k ++ (A ++ [.lst (xs.set j d)])
theorem at_mk (ns : List Int) (A : Sto) (xs : List D) : At ns A xs := by
  have h : ∀ k, (DN ns k ++ (A ++ [SO.lst xs]))[1 + A.length]? = some (.lst xs) := fun k => by
    rw [List.getElem?_append_right (by simp), DN_len, Nat.add_sub_cancel_left, List.getElem?_append_right (Nat.le_refl _)]; simp
  have hl : ∀ k, lstOf (.ref (1 + A.length)) (DN ns k ++ (A ++ [SO.lst xs])) = some xs := fun k => by
    show (match (DN ns k ++ (A ++ [SO.lst xs]))[1 + A.length]? with | some (.lst xs) => some xs | _ => none) = _
    rw [h k]
  refine ⟨fun k => len_ref' (h k), fun k i => ?_, hl, fun k i d => ?_⟩
  · show (lstOf (.ref (1 + A.length)) (DN ns k ++ (A ++ [SO.lst xs]))).bind (fun xs => atI xs i) = _
    rw [hl k]; rfl
  · simp only [putL, h k]
    congr 1
    funext j
    rw [List.set_append_right _ _ (by simp), DN_len, Nat.add_sub_cancel_left, set_last]
def st (A : Sto) (l : Int) (v3 v4 v5 : Option D) : En := [some (.ref 0), some (.ref (1 + A.length)), some (.int l), v3, v4, v5, none]
def PB (ns : List Int) (A : Sto) (qs : List Qn) (l : Int) (r : RS) : Prop := ∃ (k' : Nat) (E : Sto) (qs' : List Qn) (v3 v4 v5 : Option D), r = .nx (st (A ++ E) (l - 1) v3 v4 v5) (DN ns k' ++ ((A ++ E) ++ [.lst (qs'.map Qn.d)])) ∧ (∀ q ∈ qs', q.fit) ∧ 1 ≤ qs'.length ∧ (qs'.length : Int) ≤ l - 1 ∧ lvs qs' = lvs qs ∧ jns qs' = jns qs + 1
theorem wn' {a b c d f g : Option D} : wipeD [a, b, c, d, f, g, none] [6] = [a, b, c, d, f, g, none] := rfl
theorem b1le : (1 : Nat) ≤ BIG := by decide +kernel
theorem lstOf_l {xs : List D} {S : Sto} : lstOf (.lst xs) S = some xs := rfl
theorem body1 (e : EX) (ns : List Int) (A : Sto) (p : Qn) (fp : p.fit) (l : Int) (hl : 1 ≤ l) (ht : 1 < 1 ∨ 3 < l) (v3 v4 v5 : Option D) (k : Nat) :
    PB ns A [p] l (M._law_question_5 e (st A l v3 v4 v5) (DN ns k ++ (A ++ [.lst ([p].map Qn.d)]))) := by
  have hg := at_mk ns A ([p].map Qn.d)
  simp only [List.map_cons, List.map_nil] at hg ⊢
  have z : dr ns k % 1 = 0 := by omega
  refine ⟨k + 1, [], [.not p], some (.int 0), v4, v5, ?_, ?_, by simp, by simp; omega, by simp [lvs, Qn.lv], by simp [jns, Qn.jn]; try omega⟩
  · simp -implicitDefEqProofs [M._law_question_5, st, z, hg.ln, hg.ix, hg.pt, ixN, Qn.d, big2]
  · simp [Qn.fit, fp]
theorem body2 (e : EX) (ns : List Int) (A : Sto) (p q : Qn) (fp : p.fit) (fq : q.fit) (l : Int) (hl : 2 ≤ l) (ht : 1 < 2 ∨ 3 < l) (v3 v4 v5 : Option D) (k : Nat) :
    PB ns A [p, q] l (M._law_question_5 e (st A l v3 v4 v5) (DN ns k ++ (A ++ [.lst ([p, q].map Qn.d)]))) := by
  have hg := at_mk ns A ([p, q].map Qn.d)
  simp only [List.map_cons, List.map_nil] at hg ⊢
  have hz : dr ns k % 2 = 0 ∨ dr ns k % 2 = 1 := by omega
  rcases hz with z | z
  · have cf : ∀ kk x, fComp (iRg1 (aCons (fB cLen (aCons (fVar 1) aNil)) aNil)) (gNm 6) (M._law_question_3 e) (M._law_question_2 e) [6] [some (.ref 0), some (.ref (1 + A.length)), some (.int (l - 1)), some (.int 0), some (.int 1), x, none] (DN ns kk ++ (A ++ [.lst [Qn.d p, Qn.d q]])) = .ok (.lst []) (DN ns kk ++ (A ++ [.lst [Qn.d p, Qn.d q]])) := fun kk x => by
      rw [ap_fComp, wn']
      simp -implicitDefEqProofs [iRg1, hg.ln, rg2, compF_cons, compF_nil, M._law_question_3, M._law_question_2, hg.ix, b0, b1, b2, show in62 2 = true by decide]
    by_cases c : 2 ≤ l - 1
    · by_cases g : dr ns (k + 1) % 3 = 0
      · refine ⟨k + 1 + 1, [], [.not p, q], some (.int 0), v4, v5, ?_, ?_, by simp, by simp; omega, by simp [lvs, Qn.lv], by simp [jns, Qn.jn]; try omega⟩
        · simp -implicitDefEqProofs [M._law_question_5, st, z, hg.ln, hg.ix, hg.pt, ixN, Qn.d, big2, c, g]
        · simp [Qn.fit, fp, fq]
      · have hw : dr ns (k + 1 + 1) % 2 = 0 ∨ dr ns (k + 1 + 1) % 2 = 1 := by omega
        rcases hw with w | w
        · refine ⟨k + 1 + 1 + 1, [.lst [Qn.d p, Qn.d q]], [.and p q], some (.int 0), some (.int 1), some (Qn.and p q).d, ?_, ?_, by simp, by simp; omega, by simp [lvs, Qn.lv]; try omega, by simp [jns, Qn.jn]; try omega⟩
          · simp -implicitDefEqProofs [M._law_question_5, ap_fAddN, st, z, hg.ln, hg.ix, hg.ls, Qn.d, cf, big2, big3, big4, lstOf_l, b1le, c, g, w]
            try omega
          · simp [Qn.fit, fp, fq]
        · refine ⟨k + 1 + 1 + 1, [.lst [Qn.d p, Qn.d q]], [.or p q], some (.int 0), some (.int 1), some (Qn.or p q).d, ?_, ?_, by simp, by simp; omega, by simp [lvs, Qn.lv]; try omega, by simp [jns, Qn.jn]; try omega⟩
          · simp -implicitDefEqProofs [M._law_question_5, ap_fAddN, st, z, hg.ln, hg.ix, hg.ls, Qn.d, cf, big2, big3, big4, lstOf_l, b1le, c, g, w]
            try omega
          · simp [Qn.fit, fp, fq]
    · have hw : dr ns (k + 1) % 2 = 0 ∨ dr ns (k + 1) % 2 = 1 := by omega
      rcases hw with w | w
      · refine ⟨k + 1 + 1, [.lst [Qn.d p, Qn.d q]], [.and p q], some (.int 0), some (.int 1), some (Qn.and p q).d, ?_, ?_, by simp, by simp; omega, by simp [lvs, Qn.lv]; try omega, by simp [jns, Qn.jn]; try omega⟩
        · simp -implicitDefEqProofs [M._law_question_5, ap_fAddN, st, z, hg.ln, hg.ix, hg.ls, Qn.d, cf, big2, big3, big4, lstOf_l, b1le, c, w]
          try omega
        · simp [Qn.fit, fp, fq]
      · refine ⟨k + 1 + 1, [.lst [Qn.d p, Qn.d q]], [.or p q], some (.int 0), some (.int 1), some (Qn.or p q).d, ?_, ?_, by simp, by simp; omega, by simp [lvs, Qn.lv]; try omega, by simp [jns, Qn.jn]; try omega⟩
        · simp -implicitDefEqProofs [M._law_question_5, ap_fAddN, st, z, hg.ln, hg.ix, hg.ls, Qn.d, cf, big2, big3, big4, lstOf_l, b1le, c, w]
          try omega
        · simp [Qn.fit, fp, fq]
  · have cf : ∀ kk x, fComp (iRg1 (aCons (fB cLen (aCons (fVar 1) aNil)) aNil)) (gNm 6) (M._law_question_3 e) (M._law_question_2 e) [6] [some (.ref 0), some (.ref (1 + A.length)), some (.int (l - 1)), some (.int 1), some (.int 0), x, none] (DN ns kk ++ (A ++ [.lst [Qn.d p, Qn.d q]])) = .ok (.lst []) (DN ns kk ++ (A ++ [.lst [Qn.d p, Qn.d q]])) := fun kk x => by
      rw [ap_fComp, wn']
      simp -implicitDefEqProofs [iRg1, hg.ln, rg2, compF_cons, compF_nil, M._law_question_3, M._law_question_2, hg.ix, b0, b1, b2, show in62 2 = true by decide]
    by_cases c : 2 ≤ l - 1
    · by_cases g : dr ns (k + 1) % 3 = 0
      · refine ⟨k + 1 + 1, [], [p, .not q], some (.int 1), v4, v5, ?_, ?_, by simp, by simp; omega, by simp [lvs, Qn.lv], by simp [jns, Qn.jn]; try omega⟩
        · simp -implicitDefEqProofs [M._law_question_5, st, z, hg.ln, hg.ix, hg.pt, ixN, Qn.d, big2, c, g]
        · simp [Qn.fit, fp, fq]
      · have hw : dr ns (k + 1 + 1) % 2 = 0 ∨ dr ns (k + 1 + 1) % 2 = 1 := by omega
        rcases hw with w | w
        · refine ⟨k + 1 + 1 + 1, [.lst [Qn.d p, Qn.d q]], [.and q p], some (.int 1), some (.int 0), some (Qn.and q p).d, ?_, ?_, by simp, by simp; omega, by simp [lvs, Qn.lv]; try omega, by simp [jns, Qn.jn]; try omega⟩
          · simp -implicitDefEqProofs [M._law_question_5, ap_fAddN, st, z, hg.ln, hg.ix, hg.ls, Qn.d, cf, big2, big3, big4, lstOf_l, b1le, c, g, w]
            try omega
          · simp [Qn.fit, fp, fq]
        · refine ⟨k + 1 + 1 + 1, [.lst [Qn.d p, Qn.d q]], [.or q p], some (.int 1), some (.int 0), some (Qn.or q p).d, ?_, ?_, by simp, by simp; omega, by simp [lvs, Qn.lv]; try omega, by simp [jns, Qn.jn]; try omega⟩
          · simp -implicitDefEqProofs [M._law_question_5, ap_fAddN, st, z, hg.ln, hg.ix, hg.ls, Qn.d, cf, big2, big3, big4, lstOf_l, b1le, c, g, w]
            try omega
          · simp [Qn.fit, fp, fq]
    · have hw : dr ns (k + 1) % 2 = 0 ∨ dr ns (k + 1) % 2 = 1 := by omega
      rcases hw with w | w
      · refine ⟨k + 1 + 1, [.lst [Qn.d p, Qn.d q]], [.and q p], some (.int 1), some (.int 0), some (Qn.and q p).d, ?_, ?_, by simp, by simp; omega, by simp [lvs, Qn.lv]; try omega, by simp [jns, Qn.jn]; try omega⟩
        · simp -implicitDefEqProofs [M._law_question_5, ap_fAddN, st, z, hg.ln, hg.ix, hg.ls, Qn.d, cf, big2, big3, big4, lstOf_l, b1le, c, w]
          try omega
        · simp [Qn.fit, fp, fq]
      · refine ⟨k + 1 + 1, [.lst [Qn.d p, Qn.d q]], [.or q p], some (.int 1), some (.int 0), some (Qn.or q p).d, ?_, ?_, by simp, by simp; omega, by simp [lvs, Qn.lv]; try omega, by simp [jns, Qn.jn]; try omega⟩
        · simp -implicitDefEqProofs [M._law_question_5, ap_fAddN, st, z, hg.ln, hg.ix, hg.ls, Qn.d, cf, big2, big3, big4, lstOf_l, b1le, c, w]
          try omega
        · simp [Qn.fit, fp, fq]
theorem body3 (e : EX) (ns : List Int) (A : Sto) (p q r : Qn) (fp : p.fit) (fq : q.fit) (fr : r.fit) (l : Int) (hl : 3 ≤ l) (ht : 1 < 3 ∨ 3 < l) (v3 v4 v5 : Option D) (k : Nat) :
    PB ns A [p, q, r] l (M._law_question_5 e (st A l v3 v4 v5) (DN ns k ++ (A ++ [.lst ([p, q, r].map Qn.d)]))) := by
  have hg := at_mk ns A ([p, q, r].map Qn.d)
  simp only [List.map_cons, List.map_nil] at hg ⊢
  have hz : dr ns k % 3 = 0 ∨ dr ns k % 3 = 1 ∨ dr ns k % 3 = 2 := by omega
  rcases hz with z | z | z
  · have cf : ∀ kk x, fComp (iRg1 (aCons (fB cLen (aCons (fVar 1) aNil)) aNil)) (gNm 6) (M._law_question_3 e) (M._law_question_2 e) [6] [some (.ref 0), some (.ref (1 + A.length)), some (.int (l - 1)), some (.int 0), some (.int 1), x, none] (DN ns kk ++ (A ++ [.lst [Qn.d p, Qn.d q, Qn.d r]])) = .ok (.lst [Qn.d r]) (DN ns kk ++ (A ++ [.lst [Qn.d p, Qn.d q, Qn.d r]])) := fun kk x => by
      rw [ap_fComp, wn']
      simp -implicitDefEqProofs [iRg1, hg.ln, rg3, compF_cons, compF_nil, M._law_question_3, M._law_question_2, hg.ix, b0, b1, b2, show in62 3 = true by decide]
    by_cases c : 3 ≤ l - 1
    · by_cases g : dr ns (k + 1) % 3 = 0
      · refine ⟨k + 1 + 1, [], [.not p, q, r], some (.int 0), v4, v5, ?_, ?_, by simp, by simp; omega, by simp [lvs, Qn.lv], by simp [jns, Qn.jn]; try omega⟩
        · simp -implicitDefEqProofs [M._law_question_5, st, z, hg.ln, hg.ix, hg.pt, ixN, Qn.d, big2, c, g]
        · simp [Qn.fit, fp, fq, fr]
      · have hw : dr ns (k + 1 + 1) % 2 = 0 ∨ dr ns (k + 1 + 1) % 2 = 1 := by omega
        rcases hw with w | w
        · refine ⟨k + 1 + 1 + 1, [.lst [Qn.d p, Qn.d q, Qn.d r]], [r, .and p q], some (.int 0), some (.int 1), some (Qn.and p q).d, ?_, ?_, by simp, by simp; omega, by simp [lvs, Qn.lv]; try omega, by simp [jns, Qn.jn]; try omega⟩
          · simp -implicitDefEqProofs [M._law_question_5, ap_fAddN, st, z, hg.ln, hg.ix, hg.ls, Qn.d, cf, big2, big3, big4, lstOf_l, b1le, c, g, w]
            try omega
          · simp [Qn.fit, fp, fq, fr]
        · refine ⟨k + 1 + 1 + 1, [.lst [Qn.d p, Qn.d q, Qn.d r]], [r, .or p q], some (.int 0), some (.int 1), some (Qn.or p q).d, ?_, ?_, by simp, by simp; omega, by simp [lvs, Qn.lv]; try omega, by simp [jns, Qn.jn]; try omega⟩
          · simp -implicitDefEqProofs [M._law_question_5, ap_fAddN, st, z, hg.ln, hg.ix, hg.ls, Qn.d, cf, big2, big3, big4, lstOf_l, b1le, c, g, w]
            try omega
          · simp [Qn.fit, fp, fq, fr]
    · have hw : dr ns (k + 1) % 2 = 0 ∨ dr ns (k + 1) % 2 = 1 := by omega
      rcases hw with w | w
      · refine ⟨k + 1 + 1, [.lst [Qn.d p, Qn.d q, Qn.d r]], [r, .and p q], some (.int 0), some (.int 1), some (Qn.and p q).d, ?_, ?_, by simp, by simp; omega, by simp [lvs, Qn.lv]; try omega, by simp [jns, Qn.jn]; try omega⟩
        · simp -implicitDefEqProofs [M._law_question_5, ap_fAddN, st, z, hg.ln, hg.ix, hg.ls, Qn.d, cf, big2, big3, big4, lstOf_l, b1le, c, w]
          try omega
        · simp [Qn.fit, fp, fq, fr]
      · refine ⟨k + 1 + 1, [.lst [Qn.d p, Qn.d q, Qn.d r]], [r, .or p q], some (.int 0), some (.int 1), some (Qn.or p q).d, ?_, ?_, by simp, by simp; omega, by simp [lvs, Qn.lv]; try omega, by simp [jns, Qn.jn]; try omega⟩
        · simp -implicitDefEqProofs [M._law_question_5, ap_fAddN, st, z, hg.ln, hg.ix, hg.ls, Qn.d, cf, big2, big3, big4, lstOf_l, b1le, c, w]
          try omega
        · simp [Qn.fit, fp, fq, fr]
  · have cf : ∀ kk x, fComp (iRg1 (aCons (fB cLen (aCons (fVar 1) aNil)) aNil)) (gNm 6) (M._law_question_3 e) (M._law_question_2 e) [6] [some (.ref 0), some (.ref (1 + A.length)), some (.int (l - 1)), some (.int 1), some (.int 2), x, none] (DN ns kk ++ (A ++ [.lst [Qn.d p, Qn.d q, Qn.d r]])) = .ok (.lst [Qn.d p]) (DN ns kk ++ (A ++ [.lst [Qn.d p, Qn.d q, Qn.d r]])) := fun kk x => by
      rw [ap_fComp, wn']
      simp -implicitDefEqProofs [iRg1, hg.ln, rg3, compF_cons, compF_nil, M._law_question_3, M._law_question_2, hg.ix, b0, b1, b2, show in62 3 = true by decide]
    by_cases c : 3 ≤ l - 1
    · by_cases g : dr ns (k + 1) % 3 = 0
      · refine ⟨k + 1 + 1, [], [p, .not q, r], some (.int 1), v4, v5, ?_, ?_, by simp, by simp; omega, by simp [lvs, Qn.lv], by simp [jns, Qn.jn]; try omega⟩
        · simp -implicitDefEqProofs [M._law_question_5, st, z, hg.ln, hg.ix, hg.pt, ixN, Qn.d, big2, c, g]
        · simp [Qn.fit, fp, fq, fr]
      · have hw : dr ns (k + 1 + 1) % 2 = 0 ∨ dr ns (k + 1 + 1) % 2 = 1 := by omega
        rcases hw with w | w
        · refine ⟨k + 1 + 1 + 1, [.lst [Qn.d p, Qn.d q, Qn.d r]], [p, .and q r], some (.int 1), some (.int 2), some (Qn.and q r).d, ?_, ?_, by simp, by simp; omega, by simp [lvs, Qn.lv]; try omega, by simp [jns, Qn.jn]; try omega⟩
          · simp -implicitDefEqProofs [M._law_question_5, ap_fAddN, st, z, hg.ln, hg.ix, hg.ls, Qn.d, cf, big2, big3, big4, lstOf_l, b1le, c, g, w]
            try omega
          · simp [Qn.fit, fp, fq, fr]
        · refine ⟨k + 1 + 1 + 1, [.lst [Qn.d p, Qn.d q, Qn.d r]], [p, .or q r], some (.int 1), some (.int 2), some (Qn.or q r).d, ?_, ?_, by simp, by simp; omega, by simp [lvs, Qn.lv]; try omega, by simp [jns, Qn.jn]; try omega⟩
          · simp -implicitDefEqProofs [M._law_question_5, ap_fAddN, st, z, hg.ln, hg.ix, hg.ls, Qn.d, cf, big2, big3, big4, lstOf_l, b1le, c, g, w]
            try omega
          · simp [Qn.fit, fp, fq, fr]
    · have hw : dr ns (k + 1) % 2 = 0 ∨ dr ns (k + 1) % 2 = 1 := by omega
      rcases hw with w | w
      · refine ⟨k + 1 + 1, [.lst [Qn.d p, Qn.d q, Qn.d r]], [p, .and q r], some (.int 1), some (.int 2), some (Qn.and q r).d, ?_, ?_, by simp, by simp; omega, by simp [lvs, Qn.lv]; try omega, by simp [jns, Qn.jn]; try omega⟩
        · simp -implicitDefEqProofs [M._law_question_5, ap_fAddN, st, z, hg.ln, hg.ix, hg.ls, Qn.d, cf, big2, big3, big4, lstOf_l, b1le, c, w]
          try omega
        · simp [Qn.fit, fp, fq, fr]
      · refine ⟨k + 1 + 1, [.lst [Qn.d p, Qn.d q, Qn.d r]], [p, .or q r], some (.int 1), some (.int 2), some (Qn.or q r).d, ?_, ?_, by simp, by simp; omega, by simp [lvs, Qn.lv]; try omega, by simp [jns, Qn.jn]; try omega⟩
        · simp -implicitDefEqProofs [M._law_question_5, ap_fAddN, st, z, hg.ln, hg.ix, hg.ls, Qn.d, cf, big2, big3, big4, lstOf_l, b1le, c, w]
          try omega
        · simp [Qn.fit, fp, fq, fr]
  · have cf : ∀ kk x, fComp (iRg1 (aCons (fB cLen (aCons (fVar 1) aNil)) aNil)) (gNm 6) (M._law_question_3 e) (M._law_question_2 e) [6] [some (.ref 0), some (.ref (1 + A.length)), some (.int (l - 1)), some (.int 2), some (.int 0), x, none] (DN ns kk ++ (A ++ [.lst [Qn.d p, Qn.d q, Qn.d r]])) = .ok (.lst [Qn.d q]) (DN ns kk ++ (A ++ [.lst [Qn.d p, Qn.d q, Qn.d r]])) := fun kk x => by
      rw [ap_fComp, wn']
      simp -implicitDefEqProofs [iRg1, hg.ln, rg3, compF_cons, compF_nil, M._law_question_3, M._law_question_2, hg.ix, b0, b1, b2, show in62 3 = true by decide]
    by_cases c : 3 ≤ l - 1
    · by_cases g : dr ns (k + 1) % 3 = 0
      · refine ⟨k + 1 + 1, [], [p, q, .not r], some (.int 2), v4, v5, ?_, ?_, by simp, by simp; omega, by simp [lvs, Qn.lv], by simp [jns, Qn.jn]; try omega⟩
        · simp -implicitDefEqProofs [M._law_question_5, st, z, hg.ln, hg.ix, hg.pt, ixN, Qn.d, big2, c, g]
        · simp [Qn.fit, fp, fq, fr]
      · have hw : dr ns (k + 1 + 1) % 2 = 0 ∨ dr ns (k + 1 + 1) % 2 = 1 := by omega
        rcases hw with w | w
        · refine ⟨k + 1 + 1 + 1, [.lst [Qn.d p, Qn.d q, Qn.d r]], [q, .and r p], some (.int 2), some (.int 0), some (Qn.and r p).d, ?_, ?_, by simp, by simp; omega, by simp [lvs, Qn.lv]; try omega, by simp [jns, Qn.jn]; try omega⟩
          · simp -implicitDefEqProofs [M._law_question_5, ap_fAddN, st, z, hg.ln, hg.ix, hg.ls, Qn.d, cf, big2, big3, big4, lstOf_l, b1le, c, g, w]
            try omega
          · simp [Qn.fit, fp, fq, fr]
        · refine ⟨k + 1 + 1 + 1, [.lst [Qn.d p, Qn.d q, Qn.d r]], [q, .or r p], some (.int 2), some (.int 0), some (Qn.or r p).d, ?_, ?_, by simp, by simp; omega, by simp [lvs, Qn.lv]; try omega, by simp [jns, Qn.jn]; try omega⟩
          · simp -implicitDefEqProofs [M._law_question_5, ap_fAddN, st, z, hg.ln, hg.ix, hg.ls, Qn.d, cf, big2, big3, big4, lstOf_l, b1le, c, g, w]
            try omega
          · simp [Qn.fit, fp, fq, fr]
    · have hw : dr ns (k + 1) % 2 = 0 ∨ dr ns (k + 1) % 2 = 1 := by omega
      rcases hw with w | w
      · refine ⟨k + 1 + 1, [.lst [Qn.d p, Qn.d q, Qn.d r]], [q, .and r p], some (.int 2), some (.int 0), some (Qn.and r p).d, ?_, ?_, by simp, by simp; omega, by simp [lvs, Qn.lv]; try omega, by simp [jns, Qn.jn]; try omega⟩
        · simp -implicitDefEqProofs [M._law_question_5, ap_fAddN, st, z, hg.ln, hg.ix, hg.ls, Qn.d, cf, big2, big3, big4, lstOf_l, b1le, c, w]
          try omega
        · simp [Qn.fit, fp, fq, fr]
      · refine ⟨k + 1 + 1, [.lst [Qn.d p, Qn.d q, Qn.d r]], [q, .or r p], some (.int 2), some (.int 0), some (Qn.or r p).d, ?_, ?_, by simp, by simp; omega, by simp [lvs, Qn.lv]; try omega, by simp [jns, Qn.jn]; try omega⟩
        · simp -implicitDefEqProofs [M._law_question_5, ap_fAddN, st, z, hg.ln, hg.ix, hg.ls, Qn.d, cf, big2, big3, big4, lstOf_l, b1le, c, w]
          try omega
        · simp [Qn.fit, fp, fq, fr]
theorem body4 (e : EX) (ns : List Int) (A : Sto) (p q r s : Qn) (fp : p.fit) (fq : q.fit) (fr : r.fit) (fs : s.fit) (l : Int) (hl : 4 ≤ l) (ht : 1 < 4 ∨ 3 < l) (v3 v4 v5 : Option D) (k : Nat) :
    PB ns A [p, q, r, s] l (M._law_question_5 e (st A l v3 v4 v5) (DN ns k ++ (A ++ [.lst ([p, q, r, s].map Qn.d)]))) := by
  have hg := at_mk ns A ([p, q, r, s].map Qn.d)
  simp only [List.map_cons, List.map_nil] at hg ⊢
  have hz : dr ns k % 4 = 0 ∨ dr ns k % 4 = 1 ∨ dr ns k % 4 = 2 ∨ dr ns k % 4 = 3 := by omega
  rcases hz with z | z | z | z
  · have cf : ∀ kk x, fComp (iRg1 (aCons (fB cLen (aCons (fVar 1) aNil)) aNil)) (gNm 6) (M._law_question_3 e) (M._law_question_2 e) [6] [some (.ref 0), some (.ref (1 + A.length)), some (.int (l - 1)), some (.int 0), some (.int 1), x, none] (DN ns kk ++ (A ++ [.lst [Qn.d p, Qn.d q, Qn.d r, Qn.d s]])) = .ok (.lst [Qn.d r, Qn.d s]) (DN ns kk ++ (A ++ [.lst [Qn.d p, Qn.d q, Qn.d r, Qn.d s]])) := fun kk x => by
      rw [ap_fComp, wn']
      simp -implicitDefEqProofs [iRg1, hg.ln, rg4, compF_cons, compF_nil, M._law_question_3, M._law_question_2, hg.ix, b0, b1, b2, show in62 4 = true by decide]
    by_cases c : 4 ≤ l - 1
    · by_cases g : dr ns (k + 1) % 3 = 0
      · refine ⟨k + 1 + 1, [], [.not p, q, r, s], some (.int 0), v4, v5, ?_, ?_, by simp, by simp; omega, by simp [lvs, Qn.lv], by simp [jns, Qn.jn]; try omega⟩
        · simp -implicitDefEqProofs [M._law_question_5, st, z, hg.ln, hg.ix, hg.pt, ixN, Qn.d, big2, c, g]
        · simp [Qn.fit, fp, fq, fr, fs]
      · have hw : dr ns (k + 1 + 1) % 2 = 0 ∨ dr ns (k + 1 + 1) % 2 = 1 := by omega
        rcases hw with w | w
        · refine ⟨k + 1 + 1 + 1, [.lst [Qn.d p, Qn.d q, Qn.d r, Qn.d s]], [r, s, .and p q], some (.int 0), some (.int 1), some (Qn.and p q).d, ?_, ?_, by simp, by simp; omega, by simp [lvs, Qn.lv]; try omega, by simp [jns, Qn.jn]; try omega⟩
          · simp -implicitDefEqProofs [M._law_question_5, ap_fAddN, st, z, hg.ln, hg.ix, hg.ls, Qn.d, cf, big2, big3, big4, lstOf_l, b1le, c, g, w]
            try omega
          · simp [Qn.fit, fp, fq, fr, fs]
        · refine ⟨k + 1 + 1 + 1, [.lst [Qn.d p, Qn.d q, Qn.d r, Qn.d s]], [r, s, .or p q], some (.int 0), some (.int 1), some (Qn.or p q).d, ?_, ?_, by simp, by simp; omega, by simp [lvs, Qn.lv]; try omega, by simp [jns, Qn.jn]; try omega⟩
          · simp -implicitDefEqProofs [M._law_question_5, ap_fAddN, st, z, hg.ln, hg.ix, hg.ls, Qn.d, cf, big2, big3, big4, lstOf_l, b1le, c, g, w]
            try omega
          · simp [Qn.fit, fp, fq, fr, fs]
    · have hw : dr ns (k + 1) % 2 = 0 ∨ dr ns (k + 1) % 2 = 1 := by omega
      rcases hw with w | w
      · refine ⟨k + 1 + 1, [.lst [Qn.d p, Qn.d q, Qn.d r, Qn.d s]], [r, s, .and p q], some (.int 0), some (.int 1), some (Qn.and p q).d, ?_, ?_, by simp, by simp; omega, by simp [lvs, Qn.lv]; try omega, by simp [jns, Qn.jn]; try omega⟩
        · simp -implicitDefEqProofs [M._law_question_5, ap_fAddN, st, z, hg.ln, hg.ix, hg.ls, Qn.d, cf, big2, big3, big4, lstOf_l, b1le, c, w]
          try omega
        · simp [Qn.fit, fp, fq, fr, fs]
      · refine ⟨k + 1 + 1, [.lst [Qn.d p, Qn.d q, Qn.d r, Qn.d s]], [r, s, .or p q], some (.int 0), some (.int 1), some (Qn.or p q).d, ?_, ?_, by simp, by simp; omega, by simp [lvs, Qn.lv]; try omega, by simp [jns, Qn.jn]; try omega⟩
        · simp -implicitDefEqProofs [M._law_question_5, ap_fAddN, st, z, hg.ln, hg.ix, hg.ls, Qn.d, cf, big2, big3, big4, lstOf_l, b1le, c, w]
          try omega
        · simp [Qn.fit, fp, fq, fr, fs]
  · have cf : ∀ kk x, fComp (iRg1 (aCons (fB cLen (aCons (fVar 1) aNil)) aNil)) (gNm 6) (M._law_question_3 e) (M._law_question_2 e) [6] [some (.ref 0), some (.ref (1 + A.length)), some (.int (l - 1)), some (.int 1), some (.int 2), x, none] (DN ns kk ++ (A ++ [.lst [Qn.d p, Qn.d q, Qn.d r, Qn.d s]])) = .ok (.lst [Qn.d p, Qn.d s]) (DN ns kk ++ (A ++ [.lst [Qn.d p, Qn.d q, Qn.d r, Qn.d s]])) := fun kk x => by
      rw [ap_fComp, wn']
      simp -implicitDefEqProofs [iRg1, hg.ln, rg4, compF_cons, compF_nil, M._law_question_3, M._law_question_2, hg.ix, b0, b1, b2, show in62 4 = true by decide]
    by_cases c : 4 ≤ l - 1
    · by_cases g : dr ns (k + 1) % 3 = 0
      · refine ⟨k + 1 + 1, [], [p, .not q, r, s], some (.int 1), v4, v5, ?_, ?_, by simp, by simp; omega, by simp [lvs, Qn.lv], by simp [jns, Qn.jn]; try omega⟩
        · simp -implicitDefEqProofs [M._law_question_5, st, z, hg.ln, hg.ix, hg.pt, ixN, Qn.d, big2, c, g]
        · simp [Qn.fit, fp, fq, fr, fs]
      · have hw : dr ns (k + 1 + 1) % 2 = 0 ∨ dr ns (k + 1 + 1) % 2 = 1 := by omega
        rcases hw with w | w
        · refine ⟨k + 1 + 1 + 1, [.lst [Qn.d p, Qn.d q, Qn.d r, Qn.d s]], [p, s, .and q r], some (.int 1), some (.int 2), some (Qn.and q r).d, ?_, ?_, by simp, by simp; omega, by simp [lvs, Qn.lv]; try omega, by simp [jns, Qn.jn]; try omega⟩
          · simp -implicitDefEqProofs [M._law_question_5, ap_fAddN, st, z, hg.ln, hg.ix, hg.ls, Qn.d, cf, big2, big3, big4, lstOf_l, b1le, c, g, w]
            try omega
          · simp [Qn.fit, fp, fq, fr, fs]
        · refine ⟨k + 1 + 1 + 1, [.lst [Qn.d p, Qn.d q, Qn.d r, Qn.d s]], [p, s, .or q r], some (.int 1), some (.int 2), some (Qn.or q r).d, ?_, ?_, by simp, by simp; omega, by simp [lvs, Qn.lv]; try omega, by simp [jns, Qn.jn]; try omega⟩
          · simp -implicitDefEqProofs [M._law_question_5, ap_fAddN, st, z, hg.ln, hg.ix, hg.ls, Qn.d, cf, big2, big3, big4, lstOf_l, b1le, c, g, w]
            try omega
          · simp [Qn.fit, fp, fq, fr, fs]
    · have hw : dr ns (k + 1) % 2 = 0 ∨ dr ns (k + 1) % 2 = 1 := by omega
      rcases hw with w | w
      · refine ⟨k + 1 + 1, [.lst [Qn.d p, Qn.d q, Qn.d r, Qn.d s]], [p, s, .and q r], some (.int 1), some (.int 2), some (Qn.and q r).d, ?_, ?_, by simp, by simp; omega, by simp [lvs, Qn.lv]; try omega, by simp [jns, Qn.jn]; try omega⟩
        · simp -implicitDefEqProofs [M._law_question_5, ap_fAddN, st, z, hg.ln, hg.ix, hg.ls, Qn.d, cf, big2, big3, big4, lstOf_l, b1le, c, w]
          try omega
        · simp [Qn.fit, fp, fq, fr, fs]
      · refine ⟨k + 1 + 1, [.lst [Qn.d p, Qn.d q, Qn.d r, Qn.d s]], [p, s, .or q r], some (.int 1), some (.int 2), some (Qn.or q r).d, ?_, ?_, by simp, by simp; omega, by simp [lvs, Qn.lv]; try omega, by simp [jns, Qn.jn]; try omega⟩
        · simp -implicitDefEqProofs [M._law_question_5, ap_fAddN, st, z, hg.ln, hg.ix, hg.ls, Qn.d, cf, big2, big3, big4, lstOf_l, b1le, c, w]
          try omega
        · simp [Qn.fit, fp, fq, fr, fs]
  · have cf : ∀ kk x, fComp (iRg1 (aCons (fB cLen (aCons (fVar 1) aNil)) aNil)) (gNm 6) (M._law_question_3 e) (M._law_question_2 e) [6] [some (.ref 0), some (.ref (1 + A.length)), some (.int (l - 1)), some (.int 2), some (.int 3), x, none] (DN ns kk ++ (A ++ [.lst [Qn.d p, Qn.d q, Qn.d r, Qn.d s]])) = .ok (.lst [Qn.d p, Qn.d q]) (DN ns kk ++ (A ++ [.lst [Qn.d p, Qn.d q, Qn.d r, Qn.d s]])) := fun kk x => by
      rw [ap_fComp, wn']
      simp -implicitDefEqProofs [iRg1, hg.ln, rg4, compF_cons, compF_nil, M._law_question_3, M._law_question_2, hg.ix, b0, b1, b2, show in62 4 = true by decide]
    by_cases c : 4 ≤ l - 1
    · by_cases g : dr ns (k + 1) % 3 = 0
      · refine ⟨k + 1 + 1, [], [p, q, .not r, s], some (.int 2), v4, v5, ?_, ?_, by simp, by simp; omega, by simp [lvs, Qn.lv], by simp [jns, Qn.jn]; try omega⟩
        · simp -implicitDefEqProofs [M._law_question_5, st, z, hg.ln, hg.ix, hg.pt, ixN, Qn.d, big2, c, g]
        · simp [Qn.fit, fp, fq, fr, fs]
      · have hw : dr ns (k + 1 + 1) % 2 = 0 ∨ dr ns (k + 1 + 1) % 2 = 1 := by omega
        rcases hw with w | w
        · refine ⟨k + 1 + 1 + 1, [.lst [Qn.d p, Qn.d q, Qn.d r, Qn.d s]], [p, q, .and r s], some (.int 2), some (.int 3), some (Qn.and r s).d, ?_, ?_, by simp, by simp; omega, by simp [lvs, Qn.lv]; try omega, by simp [jns, Qn.jn]; try omega⟩
          · simp -implicitDefEqProofs [M._law_question_5, ap_fAddN, st, z, hg.ln, hg.ix, hg.ls, Qn.d, cf, big2, big3, big4, lstOf_l, b1le, c, g, w]
            try omega
          · simp [Qn.fit, fp, fq, fr, fs]
        · refine ⟨k + 1 + 1 + 1, [.lst [Qn.d p, Qn.d q, Qn.d r, Qn.d s]], [p, q, .or r s], some (.int 2), some (.int 3), some (Qn.or r s).d, ?_, ?_, by simp, by simp; omega, by simp [lvs, Qn.lv]; try omega, by simp [jns, Qn.jn]; try omega⟩
          · simp -implicitDefEqProofs [M._law_question_5, ap_fAddN, st, z, hg.ln, hg.ix, hg.ls, Qn.d, cf, big2, big3, big4, lstOf_l, b1le, c, g, w]
            try omega
          · simp [Qn.fit, fp, fq, fr, fs]
    · have hw : dr ns (k + 1) % 2 = 0 ∨ dr ns (k + 1) % 2 = 1 := by omega
      rcases hw with w | w
      · refine ⟨k + 1 + 1, [.lst [Qn.d p, Qn.d q, Qn.d r, Qn.d s]], [p, q, .and r s], some (.int 2), some (.int 3), some (Qn.and r s).d, ?_, ?_, by simp, by simp; omega, by simp [lvs, Qn.lv]; try omega, by simp [jns, Qn.jn]; try omega⟩
        · simp -implicitDefEqProofs [M._law_question_5, ap_fAddN, st, z, hg.ln, hg.ix, hg.ls, Qn.d, cf, big2, big3, big4, lstOf_l, b1le, c, w]
          try omega
        · simp [Qn.fit, fp, fq, fr, fs]
      · refine ⟨k + 1 + 1, [.lst [Qn.d p, Qn.d q, Qn.d r, Qn.d s]], [p, q, .or r s], some (.int 2), some (.int 3), some (Qn.or r s).d, ?_, ?_, by simp, by simp; omega, by simp [lvs, Qn.lv]; try omega, by simp [jns, Qn.jn]; try omega⟩
        · simp -implicitDefEqProofs [M._law_question_5, ap_fAddN, st, z, hg.ln, hg.ix, hg.ls, Qn.d, cf, big2, big3, big4, lstOf_l, b1le, c, w]
          try omega
        · simp [Qn.fit, fp, fq, fr, fs]
  · have cf : ∀ kk x, fComp (iRg1 (aCons (fB cLen (aCons (fVar 1) aNil)) aNil)) (gNm 6) (M._law_question_3 e) (M._law_question_2 e) [6] [some (.ref 0), some (.ref (1 + A.length)), some (.int (l - 1)), some (.int 3), some (.int 0), x, none] (DN ns kk ++ (A ++ [.lst [Qn.d p, Qn.d q, Qn.d r, Qn.d s]])) = .ok (.lst [Qn.d q, Qn.d r]) (DN ns kk ++ (A ++ [.lst [Qn.d p, Qn.d q, Qn.d r, Qn.d s]])) := fun kk x => by
      rw [ap_fComp, wn']
      simp -implicitDefEqProofs [iRg1, hg.ln, rg4, compF_cons, compF_nil, M._law_question_3, M._law_question_2, hg.ix, b0, b1, b2, show in62 4 = true by decide]
    by_cases c : 4 ≤ l - 1
    · by_cases g : dr ns (k + 1) % 3 = 0
      · refine ⟨k + 1 + 1, [], [p, q, r, .not s], some (.int 3), v4, v5, ?_, ?_, by simp, by simp; omega, by simp [lvs, Qn.lv], by simp [jns, Qn.jn]; try omega⟩
        · simp -implicitDefEqProofs [M._law_question_5, st, z, hg.ln, hg.ix, hg.pt, ixN, Qn.d, big2, c, g]
        · simp [Qn.fit, fp, fq, fr, fs]
      · have hw : dr ns (k + 1 + 1) % 2 = 0 ∨ dr ns (k + 1 + 1) % 2 = 1 := by omega
        rcases hw with w | w
        · refine ⟨k + 1 + 1 + 1, [.lst [Qn.d p, Qn.d q, Qn.d r, Qn.d s]], [q, r, .and s p], some (.int 3), some (.int 0), some (Qn.and s p).d, ?_, ?_, by simp, by simp; omega, by simp [lvs, Qn.lv]; try omega, by simp [jns, Qn.jn]; try omega⟩
          · simp -implicitDefEqProofs [M._law_question_5, ap_fAddN, st, z, hg.ln, hg.ix, hg.ls, Qn.d, cf, big2, big3, big4, lstOf_l, b1le, c, g, w]
            try omega
          · simp [Qn.fit, fp, fq, fr, fs]
        · refine ⟨k + 1 + 1 + 1, [.lst [Qn.d p, Qn.d q, Qn.d r, Qn.d s]], [q, r, .or s p], some (.int 3), some (.int 0), some (Qn.or s p).d, ?_, ?_, by simp, by simp; omega, by simp [lvs, Qn.lv]; try omega, by simp [jns, Qn.jn]; try omega⟩
          · simp -implicitDefEqProofs [M._law_question_5, ap_fAddN, st, z, hg.ln, hg.ix, hg.ls, Qn.d, cf, big2, big3, big4, lstOf_l, b1le, c, g, w]
            try omega
          · simp [Qn.fit, fp, fq, fr, fs]
    · have hw : dr ns (k + 1) % 2 = 0 ∨ dr ns (k + 1) % 2 = 1 := by omega
      rcases hw with w | w
      · refine ⟨k + 1 + 1, [.lst [Qn.d p, Qn.d q, Qn.d r, Qn.d s]], [q, r, .and s p], some (.int 3), some (.int 0), some (Qn.and s p).d, ?_, ?_, by simp, by simp; omega, by simp [lvs, Qn.lv]; try omega, by simp [jns, Qn.jn]; try omega⟩
        · simp -implicitDefEqProofs [M._law_question_5, ap_fAddN, st, z, hg.ln, hg.ix, hg.ls, Qn.d, cf, big2, big3, big4, lstOf_l, b1le, c, w]
          try omega
        · simp [Qn.fit, fp, fq, fr, fs]
      · refine ⟨k + 1 + 1, [.lst [Qn.d p, Qn.d q, Qn.d r, Qn.d s]], [q, r, .or s p], some (.int 3), some (.int 0), some (Qn.or s p).d, ?_, ?_, by simp, by simp; omega, by simp [lvs, Qn.lv]; try omega, by simp [jns, Qn.jn]; try omega⟩
        · simp -implicitDefEqProofs [M._law_question_5, ap_fAddN, st, z, hg.ln, hg.ix, hg.ls, Qn.d, cf, big2, big3, big4, lstOf_l, b1le, c, w]
          try omega
        · simp [Qn.fit, fp, fq, fr, fs]
end Kg
end

section
set_option Elab.async false
set_option linter.all false
set_option maxRecDepth 100000
set_option maxHeartbeats 4000000
namespace Kg
open PySem L2 DL
theorem len_lvs (qs : List Qn) : qs.length ≤ lvs qs := by
  induction qs with
  | nil => simp
  | cons q qs ih =>
    have : 1 ≤ q.lv := by
      clear ih
      induction q with
      | room => simp [Qn.lv]
      | most => simp [Qn.lv]
      | rest => simp [Qn.lv]
      | not q ih => exact ih
      | and p q h1 h2 => simp only [Qn.lv]; omega
      | or p q h1 h2 => simp only [Qn.lv]; omega
    simp only [lvs, List.map_cons, List.sum_cons, List.length_cons] at ih ⊢
    omega
theorem body_eq (e : EX) (ns : List Int) (A : Sto) (qs : List Qn) (hf : ∀ q ∈ qs, q.fit) (l : Int) (h1 : 1 ≤ qs.length) (h4 : lvs qs ≤ 4) (hl : (qs.length : Int) ≤ l) (ht : 1 < qs.length ∨ 3 < l) (v3 v4 v5 : Option D) (k : Nat) :
    PB ns A qs l (M._law_question_5 e (st A l v3 v4 v5) (DN ns k ++ (A ++ [.lst (qs.map Qn.d)]))) := by
  have := len_lvs qs
  match qs, hf, h1, hl, ht with
  | [p], hf, _, hl, ht => exact body1 e ns A p (hf _ (by simp)) l (by simpa using hl) (by rcases ht with h | h; simp at h; exact .inr h) v3 v4 v5 k
  | [p, q], hf, _, hl, ht => exact body2 e ns A p q (hf _ (by simp)) (hf _ (by simp)) l (by simpa using hl) (.inl (by omega)) v3 v4 v5 k
  | [p, q, r], hf, _, hl, ht => exact body3 e ns A p q r (hf _ (by simp)) (hf _ (by simp)) (hf _ (by simp)) l (by simpa using hl) (.inl (by omega)) v3 v4 v5 k
  | [p, q, r, s], hf, _, hl, ht => exact body4 e ns A p q r s (hf _ (by simp)) (hf _ (by simp)) (hf _ (by simp)) (hf _ (by simp)) l (by simpa using hl) (.inl (by omega)) v3 v4 v5 k
  | p :: q :: r :: s :: t :: u, _, _, _, _ => simp at this; omega
theorem while_eq (e : EX) (ns : List Int) (c : Nat) (hc : c ≤ 4) : ∀ (m : Nat) (A : Sto) (qs : List Qn) (l : Int) (v3 v4 v5 : Option D) (k : Nat), (∀ q ∈ qs, q.fit) → 1 ≤ qs.length → (qs.length : Int) ≤ l → lvs qs = c → (jns qs : Int) = 7 - l → l ≤ m →
    ∃ (k' : Nat) (E : Sto) (q : Qn) (l' : Int) (w3 w4 w5 : Option D), whileF (M._law_question_4 e) (M._law_question_5 e) (m + 1) (st A l v3 v4 v5) (DN ns k ++ (A ++ [.lst (qs.map Qn.d)])) = .nx (st (A ++ E) l' w3 w4 w5) (DN ns k' ++ ((A ++ E) ++ [.lst [q.d]])) ∧ q.fit ∧ q.lv ≤ 4 ∧ q.jn ≤ 6 := by
  intro m
  induction m with
  | zero => intro A qs l v3 v4 v5 k hf h1 hl _ _ hm; omega
  | succ m ih =>
    intro A qs l v3 v4 v5 k hf h1 hl hv hj hm
    have hn : ∀ k, (DN ns k ++ (A ++ [SO.lst (qs.map Qn.d)]))[1 + A.length]? = some (.lst (qs.map Qn.d)) := fun k => by
      rw [List.getElem?_append_right (by simp), DN_len, Nat.add_sub_cancel_left, List.getElem?_append_right (Nat.le_refl _)]; simp
    obtain ⟨k1, b, b1, b2, e1⟩ := test_eq e ns k (A ++ [.lst (qs.map Qn.d)]) (1 + A.length) (qs.map Qn.d) l v3 v4 v5 hn
    unfold whileF
    have e1' : M._law_question_4 e (st A l v3 v4 v5) (DN ns k ++ (A ++ [.lst (qs.map Qn.d)])) = _ := e1
    rw [e1']
    simp only [List.length_map] at b1 b2
    cases b with
    | false =>
      have h2 : qs.length = 1 := by
        by_cases h : 1 < qs.length
        · have := b1 h; simp at this
        · omega
      obtain ⟨q, rfl⟩ := List.length_eq_one_iff.mp h2
      refine ⟨k1, [], q, l, v3, v4, v5, by simp, hf q (by simp), ?_, ?_⟩
      · simp [lvs] at hv; omega
      · simp [jns] at hj
        simp at hl
        omega
    | true =>
      obtain ⟨k2, E, qs', w3, w4, w5, e2, hf', g1, g2, g3, g4⟩ := body_eq e ns A qs hf l h1 (by omega) hl (b2 rfl) v3 v4 v5 k1
      obtain ⟨k3, E', q, l', x3, x4, x5, e3, r⟩ := ih (A ++ E) qs' (l - 1) w3 w4 w5 k2 hf' g1 g2 (by omega) (by omega) (by omega)
      refine ⟨k3, E ++ E', q, l', x3, x4, x5, ?_, r⟩
      rw [RS.of_ok, if_pos rfl, e2, RS.turn_nx, e3, List.append_assoc A E E']
theorem question_eq (e : EX) (hW : e.nW = 40) (ns : List Int) (k : Nat) : ∃ (q : Qn) (k' : Nat), q.fit ∧ q.lv ≤ 4 ∧ q.jn ≤ 6 ∧ M._law_question e [.ref 0] (DN ns k) = .ok q.d (DN ns k') := by
  have hx : ∃ n : Nat, dr ns k % 4 = n ∧ n ≤ 3 := ⟨(dr ns k % 4).toNat, by omega, by omega⟩
  obtain ⟨n, hn, h3⟩ := hx
  have i62 : in62 ((n + 1 : Nat) : Int) = true := in62_nat (by omega)
  have cc : (1 : Int) + (n : Int) = ((n + 1 : Nat) : Int) := by omega
  obtain ⟨qs, k1, a1, a2, a3⟩ := leaves_eq e ns [] ⟨rgD 0 ((n + 1 : Nat) : Int), none⟩ rfl (rgD 0 ((n + 1 : Nat) : Int)) [] (k + 1) (by rw [rgD_len]; simp; omega)
  rw [rgD_len] at a1
  have lf : ∀ q, isLeaf q → q.lv = 1 ∧ q.jn = 0 := fun q h => by
    rcases h with ⟨n, rfl⟩ | ⟨u, w, c, rfl⟩ | ⟨u, w, m, c, rfl⟩ <;> exact ⟨rfl, rfl⟩
  have sums : ∀ qs : List Qn, (∀ q ∈ qs, isLeaf q ∧ q.fit) → lvs qs = qs.length ∧ jns qs = 0 := fun qs => by
    induction qs with
    | nil => intro _; exact ⟨rfl, rfl⟩
    | cons q qs ih =>
      intro h
      have h1 := lf q (h q (by simp)).1
      have h2 := ih fun p hp => h p (by simp [hp])
      simp only [lvs, jns, List.map_cons, List.sum_cons, List.length_cons] at h2 ⊢
      omega
  have sm := sums qs a2
  obtain ⟨k2, E, q, l', w3, w4, w5, e3, f1, f2, f3⟩ := while_eq e ns (n + 1) (by omega) 39 [] qs 7 none none none k1 (fun q h => (a2 q h).2) (by omega) (by omega) (by omega) (by omega) (by omega)
  refine ⟨q, k2, f1, f2, f3, ?_⟩
  have ag := at_mk ns ([] ++ E) [q.d]
  have fc : fCompN (iRg1 (aCons (fBin dAdd (fC (.int 1)) (fBin dMod (fCall (M._law_draw e) (aCons (fVar 0) aNil)) (fC (.int 4)))) aNil)) (gNm 6) tYesD (M._law_question_1 e) [6] [some (.ref 0), none, none, none, none, none, none] (DN ns k) = .ok (.ref 1) (DN ns k1 ++ [.lst (qs.map Qn.d)]) := by
    simp only [List.append_nil, List.nil_append] at a3
    have wp : wipeD [some (D.ref 0), none, none, none, none, none, none] [6] = [some (.ref 0), none, none, none, none, none, none] := rfl
    unfold fCompN
    have c2 : ((n + 1 : Nat) : Int) = 1 + (n : Int) := by omega
    rw [c2] at a3 i62
    simp -implicitDefEqProofs [iRg1, hn, wp, i62, a3]
  have at0 : atI [q.d] 0 = some q.d := atI_0
  simp only [st, List.nil_append, List.length_nil, Nat.add_zero] at e3
  have lg : letGo 1 q.d (DN ns k2 ++ (E ++ [SO.lst [q.d]])) = some q.d := letGo_plain (plain_q q)
  have ix := ag.ix k2 0
  simp only [List.nil_append] at ix
  simp -implicitDefEqProofs [M._law_question, M.b__law_question, frz, fc, hW, e3, ix, at0, lg]
end Kg
end

section
set_option Elab.async false
set_option linter.all false
set_option maxRecDepth 100000
set_option maxHeartbeats 1000000
namespace DL
open PySem L2
/-! ### fans are checked -/
theorem eqv_pair {a b c d : Int} : PyData.eqv (.tuple [.int a, .int b]) (.tuple [.int c, .int d]) = (decide (a = c) && decide (b = d)) := by
  simp only [PyData.eqv, PyData.eqvAll, Bool.and_true]
  rfl
theorem shaped_pair {a b : Int} : SeqAt.shaped (.tuple [.int a, .int b]) = true := by
  simp [SeqAt.shaped, PyData.canLay0, PyData.canLayAll0, PyData.depth, PyData.depthAll]
theorem toPy_pair {a b : Int} : toPy (.tup [.int a, .int b]) = some (.tuple [.int a, .int b]) := rfl
@[simp] theorem v_eqP {a b c d : Int} {S : Sto} : dEq (.tup [.int a, .int b]) (.tup [.int c, .int d]) S = some (.bl (decide (a = c) && decide (b = d))) := by
  unfold dEq dEqS dEqD
  simp [toPy_pair, shaped_pair, eqv_pair]
@[simp] theorem v_neP {a b c d : Int} {S : Sto} : dNe (.tup [.int a, .int b]) (.tup [.int c, .int d]) S = some (.bl (!(decide (a = c) && decide (b = d)))) := by
  unfold dNe dNeS dNeD
  simp [toPy_pair, shaped_pair, eqv_pair]
def isPairB (d : D) : Bool := match d with
  | .tup [a, b] => isNat a && isNat b
  | _ => false
theorem isTup_len {xs : List D} {n : Nat} (h : xs.length ≠ n) : isTup (.tup xs) n = false := by
  simp [isTup]; omega
theorem is_pair_eq (e : EX) (d : D) (S : Sto) (hd : plain d = true) : M.is_pair e [d] S = .ok (.bl (isPairB d)) S := by
  by_cases h3 : isTup d 2 = true
  · cases d with
    | tup xs =>
      have hl : xs.length = 2 := by simp [isTup] at h3; omega
      obtain ⟨a, b, rfl⟩ := len2 hl
      have hp := hd
      simp only [plain, plains, Bool.and_eq_true, Bool.and_true] at hp
      obtain ⟨ha, hb⟩ := hp
      cases h1 : isNat a <;> cases h2 : isNat b <;>
        simp -implicitDefEqProofs [M.is_pair, M.b_is_pair, is_tuple_eq, hd, h3, is_natural_eq, ha, hb, isPairB, h1, h2]
    | _ => simp [isTup] at h3
  · have h3' : isTup d 2 = false := by simpa using h3
    have hB : isPairB d = false := by
      cases d with
      | tup xs =>
        match xs, h3' with
        | [a, b], h => simp [isTup] at h
        | [], _ => rfl
        | [_], _ => rfl
        | _ :: _ :: _ :: _, _ => rfl
      | _ => rfl
    simp -implicitDefEqProofs [M.is_pair, M.b_is_pair, is_tuple_eq, hd, h3', hB]
theorem pair_shape {d : D} (h : isPairB d = true) : ∃ a b, d = .tup [.int a, .int b] ∧ 0 ≤ a ∧ 0 ≤ b := by
  cases d with
  | tup xs =>
    match xs, h with
    | [a, b], h =>
      simp only [isPairB, Bool.and_eq_true] at h
      cases a with
      | int a =>
        cases b with
        | int b =>
          simp only [isNat, decide_eq_true_eq] at h
          exact ⟨a, b, rfl, h.1, h.2⟩
        | _ => simp [isNat] at h
      | _ => simp [isNat] at h
    | [], h => simp [isPairB] at h
    | [_], h => simp [isPairB] at h
    | _ :: _ :: _ :: _, h => simp [isPairB] at h
  | _ => simp [isPairB] at h
def isZ (d : D) : Bool := match d with
  | .tup [.int a, .int b] => decide (a = 0) && decide (b = 0)
  | _ => false
def isRayB (d : D) : Bool := isPairB d && !isZ d
theorem cross_eq (e : EX) (x y u v : Int) (S : Sto) (h1 : mid x = true) (h2 : mid y = true) (h3 : mid u = true) (h4 : mid v = true) : M.cross e [.tup [.int x, .int y], .tup [.int u, .int v]] S = .ok (.int (x * v - y * u)) S := by
  simp -implicitDefEqProofs [M.cross, M.b_cross, v_mulM h1 h4, v_mulM h2 h3]
def crossB (rs : List D) : Bool := match rs with
  | [.tup [.int x, .int y], .tup [.int u, .int v]] => !decide (x * v - y * u = 0)
  | _ => true
theorem crossB_len {rs : List D} (h : rs.length ≠ 2) : crossB rs = true := by
  unfold crossB
  split
  · simp at h
  · rfl
def isFanB (d : D) : Bool := match d with
  | .tup [r, b, .tup rs] => isIn r 0 2 && isPairB b && decide (rs.length ≤ 2) && rs.all isRayB && crossB rs
  | _ => false
theorem ray_body (e : EX) (S : Sto) (f rs : Option D) (d : D) (hd : plain d = true) :
    M.check_fan_1 e [f, rs, some d] S = if isRayB d = true then .nx [f, rs, some d] S else .raise (.ref (e.x .BadFan)) [f, rs, some d] S := by
  cases h1 : isPairB d with
  | true =>
    obtain ⟨a, b, rfl, h2, h3⟩ := pair_shape h1
    by_cases a0 : a = 0
    · subst a0
      by_cases b0 : b = 0
      · subst b0
        simp -implicitDefEqProofs [M.check_fan_1, is_pair_eq, hd, h1, isRayB, isZ]
      · simp -implicitDefEqProofs [M.check_fan_1, is_pair_eq, hd, h1, isRayB, isZ, b0]
    · simp -implicitDefEqProofs [M.check_fan_1, is_pair_eq, hd, h1, isRayB, isZ, a0]
  | false => simp -implicitDefEqProofs [M.check_fan_1, is_pair_eq, hd, h1, isRayB]
def MidR (d : D) : Prop := ∀ r b x y u v, d = .tup [r, b, .tup [.tup [.int x, .int y], .tup [.int u, .int v]]] → mid x = true ∧ mid y = true ∧ mid u = true ∧ mid v = true
theorem check_fan_eq (e : EX) (d : D) (S : Sto) (hd : plain d = true) (hm : MidR d) : M.check_fan e [d] S = if isFanB d = true then .ok .non S else .raise (.ref (e.x .BadFan)) S := by
  by_cases h3 : isTup d 3 = true
  · cases d with
    | tup xs =>
      have hl : xs.length = 3 := by simp [isTup] at h3; omega
      obtain ⟨r, b, rs, rfl⟩ := len3 hl
      have hp := hd
      simp only [plain, plains, Bool.and_eq_true, Bool.and_true] at hp
      obtain ⟨hr, hb, hs⟩ := hp
      cases h1 : isIn r 0 2 with
      | false =>
        have hB : isFanB (.tup [r, b, rs]) = false := by cases rs <;> simp [isFanB, h1]
        simp -implicitDefEqProofs [M.check_fan, M.b_check_fan, is_tuple_eq, hd, h3, is_within_eq, hr, h1, hB]
      | true =>
        cases h2 : isPairB b with
        | false =>
          have hB : isFanB (.tup [r, b, rs]) = false := by cases rs <;> simp [isFanB, h2]
          simp -implicitDefEqProofs [M.check_fan, M.b_check_fan, is_tuple_eq, hd, h3, is_within_eq, hr, h1, hB, is_pair_eq, hb, h2]
        | true =>
          rcases chk_tup e rs hs S 0 with ⟨rs, rfl, c1⟩ | ⟨n1, c1⟩
          · have hs' : ∀ d ∈ rs, plain d = true := fun d h => plains_mem (by simpa [plain] using hs) h
            by_cases h4 : rs.length ≤ 2
            · have h4' : ¬ (2 : Int) < rs.length := by omega
              have L := loop_chk (it := ⟨rs, none⟩) (gt := gNm 2) (g := M.check_fan_1 e) rfl (.ref (e.x .BadFan)) isRayB (fun y => [some (.tup [r, b, .tup rs]), some (.tup rs), y]) (fun _ _ _ => rfl) rs none S
                (fun d h => ray_body e S _ _ d (hs' d h))
              by_cases ha : rs.all isRayB = true
              · obtain ⟨y, ey⟩ := L.1 ha
                by_cases h5 : rs.length = 2
                · obtain ⟨p, q, rfl⟩ := len2 h5
                  simp only [List.all_cons, List.all_nil, Bool.and_true, Bool.and_eq_true, isRayB] at ha
                  obtain ⟨x, y1, rfl, _⟩ := pair_shape ha.1.1
                  obtain ⟨u, v, rfl, _⟩ := pair_shape ha.2.1
                  obtain ⟨m1, m2, m3, m4⟩ := hm r b x y1 u v rfl
                  have hB : isFanB (.tup [r, b, .tup [.tup [.int x, .int y1], .tup [.int u, .int v]]]) = !decide (x * v - y1 * u = 0) := by
                    simp only [isFanB, h1, h2, List.all_cons, List.all_nil, isRayB, ha.1.1, ha.1.2, ha.2.1, ha.2.2, crossB]
                    simp
                  by_cases c0 : x * v - y1 * u = 0
                  · simp -implicitDefEqProofs [M.check_fan, M.b_check_fan, is_tuple_eq, hd, h3, is_within_eq, hr, h1, hB, is_pair_eq, hb, h2, c1, sFor, iSeq, ey, cross_eq, m1, m2, m3, m4, c0]
                  · simp -implicitDefEqProofs [M.check_fan, M.b_check_fan, is_tuple_eq, hd, h3, is_within_eq, hr, h1, hB, is_pair_eq, hb, h2, c1, sFor, iSeq, ey, cross_eq, m1, m2, m3, m4, c0]
                · have h5' : ¬ (rs.length : Int) = 2 := by omega
                  have hB : isFanB (.tup [r, b, .tup rs]) = true := by
                    have : crossB rs = true := crossB_len h5
                    simp only [isFanB, h1, h2, h4, ha, this, decide_true, Bool.and_self]
                  simp -implicitDefEqProofs [M.check_fan, M.b_check_fan, is_tuple_eq, hd, h3, is_within_eq, hr, h1, hB, is_pair_eq, hb, h2, c1, h4', sFor, iSeq, ey, h5']
              · have ha' : rs.all isRayB = false := by simpa using ha
                obtain ⟨y, ey⟩ := L.2 ha'
                have hB : isFanB (.tup [r, b, .tup rs]) = false := by simp only [isFanB, ha']; simp
                simp -implicitDefEqProofs [M.check_fan, M.b_check_fan, is_tuple_eq, hd, h3, is_within_eq, hr, h1, hB, is_pair_eq, hb, h2, c1, h4', sFor, iSeq, ey]
            · have h4' : (2 : Int) < rs.length := by omega
              have hB : isFanB (.tup [r, b, .tup rs]) = false := by simp [isFanB, h4]
              simp -implicitDefEqProofs [M.check_fan, M.b_check_fan, is_tuple_eq, hd, h3, is_within_eq, hr, h1, hB, is_pair_eq, hb, h2, c1, h4']
          · have hB : isFanB (.tup [r, b, rs]) = false := by
              cases rs <;> first | (exfalso; exact n1 _ rfl) | simp [isFanB]
            simp -implicitDefEqProofs [M.check_fan, M.b_check_fan, is_tuple_eq, hd, h3, is_within_eq, hr, h1, hB, is_pair_eq, hb, h2, c1]
    | _ => simp [isTup] at h3
  · have h3' : isTup d 3 = false := by simpa using h3
    have hB : isFanB d = false := by
      cases d with
      | tup xs =>
        match xs, h3' with
        | [a, b, c], h => simp [isTup] at h
        | [], _ => rfl
        | [_], _ => rfl
        | [_, _], _ => rfl
        | _ :: _ :: _ :: _ :: _, _ => simp [isFanB]
      | _ => rfl
    simp -implicitDefEqProofs [M.check_fan, M.b_check_fan, is_tuple_eq, hd, h3', hB]
theorem lot_body (e : EX) (S : Sto) (l : Option D) (d : D) (hd : plain d = true) (hm : MidR d) :
    M.check_lot_1 e [l, some d] S = if isFanB d = true then .nx [l, some d] S else .raise (.ref (e.x .BadFan)) [l, some d] S := by
  cases h : isFanB d <;> simp -implicitDefEqProofs [M.check_lot_1, check_fan_eq, hd, hm, h]
def isLotB (d : D) : Bool := match d with
  | .lst xs => xs.all isFanB
  | _ => false
theorem check_lot_eq (e : EX) (xs : List D) (S : Sto) (hd : ∀ x ∈ xs, plain x = true) (hm : ∀ x ∈ xs, MidR x) : M.check_lot e [.lst xs] S = if xs.all isFanB = true then .ok .non S else .raise (.ref (e.x .BadFan)) S := by
  have L := loop_chk (it := ⟨xs, none⟩) (gt := gNm 1) (g := M.check_lot_1 e) rfl (.ref (e.x .BadFan)) isFanB (fun y => [some (.lst xs), y]) (fun _ _ _ => rfl) xs none S
    (fun d h => lot_body e S _ d (hd d h) (hm d h))
  by_cases ha : xs.all isFanB = true
  · obtain ⟨y, ey⟩ := L.1 ha
    simp -implicitDefEqProofs [M.check_lot, M.b_check_lot, sFor, iSeq, ey, ha]
  · have ha' : xs.all isFanB = false := by simpa using ha
    obtain ⟨y, ey⟩ := L.2 ha'
    simp -implicitDefEqProofs [M.check_lot, M.b_check_lot, sFor, iSeq, ey, ha']
theorem check_lot_no (e : EX) (d : D) (S : Sto) (hd : plain d = true) (h : ∀ xs, d ≠ .lst xs ∧ d ≠ .frz xs) : M.check_lot e [d] S = .raise (.ref (e.x .BadFan)) S := by
  cases d with
  | lst xs => exact absurd rfl (h xs).1
  | frz xs => exact absurd rfl (h xs).2
  | ref n => simp [plain] at hd
  | cst n => simp [plain] at hd
  | _ => simp -implicitDefEqProofs [M.check_lot, M.b_check_lot]
end DL
end

section
set_option Elab.async false
set_option linter.all false
set_option maxRecDepth 100000
set_option maxHeartbeats 4000000
/-! what is no question -/
namespace Kh
open PySem L2 DL Kg
def isJ (w : Str) : Bool := decide (w = "not") || (decide (w = "and") || decide (w = "or"))
theorem eqV_str (a b : Str) : eqV (.str a) (.str b) = decide (b = a) := by
  by_cases h : b = a
  · subst h; simp [eqV]
  · have : ¬ a = b := fun z => h z.symm
    simp [eqV, h, this]
theorem in_J (w : Str) (S : Sto) : dInT false (.str w) (.tup [.str "not", .str "and", .str "or"]) S = some (.bl (isJ w)) := by
  have h : inV (.str w) ((["not", "and", "or"] : List Str).map V.str) = isJ w := by
    simp only [List.map_cons, List.map_nil, isJ, inV, List.any_cons, List.any_nil, eqV_str, Bool.or_false]
  exact in_w (w := w) (ws := ["not", "and", "or"]) false S h
theorem in_P (w : Str) (S : Sto) : dInT true (.str w) (.tup [.str "most", .str "rest"]) S = some (.bl (!(decide (w = "most") || decide (w = "rest")))) := by
  have h : inV (.str w) ((["most", "rest"] : List Str).map V.str) = (decide (w = "most") || decide (w = "rest")) := by
    simp only [List.map_cons, List.map_nil, inV, List.any_cons, List.any_nil, eqV_str, Bool.or_false]
  exact in_w (w := w) (ws := ["most", "rest"]) true S h
/-- the numbers of a leaf with a word -/
def leafB (w : Str) (xs : List D) : Bool :=
  if w = "room" then (match xs with | [a] => isIn a 0 2 | _ => false)
  else if w = "most" then (match xs with | [u, v, c] => isIn u (-6) 6 && (isIn v (-6) 6 && isIn c (-99) 99) | _ => false)
  else if w = "rest" then (match xs with | [u, v, m, c] => isIn u (-6) 6 && (isIn v (-6) 6 && (match m with | .int m => isIn (.int m) 2 6 && isIn c 0 (m - 1) | _ => false)) | _ => false)
  else false
theorem isIn_int {d : D} {a b : Int} (h : isIn d a b = true) : ∃ i, d = .int i := by
  cases d <;> simp [isIn] at h
  exact ⟨_, rfl⟩
theorem plain_eq (e : EX) (w : Str) (xs : List D) (S : Sto) (hp : ∀ x ∈ xs, DL.plain x = true) : M.is_plain e [.tup (.str w :: xs)] S = .ok (.bl (leafB w xs)) S := by
  have W := fun d lo hi => is_within_eq e d lo hi S
  unfold leafB
  by_cases h1 : w = "room"
  · subst h1
    rw [if_pos rfl]
    match xs, hp with
    | [], _ => simp -implicitDefEqProofs [M.is_plain, M.b_is_plain]
    | [a], hp =>
      have := W a 0 2 (hp a (by simp))
      simp -implicitDefEqProofs [M.is_plain, M.b_is_plain, this]
    | a :: b :: r, _ =>
      have : ¬ ((r.length : Int) + 1 + 1 + 1 = 2) := by omega
      simp -implicitDefEqProofs [M.is_plain, M.b_is_plain, this]
  · rw [if_neg h1]
    by_cases h2 : w = "most"
    · subst h2
      have i := in_P "most" S
      simp only [decide_true, Bool.true_or, Bool.not_true] at i
      rw [if_pos rfl]
      match xs, hp with
      | [], _ => simp -implicitDefEqProofs [M.is_plain, M.b_is_plain, h1, i]
      | [a], _ => simp -implicitDefEqProofs [M.is_plain, M.b_is_plain, h1, i]
      | [a, b], _ => simp -implicitDefEqProofs [M.is_plain, M.b_is_plain, h1, i]
      | [a, b, c], hp =>
        have w1 := W a (-6) 6 (hp a (by simp))
        have w2 := W b (-6) 6 (hp b (by simp))
        have w3 := W c (-99) 99 (hp c (by simp))
        cases q1 : isIn a (-6) 6 <;> rw [q1] at w1 <;> cases q2 : isIn b (-6) 6 <;> rw [q2] at w2 <;> simp -implicitDefEqProofs [M.is_plain, M.b_is_plain, h1, i, w1, w2, w3, q1, q2]
      | a :: b :: c :: d :: r, _ =>
        have : ¬ ((r.length : Int) + 1 + 1 + 1 + 1 + 1 = 4) := by omega
        simp -implicitDefEqProofs [M.is_plain, M.b_is_plain, h1, i, this]
    · rw [if_neg h2]
      by_cases h3 : w = "rest"
      · subst h3
        have i := in_P "rest" S
        simp only [decide_true, Bool.or_true, Bool.not_true] at i
        rw [if_pos rfl]
        match xs, hp with
        | [], _ => simp -implicitDefEqProofs [M.is_plain, M.b_is_plain, h1, h2, i]
        | [a], _ => simp -implicitDefEqProofs [M.is_plain, M.b_is_plain, h1, h2, i]
        | [a, b], _ => simp -implicitDefEqProofs [M.is_plain, M.b_is_plain, h1, h2, i]
        | [a, b, c], _ => simp -implicitDefEqProofs [M.is_plain, M.b_is_plain, h1, h2, i]
        | [a, b, m, c], hp =>
          have w1 := W a (-6) 6 (hp a (by simp))
          have w2 := W b (-6) 6 (hp b (by simp))
          have w3 := W m 2 6 (hp m (by simp))
          have w4 := fun k => W c 0 k (hp c (by simp))
          cases q1 : isIn a (-6) 6 <;> rw [q1] at w1 <;> cases q2 : isIn b (-6) 6 <;> rw [q2] at w2
          · simp -implicitDefEqProofs [M.is_plain, M.b_is_plain, h1, h2, i, w1, w2, q1, q2]
          · simp -implicitDefEqProofs [M.is_plain, M.b_is_plain, h1, h2, i, w1, w2, q1, q2]
          · simp -implicitDefEqProofs [M.is_plain, M.b_is_plain, h1, h2, i, w1, w2, q1, q2]
          · cases q3 : isIn m 2 6
            · rw [q3] at w3
              simp -implicitDefEqProofs [M.is_plain, M.b_is_plain, h1, h2, i, w1, w2, w3, q1, q2]
              clear w3 hp w1 w2 w4 W
              cases m with
              | int j => simp [q3]
              | _ => rfl
            · rw [q3] at w3
              obtain ⟨j, rfl⟩ := isIn_int q3
              simp -implicitDefEqProofs [M.is_plain, M.b_is_plain, h1, h2, i, w1, w2, w3, w4, q1, q2, q3]
        | a :: b :: c :: d :: f :: r, _ =>
          have : ¬ ((r.length : Int) + 1 + 1 + 1 + 1 + 1 + 1 = 5) := by omega
          simp -implicitDefEqProofs [M.is_plain, M.b_is_plain, h1, h2, i, this]
      · rw [if_neg h3]
        have i := in_P w S
        simp only [h2, h3, decide_false, Bool.or_false, Bool.not_false] at i
        simp -implicitDefEqProofs [M.is_plain, M.b_is_plain, h1, i]
/-- what a turn of the question's loop says no to at once -/
def NowB (d : D) : Prop := ∀ (e : EX) (S : Sto) (q0 : D) (qs : List D) (pl jn : Int) (v : Option D), ∃ σ, M.is_question_2 e [some q0, some (.ref S.length), some (.int pl), some (.int jn), v] (S ++ [.lst (qs ++ [d])]) = .rt (.bl false) (S ++ [.lst qs]) ∧ σ = v
theorem now_noTup (d : D) (h : ∀ xs, d ≠ .tup xs) (hp : DL.plain d = true) : NowB d := fun e S q0 qs pl jn v => by
  have po := fun T => ap_mPop (xs := qs) (y := d) (S := T)
  refine ⟨v, ?_, rfl⟩
  have c : ∀ T, cIsi [d, .cst (.ty "tuple")] T = some (.bl false) := fun T => by
    rcases chk_tup e d hp T 0 with ⟨xs, h1, _⟩ | ⟨_, h2⟩
    · exact absurd h1 (h xs)
    · exact h2
  simp -implicitDefEqProofs [M.is_question_2, ap_fM, lstOf_last, po, set_last, c]
theorem now_empty : NowB (.tup []) := fun e S q0 qs pl jn v => by
  have po := fun T => ap_mPop (xs := qs) (y := .tup []) (S := T)
  have tt : ∀ S, dTruth (.tup []) S = some false := fun _ => rfl
  exact ⟨v, by simp -implicitDefEqProofs [M.is_question_2, ap_fM, lstOf_last, po, set_last, tt], rfl⟩
theorem now_noStr (d : D) (xs : List D) (hp : DL.plain d = true) (h : ∀ w, d ≠ .str w) : NowB (.tup (d :: xs)) := fun e S q0 qs pl jn v => by
  have po := fun T => ap_mPop (xs := qs) (y := .tup (d :: xs)) (S := T)
  have tt : ∀ S, dTruth (.tup (d :: xs)) S = some true := fun _ => rfl
  have c : ∀ T, cIsi [d, .cst (.ty "str")] T = some (.bl false) := fun T => by
    cases d with
    | str w => exact absurd rfl (h w)
    | ref n => simp [DL.plain] at hp
    | cst c => simp [DL.plain] at hp
    | _ => simp
  exact ⟨v, by simp -implicitDefEqProofs [M.is_question_2, ap_fM, lstOf_last, po, set_last, tt, c], rfl⟩
theorem now_leaf (w : Str) (xs : List D) (hp : ∀ x ∈ xs, DL.plain x = true) (hj : isJ w = false) (h : leafB w xs = false) : NowB (.tup (.str w :: xs)) := fun e S q0 qs pl jn v => by
  have po := fun T => ap_mPop (xs := qs) (y := .tup (.str w :: xs)) (S := T)
  have tt : ∀ S, dTruth (.tup (.str w :: xs)) S = some true := fun _ => rfl
  have pe := fun T => plain_eq e w xs T hp
  rw [h] at pe
  have i := fun T => in_J w T
  rw [hj] at i
  exact ⟨v, by simp -implicitDefEqProofs [M.is_question_2, ap_fM, lstOf_last, po, set_last, tt, i, pe], rfl⟩
theorem now_not (xs : List D) (h : xs.length ≠ 1) : NowB (.tup (.str "not" :: xs)) := fun e S q0 qs pl jn v => by
  have po := fun T => ap_mPop (xs := qs) (y := .tup (.str "not" :: xs)) (S := T)
  have tt : ∀ S, dTruth (.tup (.str "not" :: xs)) S = some true := fun _ => rfl
  have i := fun T => in_J "not" T
  rw [show isJ "not" = true from rfl] at i
  have n : ¬ ((xs.length : Int) + 1 = 2) := by omega
  exact ⟨v, by simp -implicitDefEqProofs [M.is_question_2, ap_fM, lstOf_last, po, set_last, tt, i, n], rfl⟩
theorem now_two (w : Str) (hw : w = "and" ∨ w = "or") (xs : List D) (h : xs.length ≠ 2) : NowB (.tup (.str w :: xs)) := fun e S q0 qs pl jn v => by
  have po := fun T => ap_mPop (xs := qs) (y := .tup (.str w :: xs)) (S := T)
  have tt : ∀ S, dTruth (.tup (.str w :: xs)) S = some true := fun _ => rfl
  have i := fun T => in_J w T
  rw [show isJ w = true by rcases hw with rfl | rfl <;> rfl] at i
  have nw : ¬ w = Str.ofString "not" := by rcases hw with rfl | rfl <;> decide
  have n : ¬ ((xs.length : Int) + 1 = 3) := by omega
  exact ⟨v, by simp -implicitDefEqProofs [M.is_question_2, ap_fM, lstOf_last, po, set_last, tt, i, nw, n], rfl⟩
end Kh
end

section
set_option Elab.async false
set_option linter.all false
set_option maxRecDepth 100000
set_option maxHeartbeats 4000000
/-! the loop says no: something bad in it, or too many -/
namespace Kh
open PySem L2 DL Kg
def Over (pl jn : Int) : Prop := 4 < pl ∨ 6 < jn
theorem leaf_over (e : EX) (S : Sto) (q0 : D) (qs : List D) (q : Qn) (hf : q.fit) (hl : isLeaf q) (pl jn : Int) (v : Option D) (h : Over (pl + 1) jn) :
    M.is_question_2 e [some q0, some (.ref S.length), some (.int pl), some (.int jn), v] (S ++ [.lst (qs ++ [q.d])]) = .rt (.bl false) (S ++ [.lst qs]) := by
  have pp := fun T => plain_leaf e q hf hl T
  have po := fun T => ap_mPop (xs := qs) (y := q.d) (S := T)
  have hx : ∃ w xs, q.d = .tup (.str w :: xs) ∧ isJ w = false := by
    rcases hl with ⟨n, rfl⟩ | ⟨u, w, c, rfl⟩ | ⟨u, w, m, c, rfl⟩
    · exact ⟨"room", _, rfl, rfl⟩
    · exact ⟨"most", _, rfl, rfl⟩
    · exact ⟨"rest", _, rfl, rfl⟩
  obtain ⟨w, xs, ed, hj⟩ := hx
  rw [ed] at pp po ⊢
  have tt : ∀ S, dTruth (.tup (.str w :: xs)) S = some true := fun _ => rfl
  have i := fun T => in_J w T
  rw [hj] at i
  rcases h with h | h
  · simp -implicitDefEqProofs [M.is_question_2, ap_fM, lstOf_last, po, set_last, tt, i, pp, h]
  · by_cases g : 4 < pl + 1 <;> simp -implicitDefEqProofs [M.is_question_2, ap_fM, lstOf_last, po, set_last, tt, i, pp, h, g]
theorem not_over (e : EX) (S : Sto) (q0 : D) (qs : List D) (x : D) (pl jn : Int) (v : Option D) (h : Over pl (jn + 1)) (hl : qs.length ≤ 1000) :
    M.is_question_2 e [some q0, some (.ref S.length), some (.int pl), some (.int jn), v] (S ++ [.lst (qs ++ [.tup [.str "not", x]])]) = .rt (.bl false) (S ++ [.lst (qs ++ [x])]) := by
  have tt : ∀ (x : D) (xs : List D) S, dTruth (.tup (x :: xs)) S = some true := fun _ _ _ => rfl
  have po := fun T => ap_mPop (xs := qs) (y := .tup [.str "not", x]) (S := T)
  have i := fun T => in_J "not" T
  rw [show isJ "not" = true from rfl] at i
  have cu : ∀ T, dCut (.tup [D.str "not", x]) (some 1) none T = some (.tup [x]) := fun _ => rfl
  have ex := fun T => ap_mExt (xs := qs) (ys := [x]) (S := T) (by simp; omega)
  rcases h with h | h
  · simp -implicitDefEqProofs [M.is_question_2, ap_fM, lstOf_last, po, set_last, tt, i, cu, ex, h]
  · by_cases g : 4 < pl <;> simp -implicitDefEqProofs [M.is_question_2, ap_fM, lstOf_last, po, set_last, tt, i, cu, ex, h, g]
theorem two_over (e : EX) (S : Sto) (q0 : D) (qs : List D) (w : Str) (hw : w = "and" ∨ w = "or") (x y : D) (pl jn : Int) (v : Option D) (h : Over pl (jn + 1)) (hl : qs.length ≤ 1000) :
    M.is_question_2 e [some q0, some (.ref S.length), some (.int pl), some (.int jn), v] (S ++ [.lst (qs ++ [.tup [.str w, x, y]])]) = .rt (.bl false) (S ++ [.lst (qs ++ [x, y])]) := by
  have tt : ∀ (x : D) (xs : List D) S, dTruth (.tup (x :: xs)) S = some true := fun _ _ _ => rfl
  have po := fun T => ap_mPop (xs := qs) (y := .tup [.str w, x, y]) (S := T)
  have i := fun T => in_J w T
  rw [show isJ w = true by rcases hw with rfl | rfl <;> rfl] at i
  have nw : ¬ w = Str.ofString "not" := by rcases hw with rfl | rfl <;> decide
  have cu : ∀ T, dCut (.tup [D.str w, x, y]) (some 1) none T = some (.tup [x, y]) := fun _ => rfl
  have ex := fun T => ap_mExt (xs := qs) (ys := [x, y]) (S := T) (by simp; omega)
  rcases h with h | h
  · simp -implicitDefEqProofs [M.is_question_2, ap_fM, lstOf_last, po, set_last, tt, i, nw, cu, ex, h]
  · by_cases g : 4 < pl <;> simp -implicitDefEqProofs [M.is_question_2, ap_fM, lstOf_last, po, set_last, tt, i, nw, cu, ex, h, g]
/-- a question with one thing in it that is bad -/
inductive Bt where
  | now (d : D)
  | not (b : Bt)
  | l (w : Bool) (b : Bt) (q : Qn)
  | r (w : Bool) (q : Qn) (b : Bt)
def wd (w : Bool) : Str := if w = true then "and" else "or"
theorem wd_or (w : Bool) : wd w = "and" ∨ wd w = "or" := by cases w <;> simp [wd]
def Bt.d : Bt → D
  | .now d => d
  | .not b => .tup [.str "not", b.d]
  | .l w b q => .tup [.str (wd w), b.d, q.d]
  | .r w q b => .tup [.str (wd w), q.d, b.d]
def Bt.ok : Bt → Prop
  | .now d => NowB d
  | .not b => b.ok
  | .l _ b q => b.ok ∧ q.fit
  | .r _ q b => q.fit ∧ b.ok
def Bt.sz : Bt → Nat
  | .now d => 1
  | .not b => b.sz + 1
  | .l _ b q => b.sz + q.sz + 1
  | .r _ q b => q.sz + b.sz + 1
inductive It where
  | gd (q : Qn)
  | bd (b : Bt)
def It.d : It → D
  | .gd q => q.d
  | .bd b => b.d
def It.ok : It → Prop
  | .gd q => q.fit
  | .bd b => b.ok
def It.sz : It → Nat
  | .gd q => q.sz
  | .bd b => b.sz
def It.ch : It → List It
  | .gd (.not p) => [.gd p]
  | .gd (.and p p') => [.gd p, .gd p']
  | .gd (.or p p') => [.gd p, .gd p']
  | .bd (.not b) => [.bd b]
  | .bd (.l _ b q) => [.bd b, .gd q]
  | .bd (.r _ q b) => [.gd q, .bd b]
  | _ => []
def It.dp : It → Int
  | .gd (.room _) => 1
  | .gd (.most _ _ _) => 1
  | .gd (.rest _ _ _ _) => 1
  | _ => 0
def It.dj (x : It) : Int := 1 - x.dp
def It.isNow : It → Prop
  | .bd (.now _) => True
  | _ => False
theorem ch_ok {x : It} (h : x.ok) : ∀ y ∈ x.ch, y.ok := by
  intro y hy
  match x, h, hy with
  | .gd (.not p), h, hy => simp [It.ch] at hy; subst hy; exact h
  | .gd (.and p p'), h, hy => simp [It.ch] at hy; rcases hy with rfl | rfl; exact h.1; exact h.2
  | .gd (.or p p'), h, hy => simp [It.ch] at hy; rcases hy with rfl | rfl; exact h.1; exact h.2
  | .bd (.not b), h, hy => simp [It.ch] at hy; subst hy; exact h
  | .bd (.l _ b q), h, hy => simp [It.ch] at hy; rcases hy with rfl | rfl; exact h.1; exact h.2
  | .bd (.r _ q b), h, hy => simp [It.ch] at hy; rcases hy with rfl | rfl; exact h.1; exact h.2
  | .gd (.room _), h, hy => simp [It.ch] at hy
  | .gd (.most _ _ _), h, hy => simp [It.ch] at hy
  | .gd (.rest _ _ _ _), h, hy => simp [It.ch] at hy
  | .bd (.now _), h, hy => simp [It.ch] at hy
def szI (xs : List It) : Nat := (xs.map It.sz).sum
theorem szI_app (a b : List It) : szI (a ++ b) = szI a + szI b := by simp [szI]
theorem ch_sz (x : It) : szI x.ch + 1 ≤ x.sz := by
  match x with
  | .gd (.not p) => simp [It.ch, szI, It.sz, Qn.sz]
  | .gd (.and p p') => simp [It.ch, szI, It.sz, Qn.sz]
  | .gd (.or p p') => simp [It.ch, szI, It.sz, Qn.sz]
  | .bd (.not b) => simp [It.ch, szI, It.sz, Bt.sz]
  | .bd (.l _ b q) => simp [It.ch, szI, It.sz, Bt.sz]
  | .bd (.r _ q b) => simp [It.ch, szI, It.sz, Bt.sz]
  | .gd (.room _) => simp [It.ch, szI, It.sz, Qn.sz]
  | .gd (.most _ _ _) => simp [It.ch, szI, It.sz, Qn.sz]
  | .gd (.rest _ _ _ _) => simp [It.ch, szI, It.sz, Qn.sz]
  | .bd (.now _) => simp [It.ch, szI, It.sz, Bt.sz]
theorem len_szI (xs : List It) : xs.length ≤ szI xs := by
  induction xs with
  | nil => simp
  | cons x xs ih =>
    have := ch_sz x
    simp only [szI, List.map_cons, List.sum_cons, List.length_cons] at ih ⊢
    omega
def StepP (e : EX) (S : Sto) (q0 : D) (its : List It) (d : D) (dp dj : Int) (ch : List It) (pl jn : Int) (v : Option D) : Prop :=
    (Over (pl + dp) (jn + dj) → ∃ T, M.is_question_2 e [some q0, some (.ref S.length), some (.int pl), some (.int jn), v] (S ++ [.lst (its.map It.d ++ [d])]) = .rt (.bl false) (S ++ [.lst T])) ∧
    (¬ Over (pl + dp) (jn + dj) → M.is_question_2 e [some q0, some (.ref S.length), some (.int pl), some (.int jn), v] (S ++ [.lst (its.map It.d ++ [d])]) = .nx [some q0, some (.ref S.length), some (.int (pl + dp)), some (.int (jn + dj)), some d] (S ++ [.lst ((its ++ ch).map It.d)]))
section
variable (e : EX) (S : Sto) (q0 : D) (its : List It) (pl jn : Int) (v : Option D) (ln : (its.map It.d).length ≤ 1000)
include ln
theorem step_leaf (q : Qn) (hf : q.fit) (hl : isLeaf q) : StepP e S q0 its q.d 1 0 [] pl jn v := by
  unfold StepP
  rw [List.append_nil, show jn + (0 : Int) = jn by omega]
  refine ⟨fun h => ⟨_, leaf_over e S q0 (its.map It.d) q hf hl pl jn v h⟩, fun h => ?_⟩
  have h' : ¬ (4 < pl + 1) ∧ ¬ (6 < jn) := ⟨fun z => h (.inl z), fun z => h (.inr z)⟩
  exact leaf_body e S q0 (its.map It.d) q hf hl pl jn v (by omega) (by omega)
theorem step_not (y : It) : StepP e S q0 its (.tup [.str "not", y.d]) 0 1 [y] pl jn v := by
  unfold StepP
  rw [List.map_append, show pl + (0 : Int) = pl by omega]
  refine ⟨fun h => ⟨_, not_over e S q0 (its.map It.d) y.d pl jn v h ln⟩, fun h => ?_⟩
  have h' : ¬ (4 < pl) ∧ ¬ (6 < jn + 1) := ⟨fun z => h (.inl z), fun z => h (.inr z)⟩
  exact not_body e S q0 (its.map It.d) y.d pl jn v (by omega) (by omega) ln
theorem step_two (w : Str) (y z : It) (hw : w = "and" ∨ w = "or") : StepP e S q0 its (.tup [.str w, y.d, z.d]) 0 1 [y, z] pl jn v := by
  unfold StepP
  rw [List.map_append, show pl + (0 : Int) = pl by omega]
  refine ⟨fun h => ⟨_, two_over e S q0 (its.map It.d) w hw y.d z.d pl jn v h ln⟩, fun h => ?_⟩
  have h' : ¬ (4 < pl) ∧ ¬ (6 < jn + 1) := ⟨fun z => h (.inl z), fun z => h (.inr z)⟩
  exact two_body e S q0 (its.map It.d) w hw y.d z.d pl jn v (by omega) (by omega) ln
theorem step (x : It) (hx : x.ok) (hn : ¬ x.isNow) : StepP e S q0 its x.d x.dp x.dj x.ch pl jn v := by
  match x, hx, hn with
  | .gd (.room k), hx, _ => exact step_leaf e S q0 its pl jn v ln _ hx (.inl ⟨_, rfl⟩)
  | .gd (.most u w c), hx, _ => exact step_leaf e S q0 its pl jn v ln _ hx (.inr (.inl ⟨_, _, _, rfl⟩))
  | .gd (.rest u w m c), hx, _ => exact step_leaf e S q0 its pl jn v ln _ hx (.inr (.inr ⟨_, _, _, _, rfl⟩))
  | .gd (.not p), _, _ => exact step_not e S q0 its pl jn v ln (.gd p)
  | .bd (.not b), _, _ => exact step_not e S q0 its pl jn v ln (.bd b)
  | .gd (.and p p'), _, _ => exact step_two e S q0 its pl jn v ln "and" (.gd p) (.gd p') (.inl rfl)
  | .gd (.or p p'), _, _ => exact step_two e S q0 its pl jn v ln "or" (.gd p) (.gd p') (.inr rfl)
  | .bd (.l w b q), _, _ => exact step_two e S q0 its pl jn v ln (wd w) (.bd b) (.gd q) (wd_or w)
  | .bd (.r w q b), _, _ => exact step_two e S q0 its pl jn v ln (wd w) (.gd q) (.bd b) (wd_or w)
  | .bd (.now d), _, hn => exact (hn trivial).elim
end
theorem while_rt (e : EX) (S : Sto) (q0 : D) (n : Nat) (xs : List D) (hne : xs ≠ []) (pl jn : Int) (v : Option D) (r : RS)
    (h : (M.is_question_2 e [some q0, some (.ref S.length), some (.int pl), some (.int jn), v] (S ++ [.lst xs])).turn (whileF (M.is_question_1 e) (M.is_question_2 e) n) = r) :
    whileF (M.is_question_1 e) (M.is_question_2 e) (n + 1) [some q0, some (.ref S.length), some (.int pl), some (.int jn), v] (S ++ [.lst xs]) = r := by
  have t := tr_ref S xs
  have t' : dTruth (.ref S.length) (S ++ [.lst xs]) = some true := by
    rw [t]; cases xs with
    | nil => exact absurd rfl hne
    | cons a l => rfl
  have c1 : M.is_question_1 e [some q0, some (.ref S.length), some (.int pl), some (.int jn), v] (S ++ [.lst xs]) = .ok true (S ++ [.lst xs]) := by
    simp -implicitDefEqProofs [M.is_question_1, t']
  show RS.of (M.is_question_1 e _ _) _ (fun k S1 => if k = true then (M.is_question_2 e _ S1).turn (whileF (M.is_question_1 e) (M.is_question_2 e) n) else .nx _ S1) = _
  rw [c1]
  exact h
theorem bad_loop (e : EX) (S : Sto) (q0 : D) : ∀ (n : Nat) (its : List It) (pl jn : Int) (v : Option D), szI its ≤ n → n ≤ 500 → (∀ x ∈ its, x.ok) → (∃ b, It.bd b ∈ its) →
    ∃ T, whileF (M.is_question_1 e) (M.is_question_2 e) (n + 1) [some q0, some (.ref S.length), some (.int pl), some (.int jn), v] (S ++ [.lst (its.map It.d)]) = .rt (.bl false) (S ++ [.lst T]) := by
  intro n
  induction n with
  | zero =>
    rintro its pl jn v h _ _ ⟨b, hb⟩
    have := len_szI its
    have : its = [] := List.eq_nil_of_length_eq_zero (by omega)
    subst this; cases hb
  | succ n ih =>
    rintro its pl jn v h hn hk ⟨b, hb⟩
    rcases List.eq_nil_or_concat its with rfl | ⟨its, x, rfl⟩
    · cases hb
    · rw [List.concat_eq_append] at h hk hb ⊢
      have ln : its.length ≤ 1000 := by have := len_szI its; rw [szI_app] at h; omega
      have hx := hk x (by simp)
      rw [List.map_append, List.map_cons, List.map_nil]
      have hne : its.map It.d ++ [x.d] ≠ [] := by simp
      by_cases nw : x.isNow
      · match x, nw, hx with
        | .bd (.now d), _, hx =>
          obtain ⟨_, e1, _⟩ := (show NowB d from hx) e S q0 (its.map It.d) pl jn v
          exact ⟨its.map It.d, while_rt e S q0 (n + 1) _ hne pl jn v _ (by show RS.turn (M.is_question_2 e _ (S ++ [.lst (its.map It.d ++ [d])])) _ = _; rw [e1]; rfl)⟩
      · obtain ⟨s1, s2⟩ := step e S q0 its pl jn v (by simpa using ln) x hx nw
        by_cases ov : Over (pl + x.dp) (jn + x.dj)
        · obtain ⟨T, e1⟩ := s1 ov
          exact ⟨T, while_rt e S q0 (n + 1) _ hne pl jn v _ (by rw [e1]; rfl)⟩
        · have e1 := s2 ov
          obtain ⟨T, e2⟩ := ih (its ++ x.ch) (pl + x.dp) (jn + x.dj) (some x.d) (by have := ch_sz x; rw [szI_app] at h ⊢; have : szI [x] = x.sz := (by simp [szI]); omega) (by omega) (fun y hy => by
            rcases List.mem_append.mp hy with hy | hy
            · exact hk y (List.mem_append_left _ hy)
            · exact ch_ok hx y hy) (by
            rcases List.mem_append.mp hb with hb | hb
            · exact ⟨b, List.mem_append_left _ hb⟩
            · rw [List.mem_singleton] at hb
              subst hb
              match b, nw with
              | .now d, nw => exact (nw trivial).elim
              | .not b', _ => exact ⟨b', by simp [It.ch]⟩
              | .l w b' q, _ => exact ⟨b', by simp [It.ch]⟩
              | .r w q b', _ => exact ⟨b', by simp [It.ch]⟩)
          exact ⟨T, while_rt e S q0 (n + 1) _ hne pl jn v _ (by rw [e1, RS.turn_nx, e2])⟩
/-- leaves and joins of questions in a list -/
def lvI (x : It) : Nat := match x with
  | .gd q => q.lv
  | .bd _ => 0
def jnI (x : It) : Nat := match x with
  | .gd q => q.jn
  | .bd _ => 0
theorem ch_cnt (q : Qn) : (((It.gd q).ch.map lvI).sum : Int) + (It.gd q).dp = q.lv ∧ (((It.gd q).ch.map jnI).sum : Int) + (It.gd q).dj = q.jn := by
  cases q <;> simp [It.ch, lvI, jnI, It.dp, It.dj, Qn.lv, Qn.jn]
theorem ch_q (q : Qn) : ∀ y ∈ (It.gd q).ch, ∃ p, y = .gd p := by
  cases q <;> simp [It.ch]
theorem over_loop (e : EX) (S : Sto) (q0 : D) : ∀ (n : Nat) (its : List It) (pl jn : Int) (v : Option D), szI its ≤ n → n ≤ 500 → (∀ x ∈ its, x.ok ∧ ∃ q, x = .gd q) → ¬ Over pl jn → Over (pl + (its.map lvI).sum) (jn + (its.map jnI).sum) →
    ∃ T, whileF (M.is_question_1 e) (M.is_question_2 e) (n + 1) [some q0, some (.ref S.length), some (.int pl), some (.int jn), v] (S ++ [.lst (its.map It.d)]) = .rt (.bl false) (S ++ [.lst T]) := by
  intro n
  induction n with
  | zero =>
    intro its pl jn v h _ _ h1 h2
    have := len_szI its
    have : its = [] := List.eq_nil_of_length_eq_zero (by omega)
    subst this
    simp at h2
    exact absurd h2 h1
  | succ n ih =>
    intro its pl jn v h hn hk h1 h2
    rcases List.eq_nil_or_concat its with rfl | ⟨its, x, rfl⟩
    · simp at h2; exact absurd h2 h1
    · rw [List.concat_eq_append] at h hk h2 ⊢
      have ln : its.length ≤ 1000 := by have := len_szI its; rw [szI_app] at h; omega
      obtain ⟨hx, q, rfl⟩ := hk x (by simp)
      rw [List.map_append, List.map_cons, List.map_nil]
      have hne : its.map It.d ++ [(It.gd q).d] ≠ [] := by simp
      obtain ⟨s1, s2⟩ := step e S q0 its pl jn v (by simpa using ln) (.gd q) hx (fun z => z)
      by_cases ov : Over (pl + (It.gd q).dp) (jn + (It.gd q).dj)
      · obtain ⟨T, e1⟩ := s1 ov
        exact ⟨T, while_rt e S q0 (n + 1) _ hne pl jn v _ (by rw [e1]; rfl)⟩
      · have e1 := s2 ov
        have cn := ch_cnt q
        obtain ⟨T, e2⟩ := ih (its ++ (It.gd q).ch) (pl + (It.gd q).dp) (jn + (It.gd q).dj) (some (It.gd q).d) (by have := ch_sz (.gd q); rw [szI_app] at h ⊢; have : szI [It.gd q] = (It.gd q).sz := (by simp [szI]); omega) (by omega) (fun y hy => by
          rcases List.mem_append.mp hy with hy | hy
          · exact hk y (List.mem_append_left _ hy)
          · exact ⟨ch_ok hx y hy, ch_q q y hy⟩) ov (by
          simp only [List.map_append, List.sum_append, List.map_cons, List.map_nil, List.sum_cons, List.sum_nil, lvI, jnI] at h2 ⊢
          unfold Over at h2 ⊢
          rcases h2 with h2 | h2
          · left; push_cast at h2 ⊢; omega
          · right; push_cast at h2 ⊢; omega)
        exact ⟨T, while_rt e S q0 (n + 1) _ hne pl jn v _ (by rw [e1, RS.turn_nx, e2])⟩
theorem bad_question (e : EX) (hW : e.nW = 40) (S : Sto) (hc : cleanS S.length S = true) (b : Bt) (hb : b.ok) (hs : b.sz ≤ 39) : M.is_question e [b.d] S = .ok (.bl false) S := by
  obtain ⟨T, l⟩ := bad_loop e S b.d 39 [.bd b] 0 0 none (by simpa [szI, It.sz] using hs) (by omega) (fun x hx => by rw [List.mem_singleton.mp hx]; exact hb) ⟨b, by simp⟩
  have l' : whileF (M.is_question_1 e) (M.is_question_2 e) 40 [some b.d, some (.ref S.length), some (.int 0), some (.int 0), none] (S ++ [.lst [b.d]]) = .rt (.bl false) (S ++ [.lst T]) := l
  have lg : ∀ T, letGo S.length (.bl false) T = some (.bl false) := fun T => letGo_plain rfl
  simp -implicitDefEqProofs [M.is_question, M.b_is_question, frz, hW, l', hc, lg]
theorem over_question (e : EX) (hW : e.nW = 40) (S : Sto) (hc : cleanS S.length S = true) (q : Qn) (hf : q.fit) (hs : q.sz ≤ 39) (h : 4 < q.lv ∨ 6 < q.jn) : M.is_question e [q.d] S = .ok (.bl false) S := by
  obtain ⟨T, l⟩ := over_loop e S q.d 39 [.gd q] 0 0 none (by simpa [szI, It.sz] using hs) (by omega) (fun x hx => by rw [List.mem_singleton.mp hx]; exact ⟨hf, q, rfl⟩) (by unfold Over; omega) (by
    unfold Over
    simp only [List.map_cons, List.map_nil, List.sum_cons, List.sum_nil, lvI, jnI]
    omega)
  have l' : whileF (M.is_question_1 e) (M.is_question_2 e) 40 [some q.d, some (.ref S.length), some (.int 0), some (.int 0), none] (S ++ [.lst [q.d]]) = .rt (.bl false) (S ++ [.lst T]) := l
  have lg : ∀ T, letGo S.length (.bl false) T = some (.bl false) := fun T => letGo_plain rfl
  simp -implicitDefEqProofs [M.is_question, M.b_is_question, frz, hW, l', hc, lg]
end Kh
end

section
set_option Elab.async false
set_option linter.all false
set_option maxRecDepth 100000
set_option maxHeartbeats 4000000
/-! spoilt questions -/
namespace Kh
open PySem L2 DL Kg
theorem odd_eq (e : EX) (ns : List Int) (k : Nat) (R : Sto) : ∃ d, d ∈ [D.bl true, .non, .str "1", .tup [.int 1], .int 1000] ∧ M._law_odd e [.ref 0] (DN ns k ++ R) = .ok d (DN ns (k + 1) ++ R) := by
  obtain ⟨d, h1, h2⟩ := atI_pick [D.bl true, .non, .str "1", .tup [.int 1], .int 1000] (dr ns k) 5 rfl (by omega)
  have h2' : atI [D.bl true, .non, .str "1", .tup [.int 1], .int 1000] (dr ns k % 5) = some d := h2
  exact ⟨d, h1, by simp -implicitDefEqProofs [M._law_odd, M.b__law_odd, big5, h2']⟩
theorem odd_now {d : D} (h : d ∈ [D.bl true, .non, .str "1", .tup [.int 1], .int 1000]) : NowB d := by
  simp only [List.mem_cons, List.not_mem_nil, or_false] at h
  rcases h with rfl | rfl | rfl | rfl | rfl
  · exact now_noTup _ (fun _ z => by cases z) rfl
  · exact now_noTup _ (fun _ z => by cases z) rfl
  · exact now_noTup _ (fun _ z => by cases z) rfl
  · exact now_noStr _ _ rfl (fun _ z => by cases z)
  · exact now_noTup _ (fun _ z => by cases z) rfl
theorem odd_in {d : D} (h : d ∈ [D.bl true, .non, .str "1", .tup [.int 1], .int 1000]) (a b : Int) (hb : b < 1000) : isIn d a b = false ∧ DL.plain d = true := by
  simp only [List.mem_cons, List.not_mem_nil, or_false] at h
  rcases h with rfl | rfl | rfl | rfl | rfl <;> refine ⟨?_, rfl⟩ <;> first | rfl | (simp [isIn]; omega)
theorem word_now (d : D) (h : d ∈ [D.str "Room", .str "least", .str "", .int 0, .non]) (xs : List D) (hp : ∀ x ∈ xs, DL.plain x = true) : NowB (.tup (d :: xs)) := by
  simp only [List.mem_cons, List.not_mem_nil, or_false] at h
  rcases h with rfl | rfl | rfl | rfl | rfl
  · exact now_leaf _ _ hp rfl (by simp [leafB, show ¬ (Str.ofString "Room" = Str.ofString "room") by decide, show ¬ (Str.ofString "Room" = Str.ofString "most") by decide, show ¬ (Str.ofString "Room" = Str.ofString "rest") by decide])
  · exact now_leaf _ _ hp rfl (by simp [leafB, show ¬ (Str.ofString "least" = Str.ofString "room") by decide, show ¬ (Str.ofString "least" = Str.ofString "most") by decide, show ¬ (Str.ofString "least" = Str.ofString "rest") by decide])
  · exact now_leaf _ _ hp rfl (by simp [leafB, show ¬ (Str.ofString "" = Str.ofString "room") by decide, show ¬ (Str.ofString "" = Str.ofString "most") by decide, show ¬ (Str.ofString "" = Str.ofString "rest") by decide])
  · exact now_noStr _ _ rfl (fun _ z => by cases z)
  · exact now_noStr _ _ rfl (fun _ z => by cases z)
theorem nR : ¬ (Str.ofString "most" = Str.ofString "room") := by decide
theorem nR' : ¬ (Str.ofString "rest" = Str.ofString "room") := by decide
theorem nM' : ¬ (Str.ofString "rest" = Str.ofString "most") := by decide
theorem leafM (xs : List D) : leafB "most" xs = (match xs with | [u, v, c] => isIn u (-6) 6 && (isIn v (-6) 6 && isIn c (-99) 99) | _ => false) := by
  unfold leafB; rw [if_neg nR, if_pos rfl] <;> rfl
theorem leafS (xs : List D) : leafB "rest" xs = (match xs with | [u, v, m, c] => isIn u (-6) 6 && (isIn v (-6) 6 && (match m with | .int m => isIn (.int m) 2 6 && isIn c 0 (m - 1) | _ => false)) | _ => false) := by
  unfold leafB; rw [if_neg nR', if_neg nM', if_pos rfl] <;> rfl
theorem leafR (xs : List D) : leafB "room" xs = (match xs with | [a] => isIn a 0 2 | _ => false) := by
  unfold leafB; rw [if_pos rfl] <;> rfl
/-- the results, by what is drawn -/
structure SpL (e : EX) (ns : List Int) (k : Nat) (R : Sto) (d : D) : Prop where
  out : ∃ (d' : D) (k' : Nat), NowB d' ∧ M._law_spoilt_leaf e [.ref 0, d] (DN ns k ++ R) = .ok d' (DN ns k' ++ R)
theorem cut_dec {xs : List D} {lo hi : Option Int} {S : Sto} : dCut (.tup xs) lo hi S = some (.tup (cutD xs lo hi)) := rfl
theorem plain_ints (xs : List Int) : ∀ x ∈ xs.map D.int, DL.plain x = true := by
  intro x hx
  obtain ⟨i, _, rfl⟩ := List.mem_map.mp hx
  rfl
theorem spl_room (e : EX) (ns : List Int) (k : Nat) (R : Sto) (n : Int) (hf : 0 ≤ n ∧ n ≤ 2) : SpL e ns k R (.tup [.str "room", .int n]) := by
  have hat : dr ns (k + 1) % 1 = 0 := by omega
  have hp : dr ns k % 7 = 0 ∨ dr ns k % 7 = 1 ∨ dr ns k % 7 = 2 ∨ dr ns k % 7 = 3 ∨ dr ns k % 7 = 4 ∨ (dr ns k % 7 ≠ 0 ∧ dr ns k % 7 ≠ 1 ∧ dr ns k % 7 ≠ 2 ∧ dr ns k % 7 ≠ 3 ∧ dr ns k % 7 ≠ 4) := by omega
  have h3 : dr ns (k + 1 + 1) % 3 = 0 ∨ dr ns (k + 1 + 1) % 3 = 1 ∨ dr ns (k + 1 + 1) % 3 = 2 := by omega
  have h2 : dr ns (k + 1 + 1) % 2 = 0 ∨ dr ns (k + 1 + 1) % 2 = 1 := by omega
  rcases hp with p | p | p | p | p | p
  · exact ⟨.lst [.str "room", .int n], k + 1 + 1, now_noTup _ (fun _ z => by cases z) rfl, by simp -implicitDefEqProofs [M._law_spoilt_leaf, M.b__law_spoilt_leaf, p, hat]⟩
  · rcases h3 with q | q | q
    · exact ⟨.tup [.str "room"], k + 1 + 1 + 1, now_leaf _ _ (by simp) rfl rfl, by simp -implicitDefEqProofs [M._law_spoilt_leaf, M.b__law_spoilt_leaf, p, hat, q, cut_dec, big3, show cutD [D.str (Str.ofString "room"), .int n] none (some 1) = [.str "room"] from rfl]⟩
    · exact ⟨.tup [.str "room", .int n, .int 0], k + 1 + 1 + 1, now_leaf _ _ (by simp [DL.plain]) rfl rfl, by simp -implicitDefEqProofs [M._law_spoilt_leaf, M.b__law_spoilt_leaf, p, hat, q, cut_dec, big3, show cutD [D.str (Str.ofString "room"), .int n] none (some 1) = [.str "room"] from rfl]⟩
    · exact ⟨.tup [], k + 1 + 1 + 1, now_empty, by simp -implicitDefEqProofs [M._law_spoilt_leaf, M.b__law_spoilt_leaf, p, hat, q, cut_dec, big3, show cutD [D.str (Str.ofString "room"), .int n] none (some 1) = [.str "room"] from rfl]⟩
  · obtain ⟨d, g1, g2⟩ := atI_pick [D.str "Room", .str "least", .str "", .int 0, .non] (dr ns (k + 1 + 1)) 5 rfl (by omega)
    have g2' : atI [D.str "Room", .str "least", .str "", .int 0, .non] (dr ns (k + 1 + 1) % 5) = some d := g2
    exact ⟨.tup [d, .int n], k + 1 + 1 + 1, word_now d g1 [.int n] (by simp [DL.plain]), by simp -implicitDefEqProofs [M._law_spoilt_leaf, M.b__law_spoilt_leaf, p, hat, g2', cut_dec, big5, show cutD [D.str (Str.ofString "room"), .int n] (some 1) none = [.int n] from rfl]⟩
  · obtain ⟨d, g1, g2⟩ := odd_eq e ns (k + 1 + 1) R
    have oi := odd_in g1 0 2 (by omega)
    exact ⟨.tup [.str "room", d], k + 1 + 1 + 1, now_leaf _ _ (by simpa using oi.2) rfl (by rw [leafR]; exact oi.1), by simp -implicitDefEqProofs [M._law_spoilt_leaf, M.b__law_spoilt_leaf, p, hat, g2, cut_dec, show cutD [D.str (Str.ofString "room"), .int n] none (some 1) = [.str "room"] from rfl, show cutD [D.str (Str.ofString "room"), .int n] (some 2) none = [] from rfl]⟩
  · obtain ⟨d, g1, g2⟩ := odd_eq e ns (k + 1 + 1) R
    exact ⟨d, k + 1 + 1 + 1, odd_now g1, by simp -implicitDefEqProofs [M._law_spoilt_leaf, M.b__law_spoilt_leaf, p, hat, g2]⟩
  · obtain ⟨p0, p1, p2, p3, p4⟩ := p
    rcases h2 with q | q
    · exact ⟨.tup [.str "room", .int (-1)], k + 1 + 1 + 1, now_leaf _ _ (by simp [DL.plain]) rfl (by rw [leafR]; rfl), by simp -implicitDefEqProofs [M._law_spoilt_leaf, M.b__law_spoilt_leaf, p0, p1, p2, p3, p4, hat, q]⟩
    · exact ⟨.tup [.str "room", .int 3], k + 1 + 1 + 1, now_leaf _ _ (by simp [DL.plain]) rfl (by rw [leafR]; rfl), by simp -implicitDefEqProofs [M._law_spoilt_leaf, M.b__law_spoilt_leaf, p0, p1, p2, p3, p4, hat, q]⟩
end Kh
end

section
set_option Elab.async false
set_option linter.all false
set_option maxRecDepth 100000
set_option maxHeartbeats 8000000
namespace Kh
open PySem L2 DL Kg
theorem ct_most_0 (u v c : Int) : cutD [D.str (Str.ofString "most"), D.int u, D.int v, D.int c] none (some 1) = [D.str (Str.ofString "most")] := rfl
theorem ct_most_1 (u v c : Int) : cutD [D.str (Str.ofString "most"), D.int u, D.int v, D.int c] (some 1) none = ([D.int u, D.int v, D.int c] : List D) := rfl
theorem ct_most_2 (u v c : Int) : cutD [D.str (Str.ofString "most"), D.int u, D.int v, D.int c] none (some 2) = [D.str (Str.ofString "most"), D.int u] := rfl
theorem ct_most_3 (u v c : Int) : cutD [D.str (Str.ofString "most"), D.int u, D.int v, D.int c] (some 2) none = ([D.int v, D.int c] : List D) := rfl
theorem ct_most_4 (u v c : Int) : cutD [D.str (Str.ofString "most"), D.int u, D.int v, D.int c] none (some 3) = [D.str (Str.ofString "most"), D.int u, D.int v] := rfl
theorem ct_most_5 (u v c : Int) : cutD [D.str (Str.ofString "most"), D.int u, D.int v, D.int c] (some 3) none = ([D.int c] : List D) := rfl
theorem ct_most_6 (u v c : Int) : cutD [D.str (Str.ofString "most"), D.int u, D.int v, D.int c] none (some 4) = [D.str (Str.ofString "most"), D.int u, D.int v, D.int c] := rfl
theorem ct_most_7 (u v c : Int) : cutD [D.str (Str.ofString "most"), D.int u, D.int v, D.int c] (some 4) none = ([] : List D) := rfl
theorem spl_most (e : EX) (ns : List Int) (k : Nat) (R : Sto) (u v c : Int) (hf : ((-6 ≤ u ∧ u ≤ 6) ∧ (-6 ≤ v ∧ v ≤ 6) ∧ -99 ≤ c ∧ c ≤ 99)) : SpL e ns k R (.tup [D.str (Str.ofString "most"), D.int u, D.int v, D.int c]) := by
  have hat : dr ns (k + 1) % 3 = 0 ∨ dr ns (k + 1) % 3 = 1 ∨ dr ns (k + 1) % 3 = 2 := by omega
  have hp : dr ns k % 7 = 0 ∨ dr ns k % 7 = 1 ∨ dr ns k % 7 = 2 ∨ dr ns k % 7 = 3 ∨ dr ns k % 7 = 4 ∨ (dr ns k % 7 ≠ 0 ∧ dr ns k % 7 ≠ 1 ∧ dr ns k % 7 ≠ 2 ∧ dr ns k % 7 ≠ 3 ∧ dr ns k % 7 ≠ 4) := by omega
  have h3 : dr ns (k + 1 + 1) % 3 = 0 ∨ dr ns (k + 1 + 1) % 3 = 1 ∨ dr ns (k + 1 + 1) % 3 = 2 := by omega
  have h2 : dr ns (k + 1 + 1) % 2 = 0 ∨ dr ns (k + 1 + 1) % 2 = 1 := by omega
  have pl : ∀ xs : List Int, ∀ x ∈ xs.map D.int, DL.plain x = true := plain_ints
  rcases hp with p | p | p | p | p | p
  · exact ⟨.lst [D.str (Str.ofString "most"), D.int u, D.int v, D.int c], k + 1 + 1, now_noTup _ (fun _ z => by cases z) rfl, by simp -implicitDefEqProofs [M._law_spoilt_leaf, M.b__law_spoilt_leaf, cut_dec, ct_most_0, ct_most_1, ct_most_2, ct_most_3, ct_most_4, ct_most_5, ct_most_6, ct_most_7, big2, big3, big5, nR, p]⟩
  · rcases h3 with q | q | q
    · exact ⟨.tup [D.str (Str.ofString "most"), D.int u, D.int v], k + 1 + 1 + 1, now_leaf _ _ (by simp [DL.plain]) rfl (by rw [leafM]), by simp -implicitDefEqProofs [M._law_spoilt_leaf, M.b__law_spoilt_leaf, cut_dec, ct_most_0, ct_most_1, ct_most_2, ct_most_3, ct_most_4, ct_most_5, ct_most_6, ct_most_7, big2, big3, big5, nR, p, q]⟩
    · exact ⟨.tup [D.str (Str.ofString "most"), D.int u, D.int v, D.int c, .int 0], k + 1 + 1 + 1, now_leaf _ _ (by simp [DL.plain]) rfl (by rw [leafM]), by simp -implicitDefEqProofs [M._law_spoilt_leaf, M.b__law_spoilt_leaf, cut_dec, ct_most_0, ct_most_1, ct_most_2, ct_most_3, ct_most_4, ct_most_5, ct_most_6, ct_most_7, big2, big3, big5, nR, p, q]⟩
    · exact ⟨.tup [], k + 1 + 1 + 1, now_empty, by simp -implicitDefEqProofs [M._law_spoilt_leaf, M.b__law_spoilt_leaf, cut_dec, ct_most_0, ct_most_1, ct_most_2, ct_most_3, ct_most_4, ct_most_5, ct_most_6, ct_most_7, big2, big3, big5, nR, p, q]⟩
  · obtain ⟨d, g1, g2⟩ := atI_pick [D.str "Room", .str "least", .str "", .int 0, .non] (dr ns (k + 1 + 1)) 5 rfl (by omega)
    have g2' : atI [D.str "Room", .str "least", .str "", .int 0, .non] (dr ns (k + 1 + 1) % 5) = some d := g2
    exact ⟨.tup [d, D.int u, D.int v, D.int c], k + 1 + 1 + 1, word_now d g1 [D.int u, D.int v, D.int c] (by simp [DL.plain]), by simp -implicitDefEqProofs [M._law_spoilt_leaf, M.b__law_spoilt_leaf, cut_dec, ct_most_0, ct_most_1, ct_most_2, ct_most_3, ct_most_4, ct_most_5, ct_most_6, ct_most_7, big2, big3, big5, nR, p, g2']⟩
  · obtain ⟨d, g1, g2⟩ := odd_eq e ns (k + 1 + 1) R
    rcases hat with z | z | z
    · exact ⟨.tup [D.str (Str.ofString "most"), d, D.int v, D.int c], k + 1 + 1 + 1, now_leaf _ _ (by simpa [DL.plain] using (odd_in g1 0 0 (by omega)).2) rfl (by have oi := (odd_in g1 (-6) 6 (by omega)).1; rw [leafM]; simp [oi]), by simp -implicitDefEqProofs [M._law_spoilt_leaf, M.b__law_spoilt_leaf, cut_dec, ct_most_0, ct_most_1, ct_most_2, ct_most_3, ct_most_4, ct_most_5, ct_most_6, ct_most_7, big2, big3, big5, nR, p, z, g2]⟩
    · exact ⟨.tup [D.str (Str.ofString "most"), D.int u, d, D.int c], k + 1 + 1 + 1, now_leaf _ _ (by simpa [DL.plain] using (odd_in g1 0 0 (by omega)).2) rfl (by have oi := (odd_in g1 (-6) 6 (by omega)).1; rw [leafM]; simp [oi]), by simp -implicitDefEqProofs [M._law_spoilt_leaf, M.b__law_spoilt_leaf, cut_dec, ct_most_0, ct_most_1, ct_most_2, ct_most_3, ct_most_4, ct_most_5, ct_most_6, ct_most_7, big2, big3, big5, nR, p, z, g2]⟩
    · exact ⟨.tup [D.str (Str.ofString "most"), D.int u, D.int v, d], k + 1 + 1 + 1, now_leaf _ _ (by simpa [DL.plain] using (odd_in g1 0 0 (by omega)).2) rfl (by have oi := (odd_in g1 (-99) 99 (by omega)).1; rw [leafM]; simp [oi]), by simp -implicitDefEqProofs [M._law_spoilt_leaf, M.b__law_spoilt_leaf, cut_dec, ct_most_0, ct_most_1, ct_most_2, ct_most_3, ct_most_4, ct_most_5, ct_most_6, ct_most_7, big2, big3, big5, nR, p, z, g2]⟩
  · obtain ⟨d, g1, g2⟩ := odd_eq e ns (k + 1 + 1) R
    exact ⟨d, k + 1 + 1 + 1, odd_now g1, by simp -implicitDefEqProofs [M._law_spoilt_leaf, M.b__law_spoilt_leaf, cut_dec, ct_most_0, ct_most_1, ct_most_2, ct_most_3, ct_most_4, ct_most_5, ct_most_6, ct_most_7, big2, big3, big5, nR, p, g2]⟩
  · obtain ⟨p0, p1, p2, p3, p4⟩ := p
    rcases hat with z | z | z
    · rcases h2 with q | q
      · exact ⟨.tup [D.str (Str.ofString "most"), .int (-7), D.int v, D.int c], k + 1 + 1 + 1, now_leaf _ _ (by simp [DL.plain]) rfl (by rw [leafM]; simp [isIn]), by simp -implicitDefEqProofs [M._law_spoilt_leaf, M.b__law_spoilt_leaf, cut_dec, ct_most_0, ct_most_1, ct_most_2, ct_most_3, ct_most_4, ct_most_5, ct_most_6, ct_most_7, big2, big3, big5, nR, p0, p1, p2, p3, p4, z, q]⟩
      · exact ⟨.tup [D.str (Str.ofString "most"), .int (7), D.int v, D.int c], k + 1 + 1 + 1, now_leaf _ _ (by simp [DL.plain]) rfl (by rw [leafM]; simp [isIn]), by simp -implicitDefEqProofs [M._law_spoilt_leaf, M.b__law_spoilt_leaf, cut_dec, ct_most_0, ct_most_1, ct_most_2, ct_most_3, ct_most_4, ct_most_5, ct_most_6, ct_most_7, big2, big3, big5, nR, p0, p1, p2, p3, p4, z, q]⟩
    · rcases h2 with q | q
      · exact ⟨.tup [D.str (Str.ofString "most"), D.int u, .int (-7), D.int c], k + 1 + 1 + 1, now_leaf _ _ (by simp [DL.plain]) rfl (by rw [leafM]; simp [isIn]), by simp -implicitDefEqProofs [M._law_spoilt_leaf, M.b__law_spoilt_leaf, cut_dec, ct_most_0, ct_most_1, ct_most_2, ct_most_3, ct_most_4, ct_most_5, ct_most_6, ct_most_7, big2, big3, big5, nR, p0, p1, p2, p3, p4, z, q]⟩
      · exact ⟨.tup [D.str (Str.ofString "most"), D.int u, .int (7), D.int c], k + 1 + 1 + 1, now_leaf _ _ (by simp [DL.plain]) rfl (by rw [leafM]; simp [isIn]), by simp -implicitDefEqProofs [M._law_spoilt_leaf, M.b__law_spoilt_leaf, cut_dec, ct_most_0, ct_most_1, ct_most_2, ct_most_3, ct_most_4, ct_most_5, ct_most_6, ct_most_7, big2, big3, big5, nR, p0, p1, p2, p3, p4, z, q]⟩
    · rcases h2 with q | q
      · exact ⟨.tup [D.str (Str.ofString "most"), D.int u, D.int v, .int (-100)], k + 1 + 1 + 1, now_leaf _ _ (by simp [DL.plain]) rfl (by rw [leafM]; simp [isIn]), by simp -implicitDefEqProofs [M._law_spoilt_leaf, M.b__law_spoilt_leaf, cut_dec, ct_most_0, ct_most_1, ct_most_2, ct_most_3, ct_most_4, ct_most_5, ct_most_6, ct_most_7, big2, big3, big5, nR, p0, p1, p2, p3, p4, z, q]⟩
      · exact ⟨.tup [D.str (Str.ofString "most"), D.int u, D.int v, .int (100)], k + 1 + 1 + 1, now_leaf _ _ (by simp [DL.plain]) rfl (by rw [leafM]; simp [isIn]), by simp -implicitDefEqProofs [M._law_spoilt_leaf, M.b__law_spoilt_leaf, cut_dec, ct_most_0, ct_most_1, ct_most_2, ct_most_3, ct_most_4, ct_most_5, ct_most_6, ct_most_7, big2, big3, big5, nR, p0, p1, p2, p3, p4, z, q]⟩
theorem ct_rest_0 (u v m c : Int) : cutD [D.str (Str.ofString "rest"), D.int u, D.int v, D.int m, D.int c] none (some 1) = [D.str (Str.ofString "rest")] := rfl
theorem ct_rest_1 (u v m c : Int) : cutD [D.str (Str.ofString "rest"), D.int u, D.int v, D.int m, D.int c] (some 1) none = ([D.int u, D.int v, D.int m, D.int c] : List D) := rfl
theorem ct_rest_2 (u v m c : Int) : cutD [D.str (Str.ofString "rest"), D.int u, D.int v, D.int m, D.int c] none (some 2) = [D.str (Str.ofString "rest"), D.int u] := rfl
theorem ct_rest_3 (u v m c : Int) : cutD [D.str (Str.ofString "rest"), D.int u, D.int v, D.int m, D.int c] (some 2) none = ([D.int v, D.int m, D.int c] : List D) := rfl
theorem ct_rest_4 (u v m c : Int) : cutD [D.str (Str.ofString "rest"), D.int u, D.int v, D.int m, D.int c] none (some 3) = [D.str (Str.ofString "rest"), D.int u, D.int v] := rfl
theorem ct_rest_5 (u v m c : Int) : cutD [D.str (Str.ofString "rest"), D.int u, D.int v, D.int m, D.int c] (some 3) none = ([D.int m, D.int c] : List D) := rfl
theorem ct_rest_6 (u v m c : Int) : cutD [D.str (Str.ofString "rest"), D.int u, D.int v, D.int m, D.int c] none (some 4) = [D.str (Str.ofString "rest"), D.int u, D.int v, D.int m] := rfl
theorem ct_rest_7 (u v m c : Int) : cutD [D.str (Str.ofString "rest"), D.int u, D.int v, D.int m, D.int c] (some 4) none = ([D.int c] : List D) := rfl
theorem ct_rest_8 (u v m c : Int) : cutD [D.str (Str.ofString "rest"), D.int u, D.int v, D.int m, D.int c] none (some 5) = [D.str (Str.ofString "rest"), D.int u, D.int v, D.int m, D.int c] := rfl
theorem ct_rest_9 (u v m c : Int) : cutD [D.str (Str.ofString "rest"), D.int u, D.int v, D.int m, D.int c] (some 5) none = ([] : List D) := rfl
theorem spl_rest (e : EX) (ns : List Int) (k : Nat) (R : Sto) (u v m c : Int) (hf : ((-6 ≤ u ∧ u ≤ 6) ∧ (-6 ≤ v ∧ v ≤ 6) ∧ (2 ≤ m ∧ m ≤ 6) ∧ 0 ≤ c ∧ c ≤ m - 1)) : SpL e ns k R (.tup [D.str (Str.ofString "rest"), D.int u, D.int v, D.int m, D.int c]) := by
  have hat : dr ns (k + 1) % 4 = 0 ∨ dr ns (k + 1) % 4 = 1 ∨ dr ns (k + 1) % 4 = 2 ∨ dr ns (k + 1) % 4 = 3 := by omega
  have hp : dr ns k % 7 = 0 ∨ dr ns k % 7 = 1 ∨ dr ns k % 7 = 2 ∨ dr ns k % 7 = 3 ∨ dr ns k % 7 = 4 ∨ (dr ns k % 7 ≠ 0 ∧ dr ns k % 7 ≠ 1 ∧ dr ns k % 7 ≠ 2 ∧ dr ns k % 7 ≠ 3 ∧ dr ns k % 7 ≠ 4) := by omega
  have h3 : dr ns (k + 1 + 1) % 3 = 0 ∨ dr ns (k + 1 + 1) % 3 = 1 ∨ dr ns (k + 1 + 1) % 3 = 2 := by omega
  have h2 : dr ns (k + 1 + 1) % 2 = 0 ∨ dr ns (k + 1 + 1) % 2 = 1 := by omega
  have pl : ∀ xs : List Int, ∀ x ∈ xs.map D.int, DL.plain x = true := plain_ints
  rcases hp with p | p | p | p | p | p
  · exact ⟨.lst [D.str (Str.ofString "rest"), D.int u, D.int v, D.int m, D.int c], k + 1 + 1, now_noTup _ (fun _ z => by cases z) rfl, by simp -implicitDefEqProofs [M._law_spoilt_leaf, M.b__law_spoilt_leaf, cut_dec, ct_rest_0, ct_rest_1, ct_rest_2, ct_rest_3, ct_rest_4, ct_rest_5, ct_rest_6, ct_rest_7, ct_rest_8, ct_rest_9, big2, big3, big5, nR', nM', p]⟩
  · rcases h3 with q | q | q
    · exact ⟨.tup [D.str (Str.ofString "rest"), D.int u, D.int v, D.int m], k + 1 + 1 + 1, now_leaf _ _ (by simp [DL.plain]) rfl (by rw [leafS]), by simp -implicitDefEqProofs [M._law_spoilt_leaf, M.b__law_spoilt_leaf, cut_dec, ct_rest_0, ct_rest_1, ct_rest_2, ct_rest_3, ct_rest_4, ct_rest_5, ct_rest_6, ct_rest_7, ct_rest_8, ct_rest_9, big2, big3, big5, nR', nM', p, q]⟩
    · exact ⟨.tup [D.str (Str.ofString "rest"), D.int u, D.int v, D.int m, D.int c, .int 0], k + 1 + 1 + 1, now_leaf _ _ (by simp [DL.plain]) rfl (by rw [leafS]), by simp -implicitDefEqProofs [M._law_spoilt_leaf, M.b__law_spoilt_leaf, cut_dec, ct_rest_0, ct_rest_1, ct_rest_2, ct_rest_3, ct_rest_4, ct_rest_5, ct_rest_6, ct_rest_7, ct_rest_8, ct_rest_9, big2, big3, big5, nR', nM', p, q]⟩
    · exact ⟨.tup [], k + 1 + 1 + 1, now_empty, by simp -implicitDefEqProofs [M._law_spoilt_leaf, M.b__law_spoilt_leaf, cut_dec, ct_rest_0, ct_rest_1, ct_rest_2, ct_rest_3, ct_rest_4, ct_rest_5, ct_rest_6, ct_rest_7, ct_rest_8, ct_rest_9, big2, big3, big5, nR', nM', p, q]⟩
  · obtain ⟨d, g1, g2⟩ := atI_pick [D.str "Room", .str "least", .str "", .int 0, .non] (dr ns (k + 1 + 1)) 5 rfl (by omega)
    have g2' : atI [D.str "Room", .str "least", .str "", .int 0, .non] (dr ns (k + 1 + 1) % 5) = some d := g2
    exact ⟨.tup [d, D.int u, D.int v, D.int m, D.int c], k + 1 + 1 + 1, word_now d g1 [D.int u, D.int v, D.int m, D.int c] (by simp [DL.plain]), by simp -implicitDefEqProofs [M._law_spoilt_leaf, M.b__law_spoilt_leaf, cut_dec, ct_rest_0, ct_rest_1, ct_rest_2, ct_rest_3, ct_rest_4, ct_rest_5, ct_rest_6, ct_rest_7, ct_rest_8, ct_rest_9, big2, big3, big5, nR', nM', p, g2']⟩
  · obtain ⟨d, g1, g2⟩ := odd_eq e ns (k + 1 + 1) R
    rcases hat with z | z | z | z
    · exact ⟨.tup [D.str (Str.ofString "rest"), d, D.int v, D.int m, D.int c], k + 1 + 1 + 1, now_leaf _ _ (by simpa [DL.plain] using (odd_in g1 0 0 (by omega)).2) rfl (by have oi := (odd_in g1 (-6) 6 (by omega)).1; rw [leafS]; simp [oi]), by simp -implicitDefEqProofs [M._law_spoilt_leaf, M.b__law_spoilt_leaf, cut_dec, ct_rest_0, ct_rest_1, ct_rest_2, ct_rest_3, ct_rest_4, ct_rest_5, ct_rest_6, ct_rest_7, ct_rest_8, ct_rest_9, big2, big3, big5, nR', nM', p, z, g2]⟩
    · exact ⟨.tup [D.str (Str.ofString "rest"), D.int u, d, D.int m, D.int c], k + 1 + 1 + 1, now_leaf _ _ (by simpa [DL.plain] using (odd_in g1 0 0 (by omega)).2) rfl (by have oi := (odd_in g1 (-6) 6 (by omega)).1; rw [leafS]; simp [oi]), by simp -implicitDefEqProofs [M._law_spoilt_leaf, M.b__law_spoilt_leaf, cut_dec, ct_rest_0, ct_rest_1, ct_rest_2, ct_rest_3, ct_rest_4, ct_rest_5, ct_rest_6, ct_rest_7, ct_rest_8, ct_rest_9, big2, big3, big5, nR', nM', p, z, g2]⟩
    · exact ⟨.tup [D.str (Str.ofString "rest"), D.int u, D.int v, d, D.int c], k + 1 + 1 + 1, now_leaf _ _ (by simpa [DL.plain] using (odd_in g1 0 0 (by omega)).2) rfl (by rw [leafS]; simp only [List.mem_cons, List.not_mem_nil, or_false] at g1; rcases g1 with rfl | rfl | rfl | rfl | rfl <;> simp [isIn]), by simp -implicitDefEqProofs [M._law_spoilt_leaf, M.b__law_spoilt_leaf, cut_dec, ct_rest_0, ct_rest_1, ct_rest_2, ct_rest_3, ct_rest_4, ct_rest_5, ct_rest_6, ct_rest_7, ct_rest_8, ct_rest_9, big2, big3, big5, nR', nM', p, z, g2]⟩
    · exact ⟨.tup [D.str (Str.ofString "rest"), D.int u, D.int v, D.int m, d], k + 1 + 1 + 1, now_leaf _ _ (by simpa [DL.plain] using (odd_in g1 0 0 (by omega)).2) rfl (by have oi := (odd_in g1 (0) (m - 1) (by omega)).1; rw [leafS]; simp [oi]), by simp -implicitDefEqProofs [M._law_spoilt_leaf, M.b__law_spoilt_leaf, cut_dec, ct_rest_0, ct_rest_1, ct_rest_2, ct_rest_3, ct_rest_4, ct_rest_5, ct_rest_6, ct_rest_7, ct_rest_8, ct_rest_9, big2, big3, big5, nR', nM', p, z, g2]⟩
  · obtain ⟨d, g1, g2⟩ := odd_eq e ns (k + 1 + 1) R
    exact ⟨d, k + 1 + 1 + 1, odd_now g1, by simp -implicitDefEqProofs [M._law_spoilt_leaf, M.b__law_spoilt_leaf, cut_dec, ct_rest_0, ct_rest_1, ct_rest_2, ct_rest_3, ct_rest_4, ct_rest_5, ct_rest_6, ct_rest_7, ct_rest_8, ct_rest_9, big2, big3, big5, nR', nM', p, g2]⟩
  · obtain ⟨p0, p1, p2, p3, p4⟩ := p
    rcases hat with z | z | z | z
    · rcases h2 with q | q
      · exact ⟨.tup [D.str (Str.ofString "rest"), .int (-7), D.int v, D.int m, D.int c], k + 1 + 1 + 1, now_leaf _ _ (by simp [DL.plain]) rfl (by rw [leafS]; simp [isIn]), by simp -implicitDefEqProofs [M._law_spoilt_leaf, M.b__law_spoilt_leaf, cut_dec, ct_rest_0, ct_rest_1, ct_rest_2, ct_rest_3, ct_rest_4, ct_rest_5, ct_rest_6, ct_rest_7, ct_rest_8, ct_rest_9, big2, big3, big5, nR', nM', p0, p1, p2, p3, p4, z, q]⟩
      · exact ⟨.tup [D.str (Str.ofString "rest"), .int (7), D.int v, D.int m, D.int c], k + 1 + 1 + 1, now_leaf _ _ (by simp [DL.plain]) rfl (by rw [leafS]; simp [isIn]), by simp -implicitDefEqProofs [M._law_spoilt_leaf, M.b__law_spoilt_leaf, cut_dec, ct_rest_0, ct_rest_1, ct_rest_2, ct_rest_3, ct_rest_4, ct_rest_5, ct_rest_6, ct_rest_7, ct_rest_8, ct_rest_9, big2, big3, big5, nR', nM', p0, p1, p2, p3, p4, z, q]⟩
    · rcases h2 with q | q
      · exact ⟨.tup [D.str (Str.ofString "rest"), D.int u, .int (-7), D.int m, D.int c], k + 1 + 1 + 1, now_leaf _ _ (by simp [DL.plain]) rfl (by rw [leafS]; simp [isIn]), by simp -implicitDefEqProofs [M._law_spoilt_leaf, M.b__law_spoilt_leaf, cut_dec, ct_rest_0, ct_rest_1, ct_rest_2, ct_rest_3, ct_rest_4, ct_rest_5, ct_rest_6, ct_rest_7, ct_rest_8, ct_rest_9, big2, big3, big5, nR', nM', p0, p1, p2, p3, p4, z, q]⟩
      · exact ⟨.tup [D.str (Str.ofString "rest"), D.int u, .int (7), D.int m, D.int c], k + 1 + 1 + 1, now_leaf _ _ (by simp [DL.plain]) rfl (by rw [leafS]; simp [isIn]), by simp -implicitDefEqProofs [M._law_spoilt_leaf, M.b__law_spoilt_leaf, cut_dec, ct_rest_0, ct_rest_1, ct_rest_2, ct_rest_3, ct_rest_4, ct_rest_5, ct_rest_6, ct_rest_7, ct_rest_8, ct_rest_9, big2, big3, big5, nR', nM', p0, p1, p2, p3, p4, z, q]⟩
    · rcases h3 with q | q | q
      · exact ⟨.tup [D.str (Str.ofString "rest"), D.int u, D.int v, .int 1, .int 0], k + 1 + 1 + 1, now_leaf _ _ (by simp [DL.plain]) rfl (by rw [leafS]; simp [isIn]), by simp -implicitDefEqProofs [M._law_spoilt_leaf, M.b__law_spoilt_leaf, cut_dec, ct_rest_0, ct_rest_1, ct_rest_2, ct_rest_3, ct_rest_4, ct_rest_5, ct_rest_6, ct_rest_7, ct_rest_8, ct_rest_9, big2, big3, big5, nR', nM', p0, p1, p2, p3, p4, z, q]⟩
      · exact ⟨.tup [D.str (Str.ofString "rest"), D.int u, D.int v, .int 7, .int 0], k + 1 + 1 + 1, now_leaf _ _ (by simp [DL.plain]) rfl (by rw [leafS]; simp [isIn]), by simp -implicitDefEqProofs [M._law_spoilt_leaf, M.b__law_spoilt_leaf, cut_dec, ct_rest_0, ct_rest_1, ct_rest_2, ct_rest_3, ct_rest_4, ct_rest_5, ct_rest_6, ct_rest_7, ct_rest_8, ct_rest_9, big2, big3, big5, nR', nM', p0, p1, p2, p3, p4, z, q]⟩
      · exact ⟨.tup [D.str (Str.ofString "rest"), D.int u, D.int v, .int 0, .int 0], k + 1 + 1 + 1, now_leaf _ _ (by simp [DL.plain]) rfl (by rw [leafS]; simp [isIn]), by simp -implicitDefEqProofs [M._law_spoilt_leaf, M.b__law_spoilt_leaf, cut_dec, ct_rest_0, ct_rest_1, ct_rest_2, ct_rest_3, ct_rest_4, ct_rest_5, ct_rest_6, ct_rest_7, ct_rest_8, ct_rest_9, big2, big3, big5, nR', nM', p0, p1, p2, p3, p4, z, q]⟩
    · rcases h2 with q | q
      · exact ⟨.tup [D.str (Str.ofString "rest"), D.int u, D.int v, D.int m, .int (-1)], k + 1 + 1 + 1, now_leaf _ _ (by simp [DL.plain]) rfl (by rw [leafS]; simp [isIn]; try omega), by simp -implicitDefEqProofs [M._law_spoilt_leaf, M.b__law_spoilt_leaf, cut_dec, ct_rest_0, ct_rest_1, ct_rest_2, ct_rest_3, ct_rest_4, ct_rest_5, ct_rest_6, ct_rest_7, ct_rest_8, ct_rest_9, big2, big3, big5, nR', nM', p0, p1, p2, p3, p4, z, q]⟩
      · exact ⟨.tup [D.str (Str.ofString "rest"), D.int u, D.int v, D.int m, .int m], k + 1 + 1 + 1, now_leaf _ _ (by simp [DL.plain]) rfl (by rw [leafS]; simp [isIn]; try omega), by simp -implicitDefEqProofs [M._law_spoilt_leaf, M.b__law_spoilt_leaf, cut_dec, ct_rest_0, ct_rest_1, ct_rest_2, ct_rest_3, ct_rest_4, ct_rest_5, ct_rest_6, ct_rest_7, ct_rest_8, ct_rest_9, big2, big3, big5, nR', nM', p0, p1, p2, p3, p4, z, q]⟩
end Kh
end

section
set_option Elab.async false
set_option linter.all false
set_option maxRecDepth 100000
set_option maxHeartbeats 4000000
/-! spoilt questions, questions with too much in them -/
namespace Kh
open PySem L2 DL Kg
theorem in_L (w : Str) (S : Sto) : dInT false (.str w) (.lst [.str "room", .str "most", .str "rest"]) S = some (.bl (decide (w = "room") || (decide (w = "most") || decide (w = "rest")))) := by
  show ((anyL (.lst [D.str "room", .str "most", .str "rest"]) S).bind fun ys => (flD (.str w)).bind fun v => (flDs ys).map fun vs => D.bl (if false = true then !inV v vs else inV v vs)) = _
  have : anyL (.lst [D.str "room", .str "most", .str "rest"]) S = some [D.str "room", .str "most", .str "rest"] := rfl
  rw [this]
  simp [flDs, flD, inV, eqV_str]
theorem up_not : gUpper (Str.ofString "not") = some (.str (Str.ofString "NOT")) := by
  unfold gUpper
  rw [if_pos (by decide), show Txt.upper (Str.ofString "not") = Str.ofString "NOT" by decide +kernel]
theorem up_and : gUpper (Str.ofString "and") = some (.str (Str.ofString "AND")) := by
  unfold gUpper
  rw [if_pos (by decide), show Txt.upper (Str.ofString "and") = Str.ofString "AND" by decide +kernel]
theorem up_or : gUpper (Str.ofString "or") = some (.str (Str.ofString "OR")) := by
  unfold gUpper
  rw [if_pos (by decide), show Txt.upper (Str.ofString "or") = Str.ofString "OR" by decide +kernel]
theorem spn (e : EX) (n : Nat) : M._law_spoilt_v4_n e (n + 1) = runF 6 (M.b__law_spoilt_v4 e (M._law_spoilt_v4_n e n)) := rfl
theorem leafN (w : Str) (h : w = "NOT" ∨ w = "AND" ∨ w = "OR") (xs : List D) : leafB w xs = false ∧ isJ w = false := by
  rcases h with rfl | rfl | rfl <;> refine ⟨?_, by decide⟩ <;> unfold leafB <;> rw [if_neg (by decide), if_neg (by decide), if_neg (by decide)]
theorem plq (q : Qn) : DL.plain q.d = true := plain_q q
def roomD : D := .tup [.str "room", .int 0]
theorem spoilt_eq (e : EX) (ns : List Int) (R : Sto) : ∀ (q : Qn) (n k : Nat), q.fit → q.dep < n → ∃ (b : Bt) (k' : Nat), b.ok ∧ b.sz ≤ q.sz ∧ M._law_spoilt_v4_n e n [.ref 0, q.d] (DN ns k ++ R) = .ok b.d (DN ns k' ++ R)
  | q, 0, k, _, h => by omega
  | .room x, n + 1, k, hf, _ => by
    obtain ⟨d', k', h1, h2⟩ := (spl_room e ns k R x hf).out
    refine ⟨.now d', k', h1, Nat.le_refl _, ?_⟩
    have i := in_L "room" (DN ns k ++ R)
    rw [spn]
    simp -implicitDefEqProofs [M.b__law_spoilt_v4, Qn.d, Bt.d, i, big3, h2]
  | .most u v c, n + 1, k, hf, _ => by
    obtain ⟨d', k', h1, h2⟩ := (spl_most e ns k R u v c hf).out
    refine ⟨.now d', k', h1, Nat.le_refl _, ?_⟩
    have i := in_L "most" (DN ns k ++ R)
    rw [spn]
    simp -implicitDefEqProofs [M.b__law_spoilt_v4, Qn.d, Bt.d, i, big3, h2]
  | .rest u v m c, n + 1, k, hf, _ => by
    obtain ⟨d', k', h1, h2⟩ := (spl_rest e ns k R u v m c hf).out
    refine ⟨.now d', k', h1, Nat.le_refl _, ?_⟩
    have i := in_L "rest" (DN ns k ++ R)
    rw [spn]
    simp -implicitDefEqProofs [M.b__law_spoilt_v4, Qn.d, Bt.d, i, big3, h2]
  | .not q, n + 1, k, hf, hd => by
    have i := in_L "not" (DN ns k ++ R)
    simp only [show decide (Str.ofString "not" = Str.ofString "room") = false by decide, show decide (Str.ofString "not" = Str.ofString "most") = false by decide, show decide (Str.ofString "not" = Str.ofString "rest") = false by decide, Bool.or_false] at i
    have c1 : cutD [D.str (Str.ofString "not"), q.d] none (some 1) = [D.str "not"] := rfl
    have c2 : cutD [D.str (Str.ofString "not"), q.d] (some 1) none = [q.d] := rfl
    have c3 : cutD [D.str (Str.ofString "not"), q.d] (some 2) none = [] := rfl
    by_cases p : dr ns k % 5 = 0
    · have h4 : dr ns (k + 1) % 4 = 0 ∨ dr ns (k + 1) % 4 = 1 ∨ dr ns (k + 1) % 4 = 2 ∨ dr ns (k + 1) % 4 = 3 := by omega
      rcases h4 with z | z | z | z
      · refine ⟨.now (.lst [.str "not", q.d]), k + 1 + 1, now_noTup _ (fun _ z => by cases z) (by simp [DL.plain, DL.plains, plq]), by simp [Bt.sz, Qn.sz], ?_⟩
        rw [spn]; simp -implicitDefEqProofs [M.b__law_spoilt_v4, Qn.d, Bt.d, i, p, z, up_not, cut_dec, c1, c2, c3, big2, big3, big4]
      · refine ⟨.now (.tup [.str "not"]), k + 1 + 1, now_not _ (by simp), by simp [Bt.sz, Qn.sz], ?_⟩
        rw [spn]; simp -implicitDefEqProofs [M.b__law_spoilt_v4, Qn.d, Bt.d, i, p, z, up_not, cut_dec, c1, c2, c3, big2, big3, big4]
      · refine ⟨.now (.tup [.str "not", q.d, roomD]), k + 1 + 1, now_not _ (by simp), by simp [Bt.sz, Qn.sz], ?_⟩
        rw [spn]; simp -implicitDefEqProofs [M.b__law_spoilt_v4, Qn.d, Bt.d, i, p, z, up_not, cut_dec, c1, c2, c3, big2, big3, big4, roomD]
      · refine ⟨.now (.tup [.str "NOT", q.d]), k + 1 + 1, now_leaf _ _ (by simp [plq]) (leafN _ (.inl rfl) []).2 (leafN _ (.inl rfl) _).1, by simp [Bt.sz, Qn.sz], ?_⟩
        rw [spn]; simp -implicitDefEqProofs [M.b__law_spoilt_v4, Qn.d, Bt.d, i, p, z, up_not, cut_dec, c1, c2, c3, big2, big3, big4]
    · have z : dr ns (k + 1) % 1 = 0 := by omega
      obtain ⟨b, k', h1, h2, h3⟩ := spoilt_eq e ns R q n (k + 1 + 1) hf (by simp only [Qn.dep] at hd; omega)
      refine ⟨.not b, k', h1, by simp only [Bt.sz, Qn.sz]; omega, ?_⟩
      rw [spn]; simp -implicitDefEqProofs [M.b__law_spoilt_v4, Qn.d, Bt.d, i, p, z, cut_dec, c1, c2, c3, big2, big3, big4, h3]
  | .and p' q, n + 1, k, hf, hd => by
    have i := in_L "and" (DN ns k ++ R)
    simp only [show decide (Str.ofString "and" = Str.ofString "room") = false by decide, show decide (Str.ofString "and" = Str.ofString "most") = false by decide, show decide (Str.ofString "and" = Str.ofString "rest") = false by decide, Bool.or_false] at i
    have c1 : cutD [D.str (Str.ofString "and"), p'.d, q.d] none (some 1) = [D.str "and"] := rfl
    have c2 : cutD [D.str (Str.ofString "and"), p'.d, q.d] (some 1) none = [p'.d, q.d] := rfl
    have c3 : cutD [D.str (Str.ofString "and"), p'.d, q.d] (some 2) none = [q.d] := rfl
    have c4 : cutD [D.str (Str.ofString "and"), p'.d, q.d] none (some 2) = [D.str "and", p'.d] := rfl
    have c5 : cutD [D.str (Str.ofString "and"), p'.d, q.d] (some 3) none = [] := rfl
    by_cases p : dr ns k % 5 = 0
    · have h4 : dr ns (k + 1) % 4 = 0 ∨ dr ns (k + 1) % 4 = 1 ∨ dr ns (k + 1) % 4 = 2 ∨ dr ns (k + 1) % 4 = 3 := by omega
      rcases h4 with z | z | z | z
      · refine ⟨.now (.lst [.str "and", p'.d, q.d]), k + 1 + 1, now_noTup _ (fun _ z => by cases z) (by simp [DL.plain, DL.plains, plq]), by simp [Bt.sz, Qn.sz], ?_⟩
        rw [spn]; simp -implicitDefEqProofs [M.b__law_spoilt_v4, Qn.d, Bt.d, i, p, z, up_and, cut_dec, c1, c2, c3, big2, big3, big4]
      · refine ⟨.now (.tup [.str "and"]), k + 1 + 1, now_two _ (.inl rfl) _ (by simp), by simp [Bt.sz, Qn.sz], ?_⟩
        rw [spn]; simp -implicitDefEqProofs [M.b__law_spoilt_v4, Qn.d, Bt.d, i, p, z, up_and, cut_dec, c1, c2, c3, big2, big3, big4]
      · refine ⟨.now (.tup [.str "and", p'.d, q.d, roomD]), k + 1 + 1, now_two _ (.inl rfl) _ (by simp), by simp [Bt.sz, Qn.sz], ?_⟩
        rw [spn]; simp -implicitDefEqProofs [M.b__law_spoilt_v4, Qn.d, Bt.d, i, p, z, up_and, cut_dec, c1, c2, c3, big2, big3, big4, roomD]
      · refine ⟨.now (.tup [.str "AND", p'.d, q.d]), k + 1 + 1, now_leaf _ _ (by simp [plq]) (leafN _ (.inr (.inl rfl)) []).2 (leafN _ (.inr (.inl rfl)) _).1, by simp [Bt.sz, Qn.sz], ?_⟩
        rw [spn]; simp -implicitDefEqProofs [M.b__law_spoilt_v4, Qn.d, Bt.d, i, p, z, up_and, cut_dec, c1, c2, c3, big2, big3, big4]
    · have hz : dr ns (k + 1) % 2 = 0 ∨ dr ns (k + 1) % 2 = 1 := by omega
      rcases hz with z | z
      · obtain ⟨b, k', h1, h2, h3⟩ := spoilt_eq e ns R p' n (k + 1 + 1) hf.1 (by simp only [Qn.dep] at hd; omega)
        refine ⟨.l true b q, k', ⟨h1, hf.2⟩, by simp only [Bt.sz, Qn.sz]; omega, ?_⟩
        rw [spn]; simp -implicitDefEqProofs [M.b__law_spoilt_v4, Qn.d, Bt.d, wd, i, p, z, cut_dec, c1, c2, c3, c4, c5, big2, big3, big4, h3]
      · obtain ⟨b, k', h1, h2, h3⟩ := spoilt_eq e ns R q n (k + 1 + 1) hf.2 (by simp only [Qn.dep] at hd; omega)
        refine ⟨.r true p' b, k', ⟨hf.1, h1⟩, by simp only [Bt.sz, Qn.sz]; omega, ?_⟩
        rw [spn]; simp -implicitDefEqProofs [M.b__law_spoilt_v4, Qn.d, Bt.d, wd, i, p, z, cut_dec, c1, c2, c3, c4, c5, big2, big3, big4, h3]
  | .or p' q, n + 1, k, hf, hd => by
    have i := in_L "or" (DN ns k ++ R)
    simp only [show decide (Str.ofString "or" = Str.ofString "room") = false by decide, show decide (Str.ofString "or" = Str.ofString "most") = false by decide, show decide (Str.ofString "or" = Str.ofString "rest") = false by decide, Bool.or_false] at i
    have c1 : cutD [D.str (Str.ofString "or"), p'.d, q.d] none (some 1) = [D.str "or"] := rfl
    have c2 : cutD [D.str (Str.ofString "or"), p'.d, q.d] (some 1) none = [p'.d, q.d] := rfl
    have c3 : cutD [D.str (Str.ofString "or"), p'.d, q.d] (some 2) none = [q.d] := rfl
    have c4 : cutD [D.str (Str.ofString "or"), p'.d, q.d] none (some 2) = [D.str "or", p'.d] := rfl
    have c5 : cutD [D.str (Str.ofString "or"), p'.d, q.d] (some 3) none = [] := rfl
    by_cases p : dr ns k % 5 = 0
    · have h4 : dr ns (k + 1) % 4 = 0 ∨ dr ns (k + 1) % 4 = 1 ∨ dr ns (k + 1) % 4 = 2 ∨ dr ns (k + 1) % 4 = 3 := by omega
      rcases h4 with z | z | z | z
      · refine ⟨.now (.lst [.str "or", p'.d, q.d]), k + 1 + 1, now_noTup _ (fun _ z => by cases z) (by simp [DL.plain, DL.plains, plq]), by simp [Bt.sz, Qn.sz], ?_⟩
        rw [spn]; simp -implicitDefEqProofs [M.b__law_spoilt_v4, Qn.d, Bt.d, i, p, z, up_or, cut_dec, c1, c2, c3, big2, big3, big4]
      · refine ⟨.now (.tup [.str "or"]), k + 1 + 1, now_two _ (.inr rfl) _ (by simp), by simp [Bt.sz, Qn.sz], ?_⟩
        rw [spn]; simp -implicitDefEqProofs [M.b__law_spoilt_v4, Qn.d, Bt.d, i, p, z, up_or, cut_dec, c1, c2, c3, big2, big3, big4]
      · refine ⟨.now (.tup [.str "or", p'.d, q.d, roomD]), k + 1 + 1, now_two _ (.inr rfl) _ (by simp), by simp [Bt.sz, Qn.sz], ?_⟩
        rw [spn]; simp -implicitDefEqProofs [M.b__law_spoilt_v4, Qn.d, Bt.d, i, p, z, up_or, cut_dec, c1, c2, c3, big2, big3, big4, roomD]
      · refine ⟨.now (.tup [.str "OR", p'.d, q.d]), k + 1 + 1, now_leaf _ _ (by simp [plq]) (leafN _ (.inr (.inr rfl)) []).2 (leafN _ (.inr (.inr rfl)) _).1, by simp [Bt.sz, Qn.sz], ?_⟩
        rw [spn]; simp -implicitDefEqProofs [M.b__law_spoilt_v4, Qn.d, Bt.d, i, p, z, up_or, cut_dec, c1, c2, c3, big2, big3, big4]
    · have hz : dr ns (k + 1) % 2 = 0 ∨ dr ns (k + 1) % 2 = 1 := by omega
      rcases hz with z | z
      · obtain ⟨b, k', h1, h2, h3⟩ := spoilt_eq e ns R p' n (k + 1 + 1) hf.1 (by simp only [Qn.dep] at hd; omega)
        refine ⟨.l false b q, k', ⟨h1, hf.2⟩, by simp only [Bt.sz, Qn.sz]; omega, ?_⟩
        rw [spn]; simp -implicitDefEqProofs [M.b__law_spoilt_v4, Qn.d, Bt.d, wd, i, p, z, cut_dec, c1, c2, c3, c4, c5, big2, big3, big4, h3]
      · obtain ⟨b, k', h1, h2, h3⟩ := spoilt_eq e ns R q n (k + 1 + 1) hf.2 (by simp only [Qn.dep] at hd; omega)
        refine ⟨.r false p' b, k', ⟨hf.1, h1⟩, by simp only [Bt.sz, Qn.sz]; omega, ?_⟩
        rw [spn]; simp -implicitDefEqProofs [M.b__law_spoilt_v4, Qn.d, Bt.d, wd, i, p, z, cut_dec, c1, c2, c3, c4, c5, big2, big3, big4, h3]
theorem lf_cnt {q : Qn} (h : isLeaf q) : q.lv = 1 ∧ q.jn = 0 := by
  rcases h with ⟨n, rfl⟩ | ⟨u, w, c, rfl⟩ | ⟨u, w, m, c, rfl⟩ <;> exact ⟨rfl, rfl⟩
theorem many_eq (e : EX) (ns : List Int) (k : Nat) : ∃ (q : Qn) (k' : Nat), q.fit ∧ q.sz ≤ 39 ∧ (4 < q.lv ∨ 6 < q.jn) ∧ M._law_too_many e [.ref 0] (DN ns k) = .ok q.d (DN ns k') := by
  have leaf : ∀ k, ∃ (q : Qn) (k' : Nat), isLeaf q ∧ q.fit ∧ M._law_leaf e [.ref 0] (DN ns k) = .ok q.d (DN ns k') := fun k => by
    have h := leaf_eq e ns k []
    simp only [List.append_nil] at h
    exact h
  by_cases c : dr ns k % 2 = 0
  · obtain ⟨q, k1, l1, f1, e1⟩ := leaf (k + 1)
    obtain ⟨σ', S', e2, q', k2, v2, rfl, rfl, g1, g2, g3⟩ := loop_ok (it := ⟨rgD 0 4, none⟩) (gt := gNm 2) (g := M._law_too_many_1 e) rfl
      (fun i σ T => ∃ (q' : Qn) (k2 : Nat) (v2 : Option D), σ = [some (.ref 0), some q'.d, v2] ∧ T = DN ns k2 ∧ q'.fit ∧ q'.lv = 1 + i ∧ q'.jn = i)
      (rgD 0 4) 0 [some (.ref 0), some q.d, none] (DN ns k1) ⟨q, k1, none, rfl, rfl, f1, (lf_cnt l1).1, (lf_cnt l1).2⟩ (by
        rintro j d σ T ed ⟨q', k2, v2, rfl, rfl, g1, g2, g3⟩
        obtain ⟨p1, k3, l2, f2, e3⟩ := leaf k2
        obtain ⟨p2, k4, l3, f3, e4⟩ := leaf k3
        have hz : dr ns k4 % 2 = 0 ∨ dr ns k4 % 2 = 1 := by omega
        rcases hz with z | z
        · refine ⟨_, _, _, rfl, ?_, .and q' p1, k4 + 1, some d, rfl, rfl, ⟨g1, f2⟩, by simp only [Qn.lv, (lf_cnt l2).1]; omega, by simp only [Qn.jn, (lf_cnt l2).2]; omega⟩
          simp -implicitDefEqProofs [M._law_too_many_1, e3, e4, z, big2, big3, Qn.d]
        · refine ⟨_, _, _, rfl, ?_, .or p2 q', k4 + 1, some d, rfl, rfl, ⟨f3, g1⟩, by simp only [Qn.lv, (lf_cnt l3).1]; omega, by simp only [Qn.jn, (lf_cnt l3).2]; omega⟩
          simp -implicitDefEqProofs [M._law_too_many_1, e3, e4, z, big2, big3, Qn.d])
    have l4 : (rgD 0 4).length = 4 := rfl
    rw [l4] at g2 g3
    refine ⟨q', k2, g1, by have := sz_eq q'; omega, .inl (by omega), ?_⟩
    simp -implicitDefEqProofs [M._law_too_many, M.b__law_too_many, c, e1, sFor, iRg1, show in62 4 = true by decide, e2]
  · obtain ⟨p1, k1, l1, f1, e1⟩ := leaf (k + 1)
    obtain ⟨p2, k2, l2, f2, e2⟩ := leaf k1
    obtain ⟨p3, k3, l3, f3, e3⟩ := leaf k2
    obtain ⟨σ', S', e4, q', v2, rfl, rfl, g1, g2, g3⟩ := loop_ok (it := ⟨rgD 0 5, none⟩) (gt := gNm 2) (g := M._law_too_many_2 e) rfl
      (fun i σ T => ∃ (q' : Qn) (v2 : Option D), σ = [some (.ref 0), some q'.d, v2] ∧ T = DN ns k3 ∧ q'.fit ∧ q'.lv = 3 ∧ q'.jn = 2 + i)
      (rgD 0 5) 0 [some (.ref 0), some (Qn.and p1 (.or p2 p3)).d, none] (DN ns k3) ⟨.and p1 (.or p2 p3), none, rfl, rfl, ⟨f1, f2, f3⟩, by simp only [Qn.lv, (lf_cnt l1).1, (lf_cnt l2).1, (lf_cnt l3).1], by simp only [Qn.jn, (lf_cnt l1).2, (lf_cnt l2).2, (lf_cnt l3).2]⟩ (by
        rintro j d σ T ed ⟨q', v2, rfl, rfl, g1, g2, g3⟩
        refine ⟨_, _, _, rfl, ?_, .not q', some d, rfl, rfl, g1, g2, by simp only [Qn.jn]; omega⟩
        simp -implicitDefEqProofs [M._law_too_many_2, big2, Qn.d])
    have l5 : (rgD 0 5).length = 5 := rfl
    rw [l5] at g3
    refine ⟨q', k3, g1, by have := sz_eq q'; omega, .inr (by omega), ?_⟩
    simp only [Qn.d] at e4
    simp -implicitDefEqProofs [M._law_too_many, M.b__law_too_many, c, e1, e2, e3, sFor, iRg1, show in62 5 = true by decide, e4, big3]
end Kh
end

section
set_option Elab.async false
set_option linter.all false
set_option maxRecDepth 100000
set_option maxHeartbeats 4000000
/-! the law of questions checked -/
namespace Kh
open PySem L2 DL Kg
structure Own (e : EX) : Prop where
  aa : e.em (.ref (e.x .BadArgument)) (.ref (e.x .BadArgument)) = some true
  sa : e.em (.ref (e.x .BadStanding)) (.ref (e.x .BadArgument)) = some false
  la : e.em (.ref (e.x .TooLarge)) (.ref (e.x .BadArgument)) = some false
  sf : e.em (.ref (e.x .BadStanding)) (.ref (e.x .BadFan)) = some false
  ss : e.em (.ref (e.x .BadStanding)) (.ref (e.x .BadStanding)) = some true
  st : e.em (.ref (e.x .BadStanding)) (.ref (e.x .TooLarge)) = some false
  lf : e.em (.ref (e.x .TooLarge)) (.ref (e.x .BadFan)) = some false
  ls : e.em (.ref (e.x .TooLarge)) (.ref (e.x .BadStanding)) = some false
  lt : e.em (.ref (e.x .TooLarge)) (.ref (e.x .TooLarge)) = some true
def bigFan : D := .tup [.int 0, .tup [.int 50, .int 0], .tup []]
theorem lot_ok (e : EX) (S : Sto) : M.check_lot e [.lst [bigFan]] S = .ok .non S := by
  have h := check_lot_eq e [bigFan] S (fun x hx => by rw [List.mem_singleton.mp hx]; rfl) (fun x hx => by
    rw [List.mem_singleton.mp hx]
    intro r b x y u v h
    simp [bigFan] at h)
  rw [h, if_pos (by rfl)]
theorem loop_1 {it : Items} (hw : it.w = none) {gt : FG} {g : FS} {σ σ1 : En} {S : Sto} {d : D} {c : Value} {σ2 : En} {S2 : Sto} (hg : gt d σ S = some σ1) (h : g σ1 S = .raise c σ2 S2) : loopF it gt g [d] σ S = .raise c σ2 S2 := by
  rw [loop_cons (by rw [hw]; trivial) hg, h]; rfl
theorem small_bad (e : EX) (S : Sto) : M.check_small e [.lst [.lst [bigFan]]] S = .raise (.ref (e.x .TooLarge)) S := by
  have i : M.is_small e [bigFan] S = .ok (.bl false) S := by
    simp -implicitDefEqProofs [M.is_small, M.b_is_small, bigFan, cBest, anyT, intsOf, show (12 : Int) < max 50 0 by decide]
  have h1 : loopF ⟨[bigFan], none⟩ (gNm 3) (M.check_small_1 e) [bigFan] [some (.lst [.lst [bigFan]]), some (.int 1), some (.lst [bigFan]), none] S = .raise (.ref (e.x .TooLarge)) [some (.lst [.lst [bigFan]]), some (.int 1), some (.lst [bigFan]), some bigFan] S :=
    loop_1 rfl rfl (by simp -implicitDefEqProofs [M.check_small_1, i])
  have h2 : loopF ⟨[.lst [bigFan]], none⟩ (gNm 2) (M.check_small_2 e) [.lst [bigFan]] [some (.lst [.lst [bigFan]]), some (.int 1), none, none] S = .raise (.ref (e.x .TooLarge)) [some (.lst [.lst [bigFan]]), some (.int 1), some (.lst [bigFan]), some bigFan] S :=
    loop_1 rfl rfl (by simp -implicitDefEqProofs [M.check_small_2, sFor, iSeq, h1])
  simp -implicitDefEqProofs [M.check_small, M.b_check_small, sFor, iSeq, h2]
theorem err_bad (e : EX) (o : Own e) (S : Sto) (d : D) (hq : M.is_question e [d] S = .ok (.bl false) S) (n : Nat) (hn : n ≤ 4) : M._law_error_v2 e [.int n, d] S = .ok (.str "argument") S := by
  have l := lot_ok e S
  simp only [bigFan] at l
  have c : M.check_question e [d] S = .raise (.ref (e.x .BadArgument)) S := by
    simp -implicitDefEqProofs [M.check_question, M.b_check_question, hq]
  have an : anyM e.em (.ref (e.x .BadArgument)) [.ref (e.x .BadArgument)] = some true := by simp [anyM, o.aa]
  have hz : n = 0 ∨ n = 1 ∨ n = 2 ∨ n = 3 ∨ n = 4 := by omega
  rcases hz with rfl | rfl | rfl | rfl | rfl
  · simp -implicitDefEqProofs [M._law_error_v2, M.b__law_error_v2, c, an]
  · simp -implicitDefEqProofs [M._law_error_v2, M.b__law_error_v2, M.holds, M.b_holds, c, an, big3]
  · simp -implicitDefEqProofs [M._law_error_v2, M.b__law_error_v2, M.answers, M.b_answers, c, an, l, big2, big3]
  · simp -implicitDefEqProofs [M._law_error_v2, M.b__law_error_v2, M.every, M.b_every, c, an, l, big2, big3]
  · simp -implicitDefEqProofs [M._law_error_v2, M.b__law_error_v2, M.format_question, M.b_format_question, c, an]
theorem err_ok (e : EX) (o : Own e) (S : Sto) (d : D) (hq : M.is_question e [d] S = .ok (.bl true) S) (n : Int) (hn : n = 1 ∨ n = 2 ∨ n = 3) : M._law_error_v2 e [.int n, d] S = .ok (.str "other") S := by
  have l := lot_ok e S
  have sb := small_bad e S
  simp only [bigFan] at l sb
  have c : M.check_question e [d] S = .ok .non S := by
    simp -implicitDefEqProofs [M.check_question, M.b_check_question, hq]
  have p := is_place_eq e (.tup [.int 9, .int (-1), .int 0]) S rfl
  rw [show isPlaceB (.tup [.int 9, .int (-1), .int 0]) = false from rfl] at p
  have a1 : anyM e.em (.ref (e.x .BadStanding)) [.ref (e.x .BadArgument)] = some false := by simp [anyM, o.sa]
  have a2 : anyM e.em (.ref (e.x .BadStanding)) [.ref (e.x .BadFan), .ref (e.x .BadStanding), .ref (e.x .TooLarge)] = some true := by simp [anyM, o.sf, o.ss, o.st]
  have a3 : anyM e.em (.ref (e.x .TooLarge)) [.ref (e.x .BadArgument)] = some false := by simp [anyM, o.la]
  have a4 : anyM e.em (.ref (e.x .TooLarge)) [.ref (e.x .BadFan), .ref (e.x .BadStanding), .ref (e.x .TooLarge)] = some true := by simp [anyM, o.lf, o.ls, o.lt]
  rcases hn with rfl | rfl | rfl
  · simp -implicitDefEqProofs [M._law_error_v2, M.b__law_error_v2, M.holds, M.b_holds, c, p, a1, a2, big3]
  · simp -implicitDefEqProofs [M._law_error_v2, M.b__law_error_v2, M.answers, M.b_answers, c, sb, l, a3, a4, big2, big3, show (1 : Nat) ≤ BIG by decide +kernel]
  · simp -implicitDefEqProofs [M._law_error_v2, M.b__law_error_v2, M.every, M.b_every, c, sb, l, a3, a4, big2, big3, show (1 : Nat) ≤ BIG by decide +kernel]
theorem names_loop (e : EX) (o : Own e) (ns : List Int) (k : Nat) (d : D) (hq : M.is_question e [d] (DN ns k) = .ok (.bl false) (DN ns k)) (v0 v2 v4 v5 : Option D) :
    ∃ w5, loopF ⟨rgD 0 5, none⟩ (gNm 5) (M.law_v8_1 e) (rgD 0 5) [v0, some (.ref 0), v2, some d, v4, v5] (DN ns k) = .nx [v0, some (.ref 0), v2, some d, v4, w5] (DN ns k) := by
  obtain ⟨σ', S', e1, w5, rfl, rfl⟩ := loop_ok (it := ⟨rgD 0 5, none⟩) (gt := gNm 5) (g := M.law_v8_1 e) rfl
    (fun i σ T => ∃ w5 : Option D, σ = [v0, some (.ref 0), v2, some d, v4, w5] ∧ T = DN ns k)
    (rgD 0 5) 0 [v0, some (.ref 0), v2, some d, v4, v5] (DN ns k) ⟨v5, rfl, rfl⟩ (by
      rintro j d' σ T ed ⟨w5, rfl, rfl⟩
      have hj : j < 5 := (List.getElem?_eq_some_iff.mp ed).1
      have hd : d' = .int j := by
        simp [rgD, List.getElem?_map, List.getElem?_range hj] at ed
        exact ed.symm
      subst hd
      have h := err_bad e o (DN ns k) d hq j (by omega)
      refine ⟨_, _, _, rfl, ?_, some (.int j), rfl, rfl⟩
      simp -implicitDefEqProofs [M.law_v8_1, h])
  exact ⟨w5, e1⟩
theorem turn_eq (e : EX) (o : Own e) (hW : e.nW = 40) (ns : List Int) (k : Nat) (v0 v2 v3 v4 v5 : Option D) :
    ∃ (k' : Nat) (w3 w4 w5 : Option D), M.law_v8_2 e [v0, some (.ref 0), v2, v3, v4, v5] (DN ns k) = .nx [v0, some (.ref 0), v2, w3, w4, w5] (DN ns k') := by
  obtain ⟨q, k1, hf, h1, h2, e1⟩ := question_eq e hW ns k
  have hsz : q.sz ≤ 39 := by have := sz_eq q; omega
  have hdep : q.dep < 12 := by have := dep_le q; omega
  have spo : ∀ k, ∃ (b : Bt) (k' : Nat), b.ok ∧ b.sz ≤ q.sz ∧ M._law_spoilt_v4 e [.ref 0, q.d] (DN ns k) = .ok b.d (DN ns k') := fun k => by
    have h := spoilt_eq e ns [] q 12 k hf hdep
    simp only [List.append_nil] at h
    exact h
  have i5 : in62 5 = true := by decide
  have hp : dr ns k1 % 3 = 0 ∨ dr ns k1 % 3 = 1 ∨ dr ns k1 % 3 = 2 := by omega
  rcases hp with p | p | p
  · have cq := is_question_eq e hW (DN ns (k1 + 1)) (clean_DN (k := k1 + 1)) q hf h1 h2 hsz
    have cq2 := is_question_eq e hW (DN ns (k1 + 1 + 1)) (clean_DN (k := k1 + 1 + 1)) q hf h1 h2 hsz
    have c : M.check_question e [q.d] (DN ns (k1 + 1)) = .ok .non (DN ns (k1 + 1)) := by
      simp -implicitDefEqProofs [M.check_question, M.b_check_question, cq]
    have er := err_ok e o (DN ns (k1 + 1 + 1)) q.d cq2 (1 + dr ns (k1 + 1) % 3) (by omega)
    refine ⟨k1 + 1 + 1, some q.d, some (.int 0), v5, ?_⟩
    simp -implicitDefEqProofs [M.law_v8_2, e1, p, c, er]
  · obtain ⟨b, k2, b1, b2, e2⟩ := spo (k1 + 1)
    have bq := bad_question e hW (DN ns k2) (clean_DN (k := k2)) b b1 (by omega)
    obtain ⟨w5, l⟩ := names_loop e o ns k2 b.d bq v0 v2 (some (.int 1)) v5
    refine ⟨k2, some b.d, some (.int 1), w5, ?_⟩
    simp -implicitDefEqProofs [M.law_v8_2, e1, p, e2, sFor, iRg1, i5, l]
  · by_cases c : dr ns (k1 + 1) % 3 = 0
    · obtain ⟨q', k2, g1, g2, g3, e2⟩ := many_eq e ns (k1 + 1 + 1)
      have bq := over_question e hW (DN ns k2) (clean_DN (k := k2)) q' g1 g2 g3
      obtain ⟨w5, l⟩ := names_loop e o ns k2 q'.d bq v0 v2 (some (.int 1)) v5
      refine ⟨k2, some q'.d, some (.int 1), w5, ?_⟩
      simp -implicitDefEqProofs [M.law_v8_2, e1, p, c, e2, sFor, iRg1, i5, l]
    · obtain ⟨b, k2, b1, b2, e2⟩ := spo (k1 + 1 + 1)
      have bq := bad_question e hW (DN ns k2) (clean_DN (k := k2)) b b1 (by omega)
      obtain ⟨w5, l⟩ := names_loop e o ns k2 b.d bq v0 v2 (some (.int 1)) v5
      refine ⟨k2, some b.d, some (.int 1), w5, ?_⟩
      simp -implicitDefEqProofs [M.law_v8_2, e1, p, c, e2, sFor, iRg1, i5, l]
theorem fin (e : EX) (o : Own e) (hW : e.nW = 40) (ns : List Int) (hl : ns.length ≤ 63) : ∃ S', M.law_v8 e [.frz (ns.map .int)] [] = .ok (.bl true) S' := by
  obtain ⟨ms, hm, _, en⟩ := numbers_eq e ns [] hl rfl
  obtain ⟨σ', S', e2, kk, w2, w3, w4, w5, rfl, rfl⟩ := loop_ok (it := ⟨rgD 0 6, none⟩) (gt := gNm 2) (g := M.law_v8_2 e) rfl
    (fun i σ T => ∃ (kk : Nat) (w2 w3 w4 w5 : Option D), σ = [some (.frz (ns.map .int)), some (.ref 0), w2, w3, w4, w5] ∧ T = DN ms kk)
    (rgD 0 6) 0 [some (.frz (ns.map .int)), some (.ref 0), none, none, none, none] (DN ms 0) ⟨0, none, none, none, none, rfl, rfl⟩ (by
      rintro j d σ T ed ⟨kk, w2, w3, w4, w5, rfl, rfl⟩
      obtain ⟨k', x3, x4, x5, e3⟩ := turn_eq e o hW ms kk (some (.frz (ns.map .int))) (some d) w3 w4 w5
      exact ⟨_, _, _, rfl, e3, k', some d, x3, x4, x5, rfl, rfl⟩)
  refine ⟨DN ms kk, ?_⟩
  have e2' : loopF ⟨rgD 0 6, none⟩ (gNm 2) (M.law_v8_2 e) (rgD 0 6) [some (.frz (ns.map .int)), some (.ref 0), none, none, none, none] [.lst [.lst (ms.map .int), .int 0]] = _ := e2
  simp -implicitDefEqProofs [M.law_v8, M.b_law_v8, en, sFor, iRg1, show in62 6 = true by decide, e2', big2]
end Kh
end

section
set_option Elab.async false
set_option linter.all false
set_option maxRecDepth 100000
set_option maxHeartbeats 4000000
namespace Kh
open PySem PySem.Spec PyProof.Rows L2 DL
def top (i : Nat) : Stmt := PySem.Challenge.pw_twinpurse_k27_questions_are_checked.main.body.getD i (.Pass ⟨0, 0, 0, 0⟩)
abbrev s__law_mixed : Stmt := top 68
abbrev s__law_numbers : Stmt := top 69
abbrev s__law_draw : Stmt := top 70
abbrev s__law_leaf : Stmt := top 71
abbrev s__law_question : Stmt := top 72
abbrev s__law_odd : Stmt := top 73
abbrev s__law_spoilt_leaf : Stmt := top 74
abbrev s__law_spoilt : Stmt := top 75
abbrev s__law_too_many : Stmt := top 76
abbrev s_is_within : Stmt := top 8
abbrev s_is_plain : Stmt := top 52
abbrev s_is_question : Stmt := top 53
abbrev s_check_question : Stmt := top 54
abbrev s_is_so : Stmt := top 56
abbrev s_is_natural : Stmt := top 9
abbrev s_is_tuple : Stmt := top 10
abbrev s_is_place : Stmt := top 11
abbrev s_holds : Stmt := top 57
abbrev s_is_pair : Stmt := top 13
abbrev s_cross : Stmt := top 14
abbrev s_check_fan : Stmt := top 15
abbrev s_check_lot : Stmt := top 16
abbrev s_is_small : Stmt := top 41
abbrev s_check_small : Stmt := top 42
abbrev s_answers : Stmt := top 60
abbrev s_every : Stmt := top 61
abbrev s_format_question : Stmt := top 65
abbrev s__law_error : Stmt := top 77
abbrev s_law : Stmt := top 78
abbrev N__law_mixed : List Str := ["cell", "k", "step"]
abbrev N__law_numbers : List Str := ["script", "numbers", "cell", "rest", "k"]
abbrev N__law_draw : List Str := ["draws", "at", "first"]
abbrev N__law_leaf : List Str := ["draws", "pick", "u", "v", "wide", "m"]
abbrev N__law_question : List Str := ["draws", "parts_v", "left", "at", "other", "joined_v", "k"]
abbrev N__law_odd : List Str := ["draws"]
abbrev N__law_spoilt_leaf : List Str := ["draws", "leaf", "pick", "at"]
abbrev N__law_spoilt : List Str := ["draws", "question", "word", "pick", "turned", "at"]
abbrev N__law_too_many : List Str := ["draws", "question", "k"]
abbrev N_is_within : List Str := ["value", "least", "most"]
abbrev N_is_plain : List Str := ["question", "word"]
abbrev N_is_question : List Str := ["question", "left", "plain", "joined", "one"]
abbrev N_check_question : List Str := ["question"]
abbrev N_is_so : List Str := ["question", "standing", "word", "room", "a", "b"]
abbrev N_is_natural : List Str := ["value"]
abbrev N_is_tuple : List Str := ["value", "size"]
abbrev N_is_place : List Str := ["value"]
abbrev N_holds : List Str := ["question", "standing"]
abbrev N_is_pair : List Str := ["value"]
abbrev N_cross : List Str := ["one", "other"]
abbrev N_check_fan : List Str := ["fan", "rays", "ray"]
abbrev N_check_lot : List Str := ["lot", "fan"]
abbrev N_is_small : List Str := ["fan", "ray"]
abbrev N_check_small : List Str := ["lots", "common", "lot", "fan"]
abbrev N_answers : List Str := ["lot", "question"]
abbrev N_every : List Str := ["lot", "question"]
abbrev N_format_question : List Str := ["question"]
abbrev N__law_error : List Str := ["name", "question"]
abbrev N_law : List Str := ["script", "draws", "turn", "question", "pick", "name"]
structure Ad where
  f__law_mixed : Addr
  d__law_mixed : FuncData
  f__law_numbers : Addr
  d__law_numbers : FuncData
  f__law_draw : Addr
  d__law_draw : FuncData
  f__law_leaf : Addr
  d__law_leaf : FuncData
  f__law_question : Addr
  d__law_question : FuncData
  f__law_odd : Addr
  d__law_odd : FuncData
  f__law_spoilt_leaf : Addr
  d__law_spoilt_leaf : FuncData
  f__law_spoilt : Addr
  d__law_spoilt : FuncData
  f__law_too_many : Addr
  d__law_too_many : FuncData
  f_is_within : Addr
  d_is_within : FuncData
  f_is_plain : Addr
  d_is_plain : FuncData
  f_is_question : Addr
  d_is_question : FuncData
  f_check_question : Addr
  d_check_question : FuncData
  f_is_so : Addr
  d_is_so : FuncData
  f_is_natural : Addr
  d_is_natural : FuncData
  f_is_tuple : Addr
  d_is_tuple : FuncData
  f_is_place : Addr
  d_is_place : FuncData
  f_holds : Addr
  d_holds : FuncData
  f_is_pair : Addr
  d_is_pair : FuncData
  f_cross : Addr
  d_cross : FuncData
  f_check_fan : Addr
  d_check_fan : FuncData
  f_check_lot : Addr
  d_check_lot : FuncData
  f_is_small : Addr
  d_is_small : FuncData
  f_check_small : Addr
  d_check_small : FuncData
  f_answers : Addr
  d_answers : FuncData
  f_every : Addr
  d_every : FuncData
  f_format_question : Addr
  d_format_question : FuncData
  f__law_error : Addr
  d__law_error : FuncData
  f_law : Addr
  d_law : FuncData
  t_BASE : Tok
  t_BOUND : Tok
  t_DIVISOR : Tok
  t_FACTOR : Tok
  t_FANS : Tok
  t_GRAIN : Tok
  t_JOINED : Tok
  t_PLAIN : Tok
  t_RAY : Tok
  t_ROOMS : Tok
structure Txt (K : PySem.W.Frag) (mg : Str → Option Value) (e : EX) (a : Ad) : Prop where
  em : e.em = PySem.W.exmOne K
  g__law_mixed : mg "_law_mixed" = some (.ref a.f__law_mixed)
  F__law_mixed : L2.Fun K "_law_mixed" "_law_mixed" s__law_mixed a.f__law_mixed a.d__law_mixed
  k__law_mixed : PySem.W.keepIn K (.ref a.f__law_mixed) = true
  g__law_numbers : mg "_law_numbers" = some (.ref a.f__law_numbers)
  F__law_numbers : L2.Fun K "_law_numbers" "_law_numbers" s__law_numbers a.f__law_numbers a.d__law_numbers
  k__law_numbers : PySem.W.keepIn K (.ref a.f__law_numbers) = true
  g__law_draw : mg "_law_draw" = some (.ref a.f__law_draw)
  F__law_draw : L2.Fun K "_law_draw" "_law_draw" s__law_draw a.f__law_draw a.d__law_draw
  k__law_draw : PySem.W.keepIn K (.ref a.f__law_draw) = true
  g__law_leaf : mg "_law_leaf" = some (.ref a.f__law_leaf)
  F__law_leaf : L2.Fun K "_law_leaf" "_law_leaf" s__law_leaf a.f__law_leaf a.d__law_leaf
  k__law_leaf : PySem.W.keepIn K (.ref a.f__law_leaf) = true
  g__law_question : mg "_law_question" = some (.ref a.f__law_question)
  F__law_question : L2.Fun K "_law_question" "_law_question" s__law_question a.f__law_question a.d__law_question
  k__law_question : PySem.W.keepIn K (.ref a.f__law_question) = true
  g__law_odd : mg "_law_odd" = some (.ref a.f__law_odd)
  F__law_odd : L2.Fun K "_law_odd" "_law_odd" s__law_odd a.f__law_odd a.d__law_odd
  k__law_odd : PySem.W.keepIn K (.ref a.f__law_odd) = true
  g__law_spoilt_leaf : mg "_law_spoilt_leaf" = some (.ref a.f__law_spoilt_leaf)
  F__law_spoilt_leaf : L2.Fun K "_law_spoilt_leaf" "_law_spoilt_leaf" s__law_spoilt_leaf a.f__law_spoilt_leaf a.d__law_spoilt_leaf
  k__law_spoilt_leaf : PySem.W.keepIn K (.ref a.f__law_spoilt_leaf) = true
  g__law_spoilt : mg "_law_spoilt" = some (.ref a.f__law_spoilt)
  F__law_spoilt : L2.Fun K "_law_spoilt" "_law_spoilt" s__law_spoilt a.f__law_spoilt a.d__law_spoilt
  k__law_spoilt : PySem.W.keepIn K (.ref a.f__law_spoilt) = true
  g__law_too_many : mg "_law_too_many" = some (.ref a.f__law_too_many)
  F__law_too_many : L2.Fun K "_law_too_many" "_law_too_many" s__law_too_many a.f__law_too_many a.d__law_too_many
  k__law_too_many : PySem.W.keepIn K (.ref a.f__law_too_many) = true
  g_is_within : mg "is_within" = some (.ref a.f_is_within)
  F_is_within : L2.Fun K "is_within" "is_within" s_is_within a.f_is_within a.d_is_within
  k_is_within : PySem.W.keepIn K (.ref a.f_is_within) = true
  g_is_plain : mg "is_plain" = some (.ref a.f_is_plain)
  F_is_plain : L2.Fun K "is_plain" "is_plain" s_is_plain a.f_is_plain a.d_is_plain
  k_is_plain : PySem.W.keepIn K (.ref a.f_is_plain) = true
  g_is_question : mg "is_question" = some (.ref a.f_is_question)
  F_is_question : L2.Fun K "is_question" "is_question" s_is_question a.f_is_question a.d_is_question
  k_is_question : PySem.W.keepIn K (.ref a.f_is_question) = true
  g_check_question : mg "check_question" = some (.ref a.f_check_question)
  F_check_question : L2.Fun K "check_question" "check_question" s_check_question a.f_check_question a.d_check_question
  k_check_question : PySem.W.keepIn K (.ref a.f_check_question) = true
  g_is_so : mg "is_so" = some (.ref a.f_is_so)
  F_is_so : L2.Fun K "is_so" "is_so" s_is_so a.f_is_so a.d_is_so
  k_is_so : PySem.W.keepIn K (.ref a.f_is_so) = true
  g_is_natural : mg "is_natural" = some (.ref a.f_is_natural)
  F_is_natural : L2.Fun K "is_natural" "is_natural" s_is_natural a.f_is_natural a.d_is_natural
  k_is_natural : PySem.W.keepIn K (.ref a.f_is_natural) = true
  g_is_tuple : mg "is_tuple" = some (.ref a.f_is_tuple)
  F_is_tuple : L2.Fun K "is_tuple" "is_tuple" s_is_tuple a.f_is_tuple a.d_is_tuple
  k_is_tuple : PySem.W.keepIn K (.ref a.f_is_tuple) = true
  g_is_place : mg "is_place" = some (.ref a.f_is_place)
  F_is_place : L2.Fun K "is_place" "is_place" s_is_place a.f_is_place a.d_is_place
  k_is_place : PySem.W.keepIn K (.ref a.f_is_place) = true
  g_holds : mg "holds" = some (.ref a.f_holds)
  F_holds : L2.Fun K "holds" "holds" s_holds a.f_holds a.d_holds
  k_holds : PySem.W.keepIn K (.ref a.f_holds) = true
  g_is_pair : mg "is_pair" = some (.ref a.f_is_pair)
  F_is_pair : L2.Fun K "is_pair" "is_pair" s_is_pair a.f_is_pair a.d_is_pair
  k_is_pair : PySem.W.keepIn K (.ref a.f_is_pair) = true
  g_cross : mg "cross" = some (.ref a.f_cross)
  F_cross : L2.Fun K "cross" "cross" s_cross a.f_cross a.d_cross
  k_cross : PySem.W.keepIn K (.ref a.f_cross) = true
  g_check_fan : mg "check_fan" = some (.ref a.f_check_fan)
  F_check_fan : L2.Fun K "check_fan" "check_fan" s_check_fan a.f_check_fan a.d_check_fan
  k_check_fan : PySem.W.keepIn K (.ref a.f_check_fan) = true
  g_check_lot : mg "check_lot" = some (.ref a.f_check_lot)
  F_check_lot : L2.Fun K "check_lot" "check_lot" s_check_lot a.f_check_lot a.d_check_lot
  k_check_lot : PySem.W.keepIn K (.ref a.f_check_lot) = true
  g_is_small : mg "is_small" = some (.ref a.f_is_small)
  F_is_small : L2.Fun K "is_small" "is_small" s_is_small a.f_is_small a.d_is_small
  k_is_small : PySem.W.keepIn K (.ref a.f_is_small) = true
  g_check_small : mg "check_small" = some (.ref a.f_check_small)
  F_check_small : L2.Fun K "check_small" "check_small" s_check_small a.f_check_small a.d_check_small
  k_check_small : PySem.W.keepIn K (.ref a.f_check_small) = true
  g_answers : mg "answers" = some (.ref a.f_answers)
  F_answers : L2.Fun K "answers" "answers" s_answers a.f_answers a.d_answers
  k_answers : PySem.W.keepIn K (.ref a.f_answers) = true
  g_every : mg "every" = some (.ref a.f_every)
  F_every : L2.Fun K "every" "every" s_every a.f_every a.d_every
  k_every : PySem.W.keepIn K (.ref a.f_every) = true
  g_format_question : mg "format_question" = some (.ref a.f_format_question)
  F_format_question : L2.Fun K "format_question" "format_question" s_format_question a.f_format_question a.d_format_question
  k_format_question : PySem.W.keepIn K (.ref a.f_format_question) = true
  g__law_error : mg "_law_error" = some (.ref a.f__law_error)
  F__law_error : L2.Fun K "_law_error" "_law_error" s__law_error a.f__law_error a.d__law_error
  k__law_error : PySem.W.keepIn K (.ref a.f__law_error) = true
  g_law : mg "law" = some (.ref a.f_law)
  F_law : L2.Fun K "law" "law" s_law a.f_law a.d_law
  k_law : PySem.W.keepIn K (.ref a.f_law) = true
  z_bool : mg "bool" = none
  z_int : mg "int" = none
  z_isinstance : mg "isinstance" = none
  z_len : mg "len" = none
  z_list : mg "list" = none
  z_max : mg "max" = none
  z_range : mg "range" = none
  z_str : mg "str" = none
  z_tuple : mg "tuple" = none
  g_BASE : mg "BASE" = some (.int 12 a.t_BASE)
  g_BOUND : mg "BOUND" = some (.int 99 a.t_BOUND)
  g_DIVISOR : mg "DIVISOR" = some (.int 6 a.t_DIVISOR)
  g_FACTOR : mg "FACTOR" = some (.int 6 a.t_FACTOR)
  g_FANS : mg "FANS" = some (.int 4 a.t_FANS)
  g_GRAIN : mg "GRAIN" = some (.int 6 a.t_GRAIN)
  g_JOINED : mg "JOINED" = some (.int 6 a.t_JOINED)
  g_PLAIN : mg "PLAIN" = some (.int 4 a.t_PLAIN)
  g_RAY : mg "RAY" = some (.int 4 a.t_RAY)
  g_ROOMS : mg "ROOMS" = some (.int 3 a.t_ROOMS)
  g_BadArgument : mg "BadArgument" = some (.ref (e.x .BadArgument))
  x_BadArgument : PySem.W.excIn K (e.x .BadArgument) [.type "ValueError", .type "Exception", .type "BaseException", .type "object"] "ValueError.__new__" = true
  k_BadArgument : PySem.W.keepIn K (.ref (e.x .BadArgument)) = true
  b_BadArgument : PySem.W.subIn K (.ref (e.x .BadArgument)) (.type "BaseException") = some true
  t_BadArgument : PySem.W.typeIn K (.ref (e.x .BadArgument)) = some (.type "type")
  h_BadArgument : PySem.W.hasDictIn K (e.x .BadArgument) = true
  g_BadFan : mg "BadFan" = some (.ref (e.x .BadFan))
  x_BadFan : PySem.W.excIn K (e.x .BadFan) [.type "ValueError", .type "Exception", .type "BaseException", .type "object"] "ValueError.__new__" = true
  k_BadFan : PySem.W.keepIn K (.ref (e.x .BadFan)) = true
  b_BadFan : PySem.W.subIn K (.ref (e.x .BadFan)) (.type "BaseException") = some true
  t_BadFan : PySem.W.typeIn K (.ref (e.x .BadFan)) = some (.type "type")
  h_BadFan : PySem.W.hasDictIn K (e.x .BadFan) = true
  g_BadStanding : mg "BadStanding" = some (.ref (e.x .BadStanding))
  x_BadStanding : PySem.W.excIn K (e.x .BadStanding) [.type "ValueError", .type "Exception", .type "BaseException", .type "object"] "ValueError.__new__" = true
  k_BadStanding : PySem.W.keepIn K (.ref (e.x .BadStanding)) = true
  b_BadStanding : PySem.W.subIn K (.ref (e.x .BadStanding)) (.type "BaseException") = some true
  t_BadStanding : PySem.W.typeIn K (.ref (e.x .BadStanding)) = some (.type "type")
  h_BadStanding : PySem.W.hasDictIn K (e.x .BadStanding) = true
  g_TooLarge : mg "TooLarge" = some (.ref (e.x .TooLarge))
  x_TooLarge : PySem.W.excIn K (e.x .TooLarge) [.type "ValueError", .type "Exception", .type "BaseException", .type "object"] "ValueError.__new__" = true
  k_TooLarge : PySem.W.keepIn K (.ref (e.x .TooLarge)) = true
  b_TooLarge : PySem.W.subIn K (.ref (e.x .TooLarge)) (.type "BaseException") = some true
  t_TooLarge : PySem.W.typeIn K (.ref (e.x .TooLarge)) = some (.type "type")
  h_TooLarge : PySem.W.hasDictIn K (e.x .TooLarge) = true
  u_BadArgument_BadArgument : e.em (.ref (e.x .BadArgument)) (.ref (e.x .BadArgument)) = some true
  u_BadArgument_BadFan : e.em (.ref (e.x .BadArgument)) (.ref (e.x .BadFan)) = some false
  u_BadArgument_BadStanding : e.em (.ref (e.x .BadArgument)) (.ref (e.x .BadStanding)) = some false
  u_BadArgument_TooLarge : e.em (.ref (e.x .BadArgument)) (.ref (e.x .TooLarge)) = some false
  u_BadFan_BadArgument : e.em (.ref (e.x .BadFan)) (.ref (e.x .BadArgument)) = some false
  u_BadFan_BadFan : e.em (.ref (e.x .BadFan)) (.ref (e.x .BadFan)) = some true
  u_BadFan_BadStanding : e.em (.ref (e.x .BadFan)) (.ref (e.x .BadStanding)) = some false
  u_BadFan_TooLarge : e.em (.ref (e.x .BadFan)) (.ref (e.x .TooLarge)) = some false
  u_BadStanding_BadArgument : e.em (.ref (e.x .BadStanding)) (.ref (e.x .BadArgument)) = some false
  u_BadStanding_BadFan : e.em (.ref (e.x .BadStanding)) (.ref (e.x .BadFan)) = some false
  u_BadStanding_BadStanding : e.em (.ref (e.x .BadStanding)) (.ref (e.x .BadStanding)) = some true
  u_BadStanding_TooLarge : e.em (.ref (e.x .BadStanding)) (.ref (e.x .TooLarge)) = some false
  u_TooLarge_BadArgument : e.em (.ref (e.x .TooLarge)) (.ref (e.x .BadArgument)) = some false
  u_TooLarge_BadFan : e.em (.ref (e.x .TooLarge)) (.ref (e.x .BadFan)) = some false
  u_TooLarge_BadStanding : e.em (.ref (e.x .TooLarge)) (.ref (e.x .BadStanding)) = some false
  u_TooLarge_TooLarge : e.em (.ref (e.x .TooLarge)) (.ref (e.x .TooLarge)) = some true
section
variable {P : Program} {w : World} {K : PySem.W.Frag} {mg : Str → Option Value} {base : Heap} {e : EX} {a : Ad}
theorem bi__law_mixed (T : Txt K mg e a) : Binds K a.d__law_mixed ["cell", "k"] [] := T.F__law_mixed.binds fun _ _ _ _ _ _ us hl => match us, hl with | [_, _], _ => rfl
theorem sc__law_mixed : FnScope N__law_mixed ["cell", "k"] (defScope s__law_mixed) := ⟨rfl, rfl, rfl, by decide +kernel, rfl, by decide +kernel, by decide +kernel⟩
theorem ok__law_mixed (T : Txt K mg e a) : FnG P w K mg base 1 a.f__law_mixed a.d__law_mixed ["cell", "k"] (spD K 2 (M._law_mixed e)) :=
  fn_d (N := N__law_mixed) (ps := ["cell", "k"]) T.F__law_mixed sc__law_mixed fun cdv A outer s H E hr cx own => by
    unfold M.b__law_mixed
    exact (dss_cons (ds_set 2 cx (de_mod (de_add (de_add (de_mul (de_var 0) de_int) (de_mul (de_var 1) de_int)) de_int) de_int)) (dss_one (ds_ret (de_mod (de_add (de_mul (de_var 2) (de_add (de_div (de_var 2) de_int) de_int)) (de_var 1)) de_int))))
theorem bi__law_numbers (T : Txt K mg e a) : Binds K a.d__law_numbers ["script"] [] := T.F__law_numbers.binds fun _ _ _ _ _ _ us hl => match us, hl with | [_], _ => rfl
theorem sc__law_numbers : FnScope N__law_numbers ["script"] (defScope s__law_numbers) := ⟨rfl, rfl, rfl, by decide +kernel, rfl, by decide +kernel, by decide +kernel⟩
theorem ok__law_numbers (T : Txt K mg e a) : FnG P w K mg base 2 a.f__law_numbers a.d__law_numbers ["script"] (spD K 1 (M._law_numbers e)) :=
  FnG.frz (fn_d (N := N__law_numbers) (ps := ["script"]) T.F__law_numbers sc__law_numbers fun cdv A outer s H E hr cx own => by
    unfold M.b__law_numbers
    exact (dss_cons (ds_set 1 cx (de_new da_nil)) (dss_cons (ds_for cx own (di_seq (de_var 0)) (dg_name 2 cx.nd) (dss_one (ds_if (dt_ge (de_var 2) (de_pow de_int de_int)) (dss_cons (ds_set 3 cx (de_var 2)) (dss_one (ds_for cx own (di_range1 T.z_range (da_cons de_int da_nil)) (dg_name 4 cx.nd) (dss_one (ds_if (dt_gt (de_var 3) de_int) (dss_cons (ds_expr (de_append (de_var 1) (da_cons (de_mod (de_var 3) de_int) da_nil))) (dss_one (ds_set 3 cx (de_div (de_var 3) de_int)))) dss_nil))))) (dss_cons (ds_expr (de_append (de_var 1) (da_cons (de_mod (de_var 2) de_int) da_nil))) (dss_one (ds_for cx own (di_range1 T.z_range (da_cons de_int da_nil)) (dg_name 4 cx.nd) (dss_one (ds_expr (de_append (de_var 1) (da_cons (de_mod (de_call cx (ok__law_mixed T) (hr.mono (by decide)) T.g__law_mixed T.k__law_mixed (bi__law_mixed T) (da_cons (de_call cx (ok__law_mixed T) (hr.mono (by decide)) T.g__law_mixed T.k__law_mixed (bi__law_mixed T) (da_cons (de_mod (de_var 2) de_int) (da_cons (de_var 4) da_nil))) (da_cons (de_add (de_var 4) de_int) da_nil))) de_int) da_nil)))))))))) (dss_one (ds_ret (de_var 1))))))
theorem bi__law_draw (T : Txt K mg e a) : Binds K a.d__law_draw ["draws"] [] := T.F__law_draw.binds fun _ _ _ _ _ _ us hl => match us, hl with | [_], _ => rfl
theorem sc__law_draw : FnScope N__law_draw ["draws"] (defScope s__law_draw) := ⟨rfl, rfl, rfl, by decide +kernel, rfl, by decide +kernel, by decide +kernel⟩
theorem ok__law_draw (T : Txt K mg e a) : FnG P w K mg base 2 a.f__law_draw a.d__law_draw ["draws"] (spD K 1 (M._law_draw e)) :=
  fn_d (N := N__law_draw) (ps := ["draws"]) T.F__law_draw sc__law_draw fun cdv A outer s H E hr cx own => by
    unfold M.b__law_draw
    exact (dss_cons (ds_set 1 cx (de_ix (de_var 0) de_int)) (dss_cons (ds_put (de_add (de_var 1) de_int) (de_var 0) de_int) (dss_cons (ds_if (dt_lt (de_var 1) (de_b call_len callD_len T.z_len (by decide +kernel) (da_cons (de_ix (de_var 0) de_int) da_nil))) (dss_one (ds_ret (de_ix (de_ix (de_var 0) de_int) (de_var 1)))) dss_nil) (dss_cons (ds_set 2 cx (de_add de_int (de_var 1))) (dss_cons (ds_if (dt_gt (de_b call_len callD_len T.z_len (by decide +kernel) (da_cons (de_ix (de_var 0) de_int) da_nil)) de_int) (dss_one (ds_set 2 cx (de_add (de_var 2) (de_mul de_int (de_ix (de_ix (de_var 0) de_int) de_int))))) dss_nil) (dss_one (ds_ret (de_mod (de_call cx (ok__law_mixed T) (hr.mono (by decide)) T.g__law_mixed T.k__law_mixed (bi__law_mixed T) (da_cons (de_call cx (ok__law_mixed T) (hr.mono (by decide)) T.g__law_mixed T.k__law_mixed (bi__law_mixed T) (da_cons (de_var 2) (da_cons (de_var 1) da_nil))) (da_cons de_int da_nil))) de_int))))))))
theorem bi__law_leaf (T : Txt K mg e a) : Binds K a.d__law_leaf ["draws"] [] := T.F__law_leaf.binds fun _ _ _ _ _ _ us hl => match us, hl with | [_], _ => rfl
theorem sc__law_leaf : FnScope N__law_leaf ["draws"] (defScope s__law_leaf) := ⟨rfl, rfl, rfl, by decide +kernel, rfl, by decide +kernel, by decide +kernel⟩
theorem ok__law_leaf (T : Txt K mg e a) : FnG P w K mg base 3 a.f__law_leaf a.d__law_leaf ["draws"] (spD K 1 (M._law_leaf e)) :=
  fn_d (N := N__law_leaf) (ps := ["draws"]) T.F__law_leaf sc__law_leaf fun cdv A outer s H E hr cx own => by
    unfold M.b__law_leaf
    exact (dss_cons (ds_set 1 cx (de_mod (de_call cx (ok__law_draw T) (hr.mono (by decide)) T.g__law_draw T.k__law_draw (bi__law_draw T) (da_cons (de_var 0) da_nil)) de_int)) (dss_cons (ds_if (dt_eq cx.units (de_var 1) de_int) (dss_one (ds_ret (de_tup (da_cons de_str (da_cons (de_mod (de_call cx (ok__law_draw T) (hr.mono (by decide)) T.g__law_draw T.k__law_draw (bi__law_draw T) (da_cons (de_var 0) da_nil)) de_int) da_nil))))) dss_nil) (dss_cons (ds_set 2 cx (de_sub (de_mod (de_call cx (ok__law_draw T) (hr.mono (by decide)) T.g__law_draw T.k__law_draw (bi__law_draw T) (da_cons (de_var 0) da_nil)) de_int) de_int)) (dss_cons (ds_set 3 cx (de_sub (de_mod (de_call cx (ok__law_draw T) (hr.mono (by decide)) T.g__law_draw T.k__law_draw (bi__law_draw T) (da_cons (de_var 0) da_nil)) de_int) de_int)) (dss_cons (ds_if (dt_lt (de_var 1) de_int) (dss_cons (ds_set 4 cx (de_mod (de_call cx (ok__law_draw T) (hr.mono (by decide)) T.g__law_draw T.k__law_draw (bi__law_draw T) (da_cons (de_var 0) da_nil)) de_int)) (dss_one (ds_ret (de_tup (da_cons de_str (da_cons (de_var 2) (da_cons (de_var 3) (da_cons (de_sub (de_mod (de_call cx (ok__law_draw T) (hr.mono (by decide)) T.g__law_draw T.k__law_draw (bi__law_draw T) (da_cons (de_var 0) da_nil)) (de_ix (de_lst (da_cons de_int (da_cons de_int da_nil))) (de_var 4))) (de_ix (de_lst (da_cons de_int (da_cons de_int da_nil))) (de_var 4))) da_nil)))))))) dss_nil) (dss_cons (ds_set 5 cx (de_add de_int (de_mod (de_call cx (ok__law_draw T) (hr.mono (by decide)) T.g__law_draw T.k__law_draw (bi__law_draw T) (da_cons (de_var 0) da_nil)) de_int))) (dss_one (ds_ret (de_tup (da_cons de_str (da_cons (de_var 2) (da_cons (de_var 3) (da_cons (de_var 5) (da_cons (de_mod (de_call cx (ok__law_draw T) (hr.mono (by decide)) T.g__law_draw T.k__law_draw (bi__law_draw T) (da_cons (de_var 0) da_nil)) (de_var 5)) da_nil))))))))))))))
theorem bi__law_question (T : Txt K mg e a) : Binds K a.d__law_question ["draws"] [] := T.F__law_question.binds fun _ _ _ _ _ _ us hl => match us, hl with | [_], _ => rfl
theorem sc__law_question : FnScope N__law_question ["draws"] (defScope s__law_question) := ⟨rfl, rfl, rfl, by decide +kernel, rfl, by decide +kernel, by decide +kernel⟩
theorem ok__law_question (T : Txt K mg e a) : FnG P w K mg base 4 a.f__law_question a.d__law_question ["draws"] (spD K 1 (M._law_question e)) :=
  FnG.frz (fn_d (N := N__law_question) (ps := ["draws"]) T.F__law_question sc__law_question fun cdv A outer s H E hr cx own => by
    unfold M.b__law_question
    exact (dss_cons (ds_set 1 cx (de_compN (own := [("k", 6)]) cx (di_range1 T.z_range (da_cons (de_add de_int (de_mod (de_call cx (ok__law_draw T) (hr.mono (by decide)) T.g__law_draw T.k__law_draw (bi__law_draw T) (da_cons (de_var 0) da_nil)) de_int)) da_nil)) (blkOk_by (own := [("k", 6)]) (N := N__law_question) (sc := defScope s__law_question) (by decide +kernel)) (fun s0 H0 C0 cl0 fp0 => (dgo_name 6 (cx.blk s0 H0 _ _ fp0).nd)) (fun s0 H0 C0 cl0 fp0 => dts_nil) (fun s0 H0 C0 cl0 fp0 => (de_call (cx.blk s0 H0 _ _ fp0) (ok__law_leaf T) (hr.mono (by decide)) T.g__law_leaf T.k__law_leaf (bi__law_leaf T) (da_cons (de_var 0) da_nil))))) (dss_cons (ds_set 2 cx de_int) (dss_cons (ds_while e.nW own (DW.dt (dw_or (dt_gt (de_b call_len callD_len T.z_len (by decide +kernel) (da_cons (de_var 1) da_nil)) de_int) (dw_or1 (DW.dt (dw_and (dt_gt (de_var 2) de_int) (dw_and1 (dt_eq cx.units (de_mod (de_call cx (ok__law_draw T) (hr.mono (by decide)) T.g__law_draw T.k__law_draw (bi__law_draw T) (da_cons (de_var 0) da_nil)) de_int) de_int))))))) (dss_cons (ds_set 2 cx (de_sub (de_var 2) de_int)) (dss_cons (ds_set 3 cx (de_mod (de_call cx (ok__law_draw T) (hr.mono (by decide)) T.g__law_draw T.k__law_draw (bi__law_draw T) (da_cons (de_var 0) da_nil)) (de_b call_len callD_len T.z_len (by decide +kernel) (da_cons (de_var 1) da_nil)))) (dss_one (ds_if (DW.dt (dw_or (dt_eq cx.units (de_b call_len callD_len T.z_len (by decide +kernel) (da_cons (de_var 1) da_nil)) de_int) (dw_or1 (DW.dt (dw_and (dt_ge (de_var 2) (de_b call_len callD_len T.z_len (by decide +kernel) (da_cons (de_var 1) da_nil))) (dw_and1 (dt_eq cx.units (de_mod (de_call cx (ok__law_draw T) (hr.mono (by decide)) T.g__law_draw T.k__law_draw (bi__law_draw T) (da_cons (de_var 0) da_nil)) de_int) de_int))))))) (dss_one (ds_put (de_tup (da_cons de_str (da_cons (de_ix (de_var 1) (de_var 3)) da_nil))) (de_var 1) (de_var 3))) (dss_cons (ds_set 4 cx (de_mod (de_add (de_var 3) de_int) (de_b call_len callD_len T.z_len (by decide +kernel) (da_cons (de_var 1) da_nil)))) (dss_cons (ds_set 5 cx (de_tup (da_cons (de_ix (de_lst (da_cons de_str (da_cons de_str da_nil))) (de_mod (de_call cx (ok__law_draw T) (hr.mono (by decide)) T.g__law_draw T.k__law_draw (bi__law_draw T) (da_cons (de_var 0) da_nil)) de_int)) (da_cons (de_ix (de_var 1) (de_var 3)) (da_cons (de_ix (de_var 1) (de_var 4)) da_nil))))) (dss_one (ds_set 1 cx (de_addN (de_comp (own := [("k", 6)]) cx (di_range1 T.z_range (da_cons (de_b call_len callD_len T.z_len (by decide +kernel) (da_cons (de_var 1) da_nil)) da_nil)) (blkOk_by (own := [("k", 6)]) (N := N__law_question) (sc := defScope s__law_question) (by decide +kernel)) (fun s0 H0 C0 cl0 fp0 => (dgo_name 6 (cx.blk s0 H0 _ _ fp0).nd)) (fun s0 H0 C0 cl0 fp0 => (dts_one (DW.dt (dw_and (dt_ne (cx.blk s0 H0 _ _ fp0).units (de_var 6) (de_var 3)) (dw_and1 (dt_ne (cx.blk s0 H0 _ _ fp0).units (de_var 6) (de_var 4))))))) (fun s0 H0 C0 cl0 fp0 => (de_ix (de_var 1) (de_var 6)))) (de_lst (da_cons (de_var 5) da_nil)))))))))))) (dss_one (ds_ret (de_ix (de_var 1) de_int)))))))
theorem bi__law_odd (T : Txt K mg e a) : Binds K a.d__law_odd ["draws"] [] := T.F__law_odd.binds fun _ _ _ _ _ _ us hl => match us, hl with | [_], _ => rfl
theorem sc__law_odd : FnScope N__law_odd ["draws"] (defScope s__law_odd) := ⟨rfl, rfl, rfl, by decide +kernel, rfl, by decide +kernel, by decide +kernel⟩
theorem ok__law_odd (T : Txt K mg e a) : FnG P w K mg base 3 a.f__law_odd a.d__law_odd ["draws"] (spD K 1 (M._law_odd e)) :=
  fn_d (N := N__law_odd) (ps := ["draws"]) T.F__law_odd sc__law_odd fun cdv A outer s H E hr cx own => by
    unfold M.b__law_odd
    exact (dss_one (ds_ret (de_ix (de_lst (da_cons de_bl (da_cons de_non (da_cons de_str (da_cons (de_tup (da_cons de_int da_nil)) (da_cons de_int da_nil)))))) (de_mod (de_call cx (ok__law_draw T) (hr.mono (by decide)) T.g__law_draw T.k__law_draw (bi__law_draw T) (da_cons (de_var 0) da_nil)) de_int))))
theorem bi__law_spoilt_leaf (T : Txt K mg e a) : Binds K a.d__law_spoilt_leaf ["draws", "leaf"] [] := T.F__law_spoilt_leaf.binds fun _ _ _ _ _ _ us hl => match us, hl with | [_, _], _ => rfl
theorem sc__law_spoilt_leaf : FnScope N__law_spoilt_leaf ["draws", "leaf"] (defScope s__law_spoilt_leaf) := ⟨rfl, rfl, rfl, by decide +kernel, rfl, by decide +kernel, by decide +kernel⟩
theorem ok__law_spoilt_leaf (T : Txt K mg e a) : FnG P w K mg base 4 a.f__law_spoilt_leaf a.d__law_spoilt_leaf ["draws", "leaf"] (spD K 2 (M._law_spoilt_leaf e)) :=
  fn_d (N := N__law_spoilt_leaf) (ps := ["draws", "leaf"]) T.F__law_spoilt_leaf sc__law_spoilt_leaf fun cdv A outer s H E hr cx own => by
    unfold M.b__law_spoilt_leaf
    exact (dss_cons (ds_set 2 cx (de_mod (de_call cx (ok__law_draw T) (hr.mono (by decide)) T.g__law_draw T.k__law_draw (bi__law_draw T) (da_cons (de_var 0) da_nil)) de_int)) (dss_cons (ds_set 3 cx (de_add de_int (de_mod (de_call cx (ok__law_draw T) (hr.mono (by decide)) T.g__law_draw T.k__law_draw (bi__law_draw T) (da_cons (de_var 0) da_nil)) (de_sub (de_b call_len callD_len T.z_len (by decide +kernel) (da_cons (de_var 1) da_nil)) de_int)))) (dss_cons (ds_if (dt_eq cx.units (de_var 2) de_int) (dss_one (ds_ret (de_ty call_list_of callD_lst T.z_list (by decide +kernel) (da_cons (de_var 1) da_nil)))) dss_nil) (dss_cons (ds_if (dt_eq cx.units (de_var 2) de_int) (dss_one (ds_ret (de_ix (de_lst (da_cons (de_cut (de_var 1) do_none (do_some (de_sub (de_b call_len callD_len T.z_len (by decide +kernel) (da_cons (de_var 1) da_nil)) de_int))) (da_cons (de_add (de_var 1) (de_tup (da_cons de_int da_nil))) (da_cons (de_tup da_nil) da_nil)))) (de_mod (de_call cx (ok__law_draw T) (hr.mono (by decide)) T.g__law_draw T.k__law_draw (bi__law_draw T) (da_cons (de_var 0) da_nil)) de_int)))) dss_nil) (dss_cons (ds_if (dt_eq cx.units (de_var 2) de_int) (dss_one (ds_ret (de_add (de_tup (da_cons (de_ix (de_lst (da_cons de_str (da_cons de_str (da_cons de_str (da_cons de_int (da_cons de_non da_nil)))))) (de_mod (de_call cx (ok__law_draw T) (hr.mono (by decide)) T.g__law_draw T.k__law_draw (bi__law_draw T) (da_cons (de_var 0) da_nil)) de_int)) da_nil)) (de_cut (de_var 1) (do_some de_int) do_none)))) dss_nil) (dss_cons (ds_if (dt_eq cx.units (de_var 2) de_int) (dss_one (ds_ret (de_add (de_add (de_cut (de_var 1) do_none (do_some (de_var 3))) (de_tup (da_cons (de_call cx (ok__law_odd T) (hr.mono (by decide)) T.g__law_odd T.k__law_odd (bi__law_odd T) (da_cons (de_var 0) da_nil)) da_nil))) (de_cut (de_var 1) (do_some (de_add (de_var 3) de_int)) do_none)))) dss_nil) (dss_cons (ds_if (dt_eq cx.units (de_var 2) de_int) (dss_one (ds_ret (de_call cx (ok__law_odd T) (hr.mono (by decide)) T.g__law_odd T.k__law_odd (bi__law_odd T) (da_cons (de_var 0) da_nil)))) dss_nil) (dss_cons (ds_if (dt_eq cx.units (de_ix (de_var 1) de_int) de_str) (dss_one (ds_ret (de_tup (da_cons de_str (da_cons (de_ix (de_lst (da_cons (de_neg de_int) (da_cons de_int da_nil))) (de_mod (de_call cx (ok__law_draw T) (hr.mono (by decide)) T.g__law_draw T.k__law_draw (bi__law_draw T) (da_cons (de_var 0) da_nil)) de_int)) da_nil))))) dss_nil) (dss_cons (ds_if (dt_lt (de_var 3) de_int) (dss_one (ds_ret (de_add (de_add (de_cut (de_var 1) do_none (do_some (de_var 3))) (de_tup (da_cons (de_ix (de_lst (da_cons (de_neg de_int) (da_cons de_int da_nil))) (de_mod (de_call cx (ok__law_draw T) (hr.mono (by decide)) T.g__law_draw T.k__law_draw (bi__law_draw T) (da_cons (de_var 0) da_nil)) de_int)) da_nil))) (de_cut (de_var 1) (do_some (de_add (de_var 3) de_int)) do_none)))) dss_nil) (dss_cons (ds_if (dt_eq cx.units (de_ix (de_var 1) de_int) de_str) (dss_one (ds_ret (de_add (de_cut (de_var 1) do_none (do_some de_int)) (de_tup (da_cons (de_ix (de_lst (da_cons (de_neg de_int) (da_cons de_int da_nil))) (de_mod (de_call cx (ok__law_draw T) (hr.mono (by decide)) T.g__law_draw T.k__law_draw (bi__law_draw T) (da_cons (de_var 0) da_nil)) de_int)) da_nil))))) dss_nil) (dss_cons (ds_if (dt_eq cx.units (de_var 3) de_int) (dss_one (ds_ret (de_add (de_cut (de_var 1) do_none (do_some de_int)) (de_tup (da_cons (de_ix (de_lst (da_cons de_int (da_cons de_int (da_cons de_int da_nil)))) (de_mod (de_call cx (ok__law_draw T) (hr.mono (by decide)) T.g__law_draw T.k__law_draw (bi__law_draw T) (da_cons (de_var 0) da_nil)) de_int)) (da_cons de_int da_nil)))))) dss_nil) (dss_one (ds_ret (de_add (de_cut (de_var 1) do_none (do_some de_int)) (de_tup (da_cons (de_ix (de_lst (da_cons (de_neg de_int) (da_cons (de_ix (de_var 1) de_int) da_nil))) (de_mod (de_call cx (ok__law_draw T) (hr.mono (by decide)) T.g__law_draw T.k__law_draw (bi__law_draw T) (da_cons (de_var 0) da_nil)) de_int)) da_nil))))))))))))))))
theorem bi__law_spoilt (T : Txt K mg e a) : Binds K a.d__law_spoilt ["draws", "question"] [] := T.F__law_spoilt.binds fun _ _ _ _ _ _ us hl => match us, hl with | [_, _], _ => rfl
theorem sc__law_spoilt : FnScope N__law_spoilt ["draws", "question"] (defScope s__law_spoilt) := ⟨rfl, rfl, rfl, by decide +kernel, rfl, by decide +kernel, by decide +kernel⟩
theorem okA__law_spoilt (T : Txt K mg e a) : ∀ n : Nat, FnG P w K mg base (5 + n) a.f__law_spoilt a.d__law_spoilt ["draws", "question"] (spD K 2 (M._law_spoilt_v4_n e n)) := by
  intro n
  induction n with
  | zero => exact FnG.stuck
  | succ n hA =>
    show FnG P w K mg base (5 + n + 1) a.f__law_spoilt a.d__law_spoilt ["draws", "question"] (spD K 2 ((runF 6 (M.b__law_spoilt_v4 e (M._law_spoilt_v4_n e n)))))
    refine fn_d (N := N__law_spoilt) (ps := ["draws", "question"]) T.F__law_spoilt sc__law_spoilt fun cdv A outer s H E hr cx own => ?_
    unfold M.b__law_spoilt_v4
    exact (dss_cons (ds_set 2 cx (de_ix (de_var 1) de_int)) (dss_cons (ds_if (dt_in (de_var 2) (de_lst (da_cons de_str (da_cons de_str (da_cons de_str da_nil))))) (dss_one (ds_ret (de_call cx (ok__law_spoilt_leaf T) (hr.mono (by omega)) T.g__law_spoilt_leaf T.k__law_spoilt_leaf (bi__law_spoilt_leaf T) (da_cons (de_var 0) (da_cons (de_var 1) da_nil))))) dss_nil) (dss_cons (ds_set 3 cx (de_mod (de_call cx (ok__law_draw T) (hr.mono (by omega)) T.g__law_draw T.k__law_draw (bi__law_draw T) (da_cons (de_var 0) da_nil)) de_int)) (dss_cons (ds_if (dt_eq cx.units (de_var 3) de_int) (dss_cons (ds_set 4 cx (de_add (de_tup (da_cons (de_upper (de_var 2)) da_nil)) (de_cut (de_var 1) (do_some de_int) do_none))) (dss_one (ds_ret (de_ix (de_lst (da_cons (de_ty call_list_of callD_lst T.z_list (by decide +kernel) (da_cons (de_var 1) da_nil)) (da_cons (de_cut (de_var 1) do_none (do_some de_int)) (da_cons (de_add (de_var 1) (de_tup (da_cons (de_tup (da_cons de_str (da_cons de_int da_nil))) da_nil))) (da_cons (de_var 4) da_nil))))) (de_mod (de_call cx (ok__law_draw T) (hr.mono (by omega)) T.g__law_draw T.k__law_draw (bi__law_draw T) (da_cons (de_var 0) da_nil)) de_int))))) dss_nil) (dss_cons (ds_set 5 cx (de_add de_int (de_mod (de_call cx (ok__law_draw T) (hr.mono (by omega)) T.g__law_draw T.k__law_draw (bi__law_draw T) (da_cons (de_var 0) da_nil)) (de_sub (de_b call_len callD_len T.z_len (by decide +kernel) (da_cons (de_var 1) da_nil)) de_int)))) (dss_one (ds_ret (de_add (de_add (de_cut (de_var 1) do_none (do_some (de_var 5))) (de_tup (da_cons (de_call cx hA (hr.mono (by omega)) T.g__law_spoilt T.k__law_spoilt (bi__law_spoilt T) (da_cons (de_var 0) (da_cons (de_ix (de_var 1) (de_var 5)) da_nil))) da_nil))) (de_cut (de_var 1) (do_some (de_add (de_var 5) de_int)) do_none)))))))))
theorem ok__law_spoilt (T : Txt K mg e a) : FnG P w K mg base 17 a.f__law_spoilt a.d__law_spoilt ["draws", "question"] (spD K 2 (M._law_spoilt_v4 e)) := okA__law_spoilt T 12
theorem bi__law_too_many (T : Txt K mg e a) : Binds K a.d__law_too_many ["draws"] [] := T.F__law_too_many.binds fun _ _ _ _ _ _ us hl => match us, hl with | [_], _ => rfl
theorem sc__law_too_many : FnScope N__law_too_many ["draws"] (defScope s__law_too_many) := ⟨rfl, rfl, rfl, by decide +kernel, rfl, by decide +kernel, by decide +kernel⟩
theorem ok__law_too_many (T : Txt K mg e a) : FnG P w K mg base 4 a.f__law_too_many a.d__law_too_many ["draws"] (spD K 1 (M._law_too_many e)) :=
  fn_d (N := N__law_too_many) (ps := ["draws"]) T.F__law_too_many sc__law_too_many fun cdv A outer s H E hr cx own => by
    unfold M.b__law_too_many
    exact (dss_cons (ds_if (dt_eq cx.units (de_mod (de_call cx (ok__law_draw T) (hr.mono (by decide)) T.g__law_draw T.k__law_draw (bi__law_draw T) (da_cons (de_var 0) da_nil)) de_int) de_int) (dss_cons (ds_set 1 cx (de_call cx (ok__law_leaf T) (hr.mono (by decide)) T.g__law_leaf T.k__law_leaf (bi__law_leaf T) (da_cons (de_var 0) da_nil))) (dss_cons (ds_for cx own (di_range1 T.z_range (da_cons de_int da_nil)) (dg_name 2 cx.nd) (dss_one (ds_set 1 cx (de_ix (de_lst (da_cons (de_tup (da_cons de_str (da_cons (de_var 1) (da_cons (de_call cx (ok__law_leaf T) (hr.mono (by decide)) T.g__law_leaf T.k__law_leaf (bi__law_leaf T) (da_cons (de_var 0) da_nil)) da_nil)))) (da_cons (de_tup (da_cons de_str (da_cons (de_call cx (ok__law_leaf T) (hr.mono (by decide)) T.g__law_leaf T.k__law_leaf (bi__law_leaf T) (da_cons (de_var 0) da_nil)) (da_cons (de_var 1) da_nil)))) da_nil))) (de_mod (de_call cx (ok__law_draw T) (hr.mono (by decide)) T.g__law_draw T.k__law_draw (bi__law_draw T) (da_cons (de_var 0) da_nil)) de_int))))) (dss_one (ds_ret (de_var 1))))) dss_nil) (dss_cons (ds_set 1 cx (de_tup (da_cons de_str (da_cons (de_call cx (ok__law_leaf T) (hr.mono (by decide)) T.g__law_leaf T.k__law_leaf (bi__law_leaf T) (da_cons (de_var 0) da_nil)) (da_cons (de_tup (da_cons de_str (da_cons (de_call cx (ok__law_leaf T) (hr.mono (by decide)) T.g__law_leaf T.k__law_leaf (bi__law_leaf T) (da_cons (de_var 0) da_nil)) (da_cons (de_call cx (ok__law_leaf T) (hr.mono (by decide)) T.g__law_leaf T.k__law_leaf (bi__law_leaf T) (da_cons (de_var 0) da_nil)) da_nil)))) da_nil))))) (dss_cons (ds_for cx own (di_range1 T.z_range (da_cons de_int da_nil)) (dg_name 2 cx.nd) (dss_one (ds_set 1 cx (de_tup (da_cons de_str (da_cons (de_var 1) da_nil)))))) (dss_one (ds_ret (de_var 1))))))
theorem bi_is_within (T : Txt K mg e a) : Binds K a.d_is_within ["value", "least", "most"] [] := T.F_is_within.binds fun _ _ _ _ _ _ us hl => match us, hl with | [_, _, _], _ => rfl
theorem sc_is_within : FnScope N_is_within ["value", "least", "most"] (defScope s_is_within) := ⟨rfl, rfl, rfl, by decide +kernel, rfl, by decide +kernel, by decide +kernel⟩
theorem ok_is_within (T : Txt K mg e a) : FnG P w K mg base 1 a.f_is_within a.d_is_within ["value", "least", "most"] (spD K 3 (M.is_within e)) :=
  fn_d (N := N_is_within) (ps := ["value", "least", "most"]) T.F_is_within sc_is_within fun cdv A outer s H E hr cx own => by
    unfold M.b_is_within
    exact (dss_one (ds_ret (de_and (de_b call_isi callD_isi T.z_isinstance (by decide +kernel) (da_cons (de_var 0) (da_cons (de_gty T.z_int (by decide +kernel)) da_nil))) (de_and (de_not (de_b call_isi callD_isi T.z_isinstance (by decide +kernel) (da_cons (de_var 0) (da_cons (de_gty T.z_bool (by decide +kernel)) da_nil)))) (de_one (de_le_le (de_var 1) (de_var 0) (de_var 2)))))))
theorem bi_is_plain (T : Txt K mg e a) : Binds K a.d_is_plain ["question"] [] := T.F_is_plain.binds fun _ _ _ _ _ _ us hl => match us, hl with | [_], _ => rfl
theorem sc_is_plain : FnScope N_is_plain ["question"] (defScope s_is_plain) := ⟨rfl, rfl, rfl, by decide +kernel, rfl, by decide +kernel, by decide +kernel⟩
theorem ok_is_plain (T : Txt K mg e a) : FnG P w K mg base 2 a.f_is_plain a.d_is_plain ["question"] (spD K 1 (M.is_plain e)) :=
  fn_d (N := N_is_plain) (ps := ["question"]) T.F_is_plain sc_is_plain fun cdv A outer s H E hr cx own => by
    unfold M.b_is_plain
    exact (dss_cons (ds_set 1 cx (de_ix (de_var 0) de_int)) (dss_cons (ds_if (dt_eq cx.units (de_var 1) de_str) (dss_one (ds_ret (de_and (de_eq cx.units (de_b call_len callD_len T.z_len (by decide +kernel) (da_cons (de_var 0) da_nil)) de_int) (de_one (de_call cx (ok_is_within T) (hr.mono (by decide)) T.g_is_within T.k_is_within (bi_is_within T) (da_cons (de_ix (de_var 0) de_int) (da_cons de_int (da_cons (de_sub (de_gint T.g_ROOMS) de_int) da_nil)))))))) dss_nil) (dss_cons (ds_if (DW.dt (dw_or (dt_notIn (de_var 1) (de_tup (da_cons de_str (da_cons de_str da_nil)))) (dw_or1 (dt_ne cx.units (de_b call_len callD_len T.z_len (by decide +kernel) (da_cons (de_var 0) da_nil)) (de_if (dt_eq cx.units (de_var 1) de_str) de_int de_int))))) (dss_one (ds_ret de_bl)) dss_nil) (dss_cons (ds_if (DW.dt (dw_or (dt_not (dt_truth (de_call cx (ok_is_within T) (hr.mono (by decide)) T.g_is_within T.k_is_within (bi_is_within T) (da_cons (de_ix (de_var 0) de_int) (da_cons (de_neg (de_gint T.g_FACTOR)) (da_cons (de_gint T.g_FACTOR) da_nil)))))) (dw_or1 (dt_not (dt_truth (de_call cx (ok_is_within T) (hr.mono (by decide)) T.g_is_within T.k_is_within (bi_is_within T) (da_cons (de_ix (de_var 0) de_int) (da_cons (de_neg (de_gint T.g_FACTOR)) (da_cons (de_gint T.g_FACTOR) da_nil))))))))) (dss_one (ds_ret de_bl)) dss_nil) (dss_cons (ds_if (dt_eq cx.units (de_var 1) de_str) (dss_one (ds_ret (de_call cx (ok_is_within T) (hr.mono (by decide)) T.g_is_within T.k_is_within (bi_is_within T) (da_cons (de_ix (de_var 0) de_int) (da_cons (de_neg (de_gint T.g_BOUND)) (da_cons (de_gint T.g_BOUND) da_nil)))))) dss_nil) (dss_one (ds_ret (de_and (de_call cx (ok_is_within T) (hr.mono (by decide)) T.g_is_within T.k_is_within (bi_is_within T) (da_cons (de_ix (de_var 0) de_int) (da_cons de_int (da_cons (de_gint T.g_DIVISOR) da_nil)))) (de_one (de_call cx (ok_is_within T) (hr.mono (by decide)) T.g_is_within T.k_is_within (bi_is_within T) (da_cons (de_ix (de_var 0) de_int) (da_cons de_int (da_cons (de_sub (de_ix (de_var 0) de_int) de_int) da_nil)))))))))))))
theorem bi_is_question (T : Txt K mg e a) : Binds K a.d_is_question ["question"] [] := T.F_is_question.binds fun _ _ _ _ _ _ us hl => match us, hl with | [_], _ => rfl
theorem sc_is_question : FnScope N_is_question ["question"] (defScope s_is_question) := ⟨rfl, rfl, rfl, by decide +kernel, rfl, by decide +kernel, by decide +kernel⟩
theorem ok_is_question (T : Txt K mg e a) : FnG P w K mg base 3 a.f_is_question a.d_is_question ["question"] (spD K 1 (M.is_question e)) :=
  FnG.frz (fn_d (N := N_is_question) (ps := ["question"]) T.F_is_question sc_is_question fun cdv A outer s H E hr cx own => by
    unfold M.b_is_question
    exact (dss_cons (ds_set 1 cx (de_new (da_cons (de_var 0) da_nil))) (dss_cons (ds_set 2 cx de_int) (dss_cons (ds_set 3 cx de_int) (dss_cons (ds_while e.nW own (dt_truth (de_var 1)) (dss_cons (ds_set 4 cx (de_pop (de_var 1))) (dss_cons (ds_if (DW.dt (dw_or (dt_not (dt_truth (de_b call_isi callD_isi T.z_isinstance (by decide +kernel) (da_cons (de_var 4) (da_cons (de_gty T.z_tuple (by decide +kernel)) da_nil))))) (dw_or (dt_not (dt_truth (de_var 4))) (dw_or1 (dt_not (dt_truth (de_b call_isi callD_isi T.z_isinstance (by decide +kernel) (da_cons (de_ix (de_var 4) de_int) (da_cons (de_gty T.z_str (by decide +kernel)) da_nil))))))))) (dss_one (ds_ret de_bl)) dss_nil) (dss_cons (ds_if (dt_in (de_ix (de_var 4) de_int) (de_tup (da_cons de_str (da_cons de_str (da_cons de_str da_nil))))) (dss_cons (ds_if (dt_ne cx.units (de_b call_len callD_len T.z_len (by decide +kernel) (da_cons (de_var 4) da_nil)) (de_if (dt_eq cx.units (de_ix (de_var 4) de_int) de_str) de_int de_int)) (dss_one (ds_ret de_bl)) dss_nil) (dss_cons (ds_set 3 cx (de_add (de_var 3) de_int)) (dss_one (ds_expr (de_extend (de_var 1) (da_cons (de_ty call_list_of callD_lst T.z_list (by decide +kernel) (da_cons (de_cut (de_var 4) (do_some de_int) do_none) da_nil)) da_nil)))))) (dss_one (ds_if (dt_truth (de_call cx (ok_is_plain T) (hr.mono (by decide)) T.g_is_plain T.k_is_plain (bi_is_plain T) (da_cons (de_var 4) da_nil))) (dss_one (ds_set 2 cx (de_add (de_var 2) de_int))) (dss_one (ds_ret de_bl))))) (dss_one (ds_if (DW.dt (dw_or (dt_gt (de_var 2) (de_gint T.g_PLAIN)) (dw_or1 (dt_gt (de_var 3) (de_gint T.g_JOINED))))) (dss_one (ds_ret de_bl)) dss_nil)))))) (dss_one (ds_ret de_bl)))))))
theorem bi_check_question (T : Txt K mg e a) : Binds K a.d_check_question ["question"] [] := T.F_check_question.binds fun _ _ _ _ _ _ us hl => match us, hl with | [_], _ => rfl
theorem sc_check_question : FnScope N_check_question ["question"] (defScope s_check_question) := ⟨rfl, rfl, rfl, by decide +kernel, rfl, by decide +kernel, by decide +kernel⟩
theorem ok_check_question (T : Txt K mg e a) : FnG P w K mg base 4 a.f_check_question a.d_check_question ["question"] (spD K 1 (M.check_question e)) :=
  fn_d (N := N_check_question) (ps := ["question"]) T.F_check_question sc_check_question fun cdv A outer s H E hr cx own => by
    unfold M.b_check_question
    exact (dss_one (ds_if (dt_not (dt_truth (de_call cx (ok_is_question T) (hr.mono (by decide)) T.g_is_question T.k_is_question (bi_is_question T) (da_cons (de_var 0) da_nil)))) (dss_one (ds_raise (q := e.x .BadArgument) cx (pmk_own PySem.F.excBase_ValueError T.x_BadArgument T.g_BadArgument T.k_BadArgument (raises_own T.b_BadArgument T.t_BadArgument) rfl) (fun _ _ _ h => h))) dss_nil))
theorem bi_is_so (T : Txt K mg e a) : Binds K a.d_is_so ["question", "standing"] [] := T.F_is_so.binds fun _ _ _ _ _ _ us hl => match us, hl with | [_, _], _ => rfl
theorem sc_is_so : FnScope N_is_so ["question", "standing"] (defScope s_is_so) := ⟨rfl, rfl, rfl, by decide +kernel, rfl, by decide +kernel, by decide +kernel⟩
theorem okA_is_so (T : Txt K mg e a) : ∀ n : Nat, FnG P w K mg base (1 + n) a.f_is_so a.d_is_so ["question", "standing"] (spD K 2 (M.is_so_n e n)) := by
  intro n
  induction n with
  | zero => exact FnG.stuck
  | succ n hA =>
    show FnG P w K mg base (1 + n + 1) a.f_is_so a.d_is_so ["question", "standing"] (spD K 2 ((runF 6 (M.b_is_so e (M.is_so_n e n)))))
    refine fn_d (N := N_is_so) (ps := ["question", "standing"]) T.F_is_so sc_is_so fun cdv A outer s H E hr cx own => ?_
    unfold M.b_is_so
    exact (dss_cons (ds_set 2 cx (de_ix (de_var 0) de_int)) (dss_cons (ds_asg (de_var 1) (dg_tup (n := 3) cx.calm (dgs_cons (dg_name 3 cx.nd) (dgs_cons (dg_name 4 cx.nd) (dgs_cons (dg_name 5 cx.nd) dgs_nil))))) (dss_cons (ds_if (dt_eq cx.units (de_var 2) de_str) (dss_one (ds_ret (de_eq cx.units (de_ix (de_var 0) de_int) (de_var 3)))) dss_nil) (dss_cons (ds_if (dt_eq cx.units (de_var 2) de_str) (dss_one (ds_ret (de_le (de_add (de_mul (de_ix (de_var 0) de_int) (de_var 4)) (de_mul (de_ix (de_var 0) de_int) (de_var 5))) (de_ix (de_var 0) de_int)))) dss_nil) (dss_cons (ds_if (dt_eq cx.units (de_var 2) de_str) (dss_one (ds_ret (de_eq cx.units (de_mod (de_add (de_mul (de_ix (de_var 0) de_int) (de_var 4)) (de_mul (de_ix (de_var 0) de_int) (de_var 5))) (de_ix (de_var 0) de_int)) (de_ix (de_var 0) de_int)))) dss_nil) (dss_cons (ds_if (dt_eq cx.units (de_var 2) de_str) (dss_one (ds_ret (de_not (de_call cx hA (hr.mono (by omega)) T.g_is_so T.k_is_so (bi_is_so T) (da_cons (de_ix (de_var 0) de_int) (da_cons (de_var 1) da_nil)))))) dss_nil) (dss_cons (ds_if (dt_eq cx.units (de_var 2) de_str) (dss_one (ds_ret (de_and (de_call cx hA (hr.mono (by omega)) T.g_is_so T.k_is_so (bi_is_so T) (da_cons (de_ix (de_var 0) de_int) (da_cons (de_var 1) da_nil))) (de_one (de_call cx hA (hr.mono (by omega)) T.g_is_so T.k_is_so (bi_is_so T) (da_cons (de_ix (de_var 0) de_int) (da_cons (de_var 1) da_nil))))))) dss_nil) (dss_one (ds_ret (de_or (de_call cx hA (hr.mono (by omega)) T.g_is_so T.k_is_so (bi_is_so T) (da_cons (de_ix (de_var 0) de_int) (da_cons (de_var 1) da_nil))) (de_one (de_call cx hA (hr.mono (by omega)) T.g_is_so T.k_is_so (bi_is_so T) (da_cons (de_ix (de_var 0) de_int) (da_cons (de_var 1) da_nil))))))))))))))
theorem ok_is_so (T : Txt K mg e a) : FnG P w K mg base 13 a.f_is_so a.d_is_so ["question", "standing"] (spD K 2 (M.is_so e)) := okA_is_so T 12
theorem bi_is_natural (T : Txt K mg e a) : Binds K a.d_is_natural ["value"] [] := T.F_is_natural.binds fun _ _ _ _ _ _ us hl => match us, hl with | [_], _ => rfl
theorem sc_is_natural : FnScope N_is_natural ["value"] (defScope s_is_natural) := ⟨rfl, rfl, rfl, by decide +kernel, rfl, by decide +kernel, by decide +kernel⟩
theorem ok_is_natural (T : Txt K mg e a) : FnG P w K mg base 1 a.f_is_natural a.d_is_natural ["value"] (spD K 1 (M.is_natural e)) :=
  fn_d (N := N_is_natural) (ps := ["value"]) T.F_is_natural sc_is_natural fun cdv A outer s H E hr cx own => by
    unfold M.b_is_natural
    exact (dss_one (ds_ret (de_and (de_b call_isi callD_isi T.z_isinstance (by decide +kernel) (da_cons (de_var 0) (da_cons (de_gty T.z_int (by decide +kernel)) da_nil))) (de_and (de_not (de_b call_isi callD_isi T.z_isinstance (by decide +kernel) (da_cons (de_var 0) (da_cons (de_gty T.z_bool (by decide +kernel)) da_nil)))) (de_one (de_ge (de_var 0) de_int))))))
theorem bi_is_tuple (T : Txt K mg e a) : Binds K a.d_is_tuple ["value", "size"] [] := T.F_is_tuple.binds fun _ _ _ _ _ _ us hl => match us, hl with | [_, _], _ => rfl
theorem sc_is_tuple : FnScope N_is_tuple ["value", "size"] (defScope s_is_tuple) := ⟨rfl, rfl, rfl, by decide +kernel, rfl, by decide +kernel, by decide +kernel⟩
theorem ok_is_tuple (T : Txt K mg e a) : FnG P w K mg base 1 a.f_is_tuple a.d_is_tuple ["value", "size"] (spD K 2 (M.is_tuple e)) :=
  fn_d (N := N_is_tuple) (ps := ["value", "size"]) T.F_is_tuple sc_is_tuple fun cdv A outer s H E hr cx own => by
    unfold M.b_is_tuple
    exact (dss_one (ds_ret (de_and (de_b call_isi callD_isi T.z_isinstance (by decide +kernel) (da_cons (de_var 0) (da_cons (de_gty T.z_tuple (by decide +kernel)) da_nil))) (de_one (de_eq cx.units (de_b call_len callD_len T.z_len (by decide +kernel) (da_cons (de_var 0) da_nil)) (de_var 1))))))
theorem bi_is_place (T : Txt K mg e a) : Binds K a.d_is_place ["value"] [] := T.F_is_place.binds fun _ _ _ _ _ _ us hl => match us, hl with | [_], _ => rfl
theorem sc_is_place : FnScope N_is_place ["value"] (defScope s_is_place) := ⟨rfl, rfl, rfl, by decide +kernel, rfl, by decide +kernel, by decide +kernel⟩
theorem ok_is_place (T : Txt K mg e a) : FnG P w K mg base 2 a.f_is_place a.d_is_place ["value"] (spD K 1 (M.is_place e)) :=
  fn_d (N := N_is_place) (ps := ["value"]) T.F_is_place sc_is_place fun cdv A outer s H E hr cx own => by
    unfold M.b_is_place
    exact (dss_cons (ds_if (DW.dt (dw_or (dt_not (dt_truth (de_call cx (ok_is_tuple T) (hr.mono (by decide)) T.g_is_tuple T.k_is_tuple (bi_is_tuple T) (da_cons (de_var 0) (da_cons de_int da_nil))))) (dw_or1 (dt_not (dt_truth (de_call cx (ok_is_within T) (hr.mono (by decide)) T.g_is_within T.k_is_within (bi_is_within T) (da_cons (de_ix (de_var 0) de_int) (da_cons de_int (da_cons (de_sub (de_gint T.g_ROOMS) de_int) da_nil))))))))) (dss_one (ds_ret de_bl)) dss_nil) (dss_one (ds_ret (de_and (de_call cx (ok_is_natural T) (hr.mono (by decide)) T.g_is_natural T.k_is_natural (bi_is_natural T) (da_cons (de_ix (de_var 0) de_int) da_nil)) (de_one (de_call cx (ok_is_natural T) (hr.mono (by decide)) T.g_is_natural T.k_is_natural (bi_is_natural T) (da_cons (de_ix (de_var 0) de_int) da_nil)))))))
theorem bi_holds (T : Txt K mg e a) : Binds K a.d_holds ["question", "standing"] [] := T.F_holds.binds fun _ _ _ _ _ _ us hl => match us, hl with | [_, _], _ => rfl
theorem sc_holds : FnScope N_holds ["question", "standing"] (defScope s_holds) := ⟨rfl, rfl, rfl, by decide +kernel, rfl, by decide +kernel, by decide +kernel⟩
theorem ok_holds (T : Txt K mg e a) : FnG P w K mg base 14 a.f_holds a.d_holds ["question", "standing"] (spD K 2 (M.holds e)) :=
  fn_d (N := N_holds) (ps := ["question", "standing"]) T.F_holds sc_holds fun cdv A outer s H E hr cx own => by
    unfold M.b_holds
    exact (dss_cons (ds_expr (de_call cx (ok_check_question T) (hr.mono (by decide)) T.g_check_question T.k_check_question (bi_check_question T) (da_cons (de_var 0) da_nil))) (dss_cons (ds_if (dt_not (dt_truth (de_call cx (ok_is_place T) (hr.mono (by decide)) T.g_is_place T.k_is_place (bi_is_place T) (da_cons (de_var 1) da_nil)))) (dss_one (ds_raise (q := e.x .BadStanding) cx (pmk_own PySem.F.excBase_ValueError T.x_BadStanding T.g_BadStanding T.k_BadStanding (raises_own T.b_BadStanding T.t_BadStanding) rfl) (fun _ _ _ h => h))) dss_nil) (dss_one (ds_ret (de_call cx (ok_is_so T) (hr.mono (by decide)) T.g_is_so T.k_is_so (bi_is_so T) (da_cons (de_var 0) (da_cons (de_var 1) da_nil)))))))
theorem bi_is_pair (T : Txt K mg e a) : Binds K a.d_is_pair ["value"] [] := T.F_is_pair.binds fun _ _ _ _ _ _ us hl => match us, hl with | [_], _ => rfl
theorem sc_is_pair : FnScope N_is_pair ["value"] (defScope s_is_pair) := ⟨rfl, rfl, rfl, by decide +kernel, rfl, by decide +kernel, by decide +kernel⟩
theorem ok_is_pair (T : Txt K mg e a) : FnG P w K mg base 2 a.f_is_pair a.d_is_pair ["value"] (spD K 1 (M.is_pair e)) :=
  fn_d (N := N_is_pair) (ps := ["value"]) T.F_is_pair sc_is_pair fun cdv A outer s H E hr cx own => by
    unfold M.b_is_pair
    exact (dss_one (ds_ret (de_and (de_call cx (ok_is_tuple T) (hr.mono (by decide)) T.g_is_tuple T.k_is_tuple (bi_is_tuple T) (da_cons (de_var 0) (da_cons de_int da_nil))) (de_and (de_call cx (ok_is_natural T) (hr.mono (by decide)) T.g_is_natural T.k_is_natural (bi_is_natural T) (da_cons (de_ix (de_var 0) de_int) da_nil)) (de_one (de_call cx (ok_is_natural T) (hr.mono (by decide)) T.g_is_natural T.k_is_natural (bi_is_natural T) (da_cons (de_ix (de_var 0) de_int) da_nil)))))))
theorem bi_cross (T : Txt K mg e a) : Binds K a.d_cross ["one", "other"] [] := T.F_cross.binds fun _ _ _ _ _ _ us hl => match us, hl with | [_, _], _ => rfl
theorem sc_cross : FnScope N_cross ["one", "other"] (defScope s_cross) := ⟨rfl, rfl, rfl, by decide +kernel, rfl, by decide +kernel, by decide +kernel⟩
theorem ok_cross (T : Txt K mg e a) : FnG P w K mg base 1 a.f_cross a.d_cross ["one", "other"] (spD K 2 (M.cross e)) :=
  fn_d (N := N_cross) (ps := ["one", "other"]) T.F_cross sc_cross fun cdv A outer s H E hr cx own => by
    unfold M.b_cross
    exact (dss_one (ds_ret (de_sub (de_mul (de_ix (de_var 0) de_int) (de_ix (de_var 1) de_int)) (de_mul (de_ix (de_var 0) de_int) (de_ix (de_var 1) de_int)))))
theorem bi_check_fan (T : Txt K mg e a) : Binds K a.d_check_fan ["fan"] [] := T.F_check_fan.binds fun _ _ _ _ _ _ us hl => match us, hl with | [_], _ => rfl
theorem sc_check_fan : FnScope N_check_fan ["fan"] (defScope s_check_fan) := ⟨rfl, rfl, rfl, by decide +kernel, rfl, by decide +kernel, by decide +kernel⟩
theorem ok_check_fan (T : Txt K mg e a) : FnG P w K mg base 3 a.f_check_fan a.d_check_fan ["fan"] (spD K 1 (M.check_fan e)) :=
  fn_d (N := N_check_fan) (ps := ["fan"]) T.F_check_fan sc_check_fan fun cdv A outer s H E hr cx own => by
    unfold M.b_check_fan
    exact (dss_cons (ds_if (DW.dt (dw_or (dt_not (dt_truth (de_call cx (ok_is_tuple T) (hr.mono (by decide)) T.g_is_tuple T.k_is_tuple (bi_is_tuple T) (da_cons (de_var 0) (da_cons de_int da_nil))))) (dw_or (dt_not (dt_truth (de_call cx (ok_is_within T) (hr.mono (by decide)) T.g_is_within T.k_is_within (bi_is_within T) (da_cons (de_ix (de_var 0) de_int) (da_cons de_int (da_cons (de_sub (de_gint T.g_ROOMS) de_int) da_nil)))))) (dw_or1 (dt_not (dt_truth (de_call cx (ok_is_pair T) (hr.mono (by decide)) T.g_is_pair T.k_is_pair (bi_is_pair T) (da_cons (de_ix (de_var 0) de_int) da_nil)))))))) (dss_one (ds_raise (q := e.x .BadFan) cx (pmk_own PySem.F.excBase_ValueError T.x_BadFan T.g_BadFan T.k_BadFan (raises_own T.b_BadFan T.t_BadFan) rfl) (fun _ _ _ h => h))) dss_nil) (dss_cons (ds_set 1 cx (de_ix (de_var 0) de_int)) (dss_cons (ds_if (DW.dt (dw_or (dt_not (dt_truth (de_b call_isi callD_isi T.z_isinstance (by decide +kernel) (da_cons (de_var 1) (da_cons (de_gty T.z_tuple (by decide +kernel)) da_nil))))) (dw_or1 (dt_gt (de_b call_len callD_len T.z_len (by decide +kernel) (da_cons (de_var 1) da_nil)) de_int)))) (dss_one (ds_raise (q := e.x .BadFan) cx (pmk_own PySem.F.excBase_ValueError T.x_BadFan T.g_BadFan T.k_BadFan (raises_own T.b_BadFan T.t_BadFan) rfl) (fun _ _ _ h => h))) dss_nil) (dss_cons (ds_for cx own (di_seq (de_var 1)) (dg_name 2 cx.nd) (dss_one (ds_if (DW.dt (dw_or (dt_not (dt_truth (de_call cx (ok_is_pair T) (hr.mono (by decide)) T.g_is_pair T.k_is_pair (bi_is_pair T) (da_cons (de_var 2) da_nil)))) (dw_or1 (dt_eq cx.units (de_var 2) (de_tup (da_cons de_int (da_cons de_int da_nil))))))) (dss_one (ds_raise (q := e.x .BadFan) cx (pmk_own PySem.F.excBase_ValueError T.x_BadFan T.g_BadFan T.k_BadFan (raises_own T.b_BadFan T.t_BadFan) rfl) (fun _ _ _ h => h))) dss_nil))) (dss_one (ds_if (DW.dt (dw_and (dt_eq cx.units (de_b call_len callD_len T.z_len (by decide +kernel) (da_cons (de_var 1) da_nil)) de_int) (dw_and1 (dt_eq cx.units (de_call cx (ok_cross T) (hr.mono (by decide)) T.g_cross T.k_cross (bi_cross T) (da_cons (de_ix (de_var 1) de_int) (da_cons (de_ix (de_var 1) de_int) da_nil))) de_int)))) (dss_one (ds_raise (q := e.x .BadFan) cx (pmk_own PySem.F.excBase_ValueError T.x_BadFan T.g_BadFan T.k_BadFan (raises_own T.b_BadFan T.t_BadFan) rfl) (fun _ _ _ h => h))) dss_nil))))))
theorem bi_check_lot (T : Txt K mg e a) : Binds K a.d_check_lot ["lot"] [] := T.F_check_lot.binds fun _ _ _ _ _ _ us hl => match us, hl with | [_], _ => rfl
theorem sc_check_lot : FnScope N_check_lot ["lot"] (defScope s_check_lot) := ⟨rfl, rfl, rfl, by decide +kernel, rfl, by decide +kernel, by decide +kernel⟩
theorem ok_check_lot (T : Txt K mg e a) : FnG P w K mg base 4 a.f_check_lot a.d_check_lot ["lot"] (spD K 1 (M.check_lot e)) :=
  fn_d (N := N_check_lot) (ps := ["lot"]) T.F_check_lot sc_check_lot fun cdv A outer s H E hr cx own => by
    unfold M.b_check_lot
    exact (dss_cons (ds_if (dt_not (dt_truth (de_b call_isi callD_isi T.z_isinstance (by decide +kernel) (da_cons (de_var 0) (da_cons (de_gty T.z_list (by decide +kernel)) da_nil))))) (dss_one (ds_raise (q := e.x .BadFan) cx (pmk_own PySem.F.excBase_ValueError T.x_BadFan T.g_BadFan T.k_BadFan (raises_own T.b_BadFan T.t_BadFan) rfl) (fun _ _ _ h => h))) dss_nil) (dss_one (ds_for cx own (di_seq (de_var 0)) (dg_name 1 cx.nd) (dss_one (ds_expr (de_call cx (ok_check_fan T) (hr.mono (by decide)) T.g_check_fan T.k_check_fan (bi_check_fan T) (da_cons (de_var 1) da_nil)))))))
theorem bi_is_small (T : Txt K mg e a) : Binds K a.d_is_small ["fan"] [] := T.F_is_small.binds fun _ _ _ _ _ _ us hl => match us, hl with | [_], _ => rfl
theorem sc_is_small : FnScope N_is_small ["fan"] (defScope s_is_small) := ⟨rfl, rfl, rfl, by decide +kernel, rfl, by decide +kernel, by decide +kernel⟩
theorem ok_is_small (T : Txt K mg e a) : FnG P w K mg base 1 a.f_is_small a.d_is_small ["fan"] (spD K 1 (M.is_small e)) :=
  fn_d (N := N_is_small) (ps := ["fan"]) T.F_is_small sc_is_small fun cdv A outer s H E hr cx own => by
    unfold M.b_is_small
    exact (dss_cons (ds_if (dt_gt (de_b (call_maxA cx.calm cx.units) callD_best T.z_max (by decide +kernel) (da_cons (de_ix (de_var 0) de_int) da_nil)) (de_gint T.g_BASE)) (dss_one (ds_ret de_bl)) dss_nil) (dss_one (ds_ret (de_not (de_comp (own := [("ray", 1)]) cx (di_seq (de_ix (de_var 0) de_int)) (blkOk_by (own := [("ray", 1)]) (N := N_is_small) (sc := defScope s_is_small) (by decide +kernel)) (fun s0 H0 C0 cl0 fp0 => (dgo_name 1 (cx.blk s0 H0 _ _ fp0).nd)) (fun s0 H0 C0 cl0 fp0 => (dts_one (dt_gt (de_b (call_maxA (cx.blk s0 H0 _ _ fp0).calm (cx.blk s0 H0 _ _ fp0).units) callD_best T.z_max (by decide +kernel) (da_cons (de_var 1) da_nil)) (de_gint T.g_RAY)))) (fun s0 H0 C0 cl0 fp0 => (de_var 1)))))))
theorem bi_check_small (T : Txt K mg e a) : Binds K a.d_check_small ["lots"] [] := T.F_check_small.binds fun _ _ _ _ _ _ us hl => match us, hl with | [_], _ => rfl
theorem sc_check_small : FnScope N_check_small ["lots"] (defScope s_check_small) := ⟨rfl, rfl, rfl, by decide +kernel, rfl, by decide +kernel, by decide +kernel⟩
theorem ok_check_small (T : Txt K mg e a) : FnG P w K mg base 2 a.f_check_small a.d_check_small ["lots"] (spD K 1 (M.check_small e)) :=
  fn_d (N := N_check_small) (ps := ["lots"]) T.F_check_small sc_check_small fun cdv A outer s H E hr cx own => by
    unfold M.b_check_small
    exact (dss_cons (ds_set 1 cx de_int) (dss_one (ds_for cx own (di_seq (de_var 0)) (dg_name 2 cx.nd) (dss_cons (ds_if (dt_gt (de_b call_len callD_len T.z_len (by decide +kernel) (da_cons (de_var 2) da_nil)) (de_gint T.g_FANS)) (dss_one (ds_raise (q := e.x .TooLarge) cx (pmk_own PySem.F.excBase_ValueError T.x_TooLarge T.g_TooLarge T.k_TooLarge (raises_own T.b_TooLarge T.t_TooLarge) rfl) (fun _ _ _ h => h))) dss_nil) (dss_one (ds_for cx own (di_seq (de_var 2)) (dg_name 3 cx.nd) (dss_cons (ds_if (dt_not (dt_truth (de_call cx (ok_is_small T) (hr.mono (by decide)) T.g_is_small T.k_is_small (bi_is_small T) (da_cons (de_var 3) da_nil)))) (dss_one (ds_raise (q := e.x .TooLarge) cx (pmk_own PySem.F.excBase_ValueError T.x_TooLarge T.g_TooLarge T.k_TooLarge (raises_own T.b_TooLarge T.t_TooLarge) rfl) (fun _ _ _ h => h))) dss_nil) (dss_cons (ds_set 1 cx de_stuck) (dss_one (ds_if (dt_gt (de_var 1) (de_gint T.g_GRAIN)) (dss_one (ds_raise (q := e.x .TooLarge) cx (pmk_own PySem.F.excBase_ValueError T.x_TooLarge T.g_TooLarge T.k_TooLarge (raises_own T.b_TooLarge T.t_TooLarge) rfl) (fun _ _ _ h => h))) dss_nil))))))))))
theorem bi_answers (T : Txt K mg e a) : Binds K a.d_answers ["lot", "question"] [] := T.F_answers.binds fun _ _ _ _ _ _ us hl => match us, hl with | [_, _], _ => rfl
theorem sc_answers : FnScope N_answers ["lot", "question"] (defScope s_answers) := ⟨rfl, rfl, rfl, by decide +kernel, rfl, by decide +kernel, by decide +kernel⟩
theorem ok_answers (T : Txt K mg e a) : FnG P w K mg base 5 a.f_answers a.d_answers ["lot", "question"] (spD K 2 (M.answers e)) :=
  fn_d (N := N_answers) (ps := ["lot", "question"]) T.F_answers sc_answers fun cdv A outer s H E hr cx own => by
    unfold M.b_answers
    exact (dss_cons (ds_expr (de_call cx (ok_check_lot T) (hr.mono (by decide)) T.g_check_lot T.k_check_lot (bi_check_lot T) (da_cons (de_var 0) da_nil))) (dss_cons (ds_expr (de_call cx (ok_check_question T) (hr.mono (by decide)) T.g_check_question T.k_check_question (bi_check_question T) (da_cons (de_var 1) da_nil))) (dss_cons (ds_expr (de_call cx (ok_check_small T) (hr.mono (by decide)) T.g_check_small T.k_check_small (bi_check_small T) (da_cons (de_lst (da_cons (de_var 0) da_nil)) da_nil))) (dss_one (ds_ret de_stuck)))))
theorem bi_every (T : Txt K mg e a) : Binds K a.d_every ["lot", "question"] [] := T.F_every.binds fun _ _ _ _ _ _ us hl => match us, hl with | [_, _], _ => rfl
theorem sc_every : FnScope N_every ["lot", "question"] (defScope s_every) := ⟨rfl, rfl, rfl, by decide +kernel, rfl, by decide +kernel, by decide +kernel⟩
theorem ok_every (T : Txt K mg e a) : FnG P w K mg base 5 a.f_every a.d_every ["lot", "question"] (spD K 2 (M.every e)) :=
  fn_d (N := N_every) (ps := ["lot", "question"]) T.F_every sc_every fun cdv A outer s H E hr cx own => by
    unfold M.b_every
    exact (dss_cons (ds_expr (de_call cx (ok_check_lot T) (hr.mono (by decide)) T.g_check_lot T.k_check_lot (bi_check_lot T) (da_cons (de_var 0) da_nil))) (dss_cons (ds_expr (de_call cx (ok_check_question T) (hr.mono (by decide)) T.g_check_question T.k_check_question (bi_check_question T) (da_cons (de_var 1) da_nil))) (dss_cons (ds_expr (de_call cx (ok_check_small T) (hr.mono (by decide)) T.g_check_small T.k_check_small (bi_check_small T) (da_cons (de_lst (da_cons (de_var 0) da_nil)) da_nil))) (dss_one (ds_ret de_stuck)))))
theorem bi_format_question (T : Txt K mg e a) : Binds K a.d_format_question ["question"] [] := T.F_format_question.binds fun _ _ _ _ _ _ us hl => match us, hl with | [_], _ => rfl
theorem sc_format_question : FnScope N_format_question ["question"] (defScope s_format_question) := ⟨rfl, rfl, rfl, by decide +kernel, rfl, by decide +kernel, by decide +kernel⟩
theorem ok_format_question (T : Txt K mg e a) : FnG P w K mg base 5 a.f_format_question a.d_format_question ["question"] (spD K 1 (M.format_question e)) :=
  fn_d (N := N_format_question) (ps := ["question"]) T.F_format_question sc_format_question fun cdv A outer s H E hr cx own => by
    unfold M.b_format_question
    exact (dss_cons (ds_expr (de_call cx (ok_check_question T) (hr.mono (by decide)) T.g_check_question T.k_check_question (bi_check_question T) (da_cons (de_var 0) da_nil))) (dss_one (ds_ret de_stuck)))
theorem bi__law_error (T : Txt K mg e a) : Binds K a.d__law_error ["name", "question"] [] := T.F__law_error.binds fun _ _ _ _ _ _ us hl => match us, hl with | [_, _], _ => rfl
theorem sc__law_error : FnScope N__law_error ["name", "question"] (defScope s__law_error) := ⟨rfl, rfl, rfl, by decide +kernel, rfl, by decide +kernel, by decide +kernel⟩
theorem ok__law_error (T : Txt K mg e a) : FnG P w K mg base 15 a.f__law_error a.d__law_error ["name", "question"] (spD K 2 (M._law_error_v2 e)) :=
  fn_d (N := N__law_error) (ps := ["name", "question"]) T.F__law_error sc__law_error fun cdv A outer s H E hr cx own => by
    unfold M.b__law_error_v2
    exact (dss_cons (ds_tryT T.em cx rfl rfl (fun W1 pn1 xe1 cx1 own1 => (dss_one (ds_if (dt_eq cx1.units (de_var 0) de_int) (dss_one (ds_expr (de_call cx1 (ok_check_question T) (hr.mono (by decide)) T.g_check_question T.k_check_question (bi_check_question T) (da_cons (de_var 1) da_nil)))) (dss_one (ds_if (dt_eq cx1.units (de_var 0) de_int) (dss_one (ds_expr (de_call cx1 (ok_holds T) (hr.mono (by decide)) T.g_holds T.k_holds (bi_holds T) (da_cons (de_var 1) (da_cons (de_tup (da_cons de_int (da_cons (de_neg de_int) (da_cons de_int da_nil)))) da_nil))))) (dss_one (ds_if (dt_eq cx1.units (de_var 0) de_int) (dss_one (ds_expr (de_call cx1 (ok_answers T) (hr.mono (by decide)) T.g_answers T.k_answers (bi_answers T) (da_cons (de_lst (da_cons (de_tup (da_cons de_int (da_cons (de_tup (da_cons de_int (da_cons de_int da_nil))) (da_cons (de_tup da_nil) da_nil)))) da_nil)) (da_cons (de_var 1) da_nil))))) (dss_one (ds_if (dt_eq cx1.units (de_var 0) de_int) (dss_one (ds_expr (de_call cx1 (ok_every T) (hr.mono (by decide)) T.g_every T.k_every (bi_every T) (da_cons (de_lst (da_cons (de_tup (da_cons de_int (da_cons (de_tup (da_cons de_int (da_cons de_int da_nil))) (da_cons (de_tup da_nil) da_nil)))) da_nil)) (da_cons (de_var 1) da_nil))))) (dss_one (ds_expr (de_call cx1 (ok_format_question T) (hr.mono (by decide)) T.g_format_question T.k_format_question (bi_format_question T) (da_cons (de_var 1) da_nil))))))))))))) (HdsT.one (g := (sRet (fC (.str "argument")))) ⟨by rfl, by decide, Or.inl T.g_BadArgument⟩ (fun _ _ _ => (dss_one (ds_ret de_str))) (HdsT.tup (g := (sRet (fC (.str "other")))) (NamesAll.cons ⟨by rfl, by decide, Or.inl T.g_BadFan⟩ (NamesAll.cons ⟨by rfl, by decide, Or.inl T.g_BadStanding⟩ (NamesAll.cons ⟨by rfl, by decide, Or.inl T.g_TooLarge⟩ NamesAll.nil))) (Nat.le_of_ble_eq_true rfl) (fun _ _ _ => (dss_one (ds_ret de_str))) HdsT.nil))) (dss_one (ds_ret de_str)))
theorem bi_law (T : Txt K mg e a) : Binds K a.d_law ["script"] [] := T.F_law.binds fun _ _ _ _ _ _ us hl => match us, hl with | [_], _ => rfl
theorem sc_law : FnScope N_law ["script"] (defScope s_law) := ⟨rfl, rfl, rfl, by decide +kernel, rfl, by decide +kernel, by decide +kernel⟩
theorem ok_law (T : Txt K mg e a) : FnG P w K mg base 18 a.f_law a.d_law ["script"] (spD K 1 (M.law_v8 e)) :=
  fn_d (N := N_law) (ps := ["script"]) T.F_law sc_law fun cdv A outer s H E hr cx own => by
    unfold M.b_law_v8
    exact (dss_cons (ds_set 1 cx (de_new (da_cons (de_call cx (ok__law_numbers T) (hr.mono (by decide)) T.g__law_numbers T.k__law_numbers (bi__law_numbers T) (da_cons (de_var 0) da_nil)) (da_cons de_int da_nil)))) (dss_cons (ds_for cx own (di_range1 T.z_range (da_cons de_int da_nil)) (dg_name 2 cx.nd) (dss_cons (ds_set 3 cx (de_call cx (ok__law_question T) (hr.mono (by decide)) T.g__law_question T.k__law_question (bi__law_question T) (da_cons (de_var 1) da_nil))) (dss_cons (ds_set 4 cx (de_mod (de_call cx (ok__law_draw T) (hr.mono (by decide)) T.g__law_draw T.k__law_draw (bi__law_draw T) (da_cons (de_var 1) da_nil)) de_int)) (dss_cons (ds_if (dt_eq cx.units (de_var 4) de_int) (dss_one (ds_set 3 cx (de_call cx (ok__law_spoilt T) (hr.mono (by decide)) T.g__law_spoilt T.k__law_spoilt (bi__law_spoilt T) (da_cons (de_var 1) (da_cons (de_var 3) da_nil))))) dss_nil) (dss_cons (ds_if (DW.dt (dw_and (dt_eq cx.units (de_var 4) de_int) (dw_and1 (dt_eq cx.units (de_mod (de_call cx (ok__law_draw T) (hr.mono (by decide)) T.g__law_draw T.k__law_draw (bi__law_draw T) (da_cons (de_var 1) da_nil)) de_int) de_int)))) (dss_cons (ds_set 3 cx (de_call cx (ok__law_too_many T) (hr.mono (by decide)) T.g__law_too_many T.k__law_too_many (bi__law_too_many T) (da_cons (de_var 1) da_nil))) (dss_one (ds_set 4 cx de_int))) dss_nil) (dss_cons (ds_if (dt_eq cx.units (de_var 4) de_int) (dss_cons (ds_set 3 cx (de_call cx (ok__law_spoilt T) (hr.mono (by decide)) T.g__law_spoilt T.k__law_spoilt (bi__law_spoilt T) (da_cons (de_var 1) (da_cons (de_var 3) da_nil)))) (dss_one (ds_set 4 cx de_int))) dss_nil) (dss_one (ds_if (dt_eq cx.units (de_var 4) de_int) (dss_one (ds_for cx own (di_range1 T.z_range (da_cons de_int da_nil)) (dg_name 5 cx.nd) (dss_one (ds_if (dt_ne cx.units (de_call cx (ok__law_error T) (hr.mono (by decide)) T.g__law_error T.k__law_error (bi__law_error T) (da_cons (de_var 5) (da_cons (de_var 3) da_nil))) de_str) (dss_one (ds_ret de_bl)) dss_nil)))) (dss_one (ds_if (DW.dt (dw_or (dt_isNot (de_call cx (ok_check_question T) (hr.mono (by decide)) T.g_check_question T.k_check_question (bi_check_question T) (da_cons (de_var 3) da_nil)) de_non) (dw_or1 (dt_ne cx.units (de_call cx (ok__law_error T) (hr.mono (by decide)) T.g__law_error T.k__law_error (bi__law_error T) (da_cons (de_add de_int (de_mod (de_call cx (ok__law_draw T) (hr.mono (by decide)) T.g__law_draw T.k__law_draw (bi__law_draw T) (da_cons (de_var 1) da_nil)) de_int)) (da_cons (de_var 3) da_nil))) de_str)))) (dss_one (ds_ret de_bl)) dss_nil)))))))))) (dss_one (ds_ret de_bl))))
end
theorem all_mk {P : Program} {w : World} {K : PySem.W.Frag} {h : Heap} {mg : Str → Option Value} {fa : Addr} (X : K.In h) (G : h.Ns mainGlobals mg) (hfa : mg "law" = some (.ref fa))
    {f0 : Addr} {oc0 kV0 dc0 pm0 cd0 ct0 : Value} {od0 an0 : Option Addr} {sl0 : Array (Option Value)} {f1 : Addr} {oc1 kV1 dc1 pm1 cd1 ct1 : Value} {od1 an1 : Option Addr} {sl1 : Array (Option Value)} {f2 : Addr} {oc2 kV2 dc2 pm2 cd2 ct2 : Value} {od2 an2 : Option Addr} {sl2 : Array (Option Value)} {f3 : Addr} {oc3 kV3 dc3 pm3 cd3 ct3 : Value} {od3 an3 : Option Addr} {sl3 : Array (Option Value)} {f4 : Addr} {oc4 kV4 dc4 pm4 cd4 ct4 : Value} {od4 an4 : Option Addr} {sl4 : Array (Option Value)} {f5 : Addr} {oc5 kV5 dc5 pm5 cd5 ct5 : Value} {od5 an5 : Option Addr} {sl5 : Array (Option Value)} {f6 : Addr} {oc6 kV6 dc6 pm6 cd6 ct6 : Value} {od6 an6 : Option Addr} {sl6 : Array (Option Value)} {f7 : Addr} {oc7 kV7 dc7 pm7 cd7 ct7 : Value} {od7 an7 : Option Addr} {sl7 : Array (Option Value)} {f8 : Addr} {oc8 kV8 dc8 pm8 cd8 ct8 : Value} {od8 an8 : Option Addr} {sl8 : Array (Option Value)} {f9 : Addr} {oc9 kV9 dc9 pm9 cd9 ct9 : Value} {od9 an9 : Option Addr} {sl9 : Array (Option Value)} {f10 : Addr} {oc10 kV10 dc10 pm10 cd10 ct10 : Value} {od10 an10 : Option Addr} {sl10 : Array (Option Value)} {f11 : Addr} {oc11 kV11 dc11 pm11 cd11 ct11 : Value} {od11 an11 : Option Addr} {sl11 : Array (Option Value)} {f12 : Addr} {oc12 kV12 dc12 pm12 cd12 ct12 : Value} {od12 an12 : Option Addr} {sl12 : Array (Option Value)} {f13 : Addr} {oc13 kV13 dc13 pm13 cd13 ct13 : Value} {od13 an13 : Option Addr} {sl13 : Array (Option Value)} {f14 : Addr} {oc14 kV14 dc14 pm14 cd14 ct14 : Value} {od14 an14 : Option Addr} {sl14 : Array (Option Value)} {f15 : Addr} {oc15 kV15 dc15 pm15 cd15 ct15 : Value} {od15 an15 : Option Addr} {sl15 : Array (Option Value)} {f16 : Addr} {oc16 kV16 dc16 pm16 cd16 ct16 : Value} {od16 an16 : Option Addr} {sl16 : Array (Option Value)} {f17 : Addr} {oc17 kV17 dc17 pm17 cd17 ct17 : Value} {od17 an17 : Option Addr} {sl17 : Array (Option Value)} {f18 : Addr} {oc18 kV18 dc18 pm18 cd18 ct18 : Value} {od18 an18 : Option Addr} {sl18 : Array (Option Value)} {f19 : Addr} {oc19 kV19 dc19 pm19 cd19 ct19 : Value} {od19 an19 : Option Addr} {sl19 : Array (Option Value)} {f20 : Addr} {oc20 kV20 dc20 pm20 cd20 ct20 : Value} {od20 an20 : Option Addr} {sl20 : Array (Option Value)} {f21 : Addr} {oc21 kV21 dc21 pm21 cd21 ct21 : Value} {od21 an21 : Option Addr} {sl21 : Array (Option Value)} {f22 : Addr} {oc22 kV22 dc22 pm22 cd22 ct22 : Value} {od22 an22 : Option Addr} {sl22 : Array (Option Value)} {f23 : Addr} {oc23 kV23 dc23 pm23 cd23 ct23 : Value} {od23 an23 : Option Addr} {sl23 : Array (Option Value)} {f24 : Addr} {oc24 kV24 dc24 pm24 cd24 ct24 : Value} {od24 an24 : Option Addr} {sl24 : Array (Option Value)} {f25 : Addr} {oc25 kV25 dc25 pm25 cd25 ct25 : Value} {od25 an25 : Option Addr} {sl25 : Array (Option Value)} {f26 : Addr} {oc26 kV26 dc26 pm26 cd26 ct26 : Value} {od26 an26 : Option Addr} {sl26 : Array (Option Value)} {f27 : Addr} {oc27 kV27 dc27 pm27 cd27 ct27 : Value} {od27 an27 : Option Addr} {sl27 : Array (Option Value)} {f28 : Addr} {oc28 kV28 dc28 pm28 cd28 ct28 : Value} {od28 an28 : Option Addr} {sl28 : Array (Option Value)} {tk_BASE : Tok} {tk_BOUND : Tok} {tk_DIVISOR : Tok} {tk_FACTOR : Tok} {tk_FANS : Tok} {tk_GRAIN : Tok} {tk_JOINED : Tok} {tk_PLAIN : Tok} {tk_RAY : Tok} {tk_ROOMS : Tok} {c_BadArgument : Addr} {c_BadFan : Addr} {c_BadStanding : Addr} {c_TooLarge : Addr}
    (a0 : PySem.W.nsIn K mainGlobals "_law_mixed" = some (some (.ref f0)))
    (l0 : K.lookup f0 = some ⟨oc0, od0, .func (PySem.W.fnOf "_law_mixed" "_law_mixed" (defArgs s__law_mixed) (defBody s__law_mixed) (defScope s__law_mixed) .none kV0 dc0 pm0 an0 cd0 ct0), sl0⟩)
    (c0 : PySem.W.codeIn K cd0 "_law_mixed" = true)
    (k0 : PySem.W.keepIn K (.ref f0) = true)
    (a1 : PySem.W.nsIn K mainGlobals "_law_numbers" = some (some (.ref f1)))
    (l1 : K.lookup f1 = some ⟨oc1, od1, .func (PySem.W.fnOf "_law_numbers" "_law_numbers" (defArgs s__law_numbers) (defBody s__law_numbers) (defScope s__law_numbers) .none kV1 dc1 pm1 an1 cd1 ct1), sl1⟩)
    (c1 : PySem.W.codeIn K cd1 "_law_numbers" = true)
    (k1 : PySem.W.keepIn K (.ref f1) = true)
    (a2 : PySem.W.nsIn K mainGlobals "_law_draw" = some (some (.ref f2)))
    (l2 : K.lookup f2 = some ⟨oc2, od2, .func (PySem.W.fnOf "_law_draw" "_law_draw" (defArgs s__law_draw) (defBody s__law_draw) (defScope s__law_draw) .none kV2 dc2 pm2 an2 cd2 ct2), sl2⟩)
    (c2 : PySem.W.codeIn K cd2 "_law_draw" = true)
    (k2 : PySem.W.keepIn K (.ref f2) = true)
    (a3 : PySem.W.nsIn K mainGlobals "_law_leaf" = some (some (.ref f3)))
    (l3 : K.lookup f3 = some ⟨oc3, od3, .func (PySem.W.fnOf "_law_leaf" "_law_leaf" (defArgs s__law_leaf) (defBody s__law_leaf) (defScope s__law_leaf) .none kV3 dc3 pm3 an3 cd3 ct3), sl3⟩)
    (c3 : PySem.W.codeIn K cd3 "_law_leaf" = true)
    (k3 : PySem.W.keepIn K (.ref f3) = true)
    (a4 : PySem.W.nsIn K mainGlobals "_law_question" = some (some (.ref f4)))
    (l4 : K.lookup f4 = some ⟨oc4, od4, .func (PySem.W.fnOf "_law_question" "_law_question" (defArgs s__law_question) (defBody s__law_question) (defScope s__law_question) .none kV4 dc4 pm4 an4 cd4 ct4), sl4⟩)
    (c4 : PySem.W.codeIn K cd4 "_law_question" = true)
    (k4 : PySem.W.keepIn K (.ref f4) = true)
    (a5 : PySem.W.nsIn K mainGlobals "_law_odd" = some (some (.ref f5)))
    (l5 : K.lookup f5 = some ⟨oc5, od5, .func (PySem.W.fnOf "_law_odd" "_law_odd" (defArgs s__law_odd) (defBody s__law_odd) (defScope s__law_odd) .none kV5 dc5 pm5 an5 cd5 ct5), sl5⟩)
    (c5 : PySem.W.codeIn K cd5 "_law_odd" = true)
    (k5 : PySem.W.keepIn K (.ref f5) = true)
    (a6 : PySem.W.nsIn K mainGlobals "_law_spoilt_leaf" = some (some (.ref f6)))
    (l6 : K.lookup f6 = some ⟨oc6, od6, .func (PySem.W.fnOf "_law_spoilt_leaf" "_law_spoilt_leaf" (defArgs s__law_spoilt_leaf) (defBody s__law_spoilt_leaf) (defScope s__law_spoilt_leaf) .none kV6 dc6 pm6 an6 cd6 ct6), sl6⟩)
    (c6 : PySem.W.codeIn K cd6 "_law_spoilt_leaf" = true)
    (k6 : PySem.W.keepIn K (.ref f6) = true)
    (a7 : PySem.W.nsIn K mainGlobals "_law_spoilt" = some (some (.ref f7)))
    (l7 : K.lookup f7 = some ⟨oc7, od7, .func (PySem.W.fnOf "_law_spoilt" "_law_spoilt" (defArgs s__law_spoilt) (defBody s__law_spoilt) (defScope s__law_spoilt) .none kV7 dc7 pm7 an7 cd7 ct7), sl7⟩)
    (c7 : PySem.W.codeIn K cd7 "_law_spoilt" = true)
    (k7 : PySem.W.keepIn K (.ref f7) = true)
    (a8 : PySem.W.nsIn K mainGlobals "_law_too_many" = some (some (.ref f8)))
    (l8 : K.lookup f8 = some ⟨oc8, od8, .func (PySem.W.fnOf "_law_too_many" "_law_too_many" (defArgs s__law_too_many) (defBody s__law_too_many) (defScope s__law_too_many) .none kV8 dc8 pm8 an8 cd8 ct8), sl8⟩)
    (c8 : PySem.W.codeIn K cd8 "_law_too_many" = true)
    (k8 : PySem.W.keepIn K (.ref f8) = true)
    (a9 : PySem.W.nsIn K mainGlobals "is_within" = some (some (.ref f9)))
    (l9 : K.lookup f9 = some ⟨oc9, od9, .func (PySem.W.fnOf "is_within" "is_within" (defArgs s_is_within) (defBody s_is_within) (defScope s_is_within) .none kV9 dc9 pm9 an9 cd9 ct9), sl9⟩)
    (c9 : PySem.W.codeIn K cd9 "is_within" = true)
    (k9 : PySem.W.keepIn K (.ref f9) = true)
    (a10 : PySem.W.nsIn K mainGlobals "is_plain" = some (some (.ref f10)))
    (l10 : K.lookup f10 = some ⟨oc10, od10, .func (PySem.W.fnOf "is_plain" "is_plain" (defArgs s_is_plain) (defBody s_is_plain) (defScope s_is_plain) .none kV10 dc10 pm10 an10 cd10 ct10), sl10⟩)
    (c10 : PySem.W.codeIn K cd10 "is_plain" = true)
    (k10 : PySem.W.keepIn K (.ref f10) = true)
    (a11 : PySem.W.nsIn K mainGlobals "is_question" = some (some (.ref f11)))
    (l11 : K.lookup f11 = some ⟨oc11, od11, .func (PySem.W.fnOf "is_question" "is_question" (defArgs s_is_question) (defBody s_is_question) (defScope s_is_question) .none kV11 dc11 pm11 an11 cd11 ct11), sl11⟩)
    (c11 : PySem.W.codeIn K cd11 "is_question" = true)
    (k11 : PySem.W.keepIn K (.ref f11) = true)
    (a12 : PySem.W.nsIn K mainGlobals "check_question" = some (some (.ref f12)))
    (l12 : K.lookup f12 = some ⟨oc12, od12, .func (PySem.W.fnOf "check_question" "check_question" (defArgs s_check_question) (defBody s_check_question) (defScope s_check_question) .none kV12 dc12 pm12 an12 cd12 ct12), sl12⟩)
    (c12 : PySem.W.codeIn K cd12 "check_question" = true)
    (k12 : PySem.W.keepIn K (.ref f12) = true)
    (a13 : PySem.W.nsIn K mainGlobals "is_so" = some (some (.ref f13)))
    (l13 : K.lookup f13 = some ⟨oc13, od13, .func (PySem.W.fnOf "is_so" "is_so" (defArgs s_is_so) (defBody s_is_so) (defScope s_is_so) .none kV13 dc13 pm13 an13 cd13 ct13), sl13⟩)
    (c13 : PySem.W.codeIn K cd13 "is_so" = true)
    (k13 : PySem.W.keepIn K (.ref f13) = true)
    (a14 : PySem.W.nsIn K mainGlobals "is_natural" = some (some (.ref f14)))
    (l14 : K.lookup f14 = some ⟨oc14, od14, .func (PySem.W.fnOf "is_natural" "is_natural" (defArgs s_is_natural) (defBody s_is_natural) (defScope s_is_natural) .none kV14 dc14 pm14 an14 cd14 ct14), sl14⟩)
    (c14 : PySem.W.codeIn K cd14 "is_natural" = true)
    (k14 : PySem.W.keepIn K (.ref f14) = true)
    (a15 : PySem.W.nsIn K mainGlobals "is_tuple" = some (some (.ref f15)))
    (l15 : K.lookup f15 = some ⟨oc15, od15, .func (PySem.W.fnOf "is_tuple" "is_tuple" (defArgs s_is_tuple) (defBody s_is_tuple) (defScope s_is_tuple) .none kV15 dc15 pm15 an15 cd15 ct15), sl15⟩)
    (c15 : PySem.W.codeIn K cd15 "is_tuple" = true)
    (k15 : PySem.W.keepIn K (.ref f15) = true)
    (a16 : PySem.W.nsIn K mainGlobals "is_place" = some (some (.ref f16)))
    (l16 : K.lookup f16 = some ⟨oc16, od16, .func (PySem.W.fnOf "is_place" "is_place" (defArgs s_is_place) (defBody s_is_place) (defScope s_is_place) .none kV16 dc16 pm16 an16 cd16 ct16), sl16⟩)
    (c16 : PySem.W.codeIn K cd16 "is_place" = true)
    (k16 : PySem.W.keepIn K (.ref f16) = true)
    (a17 : PySem.W.nsIn K mainGlobals "holds" = some (some (.ref f17)))
    (l17 : K.lookup f17 = some ⟨oc17, od17, .func (PySem.W.fnOf "holds" "holds" (defArgs s_holds) (defBody s_holds) (defScope s_holds) .none kV17 dc17 pm17 an17 cd17 ct17), sl17⟩)
    (c17 : PySem.W.codeIn K cd17 "holds" = true)
    (k17 : PySem.W.keepIn K (.ref f17) = true)
    (a18 : PySem.W.nsIn K mainGlobals "is_pair" = some (some (.ref f18)))
    (l18 : K.lookup f18 = some ⟨oc18, od18, .func (PySem.W.fnOf "is_pair" "is_pair" (defArgs s_is_pair) (defBody s_is_pair) (defScope s_is_pair) .none kV18 dc18 pm18 an18 cd18 ct18), sl18⟩)
    (c18 : PySem.W.codeIn K cd18 "is_pair" = true)
    (k18 : PySem.W.keepIn K (.ref f18) = true)
    (a19 : PySem.W.nsIn K mainGlobals "cross" = some (some (.ref f19)))
    (l19 : K.lookup f19 = some ⟨oc19, od19, .func (PySem.W.fnOf "cross" "cross" (defArgs s_cross) (defBody s_cross) (defScope s_cross) .none kV19 dc19 pm19 an19 cd19 ct19), sl19⟩)
    (c19 : PySem.W.codeIn K cd19 "cross" = true)
    (k19 : PySem.W.keepIn K (.ref f19) = true)
    (a20 : PySem.W.nsIn K mainGlobals "check_fan" = some (some (.ref f20)))
    (l20 : K.lookup f20 = some ⟨oc20, od20, .func (PySem.W.fnOf "check_fan" "check_fan" (defArgs s_check_fan) (defBody s_check_fan) (defScope s_check_fan) .none kV20 dc20 pm20 an20 cd20 ct20), sl20⟩)
    (c20 : PySem.W.codeIn K cd20 "check_fan" = true)
    (k20 : PySem.W.keepIn K (.ref f20) = true)
    (a21 : PySem.W.nsIn K mainGlobals "check_lot" = some (some (.ref f21)))
    (l21 : K.lookup f21 = some ⟨oc21, od21, .func (PySem.W.fnOf "check_lot" "check_lot" (defArgs s_check_lot) (defBody s_check_lot) (defScope s_check_lot) .none kV21 dc21 pm21 an21 cd21 ct21), sl21⟩)
    (c21 : PySem.W.codeIn K cd21 "check_lot" = true)
    (k21 : PySem.W.keepIn K (.ref f21) = true)
    (a22 : PySem.W.nsIn K mainGlobals "is_small" = some (some (.ref f22)))
    (l22 : K.lookup f22 = some ⟨oc22, od22, .func (PySem.W.fnOf "is_small" "is_small" (defArgs s_is_small) (defBody s_is_small) (defScope s_is_small) .none kV22 dc22 pm22 an22 cd22 ct22), sl22⟩)
    (c22 : PySem.W.codeIn K cd22 "is_small" = true)
    (k22 : PySem.W.keepIn K (.ref f22) = true)
    (a23 : PySem.W.nsIn K mainGlobals "check_small" = some (some (.ref f23)))
    (l23 : K.lookup f23 = some ⟨oc23, od23, .func (PySem.W.fnOf "check_small" "check_small" (defArgs s_check_small) (defBody s_check_small) (defScope s_check_small) .none kV23 dc23 pm23 an23 cd23 ct23), sl23⟩)
    (c23 : PySem.W.codeIn K cd23 "check_small" = true)
    (k23 : PySem.W.keepIn K (.ref f23) = true)
    (a24 : PySem.W.nsIn K mainGlobals "answers" = some (some (.ref f24)))
    (l24 : K.lookup f24 = some ⟨oc24, od24, .func (PySem.W.fnOf "answers" "answers" (defArgs s_answers) (defBody s_answers) (defScope s_answers) .none kV24 dc24 pm24 an24 cd24 ct24), sl24⟩)
    (c24 : PySem.W.codeIn K cd24 "answers" = true)
    (k24 : PySem.W.keepIn K (.ref f24) = true)
    (a25 : PySem.W.nsIn K mainGlobals "every" = some (some (.ref f25)))
    (l25 : K.lookup f25 = some ⟨oc25, od25, .func (PySem.W.fnOf "every" "every" (defArgs s_every) (defBody s_every) (defScope s_every) .none kV25 dc25 pm25 an25 cd25 ct25), sl25⟩)
    (c25 : PySem.W.codeIn K cd25 "every" = true)
    (k25 : PySem.W.keepIn K (.ref f25) = true)
    (a26 : PySem.W.nsIn K mainGlobals "format_question" = some (some (.ref f26)))
    (l26 : K.lookup f26 = some ⟨oc26, od26, .func (PySem.W.fnOf "format_question" "format_question" (defArgs s_format_question) (defBody s_format_question) (defScope s_format_question) .none kV26 dc26 pm26 an26 cd26 ct26), sl26⟩)
    (c26 : PySem.W.codeIn K cd26 "format_question" = true)
    (k26 : PySem.W.keepIn K (.ref f26) = true)
    (a27 : PySem.W.nsIn K mainGlobals "_law_error" = some (some (.ref f27)))
    (l27 : K.lookup f27 = some ⟨oc27, od27, .func (PySem.W.fnOf "_law_error" "_law_error" (defArgs s__law_error) (defBody s__law_error) (defScope s__law_error) .none kV27 dc27 pm27 an27 cd27 ct27), sl27⟩)
    (c27 : PySem.W.codeIn K cd27 "_law_error" = true)
    (k27 : PySem.W.keepIn K (.ref f27) = true)
    (a28 : PySem.W.nsIn K mainGlobals "law" = some (some (.ref f28)))
    (l28 : K.lookup f28 = some ⟨oc28, od28, .func (PySem.W.fnOf "law" "law" (defArgs s_law) (defBody s_law) (defScope s_law) .none kV28 dc28 pm28 an28 cd28 ct28), sl28⟩)
    (c28 : PySem.W.codeIn K cd28 "law" = true)
    (k28 : PySem.W.keepIn K (.ref f28) = true)
    (z_bool : PySem.W.nsIn K mainGlobals "bool" = some none)
    (z_int : PySem.W.nsIn K mainGlobals "int" = some none)
    (z_isinstance : PySem.W.nsIn K mainGlobals "isinstance" = some none)
    (z_len : PySem.W.nsIn K mainGlobals "len" = some none)
    (z_list : PySem.W.nsIn K mainGlobals "list" = some none)
    (z_max : PySem.W.nsIn K mainGlobals "max" = some none)
    (z_range : PySem.W.nsIn K mainGlobals "range" = some none)
    (z_str : PySem.W.nsIn K mainGlobals "str" = some none)
    (z_tuple : PySem.W.nsIn K mainGlobals "tuple" = some none)
    (g_BASE : PySem.W.nsIn K mainGlobals "BASE" = some (some (.int 12 tk_BASE)))
    (g_BOUND : PySem.W.nsIn K mainGlobals "BOUND" = some (some (.int 99 tk_BOUND)))
    (g_DIVISOR : PySem.W.nsIn K mainGlobals "DIVISOR" = some (some (.int 6 tk_DIVISOR)))
    (g_FACTOR : PySem.W.nsIn K mainGlobals "FACTOR" = some (some (.int 6 tk_FACTOR)))
    (g_FANS : PySem.W.nsIn K mainGlobals "FANS" = some (some (.int 4 tk_FANS)))
    (g_GRAIN : PySem.W.nsIn K mainGlobals "GRAIN" = some (some (.int 6 tk_GRAIN)))
    (g_JOINED : PySem.W.nsIn K mainGlobals "JOINED" = some (some (.int 6 tk_JOINED)))
    (g_PLAIN : PySem.W.nsIn K mainGlobals "PLAIN" = some (some (.int 4 tk_PLAIN)))
    (g_RAY : PySem.W.nsIn K mainGlobals "RAY" = some (some (.int 4 tk_RAY)))
    (g_ROOMS : PySem.W.nsIn K mainGlobals "ROOMS" = some (some (.int 3 tk_ROOMS)))
    (ga_BadArgument : PySem.W.nsIn K mainGlobals "BadArgument" = some (some (.ref c_BadArgument)))
    (x_BadArgument : PySem.W.excIn K c_BadArgument [.type "ValueError", .type "Exception", .type "BaseException", .type "object"] "ValueError.__new__" = true)
    (k_BadArgument : PySem.W.keepIn K (.ref c_BadArgument) = true)
    (b_BadArgument : PySem.W.subIn K (.ref c_BadArgument) (.type "BaseException") = some true)
    (t_BadArgument : PySem.W.typeIn K (.ref c_BadArgument) = some (.type "type"))
    (h_BadArgument : PySem.W.hasDictIn K c_BadArgument = true)
    (ga_BadFan : PySem.W.nsIn K mainGlobals "BadFan" = some (some (.ref c_BadFan)))
    (x_BadFan : PySem.W.excIn K c_BadFan [.type "ValueError", .type "Exception", .type "BaseException", .type "object"] "ValueError.__new__" = true)
    (k_BadFan : PySem.W.keepIn K (.ref c_BadFan) = true)
    (b_BadFan : PySem.W.subIn K (.ref c_BadFan) (.type "BaseException") = some true)
    (t_BadFan : PySem.W.typeIn K (.ref c_BadFan) = some (.type "type"))
    (h_BadFan : PySem.W.hasDictIn K c_BadFan = true)
    (ga_BadStanding : PySem.W.nsIn K mainGlobals "BadStanding" = some (some (.ref c_BadStanding)))
    (x_BadStanding : PySem.W.excIn K c_BadStanding [.type "ValueError", .type "Exception", .type "BaseException", .type "object"] "ValueError.__new__" = true)
    (k_BadStanding : PySem.W.keepIn K (.ref c_BadStanding) = true)
    (b_BadStanding : PySem.W.subIn K (.ref c_BadStanding) (.type "BaseException") = some true)
    (t_BadStanding : PySem.W.typeIn K (.ref c_BadStanding) = some (.type "type"))
    (h_BadStanding : PySem.W.hasDictIn K c_BadStanding = true)
    (ga_TooLarge : PySem.W.nsIn K mainGlobals "TooLarge" = some (some (.ref c_TooLarge)))
    (x_TooLarge : PySem.W.excIn K c_TooLarge [.type "ValueError", .type "Exception", .type "BaseException", .type "object"] "ValueError.__new__" = true)
    (k_TooLarge : PySem.W.keepIn K (.ref c_TooLarge) = true)
    (b_TooLarge : PySem.W.subIn K (.ref c_TooLarge) (.type "BaseException") = some true)
    (t_TooLarge : PySem.W.typeIn K (.ref c_TooLarge) = some (.type "type"))
    (h_TooLarge : PySem.W.hasDictIn K c_TooLarge = true)
    (u_BadArgument_BadArgument : PySem.W.subIn K (.ref c_BadArgument) (.ref c_BadArgument) = some true)
    (u_BadArgument_BadFan : PySem.W.subIn K (.ref c_BadArgument) (.ref c_BadFan) = some false)
    (u_BadArgument_BadStanding : PySem.W.subIn K (.ref c_BadArgument) (.ref c_BadStanding) = some false)
    (u_BadArgument_TooLarge : PySem.W.subIn K (.ref c_BadArgument) (.ref c_TooLarge) = some false)
    (u_BadFan_BadArgument : PySem.W.subIn K (.ref c_BadFan) (.ref c_BadArgument) = some false)
    (u_BadFan_BadFan : PySem.W.subIn K (.ref c_BadFan) (.ref c_BadFan) = some true)
    (u_BadFan_BadStanding : PySem.W.subIn K (.ref c_BadFan) (.ref c_BadStanding) = some false)
    (u_BadFan_TooLarge : PySem.W.subIn K (.ref c_BadFan) (.ref c_TooLarge) = some false)
    (u_BadStanding_BadArgument : PySem.W.subIn K (.ref c_BadStanding) (.ref c_BadArgument) = some false)
    (u_BadStanding_BadFan : PySem.W.subIn K (.ref c_BadStanding) (.ref c_BadFan) = some false)
    (u_BadStanding_BadStanding : PySem.W.subIn K (.ref c_BadStanding) (.ref c_BadStanding) = some true)
    (u_BadStanding_TooLarge : PySem.W.subIn K (.ref c_BadStanding) (.ref c_TooLarge) = some false)
    (u_TooLarge_BadArgument : PySem.W.subIn K (.ref c_TooLarge) (.ref c_BadArgument) = some false)
    (u_TooLarge_BadFan : PySem.W.subIn K (.ref c_TooLarge) (.ref c_BadFan) = some false)
    (u_TooLarge_BadStanding : PySem.W.subIn K (.ref c_TooLarge) (.ref c_BadStanding) = some false)
    (u_TooLarge_TooLarge : PySem.W.subIn K (.ref c_TooLarge) (.ref c_TooLarge) = some true)
    (ans : ∀ (e : EX) (a : Ad), Txt K mg e a → e.nW = 40 → ∀ ns : List Int, ns.length ≤ 63 → ∃ S', M.law_v8 e [.frz (ns.map .int)] [] = .ok (.bl true) S') :
    ∃ fd : FuncData, (∀ (s : Shared) (u : Value), BindsTo s fd ⟨[u], []⟩ [("script", u)]) ∧ ∃ Fn : Fn, (∀ ns : List Int, ns.length ≤ 63 → ∃ S', Fn [.frz (ns.map .int)] [] = .ok (.bl true) S') ∧
      ∀ base : Heap, K.In base → base.Ns mainGlobals mg → FnG P w K mg base 18 fa fd ["script"] (spD K 1 Fn) := by
  have e := hfa.symm.trans (PySem.W.mg_of X G a28)
  cases e
  let ex : EX := { em := PySem.W.exmOne K, km := DL.kmE K, nW := 40, x := fun n => match n with | .BadArgument => c_BadArgument | .BadFan => c_BadFan | .BadStanding => c_BadStanding | .TooLarge => c_TooLarge | _ => 0, f := fun n => 0 }
  let a : Ad := {
    f__law_mixed := f0, d__law_mixed := PySem.W.fnOf "_law_mixed" "_law_mixed" (defArgs s__law_mixed) (defBody s__law_mixed) (defScope s__law_mixed) .none kV0 dc0 pm0 an0 cd0 ct0,
    f__law_numbers := f1, d__law_numbers := PySem.W.fnOf "_law_numbers" "_law_numbers" (defArgs s__law_numbers) (defBody s__law_numbers) (defScope s__law_numbers) .none kV1 dc1 pm1 an1 cd1 ct1,
    f__law_draw := f2, d__law_draw := PySem.W.fnOf "_law_draw" "_law_draw" (defArgs s__law_draw) (defBody s__law_draw) (defScope s__law_draw) .none kV2 dc2 pm2 an2 cd2 ct2,
    f__law_leaf := f3, d__law_leaf := PySem.W.fnOf "_law_leaf" "_law_leaf" (defArgs s__law_leaf) (defBody s__law_leaf) (defScope s__law_leaf) .none kV3 dc3 pm3 an3 cd3 ct3,
    f__law_question := f4, d__law_question := PySem.W.fnOf "_law_question" "_law_question" (defArgs s__law_question) (defBody s__law_question) (defScope s__law_question) .none kV4 dc4 pm4 an4 cd4 ct4,
    f__law_odd := f5, d__law_odd := PySem.W.fnOf "_law_odd" "_law_odd" (defArgs s__law_odd) (defBody s__law_odd) (defScope s__law_odd) .none kV5 dc5 pm5 an5 cd5 ct5,
    f__law_spoilt_leaf := f6, d__law_spoilt_leaf := PySem.W.fnOf "_law_spoilt_leaf" "_law_spoilt_leaf" (defArgs s__law_spoilt_leaf) (defBody s__law_spoilt_leaf) (defScope s__law_spoilt_leaf) .none kV6 dc6 pm6 an6 cd6 ct6,
    f__law_spoilt := f7, d__law_spoilt := PySem.W.fnOf "_law_spoilt" "_law_spoilt" (defArgs s__law_spoilt) (defBody s__law_spoilt) (defScope s__law_spoilt) .none kV7 dc7 pm7 an7 cd7 ct7,
    f__law_too_many := f8, d__law_too_many := PySem.W.fnOf "_law_too_many" "_law_too_many" (defArgs s__law_too_many) (defBody s__law_too_many) (defScope s__law_too_many) .none kV8 dc8 pm8 an8 cd8 ct8,
    f_is_within := f9, d_is_within := PySem.W.fnOf "is_within" "is_within" (defArgs s_is_within) (defBody s_is_within) (defScope s_is_within) .none kV9 dc9 pm9 an9 cd9 ct9,
    f_is_plain := f10, d_is_plain := PySem.W.fnOf "is_plain" "is_plain" (defArgs s_is_plain) (defBody s_is_plain) (defScope s_is_plain) .none kV10 dc10 pm10 an10 cd10 ct10,
    f_is_question := f11, d_is_question := PySem.W.fnOf "is_question" "is_question" (defArgs s_is_question) (defBody s_is_question) (defScope s_is_question) .none kV11 dc11 pm11 an11 cd11 ct11,
    f_check_question := f12, d_check_question := PySem.W.fnOf "check_question" "check_question" (defArgs s_check_question) (defBody s_check_question) (defScope s_check_question) .none kV12 dc12 pm12 an12 cd12 ct12,
    f_is_so := f13, d_is_so := PySem.W.fnOf "is_so" "is_so" (defArgs s_is_so) (defBody s_is_so) (defScope s_is_so) .none kV13 dc13 pm13 an13 cd13 ct13,
    f_is_natural := f14, d_is_natural := PySem.W.fnOf "is_natural" "is_natural" (defArgs s_is_natural) (defBody s_is_natural) (defScope s_is_natural) .none kV14 dc14 pm14 an14 cd14 ct14,
    f_is_tuple := f15, d_is_tuple := PySem.W.fnOf "is_tuple" "is_tuple" (defArgs s_is_tuple) (defBody s_is_tuple) (defScope s_is_tuple) .none kV15 dc15 pm15 an15 cd15 ct15,
    f_is_place := f16, d_is_place := PySem.W.fnOf "is_place" "is_place" (defArgs s_is_place) (defBody s_is_place) (defScope s_is_place) .none kV16 dc16 pm16 an16 cd16 ct16,
    f_holds := f17, d_holds := PySem.W.fnOf "holds" "holds" (defArgs s_holds) (defBody s_holds) (defScope s_holds) .none kV17 dc17 pm17 an17 cd17 ct17,
    f_is_pair := f18, d_is_pair := PySem.W.fnOf "is_pair" "is_pair" (defArgs s_is_pair) (defBody s_is_pair) (defScope s_is_pair) .none kV18 dc18 pm18 an18 cd18 ct18,
    f_cross := f19, d_cross := PySem.W.fnOf "cross" "cross" (defArgs s_cross) (defBody s_cross) (defScope s_cross) .none kV19 dc19 pm19 an19 cd19 ct19,
    f_check_fan := f20, d_check_fan := PySem.W.fnOf "check_fan" "check_fan" (defArgs s_check_fan) (defBody s_check_fan) (defScope s_check_fan) .none kV20 dc20 pm20 an20 cd20 ct20,
    f_check_lot := f21, d_check_lot := PySem.W.fnOf "check_lot" "check_lot" (defArgs s_check_lot) (defBody s_check_lot) (defScope s_check_lot) .none kV21 dc21 pm21 an21 cd21 ct21,
    f_is_small := f22, d_is_small := PySem.W.fnOf "is_small" "is_small" (defArgs s_is_small) (defBody s_is_small) (defScope s_is_small) .none kV22 dc22 pm22 an22 cd22 ct22,
    f_check_small := f23, d_check_small := PySem.W.fnOf "check_small" "check_small" (defArgs s_check_small) (defBody s_check_small) (defScope s_check_small) .none kV23 dc23 pm23 an23 cd23 ct23,
    f_answers := f24, d_answers := PySem.W.fnOf "answers" "answers" (defArgs s_answers) (defBody s_answers) (defScope s_answers) .none kV24 dc24 pm24 an24 cd24 ct24,
    f_every := f25, d_every := PySem.W.fnOf "every" "every" (defArgs s_every) (defBody s_every) (defScope s_every) .none kV25 dc25 pm25 an25 cd25 ct25,
    f_format_question := f26, d_format_question := PySem.W.fnOf "format_question" "format_question" (defArgs s_format_question) (defBody s_format_question) (defScope s_format_question) .none kV26 dc26 pm26 an26 cd26 ct26,
    f__law_error := f27, d__law_error := PySem.W.fnOf "_law_error" "_law_error" (defArgs s__law_error) (defBody s__law_error) (defScope s__law_error) .none kV27 dc27 pm27 an27 cd27 ct27,
    f_law := fa, d_law := PySem.W.fnOf "law" "law" (defArgs s_law) (defBody s_law) (defScope s_law) .none kV28 dc28 pm28 an28 cd28 ct28,
    t_BASE := tk_BASE,
    t_BOUND := tk_BOUND,
    t_DIVISOR := tk_DIVISOR,
    t_FACTOR := tk_FACTOR,
    t_FANS := tk_FANS,
    t_GRAIN := tk_GRAIN,
    t_JOINED := tk_JOINED,
    t_PLAIN := tk_PLAIN,
    t_RAY := tk_RAY,
    t_ROOMS := tk_ROOMS }
  have T : Txt K mg ex a := {
    em := rfl,
    g__law_mixed := PySem.W.mg_of X G a0, F__law_mixed := fun_mk (st := s__law_mixed) l0 c0 k0, k__law_mixed := k0,
    g__law_numbers := PySem.W.mg_of X G a1, F__law_numbers := fun_mk (st := s__law_numbers) l1 c1 k1, k__law_numbers := k1,
    g__law_draw := PySem.W.mg_of X G a2, F__law_draw := fun_mk (st := s__law_draw) l2 c2 k2, k__law_draw := k2,
    g__law_leaf := PySem.W.mg_of X G a3, F__law_leaf := fun_mk (st := s__law_leaf) l3 c3 k3, k__law_leaf := k3,
    g__law_question := PySem.W.mg_of X G a4, F__law_question := fun_mk (st := s__law_question) l4 c4 k4, k__law_question := k4,
    g__law_odd := PySem.W.mg_of X G a5, F__law_odd := fun_mk (st := s__law_odd) l5 c5 k5, k__law_odd := k5,
    g__law_spoilt_leaf := PySem.W.mg_of X G a6, F__law_spoilt_leaf := fun_mk (st := s__law_spoilt_leaf) l6 c6 k6, k__law_spoilt_leaf := k6,
    g__law_spoilt := PySem.W.mg_of X G a7, F__law_spoilt := fun_mk (st := s__law_spoilt) l7 c7 k7, k__law_spoilt := k7,
    g__law_too_many := PySem.W.mg_of X G a8, F__law_too_many := fun_mk (st := s__law_too_many) l8 c8 k8, k__law_too_many := k8,
    g_is_within := PySem.W.mg_of X G a9, F_is_within := fun_mk (st := s_is_within) l9 c9 k9, k_is_within := k9,
    g_is_plain := PySem.W.mg_of X G a10, F_is_plain := fun_mk (st := s_is_plain) l10 c10 k10, k_is_plain := k10,
    g_is_question := PySem.W.mg_of X G a11, F_is_question := fun_mk (st := s_is_question) l11 c11 k11, k_is_question := k11,
    g_check_question := PySem.W.mg_of X G a12, F_check_question := fun_mk (st := s_check_question) l12 c12 k12, k_check_question := k12,
    g_is_so := PySem.W.mg_of X G a13, F_is_so := fun_mk (st := s_is_so) l13 c13 k13, k_is_so := k13,
    g_is_natural := PySem.W.mg_of X G a14, F_is_natural := fun_mk (st := s_is_natural) l14 c14 k14, k_is_natural := k14,
    g_is_tuple := PySem.W.mg_of X G a15, F_is_tuple := fun_mk (st := s_is_tuple) l15 c15 k15, k_is_tuple := k15,
    g_is_place := PySem.W.mg_of X G a16, F_is_place := fun_mk (st := s_is_place) l16 c16 k16, k_is_place := k16,
    g_holds := PySem.W.mg_of X G a17, F_holds := fun_mk (st := s_holds) l17 c17 k17, k_holds := k17,
    g_is_pair := PySem.W.mg_of X G a18, F_is_pair := fun_mk (st := s_is_pair) l18 c18 k18, k_is_pair := k18,
    g_cross := PySem.W.mg_of X G a19, F_cross := fun_mk (st := s_cross) l19 c19 k19, k_cross := k19,
    g_check_fan := PySem.W.mg_of X G a20, F_check_fan := fun_mk (st := s_check_fan) l20 c20 k20, k_check_fan := k20,
    g_check_lot := PySem.W.mg_of X G a21, F_check_lot := fun_mk (st := s_check_lot) l21 c21 k21, k_check_lot := k21,
    g_is_small := PySem.W.mg_of X G a22, F_is_small := fun_mk (st := s_is_small) l22 c22 k22, k_is_small := k22,
    g_check_small := PySem.W.mg_of X G a23, F_check_small := fun_mk (st := s_check_small) l23 c23 k23, k_check_small := k23,
    g_answers := PySem.W.mg_of X G a24, F_answers := fun_mk (st := s_answers) l24 c24 k24, k_answers := k24,
    g_every := PySem.W.mg_of X G a25, F_every := fun_mk (st := s_every) l25 c25 k25, k_every := k25,
    g_format_question := PySem.W.mg_of X G a26, F_format_question := fun_mk (st := s_format_question) l26 c26 k26, k_format_question := k26,
    g__law_error := PySem.W.mg_of X G a27, F__law_error := fun_mk (st := s__law_error) l27 c27 k27, k__law_error := k27,
    g_law := PySem.W.mg_of X G a28, F_law := fun_mk (st := s_law) l28 c28 k28, k_law := k28,
    z_bool := PySem.W.mg_none_of X G z_bool,
    z_int := PySem.W.mg_none_of X G z_int,
    z_isinstance := PySem.W.mg_none_of X G z_isinstance,
    z_len := PySem.W.mg_none_of X G z_len,
    z_list := PySem.W.mg_none_of X G z_list,
    z_max := PySem.W.mg_none_of X G z_max,
    z_range := PySem.W.mg_none_of X G z_range,
    z_str := PySem.W.mg_none_of X G z_str,
    z_tuple := PySem.W.mg_none_of X G z_tuple,
    g_BASE := PySem.W.mg_of X G g_BASE,
    g_BOUND := PySem.W.mg_of X G g_BOUND,
    g_DIVISOR := PySem.W.mg_of X G g_DIVISOR,
    g_FACTOR := PySem.W.mg_of X G g_FACTOR,
    g_FANS := PySem.W.mg_of X G g_FANS,
    g_GRAIN := PySem.W.mg_of X G g_GRAIN,
    g_JOINED := PySem.W.mg_of X G g_JOINED,
    g_PLAIN := PySem.W.mg_of X G g_PLAIN,
    g_RAY := PySem.W.mg_of X G g_RAY,
    g_ROOMS := PySem.W.mg_of X G g_ROOMS,
    g_BadArgument := PySem.W.mg_of X G ga_BadArgument, x_BadArgument := x_BadArgument, k_BadArgument := k_BadArgument, b_BadArgument := b_BadArgument, t_BadArgument := t_BadArgument, h_BadArgument := h_BadArgument,
    g_BadFan := PySem.W.mg_of X G ga_BadFan, x_BadFan := x_BadFan, k_BadFan := k_BadFan, b_BadFan := b_BadFan, t_BadFan := t_BadFan, h_BadFan := h_BadFan,
    g_BadStanding := PySem.W.mg_of X G ga_BadStanding, x_BadStanding := x_BadStanding, k_BadStanding := k_BadStanding, b_BadStanding := b_BadStanding, t_BadStanding := t_BadStanding, h_BadStanding := h_BadStanding,
    g_TooLarge := PySem.W.mg_of X G ga_TooLarge, x_TooLarge := x_TooLarge, k_TooLarge := k_TooLarge, b_TooLarge := b_TooLarge, t_TooLarge := t_TooLarge, h_TooLarge := h_TooLarge,
    u_BadArgument_BadArgument := PySem.W.exm_ref b_BadArgument h_BadArgument t_BadArgument u_BadArgument_BadArgument,
    u_BadArgument_BadFan := PySem.W.exm_ref b_BadFan h_BadFan t_BadFan u_BadArgument_BadFan,
    u_BadArgument_BadStanding := PySem.W.exm_ref b_BadStanding h_BadStanding t_BadStanding u_BadArgument_BadStanding,
    u_BadArgument_TooLarge := PySem.W.exm_ref b_TooLarge h_TooLarge t_TooLarge u_BadArgument_TooLarge,
    u_BadFan_BadArgument := PySem.W.exm_ref b_BadArgument h_BadArgument t_BadArgument u_BadFan_BadArgument,
    u_BadFan_BadFan := PySem.W.exm_ref b_BadFan h_BadFan t_BadFan u_BadFan_BadFan,
    u_BadFan_BadStanding := PySem.W.exm_ref b_BadStanding h_BadStanding t_BadStanding u_BadFan_BadStanding,
    u_BadFan_TooLarge := PySem.W.exm_ref b_TooLarge h_TooLarge t_TooLarge u_BadFan_TooLarge,
    u_BadStanding_BadArgument := PySem.W.exm_ref b_BadArgument h_BadArgument t_BadArgument u_BadStanding_BadArgument,
    u_BadStanding_BadFan := PySem.W.exm_ref b_BadFan h_BadFan t_BadFan u_BadStanding_BadFan,
    u_BadStanding_BadStanding := PySem.W.exm_ref b_BadStanding h_BadStanding t_BadStanding u_BadStanding_BadStanding,
    u_BadStanding_TooLarge := PySem.W.exm_ref b_TooLarge h_TooLarge t_TooLarge u_BadStanding_TooLarge,
    u_TooLarge_BadArgument := PySem.W.exm_ref b_BadArgument h_BadArgument t_BadArgument u_TooLarge_BadArgument,
    u_TooLarge_BadFan := PySem.W.exm_ref b_BadFan h_BadFan t_BadFan u_TooLarge_BadFan,
    u_TooLarge_BadStanding := PySem.W.exm_ref b_BadStanding h_BadStanding t_BadStanding u_TooLarge_BadStanding,
    u_TooLarge_TooLarge := PySem.W.exm_ref b_TooLarge h_TooLarge t_TooLarge u_TooLarge_TooLarge }
  exact ⟨a.d_law, fun s v => .of_eq rfl, M.law_v8 ex, ans ex a T rfl, fun base _ _ => ok_law T⟩
end Kh
end

set_option Elab.async false
set_option linter.all false
set_option maxRecDepth 100000
namespace Kh
open PySem PySem.Spec PyProof.Rows L2 DL
theorem answer {K : PySem.W.Frag} {mg : Str → Option Value} {e : EX} {a : Ad} (T : Txt K mg e a) (hW : e.nW = 40) (ns : List Int) (hl : ns.length ≤ 63) : ∃ S', M.law_v8 e [.frz (ns.map .int)] [] = .ok (.bl true) S' := fin e ⟨T.u_BadArgument_BadArgument, T.u_BadStanding_BadArgument, T.u_TooLarge_BadArgument, T.u_BadStanding_BadFan, T.u_BadStanding_BadStanding, T.u_BadStanding_TooLarge, T.u_TooLarge_BadFan, T.u_TooLarge_BadStanding, T.u_TooLarge_TooLarge⟩ hW ns hl
end Kh
open PySem PySem.W PyProof.Rows in
set_option maxRecDepth 100000 in
set_option maxHeartbeats 0 in
theorem PySem.Challenge.cw_twinpurse_k27_questions_are_checked_holds : PySem.Challenge.rw_twinpurse_k27_questions_are_checked.Holds := by
  w_on; o_law; k_head; (case hw => w_witness2)
  k_fill
  refine DL.law_end (l := PySem.Challenge.rw_twinpurse_k27_questions_are_checked) (n := 63) (k := 18) (x := "script") rfl (by decide) rfl ⟨rfl, by decide, by decide⟩ (fun w h Y => PySem.W.kIn_of Y) ?F
  case F =>
    intro w mg fa h KX G hmg
    refine' Kh.all_mk KX G hmg ?a0 ?l0 ?c0 ?k0 ?a1 ?l1 ?c1 ?k1 ?a2 ?l2 ?c2 ?k2 ?a3 ?l3 ?c3 ?k3 ?a4 ?l4 ?c4 ?k4 ?a5 ?l5 ?c5 ?k5 ?a6 ?l6 ?c6 ?k6 ?a7 ?l7 ?c7 ?k7 ?a8 ?l8 ?c8 ?k8 ?a9 ?l9 ?c9 ?k9 ?a10 ?l10 ?c10 ?k10 ?a11 ?l11 ?c11 ?k11 ?a12 ?l12 ?c12 ?k12 ?a13 ?l13 ?c13 ?k13 ?a14 ?l14 ?c14 ?k14 ?a15 ?l15 ?c15 ?k15 ?a16 ?l16 ?c16 ?k16 ?a17 ?l17 ?c17 ?k17 ?a18 ?l18 ?c18 ?k18 ?a19 ?l19 ?c19 ?k19 ?a20 ?l20 ?c20 ?k20 ?a21 ?l21 ?c21 ?k21 ?a22 ?l22 ?c22 ?k22 ?a23 ?l23 ?c23 ?k23 ?a24 ?l24 ?c24 ?k24 ?a25 ?l25 ?c25 ?k25 ?a26 ?l26 ?c26 ?k26 ?a27 ?l27 ?c27 ?k27 ?a28 ?l28 ?c28 ?k28 ?z_bool ?z_int ?z_isinstance ?z_len ?z_list ?z_max ?z_range ?z_str ?z_tuple ?g_BASE ?g_BOUND ?g_DIVISOR ?g_FACTOR ?g_FANS ?g_GRAIN ?g_JOINED ?g_PLAIN ?g_RAY ?g_ROOMS ?ga_BadArgument ?x_BadArgument ?k_BadArgument ?b_BadArgument ?t_BadArgument ?h_BadArgument ?ga_BadFan ?x_BadFan ?k_BadFan ?b_BadFan ?t_BadFan ?h_BadFan ?ga_BadStanding ?x_BadStanding ?k_BadStanding ?b_BadStanding ?t_BadStanding ?h_BadStanding ?ga_TooLarge ?x_TooLarge ?k_TooLarge ?b_TooLarge ?t_TooLarge ?h_TooLarge ?u_BadArgument_BadArgument ?u_BadArgument_BadFan ?u_BadArgument_BadStanding ?u_BadArgument_TooLarge ?u_BadFan_BadArgument ?u_BadFan_BadFan ?u_BadFan_BadStanding ?u_BadFan_TooLarge ?u_BadStanding_BadArgument ?u_BadStanding_BadFan ?u_BadStanding_BadStanding ?u_BadStanding_TooLarge ?u_TooLarge_BadArgument ?u_TooLarge_BadFan ?u_TooLarge_BadStanding ?u_TooLarge_TooLarge (fun e a T hW ns hl => Kh.answer T hW ns hl)
    (case a0 => k_is)
    (case l0 => k_is)
    (case c0 => k_is)
    (case k0 => k_is)
    (case a1 => k_is)
    (case l1 => k_is)
    (case c1 => k_is)
    (case k1 => k_is)
    (case a2 => k_is)
    (case l2 => k_is)
    (case c2 => k_is)
    (case k2 => k_is)
    (case a3 => k_is)
    (case l3 => k_is)
    (case c3 => k_is)
    (case k3 => k_is)
    (case a4 => k_is)
    (case l4 => k_is)
    (case c4 => k_is)
    (case k4 => k_is)
    (case a5 => k_is)
    (case l5 => k_is)
    (case c5 => k_is)
    (case k5 => k_is)
    (case a6 => k_is)
    (case l6 => k_is)
    (case c6 => k_is)
    (case k6 => k_is)
    (case a7 => k_is)
    (case l7 => k_is)
    (case c7 => k_is)
    (case k7 => k_is)
    (case a8 => k_is)
    (case l8 => k_is)
    (case c8 => k_is)
    (case k8 => k_is)
    (case a9 => k_is)
    (case l9 => k_is)
    (case c9 => k_is)
    (case k9 => k_is)
    (case a10 => k_is)
    (case l10 => k_is)
    (case c10 => k_is)
    (case k10 => k_is)
    (case a11 => k_is)
    (case l11 => k_is)
    (case c11 => k_is)
    (case k11 => k_is)
    (case a12 => k_is)
    (case l12 => k_is)
    (case c12 => k_is)
    (case k12 => k_is)
    (case a13 => k_is)
    (case l13 => k_is)
    (case c13 => k_is)
    (case k13 => k_is)
    (case a14 => k_is)
    (case l14 => k_is)
    (case c14 => k_is)
    (case k14 => k_is)
    (case a15 => k_is)
    (case l15 => k_is)
    (case c15 => k_is)
    (case k15 => k_is)
    (case a16 => k_is)
    (case l16 => k_is)
    (case c16 => k_is)
    (case k16 => k_is)
    (case a17 => k_is)
    (case l17 => k_is)
    (case c17 => k_is)
    (case k17 => k_is)
    (case a18 => k_is)
    (case l18 => k_is)
    (case c18 => k_is)
    (case k18 => k_is)
    (case a19 => k_is)
    (case l19 => k_is)
    (case c19 => k_is)
    (case k19 => k_is)
    (case a20 => k_is)
    (case l20 => k_is)
    (case c20 => k_is)
    (case k20 => k_is)
    (case a21 => k_is)
    (case l21 => k_is)
    (case c21 => k_is)
    (case k21 => k_is)
    (case a22 => k_is)
    (case l22 => k_is)
    (case c22 => k_is)
    (case k22 => k_is)
    (case a23 => k_is)
    (case l23 => k_is)
    (case c23 => k_is)
    (case k23 => k_is)
    (case a24 => k_is)
    (case l24 => k_is)
    (case c24 => k_is)
    (case k24 => k_is)
    (case a25 => k_is)
    (case l25 => k_is)
    (case c25 => k_is)
    (case k25 => k_is)
    (case a26 => k_is)
    (case l26 => k_is)
    (case c26 => k_is)
    (case k26 => k_is)
    (case a27 => k_is)
    (case l27 => k_is)
    (case c27 => k_is)
    (case k27 => k_is)
    (case a28 => k_is)
    (case l28 => k_is)
    (case c28 => k_is)
    (case k28 => k_is)
    (case z_bool => k_is)
    (case z_int => k_is)
    (case z_isinstance => k_is)
    (case z_len => k_is)
    (case z_list => k_is)
    (case z_max => k_is)
    (case z_range => k_is)
    (case z_str => k_is)
    (case z_tuple => k_is)
    (case g_BASE => k_is)
    (case g_BOUND => k_is)
    (case g_DIVISOR => k_is)
    (case g_FACTOR => k_is)
    (case g_FANS => k_is)
    (case g_GRAIN => k_is)
    (case g_JOINED => k_is)
    (case g_PLAIN => k_is)
    (case g_RAY => k_is)
    (case g_ROOMS => k_is)
    (case ga_BadArgument => k_is)
    (case x_BadArgument => k_exc)
    (case k_BadArgument => k_is)
    (case b_BadArgument => k_is)
    (case t_BadArgument => k_is)
    (case h_BadArgument => k_is)
    (case ga_BadFan => k_is)
    (case x_BadFan => k_exc)
    (case k_BadFan => k_is)
    (case b_BadFan => k_is)
    (case t_BadFan => k_is)
    (case h_BadFan => k_is)
    (case ga_BadStanding => k_is)
    (case x_BadStanding => k_exc)
    (case k_BadStanding => k_is)
    (case b_BadStanding => k_is)
    (case t_BadStanding => k_is)
    (case h_BadStanding => k_is)
    (case ga_TooLarge => k_is)
    (case x_TooLarge => k_exc)
    (case k_TooLarge => k_is)
    (case b_TooLarge => k_is)
    (case t_TooLarge => k_is)
    (case h_TooLarge => k_is)
    (case u_BadArgument_BadArgument => first | rfl | k_is)
    (case u_BadArgument_BadFan => first | rfl | k_is)
    (case u_BadArgument_BadStanding => first | rfl | k_is)
    (case u_BadArgument_TooLarge => first | rfl | k_is)
    (case u_BadFan_BadArgument => first | rfl | k_is)
    (case u_BadFan_BadFan => first | rfl | k_is)
    (case u_BadFan_BadStanding => first | rfl | k_is)
    (case u_BadFan_TooLarge => first | rfl | k_is)
    (case u_BadStanding_BadArgument => first | rfl | k_is)
    (case u_BadStanding_BadFan => first | rfl | k_is)
    (case u_BadStanding_BadStanding => first | rfl | k_is)
    (case u_BadStanding_TooLarge => first | rfl | k_is)
    (case u_TooLarge_BadArgument => first | rfl | k_is)
    (case u_TooLarge_BadFan => first | rfl | k_is)
    (case u_TooLarge_BadStanding => first | rfl | k_is)
    (case u_TooLarge_TooLarge => first | rfl | k_is)
