import PyProof.Rows.All
import Wide.All
import OpenK.AllK
import Wide.FinOn
import HandS.ForMost
import HandS.ForExc
import HandS.Small
import HandS.Lambda
import HandS.TupAny
import HandS.Deep
import HandS.IsInst
import HandS.Wide
import HandS.Zip
import HandS.Style
import HandS.DictComp
import HandS.SortInts
import HandS.Conv
import HandS.Steps
import HandS.WrittenGet
import HandS.ExcIs
import HandS.ExcInit
import KE.DatumIndex
import KE.DataFind
import HandS.SetFor
import KE.KExcIs
import HandS.WordsExc
import HandS.EndTab
import KE.KExcSuper
import KE.KSuper
import KE.DataEq
import PySem.Challenge.RW_treesapartways_k78_whole_stores_of_versi
set_option Elab.async false
set_option linter.all false
set_option maxRecDepth 100000
set_option maxHeartbeats 2000000
/-! TL1: tree values, a memory of numbered objects, and how both lie in the abstract heap -/
namespace TL
open PySem PySem.Spec PyProof.Rows L2
/-- a value as a tree: tuples by their items, changing things by their number -/
inductive T where
  | non | bl (b : Bool) | int (i : Int) | str (x : Str) | tup (xs : List T) | ref (n : Nat) | er (a : Addr) (d : Option Addr) | fl (xs : List Int)
/-- a changing thing -/
inductive MO where
  | lst (xs : List T)
  | dct (kvs : List (Key × T))
  | ins (c : Str) (fs : List (Str × T))
  /-- a dict while it is walked -/
  | lck (kvs : List (Key × T))
def MO.loose : MO → Bool
  | .lck _ => false
  | _ => true
abbrev Mem := List MO
/-- an expression's end -/
inductive Res where
  | ok (t : T) (μ : Mem)
  | exc (c : Str) (fs : List (Str × T)) (μ : Mem)
  | bad
def Res.bind (r : Res) (k : T → Mem → Res) : Res := match r with
  | .ok t μ => k t μ
  | .exc c fs μ => .exc c fs μ
  | .bad => .bad
structure G where
  K : PySem.W.Frag
  mg : Str → Option Value
  tabs : List (Addr × Str)
abbrev gx (X : Cx) (tb : List (Addr × Str)) : G := ⟨X.K, X.mg, tb⟩
/-- a list that no one changes -/
def FSq (K : PySem.W.Frag) (H : Hp) (a : Addr) (vs : List V) : Prop := (∃ o, H a = some (.frz o (.lst vs))) ∨
  ∃ (o : Obj) (its : Array Value) (n : Nat), K.lookup a = some o ∧ o.cls = .type "list" ∧ o.dict = none ∧ o.data = .seq its n ∧ its.size ≤ sizeLine ∧ Vals vs its.toList
theorem FSq.sq {K : PySem.W.Frag} {H : Hp} {a : Addr} {vs : List V} (h : FSq K H a vs) : SqL K H a vs := h.elim (fun ⟨o, h⟩ => .inl (.inr ⟨o, h⟩)) .inr
section
variable (K : PySem.W.Frag) (ρ : Nat → Addr) (n : Nat) (H : Hp)
mutual
def DV : T → V → Prop
  | .non, v => v = .non
  | .bl b, v => v = .bl b
  | .int i, v => v = .int i
  | .str x, v => v = .str x
  | .er a d, v => v = .ref a ∧ ∀ dx, d = some dx → ∃ ws, H dx = some (.xd ws)
  | .fl xs, v => ∃ a, v = .ref a ∧ FSq K H a (xs.map V.int)
  | .ref k, v => k < n ∧ v = .ref (ρ k)
  | .tup ts, v => ∃ a vs, v = .ref a ∧ SqT K H a vs ∧ DVs ts vs
def DVs : List T → List V → Prop
  | [], vs => vs = []
  | t :: ts, vs => ∃ v r, vs = v :: r ∧ DV t v ∧ DVs ts r
end
def DVk {κ : Type} : List (κ × T) → List (κ × V) → Prop
  | [], ws => ws = []
  | p :: r, ws => ∃ v ws', ws = (p.1, v) :: ws' ∧ DV K ρ n H p.2 v ∧ DVk r ws'
end
def MOr (g : G) (ρ : Nat → Addr) (n : Nat) (H : Hp) : MO → HO → Prop
  | .lst ts, o => ∃ vs, o = .lst vs ∧ DVs g.K ρ n H ts vs
  | .dct kvs, o => ∃ ws, o = .dK ws ∧ DVk g.K ρ n H kvs ws
  | .ins c fs, o => ∃ C dx ws, g.mg c = some (.ref C) ∧ o = .ins C dx ws ∧ DVk g.K ρ n H fs ws
  | .lck kvs, o => ∃ od ws, o = .frz od (.dK ws) ∧ DVk g.K ρ n H kvs ws
/-- things that never change -/
def Fx : HO → Prop
  | .tup _ => True
  | .frz _ _ => True
  | .xd _ => True
  | _ => False
/-- nothing at b, or a table of code objects -/
def Nt (H : Hp) (b : Addr) : Prop := H b = none ∨ ∃ ps, H b = some (.tbl ps)
theorem Nt.no {H : Hp} {b : Addr} {o : HO} (h : Nt H b) (e : H b = some o) (ht : ∀ ps, o ≠ .tbl ps) : False := h.elim (fun z => by rw [z] at e; cases e) fun ⟨ps, z⟩ => by rw [z] at e; cases e; exact ht ps rfl
theorem Nt.un {H : Hp} {b p : Addr} {o : HO} (e : b ≠ p) (h : Nt (upd H p o) b) : Nt H b := by
  unfold Nt at *
  rw [upd_ne e] at h; exact h
/-- from one state to a later one -/
structure Ext (g : G) (ρ : Nat → Addr) (n : Nat) (H : Hp) (ρ' : Nat → Addr) (n' : Nat) (H' : Hp) : Prop where
  le : n ≤ n'
  ag : ∀ i, i < n → ρ' i = ρ i
  nw : ∀ i, n ≤ i → i < n' → Nt H (ρ' i)
  kp : ∀ b o, H b = some o → (∀ i, i < n → b ≠ ρ i) → (∀ ps, o ≠ .tbl ps) → H' b = some o
  fx : ∀ b o, H b = some o → Fx o → H' b = some o
  th : ∀ b, Nt H' b → Nt H b
  tb : LamX.Tabs g.tabs H → LamX.Tabs g.tabs H'
structure MRel (g : G) (ρ : Nat → Addr) (μ : Mem) (H : Hp) : Prop where
  inj : ∀ i j, i < μ.length → j < μ.length → ρ i = ρ j → i = j
  ob : ∀ i o, μ[i]? = some o → ∃ ho, H (ρ i) = some ho ∧ MOr g ρ μ.length H o ho
  tb : LamX.Tabs g.tabs H
structure LRel (K : PySem.W.Frag) (ρ : Nat → Addr) (n : Nat) (H : Hp) (σT : List (Option T)) (σ : L2.St) : Prop where
  len : σT.length = σ.length
  at_ : ∀ (i : Nat) (t : T), σT[i]? = some (some t) → ∃ v : V, σ[i]? = some (some v) ∧ DV K ρ n H t v
theorem Ext.refl (g : G) (ρ : Nat → Addr) (n : Nat) (H : Hp) : Ext g ρ n H ρ n H :=
  ⟨Nat.le_refl _, fun _ _ => rfl, fun i h1 h2 => absurd h2 (Nat.not_lt.mpr h1), fun _ _ h _ _ => h, fun _ _ h _ => h, fun _ h => h, fun h => h⟩
section
variable {g : G} {ρ ρ1 ρ2 : Nat → Addr} {n n1 n2 : Nat} {H H1 H2 : Hp}
theorem Ext.trans (a : Ext g ρ n H ρ1 n1 H1) (b : Ext g ρ1 n1 H1 ρ2 n2 H2) : Ext g ρ n H ρ2 n2 H2 where
  le := Nat.le_trans a.le b.le
  ag := fun i hi => (b.ag i (Nat.lt_of_lt_of_le hi a.le)).trans (a.ag i hi)
  nw := fun i h1 h2 => by
    by_cases h : i < n1
    · rw [b.ag i h]; exact a.nw i h1 h
    · exact a.th _ (b.nw i (Nat.not_lt.mp h) h2)
  kp := fun x o h hn ht => b.kp x o (a.kp x o h hn ht) (fun i hi => by
    by_cases h' : i < n
    · rw [a.ag i h']; exact hn i h'
    · intro e
      have := a.nw i (Nat.not_lt.mp h') hi
      rw [← e] at this
      exact this.no h ht) ht
  fx := fun x o h f => b.fx x o (a.fx x o h f) f
  th := fun x h => a.th x (b.th x h)
  tb := fun h => b.tb (a.tb h)
theorem SqT.ext {a : Addr} {vs : List V} (e : Ext g ρ n H ρ1 n1 H1) (h : SqT g.K H a vs) : SqT g.K H1 a vs := by
  rcases h with (h | ⟨o, h⟩) | h
  · exact .inl (.inl (e.fx _ _ h True.intro))
  · exact .inl (.inr ⟨o, e.fx _ _ h True.intro⟩)
  · exact .inr h
theorem FSq.ext {a : Addr} {vs : List V} (e : Ext g ρ n H ρ1 n1 H1) (h : FSq g.K H a vs) : FSq g.K H1 a vs := h.elim (fun ⟨o, h⟩ => .inl ⟨o, e.fx _ _ h True.intro⟩) .inr
mutual
theorem DV.ext (e : Ext g ρ n H ρ1 n1 H1) : ∀ {t : T} {v : V}, DV g.K ρ n H t v → DV g.K ρ1 n1 H1 t v
  | .non, _, h => h
  | .bl _, _, h => h
  | .int _, _, h => h
  | .str _, _, h => h
  | .er _ _, _, h => ⟨h.1, fun dx hd => let ⟨ws, q⟩ := h.2 dx hd; ⟨ws, e.fx _ _ q True.intro⟩⟩
  | .fl _, _, h => by
    obtain ⟨a, h1, h2⟩ := h
    exact ⟨a, h1, FSq.ext e h2⟩
  | .ref k, _, h => by
    obtain ⟨h1, h2⟩ := h
    exact ⟨Nat.lt_of_lt_of_le h1 e.le, by rw [e.ag k h1]; exact h2⟩
  | .tup ts, _, h => by
    obtain ⟨a, vs, h1, h2, h3⟩ := h
    exact ⟨a, vs, h1, SqT.ext e h2, DVs.ext e h3⟩
theorem DVs.ext (e : Ext g ρ n H ρ1 n1 H1) : ∀ {ts : List T} {vs : List V}, DVs g.K ρ n H ts vs → DVs g.K ρ1 n1 H1 ts vs
  | [], _, h => h
  | t :: ts, _, h => by
    obtain ⟨v, r, h1, h2, h3⟩ := h
    exact ⟨v, r, h1, DV.ext e h2, DVs.ext e h3⟩
end
theorem DVk.ext {κ : Type} (e : Ext g ρ n H ρ1 n1 H1) : ∀ {ts : List (κ × T)} {vs : List (κ × V)}, DVk g.K ρ n H ts vs → DVk g.K ρ1 n1 H1 ts vs
  | [], _, h => h
  | t :: ts, _, h => by
    obtain ⟨v, r, h1, h2, h3⟩ := h
    exact ⟨v, r, h1, DV.ext e h2, DVk.ext e h3⟩
theorem LRel.ext {σT : List (Option T)} {σ : L2.St} (e : Ext g ρ n H ρ1 n1 H1) (l : LRel g.K ρ n H σT σ) : LRel g.K ρ1 n1 H1 σT σ :=
  ⟨l.len, fun i t h => let ⟨v, h1, h2⟩ := l.at_ i t h; ⟨v, h1, DV.ext e h2⟩⟩
theorem MOr.ext {o : MO} {ho : HO} (e : Ext g ρ n H ρ1 n1 H1) (h : MOr g ρ n H o ho) : MOr g ρ1 n1 H1 o ho := by
  cases o with
  | lst ts => obtain ⟨vs, h1, h2⟩ := h; exact ⟨vs, h1, h2.ext e⟩
  | dct ts => obtain ⟨vs, h1, h2⟩ := h; exact ⟨vs, h1, h2.ext e⟩
  | ins c ts => obtain ⟨C, dx, vs, h0, h1, h2⟩ := h; exact ⟨C, dx, vs, h0, h1, h2.ext e⟩
  | lck ts => obtain ⟨od, vs, h1, h2⟩ := h; exact ⟨od, vs, h1, h2.ext e⟩
end
section
variable {K : PySem.W.Frag} {ρ : Nat → Addr} {n : Nat} {H : Hp}
theorem DVs.length : ∀ {ts : List T} {vs : List V}, DVs K ρ n H ts vs → ts.length = vs.length
  | [], _, h => by rw [show _ = [] from h]; rfl
  | t :: ts, _, h => by
    obtain ⟨v, r, rfl, h2, h3⟩ := h
    simp [DVs.length h3]
theorem DVs.get : ∀ {ts : List T} {vs : List V} {i : Nat} {t : T}, DVs K ρ n H ts vs → ts[i]? = some t → ∃ v, vs[i]? = some v ∧ DV K ρ n H t v
  | [], _, _, _, h, e => by simp at e
  | t :: ts, _, 0, _, h, e => by
    obtain ⟨v, r, rfl, h2, h3⟩ := h
    simp at e; subst e
    exact ⟨v, by simp, h2⟩
  | t :: ts, _, i + 1, _, h, e => by
    obtain ⟨v, r, rfl, h2, h3⟩ := h
    obtain ⟨v', h4, h5⟩ := DVs.get (i := i) h3 (by simpa using e)
    exact ⟨v', by simpa using h4, h5⟩
/-- from the other side -/
theorem DVs.got : ∀ {ts : List T} {vs : List V} {i : Nat} {v : V}, DVs K ρ n H ts vs → vs[i]? = some v → ∃ t, ts[i]? = some t ∧ DV K ρ n H t v
  | [], _, _, _, h, e => by rw [show _ = [] from h] at e; simp at e
  | t :: ts, _, 0, _, h, e => by
    obtain ⟨v, r, rfl, h2, h3⟩ := h
    simp at e; subst e
    exact ⟨t, by simp, h2⟩
  | t :: ts, _, i + 1, _, h, e => by
    obtain ⟨v, r, rfl, h2, h3⟩ := h
    obtain ⟨v', h4, h5⟩ := DVs.got (i := i) h3 (by simpa using e)
    exact ⟨v', by simpa using h4, h5⟩
theorem DVs.append : ∀ {ts us : List T} {vs ws : List V}, DVs K ρ n H ts vs → DVs K ρ n H us ws → DVs K ρ n H (ts ++ us) (vs ++ ws)
  | [], _, _, _, h, h' => by rw [show _ = [] from h]; exact h'
  | t :: ts, _, _, _, h, h' => by
    obtain ⟨v, r, rfl, h2, h3⟩ := h
    exact ⟨v, _, rfl, h2, DVs.append h3 h'⟩
theorem DVs.nil : DVs K ρ n H [] [] := rfl
theorem DVs.cons {t : T} {v : V} {ts : List T} {vs : List V} (h : DV K ρ n H t v) (h' : DVs K ρ n H ts vs) : DVs K ρ n H (t :: ts) (v :: vs) := ⟨v, vs, rfl, h, h'⟩
theorem DVs.set : ∀ {ts : List T} {vs : List V} {t : T} {v : V} (i : Nat), DVs K ρ n H ts vs → DV K ρ n H t v → DVs K ρ n H (ts.set i t) (vs.set i v)
  | [], _, _, _, _, h, _ => by rw [show _ = [] from h]; exact rfl
  | t :: ts, _, _, _, 0, h, q => by
    obtain ⟨v, r, rfl, h2, h3⟩ := h
    exact ⟨_, _, rfl, q, h3⟩
  | t :: ts, _, _, _, i + 1, h, q => by
    obtain ⟨v, r, rfl, h2, h3⟩ := h
    exact ⟨_, _, rfl, h2, DVs.set i h3 q⟩
theorem DVs.take : ∀ {ts : List T} {vs : List V} (i : Nat), DVs K ρ n H ts vs → DVs K ρ n H (ts.take i) (vs.take i)
  | _, _, 0, _ => by simp; exact rfl
  | [], _, _ + 1, h => by rw [show _ = [] from h]; exact rfl
  | t :: ts, _, i + 1, h => by
    obtain ⟨v, r, rfl, h2, h3⟩ := h
    exact ⟨_, _, rfl, h2, DVs.take i h3⟩
theorem DVs.drop : ∀ {ts : List T} {vs : List V} (i : Nat), DVs K ρ n H ts vs → DVs K ρ n H (ts.drop i) (vs.drop i)
  | _, _, 0, h => by simpa using h
  | [], _, _ + 1, h => by rw [show _ = [] from h]; exact rfl
  | t :: ts, _, i + 1, h => by
    obtain ⟨v, r, rfl, h2, h3⟩ := h
    exact DVs.drop i h3
theorem DVk.length {κ : Type} : ∀ {ts : List (κ × T)} {vs : List (κ × V)}, DVk K ρ n H ts vs → ts.length = vs.length
  | [], _, h => by rw [show _ = [] from h]; rfl
  | t :: ts, _, h => by
    obtain ⟨v, r, rfl, h2, h3⟩ := h
    simp [DVk.length h3]
theorem DVk.keys {κ : Type} : ∀ {ts : List (κ × T)} {vs : List (κ × V)}, DVk K ρ n H ts vs → vs.map (·.1) = ts.map (·.1)
  | [], _, h => by rw [show _ = [] from h]; rfl
  | t :: ts, _, h => by
    obtain ⟨v, r, rfl, h2, h3⟩ := h
    simp [DVk.keys h3]
end
theorem LRel.set {K : PySem.W.Frag} {ρ : Nat → Addr} {n : Nat} {H : Hp} {σT : List (Option T)} {σ : L2.St} {t : T} {v : V} (l : LRel K ρ n H σT σ) (i : Nat) (h : DV K ρ n H t v) : LRel K ρ n H (σT.set i (some t)) (σ.set i (some v)) := by
  refine ⟨by simp [l.len], fun j u e => ?_⟩
  by_cases hj : i = j
  · subst hj
    have hi : i < σT.length := by
      by_cases q : i < σT.length
      · exact q
      · rw [List.getElem?_eq_none (by simpa using Nat.not_lt.mp q)] at e; cases e
    rw [List.getElem?_set_self hi] at e
    cases e
    exact ⟨v, List.getElem?_set_self (by rw [← l.len]; exact hi), h⟩
  · rw [List.getElem?_set_ne hj] at e ⊢
    exact l.at_ j u e
/-! ### steps of the heap -/
section
variable {g : G} {ρ : Nat → Addr} {μ : Mem} {H : Hp} {p : Addr} {o : HO}
theorem Ext.fresh (hp : H p = none) (n : Nat) : Ext g ρ n H ρ n (upd H p o) :=
  ⟨Nat.le_refl _, fun _ _ => rfl, fun i h1 h2 => absurd h2 (Nat.not_lt.mpr h1), fun b u h _ _ => by rw [upd_ne (ne_of_none h hp)]; exact h, fun b u h _ => by rw [upd_ne (ne_of_none h hp)]; exact h,
    fun b h => by
      by_cases e : b = p
      · rw [e]; exact .inl hp
      · exact h.un e,
    fun h => h.ext fun b u e => by rw [upd_ne (ne_of_none e hp)]; exact e⟩
/-- objects of the memory as they were -/
theorem MRel.same {H' : Hp} (m : MRel g ρ μ H) (e : Ext g ρ μ.length H ρ μ.length H') (hs : ∀ i o, i < μ.length → H (ρ i) = some o → H' (ρ i) = some o) : MRel g ρ μ H' :=
  ⟨m.inj, fun i o h => by
    obtain ⟨ho, h1, h2⟩ := m.ob i o h
    exact ⟨ho, hs i ho (List.getElem?_eq_some_iff.mp h).1 h1, h2.ext e⟩, e.tb m.tb⟩
theorem MRel.fresh (m : MRel g ρ μ H) (hp : H p = none) : MRel g ρ μ (upd H p o) :=
  m.same (Ext.fresh hp _) fun i u _ h => by rw [upd_ne (ne_of_none h hp)]; exact h
def ρadd (ρ : Nat → Addr) (n : Nat) (p : Addr) : Nat → Addr := fun i => if i = n then p else ρ i
/-- a new object in the memory -/
theorem Ext.new (hp : H p = none) (n : Nat) : Ext g ρ n H (ρadd ρ n p) (n + 1) (upd H p o) := by
  refine ⟨Nat.le_succ _, fun i hi => ?_, fun i h1 h2 => ?_, fun b u h _ _ => by rw [upd_ne (ne_of_none h hp)]; exact h, fun b u h _ => by rw [upd_ne (ne_of_none h hp)]; exact h, (Ext.fresh (g := g) (ρ := ρ) (o := o) hp n).th, (Ext.fresh (g := g) (ρ := ρ) (o := o) hp n).tb⟩
  · unfold ρadd; rw [if_neg (Nat.ne_of_lt hi)]
  · have e : i = n := by omega
    unfold ρadd; rw [if_pos e]; exact .inl hp
theorem MRel.new {mo : MO} (m : MRel g ρ μ H) (hp : H p = none) (ho : MOr g ρ μ.length H mo o) : MRel g (ρadd ρ μ.length p) (μ ++ [mo]) (upd H p o) := by
  have hl : (μ ++ [mo]).length = μ.length + 1 := by simp
  have e : Ext g ρ μ.length H (ρadd ρ μ.length p) (μ ++ [mo]).length (upd H p o) := by rw [hl]; exact Ext.new hp _
  have nex : ∀ i, i < μ.length → ρ i ≠ p := fun i hi q => by
    obtain ⟨ho, h1, _⟩ := m.ob i μ[i] (by simp [hi])
    rw [q, hp] at h1; cases h1
  refine ⟨fun i j hi hj q => ?_, fun i u h => ?_, e.tb m.tb⟩
  · rw [hl] at hi hj
    unfold ρadd at q
    by_cases h1 : i = μ.length
    · by_cases h2 : j = μ.length
      · rw [h1, h2]
      · rw [if_pos h1, if_neg h2] at q
        exact absurd q.symm (nex j (by omega))
    · by_cases h2 : j = μ.length
      · rw [if_neg h1, if_pos h2] at q
        exact absurd q (nex i (by omega))
      · rw [if_neg h1, if_neg h2] at q
        exact m.inj i j (by omega) (by omega) q
  · by_cases h1 : i < μ.length
    · rw [List.getElem?_append_left h1] at h
      obtain ⟨ho', q1, q2⟩ := m.ob i u h
      refine ⟨ho', ?_, q2.ext e⟩
      rw [e.ag i h1, upd_ne (nex i h1)]; exact q1
    · have e1 : i = μ.length := by
        have := (List.getElem?_eq_some_iff.mp h).1
        rw [hl] at this; omega
      subst e1
      simp at h
      subst h
      refine ⟨o, ?_, ho.ext e⟩
      unfold ρadd; rw [if_pos rfl, upd_same]
/-- an object of the memory is changed -/
theorem MRel.notFx {k : Nat} {mo : MO} (m : MRel g ρ μ H) (hk : μ[k]? = some mo) (hf : mo.loose = true) {u : HO} (h : H (ρ k) = some u) : ¬ Fx u ∧ ∀ ps, u ≠ .tbl ps := by
  obtain ⟨ho, h1, h2⟩ := m.ob k mo hk
  rw [h] at h1; cases h1
  cases mo with
  | lst ts => obtain ⟨vs, rfl, _⟩ := h2; exact ⟨fun z => z, fun ps z => by cases z⟩
  | dct ts => obtain ⟨vs, rfl, _⟩ := h2; exact ⟨fun z => z, fun ps z => by cases z⟩
  | ins c ts => obtain ⟨C, dx, vs, _, rfl, _⟩ := h2; exact ⟨fun z => z, fun ps z => by cases z⟩
  | lck ts => cases hf
theorem MOr.noTbl {mo : MO} {n : Nat} (h : MOr g ρ n H mo o) : ∀ ps, o ≠ .tbl ps := fun ps z => by
  subst z
  cases mo with
  | lst ts => obtain ⟨vs, h, _⟩ := h; cases h
  | dct ts => obtain ⟨vs, h, _⟩ := h; cases h
  | ins c ts => obtain ⟨C, dx, vs, _, h, _⟩ := h; cases h
  | lck ts => obtain ⟨od, vs, h, _⟩ := h; cases h
theorem Ext.put {k : Nat} {mo : MO} (m : MRel g ρ μ H) (hk : μ[k]? = some mo) (hf : mo.loose = true := by rfl) (hno : ∀ ps, o ≠ .tbl ps := by intro _ z; cases z) : Ext g ρ μ.length H ρ μ.length (upd H (ρ k) o) := by
  have hlt := (List.getElem?_eq_some_iff.mp hk).1
  obtain ⟨ho, h1, h2⟩ := m.ob k mo hk
  refine ⟨Nat.le_refl _, fun _ _ => rfl, fun i h1 h2 => absurd h2 (Nat.not_lt.mpr h1), fun b u h hn _ => by rw [upd_ne (hn k hlt)]; exact h, fun b u h f => ?_, fun b h => ?_, fun ht q hq => ?_⟩
  · by_cases e : b = ρ k
    · subst e; exact absurd f (m.notFx hk hf h).1
    · rw [upd_ne e]; exact h
  · by_cases e : b = ρ k
    · subst e
      exact (h.no upd_same hno).elim
    · exact h.un e
  · obtain ⟨ps, q1, q2, q3⟩ := ht q hq
    have n1 : q.1 ≠ ρ k := fun e => by rw [e] at q1; exact (m.notFx hk hf q1).2 ps rfl
    refine ⟨ps, by rw [upd_ne n1]; exact q1, q2, fun pos cv hc => ?_⟩
    obtain ⟨c, e1, e2⟩ := q3 pos cv hc
    refine ⟨c, e1, ?_⟩
    rw [upd_ne]; exact e2
    intro e
    rw [e, h1] at e2
    cases e2
    cases mo with
    | lst ts => obtain ⟨vs, h, _⟩ := h2; cases h
    | dct ts => obtain ⟨vs, h, _⟩ := h2; cases h
    | ins c ts => obtain ⟨C, dx, vs, _, h, _⟩ := h2; cases h
    | lck ts => cases hf
theorem MRel.put {k : Nat} {mo mo' : MO} (m : MRel g ρ μ H) (hk : μ[k]? = some mo) (ho : MOr g ρ μ.length H mo' o) (hf : mo.loose = true := by rfl) : MRel g ρ (μ.set k mo') (upd H (ρ k) o) := by
  have hlt := (List.getElem?_eq_some_iff.mp hk).1
  have e : Ext g ρ μ.length H ρ μ.length (upd H (ρ k) o) := Ext.put m hk hf (MOr.noTbl ho)
  refine ⟨fun i j hi hj q => m.inj i j (by simpa using hi) (by simpa using hj) q, fun i u h => ?_, e.tb m.tb⟩
  rw [List.length_set]
  by_cases h1 : k = i
  · subst h1
    rw [List.getElem?_set_self hlt] at h
    cases h
    exact ⟨o, upd_same, ho.ext e⟩
  · rw [List.getElem?_set_ne h1] at h
    obtain ⟨ho', q1, q2⟩ := m.ob i u h
    refine ⟨ho', ?_, q2.ext e⟩
    rw [upd_ne]; exact q1
    intro z
    exact h1 (m.inj i k (List.getElem?_eq_some_iff.mp h).1 hlt z).symm
end
/-! ### ends -/
/-- an exception's own dict -/
def XD (g : G) (ρ : Nat → Addr) (n : Nat) (H : Hp) (fs : List (Str × T)) (d : Option Addr) : Prop :=
  (fs = [] ∧ d = none) ∨ ∃ a ws, fs ≠ [] ∧ d = some a ∧ H a = some (.xd ws) ∧ DVk g.K ρ n H fs ws
def Good (g : G) (E : XK) (Q : VK) (ρ : Nat → Addr) (n : Nat) (H : Hp) : Res → Prop
  | .ok t μ => ∀ ρ' v H', Ext g ρ n H ρ' μ.length H' → MRel g ρ' μ H' → DV g.K ρ' μ.length H' t v → Q v H'
  | .exc c fs μ => ∀ ρ' H' C d, Ext g ρ n H ρ' μ.length H' → MRel g ρ' μ H' → g.mg c = some (.ref C) → XD g ρ' μ.length H' fs d → E (.ref C) d H'
  | .bad => False
abbrev EM := List (Option T) → Mem → Res
def tE (g : G) (E : XK) (d : EM) : TE := fun σ H Q => ∃ ρ σT μ, MRel g ρ μ H ∧ LRel g.K ρ μ.length H σT σ ∧ Good g E Q ρ μ.length H (d σT μ)
section
variable {g : G} {E : XK} {Q : VK} {ρ ρ' : Nat → Addr} {n n' : Nat} {H H' : Hp} {r : Res}
theorem Good.later (e : Ext g ρ n H ρ' n' H') (h : Good g E Q ρ n H r) : Good g E Q ρ' n' H' r := by
  cases r with
  | ok t μ => exact fun ρ2 v H2 e2 m d => h ρ2 v H2 (e.trans e2) m d
  | exc c fs μ => exact fun ρ2 H2 C d e2 m hc x => h ρ2 H2 C d (e.trans e2) m hc x
  | bad => exact h
theorem Good.mono {Q' : VK} (h : Good g E Q ρ n H r) (hq : ∀ v H', Q v H' → Q' v H') : Good g E Q' ρ n H r := by
  cases r with
  | ok t μ => exact fun ρ2 v H2 e2 m d => hq _ _ (h ρ2 v H2 e2 m d)
  | exc c fs μ => exact h
  | bad => exact h
theorem Good.bind {k : T → Mem → Res} {R : VK} (h : Good g E Q ρ n H (r.bind k)) (hR : ∀ x μ1 ρ1 v H1, r = .ok x μ1 → Ext g ρ n H ρ1 μ1.length H1 → MRel g ρ1 μ1 H1 → DV g.K ρ1 μ1.length H1 x v → Good g E Q ρ1 μ1.length H1 (k x μ1) → R v H1) :
    Good g E R ρ n H r := by
  cases r with
  | ok t μ => exact fun ρ2 v H2 e2 m d => hR t μ ρ2 v H2 rfl e2 m d (Good.later (r := k t μ) e2 h)
  | exc c fs μ => exact h
  | bad => exact h
theorem bindE {da : EM} {k : T → Mem → Res} {R : VK} {σT : List (Option T)} {σ : L2.St} {μ : Mem} (m : MRel g ρ μ H) (l : LRel g.K ρ μ.length H σT σ) (h : Good g E Q ρ μ.length H ((da σT μ).bind k))
    (hR : ∀ x μ1 ρ1 v H1, Ext g ρ μ.length H ρ1 μ1.length H1 → MRel g ρ1 μ1 H1 → LRel g.K ρ1 μ1.length H1 σT σ → DV g.K ρ1 μ1.length H1 x v → Good g E Q ρ1 μ1.length H1 (k x μ1) → R v H1) : tE g E da σ H R :=
  ⟨ρ, σT, μ, m, l, h.bind fun x μ1 ρ1 v H1 _ e m1 d q => hR x μ1 ρ1 v H1 e m1 (l.ext e) d q⟩
theorem bind_pure (r : Res) : r.bind (fun t μ => .ok t μ) = r := by cases r <;> rfl
/-- the end of a rule that leaves the heap as it is -/
theorem Good.same {μ : Mem} {t : T} {v : V} (h : Good g E Q ρ μ.length H (.ok t μ)) (m : MRel g ρ μ H) (d : DV g.K ρ μ.length H t v) : Q v H := h ρ v H (Ext.refl _ _ _ _) m d
/-- .. that lays a new tuple -/
theorem Good.tup {μ : Mem} {ts : List T} {vs : List V} {p : Addr} (h : Good g E Q ρ μ.length H (.ok (.tup ts) μ)) (m : MRel g ρ μ H) (d : DVs g.K ρ μ.length H ts vs) (hp : H p = none) : Q (.ref p) (upd H p (.tup vs)) :=
  h ρ _ _ (Ext.fresh hp _) (m.fresh hp) ⟨p, vs, rfl, SqT.of upd_same, d.ext (Ext.fresh hp _)⟩
/-- .. that lays a new object of the memory -/
theorem Good.new {μ : Mem} {mo : MO} {o : HO} {p : Addr} (h : Good g E Q ρ μ.length H (.ok (.ref μ.length) (μ ++ [mo]))) (m : MRel g ρ μ H) (d : MOr g ρ μ.length H mo o) (hp : H p = none) : Q (.ref p) (upd H p o) := by
  have hl : (μ ++ [mo]).length = μ.length + 1 := by simp
  refine h (ρadd ρ μ.length p) _ _ (by rw [hl]; exact Ext.new hp _) (m.new hp d) ⟨by rw [hl]; exact Nat.lt_succ_self _, ?_⟩
  unfold ρadd; rw [if_pos rfl]
/-- .. that changes an object of the memory -/
theorem Good.put {μ : Mem} {mo mo' : MO} {o : HO} {k : Nat} {t : T} {v : V} (h : Good g E Q ρ μ.length H (.ok t (μ.set k mo'))) (m : MRel g ρ μ H) (hk : μ[k]? = some mo) (d : MOr g ρ μ.length H mo' o) (dv : DV g.K ρ μ.length H t v) (hf : mo.loose = true := by rfl) : Q v (upd H (ρ k) o) := by
  have e : Ext g ρ μ.length H ρ μ.length (upd H (ρ k) o) := Ext.put m hk hf (MOr.noTbl d)
  refine h ρ _ _ (by rw [List.length_set]; exact e) (m.put hk d hf) (by rw [List.length_set]; exact dv.ext e)
end
theorem _root_.L2.PE.imp {X : Cx} {e : Expr} {t t' : TE} (h : PE X e t) (hi : ∀ σ H Q, t' σ H Q → t σ H Q) : PE X e t' := ⟨fun pins s σ H Q I q => h.run pins s σ H Q I (hi σ H Q q)⟩
theorem _root_.L2.PT.imp {X : Cx} {e : Expr} {t t' : TT} (h : PT X e t) (hi : ∀ σ H Q, t' σ H Q → t σ H Q) : PT X e t' := ⟨fun pins s σ H Q I q => h.run pins s σ H Q I (hi σ H Q q)⟩
end TL
set_option Elab.async false
set_option linter.all false
set_option maxRecDepth 100000
set_option maxHeartbeats 2000000
/-! TL2: expressions -/
namespace TL
open PySem PySem.Spec PyProof.Rows L2
/-! ### names and constants -/
def dVar (i : Nat) : EM := fun σ μ => match σ[i]? with
  | some (some t) => .ok t μ
  | _ => .bad
def dC (t : T) : EM := fun _ μ => .ok t μ
section
variable {X : Cx} {tb : List (Addr × Str)} {E : XK}
theorem e_var (i : Nat) {x : Str} {pos : Pos} (hN : X.N[i]? = some x := by rfl) (hv : Vis X.env.scope x := by first | exact Or.inl rfl | exact Or.inr (Or.inl rfl) | exact Or.inr (Or.inr rfl)) (hd : (x == ("__debug__" : Str)) = false := by decide)
    (hcd : (x == ("__classdict__" : Str)) = false := by decide) : PE X (.Name x pos) (tE (gx X tb) E (dVar i)) :=
  (pe_var hN hv hd hcd).imp fun σ H Q h => by
    obtain ⟨ρ, σT, μ, m, l, h⟩ := h
    unfold dVar at h
    split at h
    · rename_i t e
      obtain ⟨v, h1, h2⟩ := l.at_ i t e
      exact ⟨v, h1, h.same m h2⟩
    · exact h.elim
theorem tE_c {g : G} {t : T} {v : V} (hr : ∀ ρ n H, DV g.K ρ n H t v) : ∀ σ H Q, tE g E (dC t) σ H Q → tC v σ H Q := fun σ H Q h => by
  obtain ⟨ρ, σT, μ, m, l, h⟩ := h
  exact h.same m (hr _ _ _)
theorem e_int {i j pos} : PE X (.Constant (.int i) j pos) (tE (gx X tb) E (dC (.int i))) := pe_int.imp (tE_c fun _ _ _ => rfl)
theorem e_bl {i j pos} : PE X (.Constant (.bool i) j pos) (tE (gx X tb) E (dC (.bl i))) := pe_bl.imp (tE_c fun _ _ _ => rfl)
theorem e_non {j pos} : PE X (.Constant .none j pos) (tE (gx X tb) E (dC .non)) := pe_non.imp (tE_c fun _ _ _ => rfl)
theorem e_str {x j pos} : PE X (.Constant (.str x) j pos) (tE (gx X tb) E (dC (.str x))) := pe_str.imp (tE_c fun _ _ _ => rfl)
/-- a constant of the module -/
structure GlobIs (K : PySem.W.Frag) (mg : Str → Option Value) (x : Str) (t : T) : Prop where
  ex : ∃ u v, mg x = some u ∧ RelV v u ∧ ∀ ρ n H, DV K ρ n H t v
theorem e_glob {x : Str} {t : T} {pos : Pos} (h : GlobIs X.K X.mg x t) (hg : Gl X x := by rfl) (hd : (x == ("__debug__" : Str)) = false := by decide) : PE X (.Name x pos) (tE (gx X tb) E (dC t)) := by
  obtain ⟨u, v, h1, h2, h3⟩ := h.ex
  exact (pe_glob hg h1 h2 hd).imp (tE_c h3)
/-! ### operators by values -/
/-- what an operation does to trees is what its rule asks -/
def OpL (X : Cx) (tb : List (Addr × Str)) (f : Value → Value → Sem Value) (k : T → T → Mem → Res) : Prop :=
  ∃ r : R2, OpR X f r ∧ ∀ (E : XK) (Q : VK) (ρ : Nat → Addr) (μ : Mem) (H : Hp) (x y : T) (v u : V), MRel (gx X tb) ρ μ H → DV X.K ρ μ.length H x v → DV X.K ρ μ.length H y u → Good (gx X tb) E Q ρ μ.length H (k x y μ) → r v u H Q
def d2 (k : T → T → Mem → Res) (da db : EM) : EM := fun σ μ => (da σ μ).bind fun x μ1 => (db σ μ1).bind fun y μ2 => k x y μ2
def d1 (k : T → Mem → Res) (da : EM) : EM := fun σ μ => (da σ μ).bind fun x μ1 => k x μ1
theorem tE_op {k : T → T → Mem → Res} {r : R2} {da db : EM} (hr : ∀ (E : XK) (Q : VK) (ρ : Nat → Addr) (μ : Mem) (H : Hp) (x y : T) (v u : V), MRel (gx X tb) ρ μ H → DV X.K ρ μ.length H x v → DV X.K ρ μ.length H y u → Good (gx X tb) E Q ρ μ.length H (k x y μ) → r v u H Q) :
    ∀ σ H Q, tE (gx X tb) E (d2 k da db) σ H Q → tOp r (tE (gx X tb) E da) (tE (gx X tb) E db) σ H Q := fun σ H Q h => by
  obtain ⟨ρ, σT, μ, m, l, h⟩ := h
  refine bindE m l h fun x μ1 ρ1 v H1 e1 m1 l1 dx h1 => ?_
  refine bindE m1 l1 h1 fun y μ2 ρ2 u H2 e2 m2 l2 dy h2 => ?_
  exact hr E Q ρ2 μ2 H2 x y v u m2 (dx.ext e2) dy h2
variable {a b c : Expr} {da db dc : EM} {pos : Pos}
theorem e_op {op : Operator} {k : T → T → Mem → Res} (h : OpL X tb (binaryOp op) k) (ha : PE X a (tE (gx X tb) E da)) (hb : PE X b (tE (gx X tb) E db)) : PE X (.BinOp a op b pos) (tE (gx X tb) E (d2 k da db)) := by
  obtain ⟨r, h1, h2⟩ := h
  exact (pe_op h1 ha hb).imp (tE_op h2)
theorem e_cmp {op : CmpOp} {k : T → T → Mem → Res} (h : OpL X tb (compareOp op) k) (ha : PE X a (tE (gx X tb) E da)) (hb : PE X b (tE (gx X tb) E db)) (hm : behindInMarks op b = false := by first | exact nomark _ (by decide) (by decide) | with_unfolding_all rfl) :
    PE X (.Compare a [op] [b] pos) (tE (gx X tb) E (d2 k da db)) := by
  obtain ⟨r, h1, h2⟩ := h
  exact (pe_cmpR h1 ha hb hm).imp (tE_op h2)
/-- a reading as a test -/
def tT (g : G) (E : XK) (d : EM) : TT := fun σ H Q => tE g E d σ H fun v H1 => ∃ c, v = .bl c ∧ Q c H1
theorem t_cmp {op : CmpOp} {k : T → T → Mem → Res} (h : OpL X tb (compareOp op) k) (ha : PE X a (tE (gx X tb) E da)) (hb : PE X b (tE (gx X tb) E db)) (hm : behindInMarks op b = false := by first | exact nomark _ (by decide) (by decide) | with_unfolding_all rfl) :
    PT X (.Compare a [op] [b] pos) (tT (gx X tb) E (d2 k da db)) := by
  obtain ⟨r, h1, h2⟩ := h
  exact (pt_cmpR h1 ha hb hm).imp fun σ H Q q => tE_op h2 σ H _ q
theorem t_val {e : Expr} {d : EM} (h : PE X e (tE (gx X tb) E d)) (he : ∀ whole, isTrue e X.env whole = (do let v ← whole; standAt e.pos; holding [v] (truthy v)) := by intro _; rfl) : PT X e (tT (gx X tb) E d) :=
  (pt_val h he).imp fun σ H Q q => q
/-! chains -/
def dChain (k k' : T → T → Mem → Res) (da db dc : EM) : EM := fun σ μ => (da σ μ).bind fun x μ1 => (db σ μ1).bind fun y μ2 => (k x y μ2).bind fun z μ3 => match z with
  | .bl true => (dc σ μ3).bind fun w μ4 => k' y w μ4
  | .bl false => .ok (.bl false) μ3
  | _ => .bad
theorem tE_chain {k k' : T → T → Mem → Res} {r r' : R2} 
    (hr : ∀ (E : XK) (Q : VK) (ρ : Nat → Addr) (μ : Mem) (H : Hp) (x y : T) (v u : V), MRel (gx X tb) ρ μ H → DV X.K ρ μ.length H x v → DV X.K ρ μ.length H y u → Good (gx X tb) E Q ρ μ.length H (k x y μ) → r v u H Q)
    (hr' : ∀ (E : XK) (Q : VK) (ρ : Nat → Addr) (μ : Mem) (H : Hp) (x y : T) (v u : V), MRel (gx X tb) ρ μ H → DV X.K ρ μ.length H x v → DV X.K ρ μ.length H y u → Good (gx X tb) E Q ρ μ.length H (k' x y μ) → r' v u H Q) :
    ∀ σ H Q, tE (gx X tb) E (dChain k k' da db dc) σ H Q → tChain r r' (tE (gx X tb) E da) (tE (gx X tb) E db) (tE (gx X tb) E dc) σ H Q := fun σ H Q h => by
  obtain ⟨ρ, σT, μ, m, l, h⟩ := h
  refine bindE m l h fun x μ1 ρ1 v H1 e1 m1 l1 dx h1 => ?_
  refine bindE m1 l1 h1 fun y μ2 ρ2 u H2 e2 m2 l2 dy h2 => ?_
  refine hr E _ ρ2 μ2 H2 x y v u m2 (dx.ext e2) dy ?_
  refine Good.bind h2 fun z μ3 ρ3 w H3 ez e3 m3 dz h3 => ?_
  cases z with
  | bl q =>
    refine ⟨q, dz, ?_⟩
    cases q with
    | true =>
      rw [if_pos rfl]
      exact bindE m3 (l2.ext e3) h3 fun z' μ4 ρ4 w' H4 e4 m4 l4 dz' h4 => hr' E Q ρ4 μ4 H4 y z' u w' m4 ((dy.ext e3).ext e4) dz' h4
    | false =>
      rw [if_neg Bool.false_ne_true]
      exact h3.same m3 rfl
  | _ => exact h3.elim
theorem e_chain {op op' : CmpOp} {k k' : T → T → Mem → Res} (h : OpL X tb (compareOp op) k) (h' : OpL X tb (compareOp op') k') (ha : PE X a (tE (gx X tb) E da)) (hb : PE X b (tE (gx X tb) E db)) (hc : PE X c (tE (gx X tb) E dc))
    (hm : lastMarks [op, op'] [b, c] = false := by with_unfolding_all rfl) : PE X (.Compare a [op, op'] [b, c] pos) (tE (gx X tb) E (dChain k k' da db dc)) := by
  obtain ⟨r, h1, h2⟩ := h
  obtain ⟨r', h1', h2'⟩ := h'
  exact (pe_chain h1 h1' ha hb hc hm).imp (tE_chain h2 h2')
theorem t_chain {op op' : CmpOp} {k k' : T → T → Mem → Res} (h : OpL X tb (compareOp op) k) (h' : OpL X tb (compareOp op') k') (ha : PE X a (tE (gx X tb) E da)) (hb : PE X b (tE (gx X tb) E db)) (hc : PE X c (tE (gx X tb) E dc))
    (hm : lastMarks [op, op'] [b, c] = false := by with_unfolding_all rfl) : PT X (.Compare a [op, op'] [b, c] pos) (tT (gx X tb) E (dChain k k' da db dc)) := by
  obtain ⟨r, h1, h2⟩ := h
  obtain ⟨r', h1', h2'⟩ := h'
  exact (pt_chain h1 h1' ha hb hc hm).imp fun σ H Q q => tE_chain h2 h2' σ H _ q
/-! ### and, or, not, if -/
def dAnd (da db : EM) : EM := fun σ μ => (da σ μ).bind fun x μ1 => match x with
  | .bl true => db σ μ1
  | .bl false => .ok (.bl false) μ1
  | _ => .bad
def dOr (da db : EM) : EM := fun σ μ => (da σ μ).bind fun x μ1 => match x with
  | .bl false => db σ μ1
  | .bl true => .ok (.bl true) μ1
  | _ => .bad
def notT : T → Mem → Res := fun x μ => match x with
  | .bl b => .ok (.bl (!b)) μ
  | _ => .bad
def dNot (da : EM) : EM := d1 notT da
def dIfE (dc da db : EM) : EM := fun σ μ => (dc σ μ).bind fun x μ1 => match x with
  | .bl true => da σ μ1
  | .bl false => db σ μ1
  | _ => .bad
variable {rest : List Expr}
theorem e_one {op} (h : PE X a (tE (gx X tb) E da)) : PE X (.BoolOp op [a] pos) (tE (gx X tb) E da) := pe_one h
theorem tE_and {Q : VK} {σ : L2.St} {H : Hp} {g : G} {R : VK} (h : tE g E (dAnd da db) σ H Q)
    (h1 : ∀ H1, tE g E db σ H1 Q → R (.bl true) H1) (h2 : ∀ H1, Q (.bl false) H1 → R (.bl false) H1) : tE g E da σ H R := by
  obtain ⟨ρ, σT, μ, m, l, h⟩ := h
  refine bindE m l h fun x μ1 ρ1 v H1 e1 m1 l1 dx q1 => ?_
  cases x with
  | bl q =>
    have dx' : v = .bl q := dx
    subst dx'
    cases q with
    | true => exact h1 H1 ⟨ρ1, σT, μ1, m1, l1, q1⟩
    | false => exact h2 H1 (Good.same q1 m1 rfl)
  | _ => exact q1.elim
theorem tE_or {Q : VK} {σ : L2.St} {H : Hp} {g : G} {R : VK} (h : tE g E (dOr da db) σ H Q)
    (h1 : ∀ H1, tE g E db σ H1 Q → R (.bl false) H1) (h2 : ∀ H1, Q (.bl true) H1 → R (.bl true) H1) : tE g E da σ H R := by
  obtain ⟨ρ, σT, μ, m, l, h⟩ := h
  refine bindE m l h fun x μ1 ρ1 v H1 e1 m1 l1 dx q1 => ?_
  cases x with
  | bl q =>
    have dx' : v = .bl q := dx
    subst dx'
    cases q with
    | false => exact h1 H1 ⟨ρ1, σT, μ1, m1, l1, q1⟩
    | true => exact h2 H1 (Good.same q1 m1 rfl)
  | _ => exact q1.elim
theorem e_and (ha : PE X a (tE (gx X tb) E da)) (hb : PE X (.BoolOp .And (b :: rest) pos) (tE (gx X tb) E db)) : PE X (.BoolOp .And (a :: b :: rest) pos) (tE (gx X tb) E (dAnd da db)) :=
  (pe_and ha hb).imp fun σ H Q h => tE_and (R := fun x H1 => ∃ c, x = .bl c ∧ if c = true then tE (gx X tb) E db σ H1 Q else Q (.bl false) H1) h
    (fun H1 q => ⟨true, rfl, by rw [if_pos rfl]; exact q⟩) fun H1 q => ⟨false, rfl, by rw [if_neg Bool.false_ne_true]; exact q⟩
theorem e_or (ha : PE X a (tE (gx X tb) E da)) (hb : PE X (.BoolOp .Or (b :: rest) pos) (tE (gx X tb) E db)) : PE X (.BoolOp .Or (a :: b :: rest) pos) (tE (gx X tb) E (dOr da db)) :=
  (pe_or ha hb).imp fun σ H Q h => tE_or (R := fun x H1 => ∃ c, x = .bl c ∧ if c = true then Q (.bl true) H1 else tE (gx X tb) E db σ H1 Q) h
    (fun H1 q => ⟨false, rfl, by rw [if_neg Bool.false_ne_true]; exact q⟩) fun H1 q => ⟨true, rfl, by rw [if_pos rfl]; exact q⟩
theorem e_not (ha : PE X a (tE (gx X tb) E da)) : PE X (.UnaryOp .Not a pos) (tE (gx X tb) E (dNot da)) :=
  (pe_not ha).imp fun σ H Q h => by
    obtain ⟨ρ, σT, μ, m, l, h⟩ := h
    refine bindE m l h fun x μ1 ρ1 v H1 e1 m1 l1 dx q1 => ?_
    cases x with
    | bl q => exact ⟨q, dx, q1.same m1 rfl⟩
    | _ => exact q1.elim
theorem w_one {op} {d : EM} (h : PT X a (tT (gx X tb) E d)) : (op = .And ∨ op = .Or) → PW X (.BoolOp op [a] pos) (tT (gx X tb) E d) := fun hop => by
  rcases hop with rfl | rfl
  · exact pw_and1 h
  · exact pw_or1 h
theorem w_and (ha : PT X a (tT (gx X tb) E da)) (hb : PW X (.BoolOp .And (b :: rest) pos) (tT (gx X tb) E db)) : PW X (.BoolOp .And (a :: b :: rest) pos) (tT (gx X tb) E (dAnd da db)) :=
  ⟨fun wh pins s σ H Q I h => (pw_and ha hb).run wh pins s σ H Q I
    (tE_and (R := fun v H1 => ∃ c, v = .bl c ∧ if c = true then tT (gx X tb) E db σ H1 Q else Q false H1) h (fun H1 q => ⟨true, rfl, by rw [if_pos rfl]; exact q⟩) fun H1 q => ⟨false, rfl, by
      rw [if_neg Bool.false_ne_true]
      obtain ⟨c, e, q⟩ := q
      cases e; exact q⟩)⟩
theorem w_or (ha : PT X a (tT (gx X tb) E da)) (hb : PW X (.BoolOp .Or (b :: rest) pos) (tT (gx X tb) E db)) : PW X (.BoolOp .Or (a :: b :: rest) pos) (tT (gx X tb) E (dOr da db)) :=
  ⟨fun wh pins s σ H Q I h => (pw_or ha hb).run wh pins s σ H Q I
    (tE_or (R := fun v H1 => ∃ c, v = .bl c ∧ if c = true then Q true H1 else tT (gx X tb) E db σ H1 Q) h (fun H1 q => ⟨false, rfl, by rw [if_neg Bool.false_ne_true]; exact q⟩) fun H1 q => ⟨true, rfl, by
      rw [if_pos rfl]
      obtain ⟨c, e, q⟩ := q
      cases e; exact q⟩)⟩
theorem t_w {e : Expr} {d : EM} (h : PW X e (tT (gx X tb) E d)) : PT X e (tT (gx X tb) E d) := h.pt
theorem t_not (ha : PT X a (tT (gx X tb) E da)) : PT X (.UnaryOp .Not a pos) (tT (gx X tb) E (dNot da)) :=
  (pt_not ha).imp fun σ H Q h => by
    obtain ⟨ρ, σT, μ, m, l, h⟩ := h
    refine bindE m l h fun x μ1 ρ1 v H1 e1 m1 l1 dx q1 => ?_
    cases x with
    | bl q =>
      obtain ⟨c, e, q2⟩ := q1.same m1 (v := .bl (!q)) rfl
      cases e
      exact ⟨q, dx, q2⟩
    | _ => exact q1.elim
theorem tE_if {Q : VK} {σ : L2.St} {H : Hp} {g : G} {R : Bool → Hp → Prop} {r1 r2 : Res → Prop} (h : ∃ ρ σT μ, MRel g ρ μ H ∧ LRel g.K ρ μ.length H σT σ ∧ Good g E Q ρ μ.length H (dIfE dc da db σT μ))
    (h1 : ∀ H1, tE g E da σ H1 Q → R true H1) (h2 : ∀ H1, tE g E db σ H1 Q → R false H1) : tT g E dc σ H R := by
  obtain ⟨ρ, σT, μ, m, l, h⟩ := h
  refine bindE m l h fun x μ1 ρ1 v H1 e1 m1 l1 dx q1 => ?_
  cases x with
  | bl q =>
    refine ⟨q, dx, ?_⟩
    cases q with
    | true => exact h1 H1 ⟨ρ1, σT, μ1, m1, l1, q1⟩
    | false => exact h2 H1 ⟨ρ1, σT, μ1, m1, l1, q1⟩
  | _ => exact q1.elim
theorem e_ifExp (hc : PT X c (tT (gx X tb) E dc)) (ha : PE X a (tE (gx X tb) E da)) (hb : PE X b (tE (gx X tb) E db)) : PE X (.IfExp c a b pos) (tE (gx X tb) E (dIfE dc da db)) :=
  (pe_ifExp hc ha hb).imp fun σ H Q h => tE_if (r1 := fun _ => True) (r2 := fun _ => True) h (fun H1 q => by rw [if_pos rfl]; exact q) fun H1 q => by rw [if_neg Bool.false_ne_true]; exact q
/-! ### arguments, displays -/
abbrev AM := List (Option T) → Mem → (List T → Mem → Res) → Res
def aNil : AM := fun _ μ k => k [] μ
def aCons (d : EM) (r : AM) : AM := fun σ μ k => (d σ μ).bind fun x μ1 => r σ μ1 fun xs μ2 => k (x :: xs) μ2
/-- an argument list's reading, whatever follows -/
structure AOk (g : G) (E : XK) (t : TA) (d : AM) : Prop where
  go : ∀ (Q : VK) (ρ : Nat → Addr) (σT : List (Option T)) (μ : Mem) (σ : L2.St) (H : Hp) (k : List T → Mem → Res) (R : List V → Hp → Prop), MRel g ρ μ H → LRel g.K ρ μ.length H σT σ → Good g E Q ρ μ.length H (d σT μ k) →
    (∀ ts μ1 ρ1 vs H1, Ext g ρ μ.length H ρ1 μ1.length H1 → MRel g ρ1 μ1 H1 → DVs g.K ρ1 μ1.length H1 ts vs → Good g E Q ρ1 μ1.length H1 (k ts μ1) → R vs H1) → t σ H R
theorem ao_nil {g : G} : AOk g E tNil aNil := ⟨fun Q ρ σT μ σ H k R m l h hR => hR [] μ ρ [] H (Ext.refl _ _ _ _) m rfl h⟩
theorem ao_cons {g : G} {t : TA} {d : EM} {r : AM} (h : AOk g E t r) : AOk g E (tCons (tE g E d) t) (aCons d r) := ⟨fun Q ρ σT μ σ H k R m l hg hR => by
  refine bindE m l hg fun x μ1 ρ1 v H1 e1 m1 l1 dx q1 => ?_
  exact h.go Q ρ1 σT μ1 σ H1 _ _ m1 l1 q1 fun ts μ2 ρ2 vs H2 e2 m2 ds q2 => hR (x :: ts) μ2 ρ2 (v :: vs) H2 (e1.trans e2) m2 (.cons (dx.ext e2) ds) q2⟩
structure PAd (X : Cx) (tb : List (Addr × Str)) (E : XK) (es : List Expr) (d : AM) : Prop where
  ex : ∃ t, PA X es t ∧ AOk (gx X tb) E t d
theorem a_nil : PAd X tb E [] aNil := ⟨⟨_, pa_nil, ao_nil⟩⟩
theorem a_cons {e : Expr} {es : List Expr} {d : EM} {r : AM} (he : PE X e (tE (gx X tb) E d)) (hr : PAd X tb E es r) (hs : starEach (e :: es) X.env = (false, eval e X.env) :: starEach es X.env := by rfl) : PAd X tb E (e :: es) (aCons d r) := by
  obtain ⟨t, h1, h2⟩ := hr.ex
  exact ⟨⟨_, pa_cons he h1 hs, ao_cons h2⟩⟩
def dTup (d : AM) : EM := fun σ μ => d σ μ fun ts μ1 => if ts.length ≤ sizeLine then .ok (.tup ts) μ1 else .bad
def dLst (d : AM) : EM := fun σ μ => d σ μ fun ts μ1 => if ts.length ≤ sizeLine then .ok (.ref μ1.length) (μ1 ++ [.lst ts]) else .bad
theorem e_tup {es : List Expr} {k} {d : AM} (h : PAd X tb E es d) : PE X (.Tuple es k pos) (tE (gx X tb) E (dTup d)) := by
  obtain ⟨t, h1, h2⟩ := h.ex
  refine (pe_tup h1).imp fun σ H Q h => ?_
  obtain ⟨ρ, σT, μ, m, l, h⟩ := h
  refine h2.go Q ρ σT μ σ H _ _ m l h fun ts μ1 ρ1 vs H1 e1 m1 ds q1 => ?_
  split at q1
  · rename_i hz
    exact ⟨by rw [← ds.length]; exact hz, fun p hp => q1.tup m1 ds hp⟩
  · exact q1.elim
theorem e_lst {es : List Expr} {d : AM} (h : PAd X tb E es d) : PE X (.List es pos) (tE (gx X tb) E (dLst d)) := by
  obtain ⟨t, h1, h2⟩ := h.ex
  refine (pe_lst h1).imp fun σ H Q h => ?_
  obtain ⟨ρ, σT, μ, m, l, h⟩ := h
  refine h2.go Q ρ σT μ σ H _ _ m l h fun ts μ1 ρ1 vs H1 e1 m1 ds q1 => ?_
  split at q1
  · rename_i hz
    exact ⟨by rw [← ds.length]; exact hz, fun p hp => q1.new m1 ⟨vs, rfl, ds⟩ hp⟩
  · exact q1.elim
/-! ### calls of built-ins, by values -/
def CallL (X : Cx) (tb : List (Addr × Str)) (f : Value) (k : List T → Mem → Res) : Prop :=
  ∃ r : List V → Hp → VK → Prop, CallR X f r ∧ ∀ (E : XK) (Q : VK) (ρ : Nat → Addr) (μ : Mem) (H : Hp) (ts : List T) (vs : List V), MRel (gx X tb) ρ μ H → DVs X.K ρ μ.length H ts vs → Good (gx X tb) E Q ρ μ.length H (k ts μ) → r vs H Q
def dCall (k : List T → Mem → Res) (d : AM) : EM := fun σ μ => d σ μ k
theorem tE_call {r : List V → Hp → VK → Prop} {k : List T → Mem → Res} {t : TA} {d : AM} (ha : AOk (gx X tb) E t d) (hr : ∀ (E : XK) (Q : VK) (ρ : Nat → Addr) (μ : Mem) (H : Hp) (ts : List T) (vs : List V), MRel (gx X tb) ρ μ H → DVs X.K ρ μ.length H ts vs → Good (gx X tb) E Q ρ μ.length H (k ts μ) → r vs H Q) :
    ∀ σ H Q, tE (gx X tb) E (dCall k d) σ H Q → tCB r t σ H Q := fun σ H Q h => by
  obtain ⟨ρ, σT, μ, m, l, h⟩ := h
  exact ha.go Q ρ σT μ σ H _ _ m l h fun ts μ1 ρ1 vs H1 e1 m1 ds q1 => hr E Q ρ1 μ1 H1 ts vs m1 ds q1
theorem e_callB {x : Str} {id : String} {p pos : Pos} {e : Expr} {es : List Expr} {k : List T → Mem → Res} {d : AM} (h : CallL X tb (.builtin id) k) (hm : X.mg x = none) (ha : PAd X tb E (e :: es) d) (hv : bootBuiltins x = some (.builtin id) := by decide +kernel) (hg : Gl X x := by rfl) 
    (hn : x ≠ "__name__" := by decide) (hdb : (x == ("__debug__" : Str)) = false := by decide) (he : starEach (e :: es) X.env = (false, eval e X.env) :: starEach es X.env := by rfl) (hpl : (backTo pos (starEach es X.env)).any (·.1) = false := by rfl) :
    PE X (.Call (.Name x p) (e :: es) [] pos) (tE (gx X tb) E (dCall k d)) := by
  obtain ⟨r, h1, h2⟩ := h
  obtain ⟨t, a1, a2⟩ := ha.ex
  exact (pe_callB h1 hg hm hv a1 hn hdb he hpl).imp (tE_call a2 h2)
theorem e_callTy {x : Str} {id : String} {p pos : Pos} {e : Expr} {es : List Expr} {k : List T → Mem → Res} {d : AM} (h : CallL X tb (.type id) k) (hm : X.mg x = none) (ha : PAd X tb E (e :: es) d) (hv : bootBuiltins x = some (.type id) := by decide +kernel) (hg : Gl X x := by rfl) 
    (hn : x ≠ "__name__" := by decide) (hdb : (x == ("__debug__" : Str)) = false := by decide) (he : starEach (e :: es) X.env = (false, eval e X.env) :: starEach es X.env := by rfl) (hpl : (backTo pos (starEach es X.env)).any (·.1) = false := by rfl) :
    PE X (.Call (.Name x p) (e :: es) [] pos) (tE (gx X tb) E (dCall k d)) := by
  obtain ⟨r, h1, h2⟩ := h
  obtain ⟨t, a1, a2⟩ := ha.ex
  exact (pe_callTy h1 hg hm hv a1 hn hdb he hpl).imp (tE_call a2 h2)
/-! ### subscripts -/
def IxL (X : Cx) (tb : List (Addr × Str)) (k : T → T → Mem → Res) : Prop :=
  ∃ r : R2, IxR X r ∧ ∀ (E : XK) (Q : VK) (ρ : Nat → Addr) (μ : Mem) (H : Hp) (x y : T) (v u : V), MRel (gx X tb) ρ μ H → DV X.K ρ μ.length H x v → DV X.K ρ μ.length H y u → Good (gx X tb) E Q ρ μ.length H (k x y μ) → r v u H Q
theorem e_ix {k : T → T → Mem → Res} (h : IxL X tb k) (ha : PE X a (tE (gx X tb) E da)) (hb : PE X b (tE (gx X tb) E db)) (hs : PlainIx b := by exact fun _ _ => rfl) : PE X (.Subscript a b pos) (tE (gx X tb) E (d2 k da db)) := by
  obtain ⟨r, h1, h2⟩ := h
  exact (pe_ix h1 ha hb hs).imp (tE_op h2)
end
end TL
set_option Elab.async false
set_option linter.all false
set_option maxRecDepth 100000
set_option maxHeartbeats 2000000
/-! TL3: operations by values -/
namespace TL
open PySem PySem.Spec PyProof.Rows L2
section
variable {X : Cx} {tb : List (Addr × Str)}
/-- a rule of two ints -/
theorem opl_int {f : Value → Value → Sem Value} {C : Int → Int → Prop} {gV : Int → Int → V} {k : T → T → Mem → Res} (h : OpR X f (rI C gV))
    (hk : ∀ x y μ, k x y μ ≠ .bad → ∃ i j t, x = .int i ∧ y = .int j ∧ C i j ∧ k x y μ = .ok t μ ∧ ∀ ρ n H, DV X.K ρ n H t (gV i j)) : OpL X tb f k := by
  refine ⟨_, h, fun E Q ρ μ H x y v u m dx dy g => ?_⟩
  obtain ⟨i, j, t, rfl, rfl, hc, e, ht⟩ := hk x y μ (fun z => by rw [z] at g; exact g)
  rw [e] at g
  exact ⟨i, j, dx, dy, hc, g.same m (ht _ _ _)⟩
theorem opl_int0 {f : Value → Value → Sem Value} {gV : Int → Int → V} {k : T → T → Mem → Res} (h : OpR X f (rI0 gV))
    (hk : ∀ x y μ, k x y μ ≠ .bad → ∃ i j t, x = .int i ∧ y = .int j ∧ k x y μ = .ok t μ ∧ ∀ ρ n H, DV X.K ρ n H t (gV i j)) : OpL X tb f k := by
  refine ⟨_, h, fun E Q ρ μ H x y v u m dx dy g => ?_⟩
  obtain ⟨i, j, t, rfl, rfl, e, ht⟩ := hk x y μ (fun z => by rw [z] at g; exact g)
  rw [e] at g
  exact ⟨i, j, dx, dy, g.same m (ht _ _ _)⟩
def addT : T → T → Mem → Res := fun x y μ => match x, y with
  | .int i, .int j => .ok (.int (i + j)) μ
  | .str i, .str j => if i.length + j.length ≤ sizeLine then .ok (.str (i ++ j)) μ else .bad
  | .tup xs, .tup ys => if xs.length + ys.length ≤ sizeLine then .ok (.tup (xs ++ ys)) μ else .bad
  | _, _ => .bad
theorem opl_add : OpL X tb (binaryOp .Add) addT := by
  refine ⟨_, op_add.or (op_add_str.or op_catA), fun E Q ρ μ H x y v u m dx dy g => ?_⟩
  unfold addT at g
  split at g
  · exact .inl ⟨_, _, dx, dy, g.same m rfl⟩
  · split at g
    · rename_i hz
      exact .inr (.inl ⟨_, _, dx, dy, hz, g.same m rfl⟩)
    · exact g.elim
  · rename_i xs ys
    split at g
    · rename_i hz
      obtain ⟨a, vs, ea, ha, da⟩ := dx
      obtain ⟨b, ws, eb, hb, db⟩ := dy
      refine .inr (.inr ⟨a, b, vs, ws, ea, eb, ha, hb, by rw [← da.length, ← db.length]; exact hz, fun h0 => ?_, fun _ h0 => ?_, fun _ _ p hp => g.tup m (da.append db) hp⟩)
      · subst h0
        have e : xs = [] := List.length_eq_zero_iff.mp da.length
        subst e
        exact g.same m ⟨b, ws, rfl, hb, db⟩
      · subst h0
        have e : ys = [] := List.length_eq_zero_iff.mp db.length
        subst e
        exact g.same m ⟨a, vs, rfl, ha, by rw [List.append_nil]; exact da⟩
    · exact g.elim
  · exact g.elim
def subT : T → T → Mem → Res := fun x y μ => match x, y with
  | .int i, .int j => .ok (.int (i - j)) μ
  | _, _ => .bad
theorem opl_sub : OpL X tb (binaryOp .Sub) subT := opl_int0 op_sub fun x y μ h => by
  unfold subT at h ⊢
  split at h
  · exact ⟨_, _, _, rfl, rfl, rfl, fun _ _ _ => rfl⟩
  · exact absurd rfl h
instance (i j : Int) : Decidable (CMul i j) := by unfold CMul; infer_instance
def mulT : T → T → Mem → Res := fun x y μ => match x, y with
  | .int i, .int j => if CMul i j then .ok (.int (i * j)) μ else .bad
  | _, _ => .bad
theorem opl_mul : OpL X tb (binaryOp .Mult) mulT := opl_int op_mul fun x y μ h => by
  unfold mulT at h ⊢
  split at h
  · split at h
    · rename_i hc
      rw [if_pos hc]
      exact ⟨_, _, _, rfl, rfl, hc, rfl, fun _ _ _ => rfl⟩
    · exact absurd rfl h
  · exact absurd rfl h
def modT : T → T → Mem → Res := fun x y μ => match x, y with
  | .int i, .int j => if 0 < j then .ok (.int (i % j)) μ else .bad
  | _, _ => .bad
theorem opl_mod : OpL X tb (binaryOp .Mod) modT := opl_int op_mod fun x y μ h => by
  unfold modT at h ⊢
  split at h
  · split at h
    · rename_i hc
      rw [if_pos hc]
      exact ⟨_, _, _, rfl, rfl, hc, rfl, fun _ _ _ => rfl⟩
    · exact absurd rfl h
  · exact absurd rfl h
instance (i j : Int) : Decidable (CDiv i j) := by unfold CDiv; infer_instance
def fdivT : T → T → Mem → Res := fun x y μ => match x, y with
  | .int i, .int j => if CDiv i j then .ok (.int (i / j)) μ else .bad
  | _, _ => .bad
theorem opl_fdiv : OpL X tb (binaryOp .FloorDiv) fdivT := opl_int op_fdiv fun x y μ h => by
  unfold fdivT at h ⊢
  split at h
  · split at h
    · rename_i hc
      rw [if_pos hc]
      exact ⟨_, _, _, rfl, rfl, hc, rfl, fun _ _ _ => rfl⟩
    · exact absurd rfl h
  · exact absurd rfl h
instance (i j : Int) : Decidable (CPow i j) := by unfold CPow; infer_instance
def powT : T → T → Mem → Res := fun x y μ => match x, y with
  | .int i, .int j => if CPow i j then .ok (.int (i ^ j.toNat)) μ else .bad
  | _, _ => .bad
theorem opl_pow : OpL X tb (binaryOp .Pow) powT := opl_int op_pow fun x y μ h => by
  unfold powT at h ⊢
  split at h
  · split at h
    · rename_i hc
      rw [if_pos hc]
      exact ⟨_, _, _, rfl, rfl, hc, rfl, fun _ _ _ => rfl⟩
    · exact absurd rfl h
  · exact absurd rfl h
def shlT : T → T → Mem → Res := fun x y μ => match x, y with
  | .int i, .int j => if CPow i j then .ok (.int (i * 2 ^ j.toNat)) μ else .bad
  | _, _ => .bad
theorem opl_shl : OpL X tb (binaryOp .LShift) shlT := opl_int op_shl fun x y μ h => by
  unfold shlT at h ⊢
  split at h
  · split at h
    · rename_i hc
      rw [if_pos hc]
      exact ⟨_, _, _, rfl, rfl, hc, rfl, fun _ _ _ => rfl⟩
    · exact absurd rfl h
  · exact absurd rfl h
def shrT : T → T → Mem → Res := fun x y μ => match x, y with
  | .int i, .int j => if 0 ≤ j then .ok (.int (i / 2 ^ j.toNat)) μ else .bad
  | _, _ => .bad
theorem opl_shr : OpL X tb (binaryOp .RShift) shrT := opl_int op_shr fun x y μ h => by
  unfold shrT at h ⊢
  split at h
  · split at h
    · rename_i hc
      rw [if_pos hc]
      exact ⟨_, _, _, rfl, rfl, hc, rfl, fun _ _ _ => rfl⟩
    · exact absurd rfl h
  · exact absurd rfl h
def bandT : T → T → Mem → Res := fun x y μ => match x, y with
  | .int i, .int j => .ok (.int (Builtin.bitAnd i j)) μ
  | _, _ => .bad
theorem opl_band : OpL X tb (binaryOp .BitAnd) bandT := opl_int0 op_and fun x y μ h => by
  unfold bandT at h ⊢
  split at h
  · exact ⟨_, _, _, rfl, rfl, rfl, fun _ _ _ => rfl⟩
  · exact absurd rfl h
def ltT : T → T → Mem → Res := fun x y μ => match x, y with
  | .int i, .int j => .ok (.bl (decide (i < j))) μ
  | _, _ => .bad
def leT : T → T → Mem → Res := fun x y μ => match x, y with
  | .int i, .int j => .ok (.bl (decide (i ≤ j))) μ
  | _, _ => .bad
def gtT : T → T → Mem → Res := fun x y μ => match x, y with
  | .int i, .int j => .ok (.bl (decide (j < i))) μ
  | _, _ => .bad
def geT : T → T → Mem → Res := fun x y μ => match x, y with
  | .int i, .int j => .ok (.bl (decide (j ≤ i))) μ
  | _, _ => .bad
theorem opl_lt : OpL X tb (compareOp .Lt) ltT := opl_int0 op_lt fun x y μ h => by
  unfold ltT at h ⊢
  split at h
  · exact ⟨_, _, _, rfl, rfl, rfl, fun _ _ _ => rfl⟩
  · exact absurd rfl h
theorem opl_le : OpL X tb (compareOp .LtE) leT := opl_int0 op_le fun x y μ h => by
  unfold leT at h ⊢
  split at h
  · exact ⟨_, _, _, rfl, rfl, rfl, fun _ _ _ => rfl⟩
  · exact absurd rfl h
theorem opl_gt : OpL X tb (compareOp .Gt) gtT := opl_int0 op_gt fun x y μ h => by
  unfold gtT at h ⊢
  split at h
  · exact ⟨_, _, _, rfl, rfl, rfl, fun _ _ _ => rfl⟩
  · exact absurd rfl h
theorem opl_ge : OpL X tb (compareOp .GtE) geT := opl_int0 op_ge fun x y μ h => by
  unfold geT at h ⊢
  split at h
  · exact ⟨_, _, _, rfl, rfl, rfl, fun _ _ _ => rfl⟩
  · exact absurd rfl h
/-! ### == at any depth -/
mutual
def toDW (f : Nat → Option PyData) : T → Option PyData
  | .non => some .none
  | .bl b => some (.bool b)
  | .int i => some (.int i)
  | .str x => some (.str x)
  | .er _ _ => none
  | .fl _ => none
  | .ref k => f k
  | .tup ts => (toDWs f ts).map .tuple
def toDWs (f : Nat → Option PyData) : List T → Option (List PyData)
  | [] => some []
  | t :: ts => (toDW f t).bind fun d => (toDWs f ts).map fun ds => d :: ds
end
def refD (μ : Mem) : Nat → Nat → Option PyData
  | 0, _ => none
  | d + 1, k => match μ[k]? with
    | some (.lst ts) => (toDWs (refD μ d) ts).map .list
    | _ => none
def toD (μ : Mem) (t : T) : Option PyData := toDW (refD μ 3) t
section
variable {g : G} {ρ : Nat → Addr} {n : Nat} {H : Hp}
mutual
theorem toDW_dp {f : Nat → Option PyData} (hf : ∀ k d, f k = some d → Dp g.K H (.ref (ρ k)) d) : ∀ {t : T} {v : V} {d : PyData}, DV g.K ρ n H t v → toDW f t = some d → Dp g.K H v d
  | .non, _, _, h, e => by
    rw [show _ = V.non from h]
    simp [toDW] at e; subst e; exact .non
  | .bl b, _, _, h, e => by
    rw [show _ = V.bl b from h]
    simp [toDW] at e; subst e; exact .bl b
  | .int i, _, _, h, e => by
    rw [show _ = V.int i from h]
    simp [toDW] at e; subst e; exact .int i
  | .str x, _, _, h, e => by
    rw [show _ = V.str x from h]
    simp [toDW] at e; subst e; exact .str x
  | .er _ _, _, _, _, e => by simp [toDW] at e
  | .fl _, _, _, _, e => by simp [toDW] at e
  | .ref k, _, _, h, e => by
    obtain ⟨_, h2⟩ := h
    rw [h2]
    exact hf k _ (by simpa [toDW] using e)
  | .tup ts, _, _, h, e => by
    obtain ⟨a, vs, rfl, h2, h3⟩ := h
    simp only [toDW, Option.map_eq_some_iff] at e
    obtain ⟨ds, e1, rfl⟩ := e
    exact .tup h2 (toDWs_dp hf h3 e1)
theorem toDWs_dp {f : Nat → Option PyData} (hf : ∀ k d, f k = some d → Dp g.K H (.ref (ρ k)) d) : ∀ {ts : List T} {vs : List V} {ds : List PyData}, DVs g.K ρ n H ts vs → toDWs f ts = some ds → DpAll g.K H vs ds
  | [], _, _, h, e => by
    rw [show _ = [] from h]
    simp [toDWs] at e; subst e; exact .nil
  | t :: ts, _, _, h, e => by
    obtain ⟨v, r, rfl, h2, h3⟩ := h
    simp only [toDWs, Option.bind_eq_some_iff, Option.map_eq_some_iff] at e
    obtain ⟨d, e1, ds, e2, rfl⟩ := e
    exact .cons (toDW_dp hf h2 e1) (toDWs_dp hf h3 e2)
end
theorem refD_dp {μ : Mem} (m : MRel g ρ μ H) : ∀ (d k : Nat) (pd : PyData), refD μ d k = some pd → Dp g.K H (.ref (ρ k)) pd
  | 0, _, _, e => by simp [refD] at e
  | d + 1, k, pd, e => by
    unfold refD at e
    split at e
    · rename_i ts hk
      obtain ⟨ho, h1, vs, rfl, h2⟩ := m.ob k _ hk
      simp only [Option.map_eq_some_iff] at e
      obtain ⟨ds, e1, rfl⟩ := e
      exact .lst (SqL.of h1) (toDWs_dp (refD_dp m d) h2 e1)
    · cases e
theorem toD_dp {μ : Mem} (m : MRel g ρ μ H) {t : T} {v : V} {d : PyData} (h : DV g.K ρ n H t v) (e : toD μ t = some d) : Dp g.K H v d := toDW_dp (refD_dp m 3) h e
end
def eqT : T → T → Mem → Res := fun x y μ => match x, y with
  | .int i, .int j => .ok (.bl (decide (i = j))) μ
  | .str i, .str j => .ok (.bl (decide (i = j))) μ
  | .bl i, .bl j => .ok (.bl (decide (i = j))) μ
  | x, y => match toD μ x, toD μ y with
    | some d, some e => if SeqAt.shaped d = true ∧ SeqAt.shaped e = true then .ok (.bl (PyData.eqv d e)) μ else .bad
    | _, _ => .bad
def neT : T → T → Mem → Res := fun x y μ => (eqT x y μ).bind notT
theorem opl_eq (hu : X.A.units + 64 < cLine) : OpL X tb (compareOp .Eq) eqT := by
  refine ⟨_, op_eq.or (op_eqD hu), fun E Q ρ μ H x y v u m dx dy g => ?_⟩
  unfold eqT at g
  split at g
  · rename_i i j
    rw [show v = V.int i from dx, show u = V.int j from dy]
    exact .inl ⟨rfl, by rw [dec_int]; exact g.same m (show V.bl (i == j) = V.bl (decide (i = j)) by rw [Bool.beq_eq_decide_eq])⟩
  · rename_i i j
    rw [show v = V.str i from dx, show u = V.str j from dy]
    exact .inl ⟨rfl, by rw [dec_str]; exact g.same m (show V.bl (i == j) = V.bl (decide (i = j)) by rw [Bool.beq_eq_decide_eq])⟩
  · rename_i i j
    rw [show v = V.bl i from dx, show u = V.bl j from dy]
    exact .inl ⟨rfl, by rw [dec_bl]; exact g.same m (show V.bl (i == j) = V.bl (decide (i = j)) by rw [Bool.beq_eq_decide_eq])⟩
  · split at g
    · split at g
      · rename_i d e e1 e2 hs
        exact .inr ⟨d, e, toD_dp (g := gx X tb) m dx e1, toD_dp (g := gx X tb) m dy e2, hs.1, hs.2, g.same m rfl⟩
      · exact g.elim
    · exact g.elim
theorem opl_ne (hu : X.A.units + 64 < cLine) : OpL X tb (compareOp .NotEq) neT := by
  refine ⟨_, op_ne.or (op_neD hu), fun E Q ρ μ H x y v u m dx dy g => ?_⟩
  unfold neT eqT at g
  split at g
  · rename_i i j
    rw [show v = V.int i from dx, show u = V.int j from dy]
    exact .inl ⟨rfl, by rw [dec_int]; exact Good.same (μ := μ) g m (show V.bl (!(i == j)) = V.bl (!decide (i = j)) by rw [Bool.beq_eq_decide_eq])⟩
  · rename_i i j
    rw [show v = V.str i from dx, show u = V.str j from dy]
    exact .inl ⟨rfl, by rw [dec_str]; exact Good.same (μ := μ) g m (show V.bl (!(i == j)) = V.bl (!decide (i = j)) by rw [Bool.beq_eq_decide_eq])⟩
  · rename_i i j
    rw [show v = V.bl i from dx, show u = V.bl j from dy]
    exact .inl ⟨rfl, by rw [dec_bl]; exact Good.same (μ := μ) g m (show V.bl (!(i == j)) = V.bl (!decide (i = j)) by rw [Bool.beq_eq_decide_eq])⟩
  · split at g
    · split at g
      · rename_i d e e1 e2 hs
        exact .inr ⟨d, e, toD_dp (g := gx X tb) m dx e1, toD_dp (g := gx X tb) m dy e2, hs.1, hs.2, Good.same (μ := μ) g m rfl⟩
      · exact g.elim
    · exact g.elim
/-! is None -/
def isNT : T → Mem → Res := fun x μ => match x with
  | .non => .ok (.bl true) μ
  | _ => .ok (.bl false) μ
def notNT : T → Mem → Res := fun x μ => match x with
  | .non => .ok (.bl false) μ
  | _ => .ok (.bl true) μ
theorem DV.non_iff {K : PySem.W.Frag} {ρ : Nat → Addr} {n : Nat} {H : Hp} {t : T} {v : V} (h : DV K ρ n H t v) : (v = .non) ↔ (t = .non) := by
  cases t with
  | non => exact ⟨fun _ => rfl, fun _ => h⟩
  | bl _ => rw [show v = _ from h]; exact ⟨(fun z => nomatch z), (fun z => nomatch z)⟩
  | int _ => rw [show v = _ from h]; exact ⟨(fun z => nomatch z), (fun z => nomatch z)⟩
  | str _ => rw [show v = _ from h]; exact ⟨(fun z => nomatch z), (fun z => nomatch z)⟩
  | er _ _ => rw [show v = _ from h.1]; exact ⟨(fun z => nomatch z), (fun z => nomatch z)⟩
  | fl _ => obtain ⟨a, rfl, _⟩ := h; exact ⟨(fun z => nomatch z), (fun z => nomatch z)⟩
  | ref _ => rw [h.2]; exact ⟨(fun z => nomatch z), (fun z => nomatch z)⟩
  | tup _ => obtain ⟨a, vs, rfl, _⟩ := h; exact ⟨(fun z => nomatch z), (fun z => nomatch z)⟩
variable {E : XK} {a : Expr} {da : EM} {pos : Pos}
theorem tE_isN : ∀ σ H Q, tE (gx X tb) E (d1 isNT da) σ H Q → tIsN (tE (gx X tb) E da) σ H Q := fun σ H Q h => by
  obtain ⟨ρ, σT, μ, m, l, h⟩ := h
  refine bindE m l h fun x μ1 ρ1 v H1 e1 m1 l1 dx h1 => ?_
  have e : isNT x μ1 = .ok (.bl (decide (v = .non))) μ1 := by
    by_cases hx : x = .non
    · rw [decide_eq_true (DV.non_iff dx |>.mpr hx), hx]; rfl
    · rw [decide_eq_false (fun z => hx (DV.non_iff dx |>.mp z))]; cases x <;> first | rfl | exact absurd rfl hx
  rw [e] at h1
  exact h1.same m1 rfl
theorem tE_notN : ∀ σ H Q, tE (gx X tb) E (d1 notNT da) σ H Q → tNotN (tE (gx X tb) E da) σ H Q := fun σ H Q h => by
  obtain ⟨ρ, σT, μ, m, l, h⟩ := h
  refine bindE m l h fun x μ1 ρ1 v H1 e1 m1 l1 dx h1 => ?_
  have e : notNT x μ1 = .ok (.bl (!decide (v = .non))) μ1 := by
    by_cases hx : x = .non
    · rw [decide_eq_true (DV.non_iff dx |>.mpr hx), hx]; rfl
    · rw [decide_eq_false (fun z => hx (DV.non_iff dx |>.mp z))]; cases x <;> first | rfl | exact absurd rfl hx
  rw [e] at h1
  exact h1.same m1 rfl
theorem e_isN {j pos'} (ha : PE X a (tE (gx X tb) E da)) : PE X (.Compare a [.Is] [.Constant .none j pos'] pos) (tE (gx X tb) E (d1 isNT da)) := (pe_cmp (pc_isN ha)).imp tE_isN
theorem e_notN {j pos'} (ha : PE X a (tE (gx X tb) E da)) : PE X (.Compare a [.IsNot] [.Constant .none j pos'] pos) (tE (gx X tb) E (d1 notNT da)) := (pe_cmp (pc_notN ha)).imp tE_notN
theorem t_isN {j pos'} (ha : PE X a (tE (gx X tb) E da)) : PT X (.Compare a [.Is] [.Constant .none j pos'] pos) (tT (gx X tb) E (d1 isNT da)) := (pt_cmp (pc_isN ha)).imp fun σ H Q h => tE_isN σ H _ h
theorem t_notN {j pos'} (ha : PE X a (tE (gx X tb) E da)) : PT X (.Compare a [.IsNot] [.Constant .none j pos'] pos) (tT (gx X tb) E (d1 notNT da)) := (pt_cmp (pc_notN ha)).imp fun σ H Q h => tE_notN σ H _ h
/-! ### one-place operators, in -/
def negT : T → Mem → Res := fun x μ => match x with
  | .int i => .ok (.int (-i)) μ
  | _ => .bad
theorem e_neg (ha : PE X a (tE (gx X tb) E da)) : PE X (.UnaryOp .USub a pos) (tE (gx X tb) E (d1 negT da)) := (pe_un un_neg ha).imp fun σ H Q h => by
  obtain ⟨ρ, σT, μ, m, l, h⟩ := h
  refine bindE m l h fun x μ1 ρ1 v H1 e1 m1 l1 dx h1 => ?_
  unfold negT at h1
  split at h1
  · exact ⟨_, dx, h1.same m1 rfl⟩
  · exact h1.elim
/-- == of flat values -/
def flatT : T → Bool
  | .non => true | .bl _ => true | .int _ => true | .str _ => true
  | _ => false
def eqF : T → T → Bool
  | .non, .non => true
  | .bl a, .bl b => a == b
  | .bl a, .int b => (if a then 1 else 0) == b
  | .int a, .bl b => a == (if b then 1 else 0)
  | .int a, .int b => a == b
  | .str a, .str b => a == b
  | _, _ => false
theorem flat_of {K : PySem.W.Frag} {ρ : Nat → Addr} {n : Nat} {H : Hp} {t : T} {v : V} (h : DV K ρ n H t v) (f : flatT t = true) : flatV v = true := by
  cases t with
  | non => rw [show v = _ from h]; rfl
  | bl _ => rw [show v = _ from h]; rfl
  | int _ => rw [show v = _ from h]; rfl
  | str _ => rw [show v = _ from h]; rfl
  | _ => exact absurd f (by simp [flatT])
theorem eqF_of {K : PySem.W.Frag} {ρ : Nat → Addr} {n : Nat} {H : Hp} {t u : T} {v w : V} (h : DV K ρ n H t v) (h' : DV K ρ n H u w) (f : flatT t = true) (f' : flatT u = true) : eqV v w = eqF t u := by
  cases t <;> first
    | (exfalso; revert f; simp [flatT]; done)
    | (cases u <;> first
        | (exfalso; revert f'; simp [flatT]; done)
        | (rw [show v = _ from h, show w = _ from h']; rfl))
theorem any_eqF {K : PySem.W.Frag} {ρ : Nat → Addr} {n : Nat} {H : Hp} {t : T} {v : V} (h : DV K ρ n H t v) (f : flatT t = true) : ∀ {ts : List T} {vs : List V}, DVs K ρ n H ts vs → ts.all flatT = true → (vs.any fun y => eqV y v) = (ts.any fun y => eqF y t) ∧ vs.all flatV = true
  | [], _, d, _ => by rw [show _ = [] from d]; exact ⟨rfl, rfl⟩
  | x :: ts, _, d, hf => by
    obtain ⟨y, r, rfl, h2, h3⟩ := d
    simp only [List.all_cons, Bool.and_eq_true] at hf ⊢
    obtain ⟨i1, i2⟩ := any_eqF h f h3 hf.2
    simp only [List.any_cons]
    exact ⟨by rw [i1, eqF_of h2 h hf.1 f], flat_of h2 hf.1, i2⟩
def seqT (μ : Mem) : T → Option (List T)
  | .tup ts => some ts
  | .ref k => match μ[k]? with
    | some (.lst ts) => some ts
    | _ => none
  | _ => none
theorem seqT_of {g : G} {ρ : Nat → Addr} {μ : Mem} {H : Hp} (m : MRel g ρ μ H) {t : T} {v : V} {ts : List T} (h : DV g.K ρ μ.length H t v) (e : seqT μ t = some ts) : ∃ a vs, v = .ref a ∧ (SqL g.K H a vs ∨ SqT g.K H a vs) ∧ DVs g.K ρ μ.length H ts vs := by
  cases t with
  | tup us =>
    obtain ⟨a, vs, rfl, h2, h3⟩ := h
    cases e
    exact ⟨a, vs, rfl, .inr h2, h3⟩
  | ref k =>
    obtain ⟨h1, rfl⟩ := h
    unfold seqT at e
    dsimp only at e
    split at e
    · rename_i us hk
      cases e
      obtain ⟨ho, q1, vs, rfl, q2⟩ := m.ob k _ hk
      exact ⟨_, vs, rfl, .inl (SqL.of q1), q2⟩
    · cases e
  | _ => cases e
def inB : T → T → Mem → Option Bool := fun x y μ => match x, y with
  | .str c, .str z => match c.cps.toList with
    | [ch] => some (decide (ch ∈ z.cps.toList))
    | _ => none
  | x, y => match seqT μ y with
    | some ts => if flatT x = true ∧ ts.all flatT = true then some (ts.any fun z => eqF z x) else
        match toD μ x, refD μ 4 (match y with | .ref k => k | _ => μ.length) with
          | some d, some (.list ds) => if SeqAt.shaped d = true ∧ SeqAt.shaped (.list ds) = true then some (ds.any fun z => PyData.eqv z d) else none
          | _, _ => none
    | none => none
def inT : T → T → Mem → Res := fun x y μ => match inB x y μ with
  | some b => .ok (.bl b) μ
  | none => .bad
def notInT : T → T → Mem → Res := fun x y μ => match inB x y μ with
  | some b => .ok (.bl (!b)) μ
  | none => .bad
theorem str_one {c : Str} {ch : Nat} (h : c.cps.toList = [ch]) : c = ⟨#[ch]⟩ := by
  obtain ⟨a⟩ := c
  have : a = #[ch] := by
    apply Array.toList_inj.mp
    simpa using h
  rw [this]
theorem inB_of {x y : T} {v u : V} {ρ : Nat → Addr} {μ : Mem} {H : Hp} {b : Bool} (m : MRel (gx X tb) ρ μ H) (dx : DV X.K ρ μ.length H x v) (dy : DV X.K ρ μ.length H y u) (e : inB x y μ = some b) :
    (∃ (c : Nat) (z : Str), v = .str ⟨#[c]⟩ ∧ u = .str z ∧ b = decide (c ∈ z.cps.toList)) ∨ (∃ p xs, u = .ref p ∧ (SqL X.K H p xs ∨ SqT X.K H p xs) ∧ flatV v = true ∧ xs.all flatV = true ∧ b = inV v xs) ∨
      (∃ d ds, Dp X.K H v d ∧ Dp X.K H u (.list ds) ∧ SeqAt.shaped d = true ∧ SeqAt.shaped (.list ds) = true ∧ b = ds.any fun z => PyData.eqv z d) := by
  unfold inB at e
  split at e
  · rename_i c z
    split at e
    · rename_i ch hc
      cases e
      rw [show v = _ from dx, show u = _ from dy]
      exact .inl ⟨ch, z, by rw [str_one hc], rfl, rfl⟩
    · cases e
  · split at e
    · rename_i ts hts
      split at e
      · rename_i hf
        cases e
        obtain ⟨a, vs, rfl, h2, h3⟩ := seqT_of m dy hts
        obtain ⟨i1, i2⟩ := any_eqF dx hf.1 h3 hf.2
        exact .inr (.inl ⟨a, vs, rfl, h2, flat_of dx hf.1, i2, i1.symm⟩)
      · split at e
        · rename_i d ds e1 e2
          split at e
          · rename_i hs
            cases e
            refine .inr (.inr ⟨d, ds, toD_dp (g := gx X tb) m dx e1, ?_, hs.1, hs.2, rfl⟩)
            cases y with
            | ref k =>
              obtain ⟨h1, rfl⟩ := dy
              exact refD_dp m 4 k _ e2
            | _ =>
              exfalso
              unfold refD at e2
              rw [List.getElem?_eq_none (Nat.le_refl _)] at e2
              cases e2
          · cases e
        · cases e
    · cases e
theorem opl_in (hu : X.A.units + 65 < cLine) : OpL X tb (compareOp .In) inT := by
  refine ⟨_, op_in_sign.or (op_in_seq.or (op_inD hu)), fun E Q ρ μ H x y v u m dx dy g => ?_⟩
  unfold inT at g
  split at g
  · rename_i b hb
    rcases inB_of m dx dy hb with ⟨c, z, e1, e2, e3⟩ | ⟨p, xs, e1, e2, e3, e4, e5⟩ | ⟨d, ds, e1, e2, e3, e4, e5⟩
    · exact .inl ⟨c, z, e1, e2, by rw [← e3]; exact g.same m rfl⟩
    · exact .inr (.inl ⟨p, xs, e1, e2, e3, e4, by show Q (.bl (inV v xs)) H; rw [← e5]; exact g.same m rfl⟩)
    · exact .inr (.inr ⟨d, ds, e1, e2, e3, e4, by rw [← e5]; exact g.same m rfl⟩)
  · exact g.elim
theorem opl_notIn (hu : X.A.units + 65 < cLine) : OpL X tb (compareOp .NotIn) notInT := by
  refine ⟨_, op_notIn_sign.or (op_notIn_seq.or (op_notInD hu)), fun E Q ρ μ H x y v u m dx dy g => ?_⟩
  unfold notInT at g
  split at g
  · rename_i b hb
    rcases inB_of m dx dy hb with ⟨c, z, e1, e2, e3⟩ | ⟨p, xs, e1, e2, e3, e4, e5⟩ | ⟨d, ds, e1, e2, e3, e4, e5⟩
    · exact .inl ⟨c, z, e1, e2, by rw [← e3]; exact g.same m rfl⟩
    · exact .inr (.inl ⟨p, xs, e1, e2, e3, e4, by show Q (.bl (!inV v xs)) H; rw [← e5]; exact g.same m rfl⟩)
    · exact .inr (.inr ⟨d, ds, e1, e2, e3, e4, by rw [← e5]; exact g.same m rfl⟩)
  · exact g.elim
/-! ### items -/
def ixT : T → T → Mem → Res := fun x y μ => match y with
  | .int i => match x with
    | .str z => if z.length ≤ sizeLine then (match atI z.cps.toList i with
      | some c => .ok (.str ⟨#[c]⟩) μ
      | none => .bad) else .bad
    | _ => match seqT μ x with
      | some ts => match atI ts i with
        | some t => .ok t μ
        | none => .bad
      | none => .bad
  | _ => .bad
theorem DVs.atI {K : PySem.W.Frag} {ρ : Nat → Addr} {n : Nat} {H : Hp} {ts : List T} {vs : List V} {i : Int} {t : T} (h : DVs K ρ n H ts vs) (e : L2.atI ts i = some t) : ∃ v, L2.atI vs i = some v ∧ DV K ρ n H t v := by
  unfold L2.atI at e ⊢
  rw [← h.length]
  cases q : ixN ts.length i with
  | none => rw [q] at e; cases e
  | some j =>
    rw [q] at e
    exact h.get e
theorem ixl : IxL X tb ixT := by
  refine ⟨_, ix_seq, fun E Q ρ μ H x y v u m dx dy g => ?_⟩
  unfold ixT at g
  split at g
  · rename_i i
    have hu : u = V.int i := dy
    subst hu
    split at g
    · rename_i z
      split at g
      · rename_i hz
        split at g
        · rename_i c hc
          exact .inr (.inr ⟨z, i, c, dx, rfl, hz, hc, g.same m rfl⟩)
        · exact g.elim
      · exact g.elim
    · split at g
      · rename_i ts hts
        split at g
        · rename_i t ht
          obtain ⟨a, vs, rfl, h2, h3⟩ := seqT_of m dx hts
          obtain ⟨w, hw, dw⟩ := h3.atI ht
          rcases h2 with h2 | h2
          · exact .inl ⟨a, vs, i, w, rfl, rfl, h2, hw, g.same m dw⟩
          · exact .inr (.inl ⟨a, vs, i, w, rfl, rfl, h2, hw, g.same m dw⟩)
        · exact g.elim
      · exact g.elim
  · exact g.elim
end
end TL
set_option Elab.async false
set_option linter.all false
set_option maxRecDepth 100000
set_option maxHeartbeats 2000000
/-! TL4: lists just made, what is walked, statements -/
namespace TL
open PySem PySem.Spec PyProof.Rows L2
section
variable {K : PySem.W.Frag} {ρ ρ1 : Nat → Addr} {n n1 : Nat} {H H1 : Hp}
mutual
theorem DV.ren (hk : ∀ k, k < n → k < n1 ∧ ρ1 k = ρ k) (hs : ∀ a vs, (SqT K H a vs → SqT K H1 a vs) ∧ (FSq K H a vs → FSq K H1 a vs) ∧ ∀ ws, H a = some (.xd ws) → H1 a = some (.xd ws)) : ∀ {t : T} {v : V}, DV K ρ n H t v → DV K ρ1 n1 H1 t v
  | .non, _, h => h
  | .bl _, _, h => h
  | .int _, _, h => h
  | .str _, _, h => h
  | .er _ _, _, h => ⟨h.1, fun dx hd => let ⟨ws, q⟩ := h.2 dx hd; ⟨ws, (hs dx []).2.2 ws q⟩⟩
  | .fl _, _, h => by
    obtain ⟨a, h1, h2⟩ := h
    exact ⟨a, h1, (hs a _).2.1 h2⟩
  | .ref k, _, h => by
    obtain ⟨h1, h2⟩ := h
    exact ⟨(hk k h1).1, by rw [(hk k h1).2]; exact h2⟩
  | .tup ts, _, h => by
    obtain ⟨a, vs, h1, h2, h3⟩ := h
    exact ⟨a, vs, h1, (hs a vs).1 h2, DVs.ren hk hs h3⟩
theorem DVs.ren (hk : ∀ k, k < n → k < n1 ∧ ρ1 k = ρ k) (hs : ∀ a vs, (SqT K H a vs → SqT K H1 a vs) ∧ (FSq K H a vs → FSq K H1 a vs) ∧ ∀ ws, H a = some (.xd ws) → H1 a = some (.xd ws)) : ∀ {ts : List T} {vs : List V}, DVs K ρ n H ts vs → DVs K ρ1 n1 H1 ts vs
  | [], _, h => h
  | t :: ts, _, h => by
    obtain ⟨v, r, h1, h2, h3⟩ := h
    exact ⟨v, r, h1, DV.ren hk hs h2, DVs.ren hk hs h3⟩
end
theorem DVk.ren {κ : Type} (hk : ∀ k, k < n → k < n1 ∧ ρ1 k = ρ k) (hs : ∀ a vs, (SqT K H a vs → SqT K H1 a vs) ∧ (FSq K H a vs → FSq K H1 a vs) ∧ ∀ ws, H a = some (.xd ws) → H1 a = some (.xd ws)) : ∀ {ts : List (κ × T)} {vs : List (κ × V)}, DVk K ρ n H ts vs → DVk K ρ1 n1 H1 ts vs
  | [], _, h => h
  | t :: ts, _, h => by
    obtain ⟨v, r, h1, h2, h3⟩ := h
    exact ⟨v, r, h1, DV.ren hk hs h2, DVk.ren hk hs h3⟩
end
theorem MOr.ren {g : G} {ρ ρ1 : Nat → Addr} {n n1 : Nat} {H H1 : Hp} {o : MO} {ho : HO} (hk : ∀ k, k < n → k < n1 ∧ ρ1 k = ρ k) (hs : ∀ a vs, (SqT g.K H a vs → SqT g.K H1 a vs) ∧ (FSq g.K H a vs → FSq g.K H1 a vs) ∧ ∀ ws, H a = some (.xd ws) → H1 a = some (.xd ws)) (h : MOr g ρ n H o ho) : MOr g ρ1 n1 H1 o ho := by
  cases o with
  | lst ts => obtain ⟨vs, h1, h2⟩ := h; exact ⟨vs, h1, h2.ren hk hs⟩
  | dct ts => obtain ⟨vs, h1, h2⟩ := h; exact ⟨vs, h1, h2.ren hk hs⟩
  | ins c ts => obtain ⟨C, dx, vs, h0, h1, h2⟩ := h; exact ⟨C, dx, vs, h0, h1, h2.ren hk hs⟩
  | lck ts => obtain ⟨od, vs, h1, h2⟩ := h; exact ⟨od, vs, h1, h2.ren hk hs⟩
/-! ### lists just made: their items, outside the memory -/
inductive LRes where
  | ok (ts : List T) (μ : Mem)
  | exc (c : Str) (fs : List (Str × T)) (μ : Mem)
  | bad
def LRes.bind (r : LRes) (k : List T → Mem → Res) : Res := match r with
  | .ok ts μ => k ts μ
  | .exc c fs μ => .exc c fs μ
  | .bad => .bad
def Res.bindL (r : Res) (k : T → Mem → LRes) : LRes := match r with
  | .ok t μ => k t μ
  | .exc c fs μ => .exc c fs μ
  | .bad => .bad
abbrev LM := List (Option T) → Mem → LRes
/-- p: where the list stands -/
def GoodL (g : G) (E : XK) (Q : VK) (ρ : Nat → Addr) (n : Nat) (H : Hp) : LRes → Prop
  | .ok ts μ => ∀ ρ' p vs H', Ext g ρ n H ρ' μ.length H' → MRel g ρ' μ H' → H' p = some (.lst vs) → Nt H p → (∀ i, i < μ.length → ρ' i ≠ p) → DVs g.K ρ' μ.length H' ts vs → Q (.ref p) H'
  | .exc c fs μ => ∀ ρ' H' C d, Ext g ρ n H ρ' μ.length H' → MRel g ρ' μ H' → g.mg c = some (.ref C) → XD g ρ' μ.length H' fs d → E (.ref C) d H'
  | .bad => False
def tL (g : G) (E : XK) (d : LM) : TE := fun σ H Q => ∃ ρ σT μ, MRel g ρ μ H ∧ LRel g.K ρ μ.length H σT σ ∧ GoodL g E Q ρ μ.length H (d σT μ)
section
variable {g : G} {E : XK} {Q : VK} {ρ ρ' : Nat → Addr} {n n' : Nat} {H H' : Hp} {r : LRes}
theorem GoodL.later (e : Ext g ρ n H ρ' n' H') (h : GoodL g E Q ρ n H r) : GoodL g E Q ρ' n' H' r := by
  cases r with
  | ok t μ => exact fun ρ2 p vs H2 e2 m h1 h2 h3 d => h ρ2 p vs H2 (e.trans e2) m h1 (e.th _ h2) h3 d
  | exc c fs μ => exact fun ρ2 H2 C d e2 m hc x => h ρ2 H2 C d (e.trans e2) m hc x
  | bad => exact h
/-- the list is laid: what comes is a list just made -/
theorem GoodL.new {μ : Mem} {ts : List T} {vs : List V} {p : Addr} (h : GoodL g E Q ρ μ.length H (.ok ts μ)) (m : MRel g ρ μ H) (d : DVs g.K ρ μ.length H ts vs) (hp : H p = none) : Q (.ref p) (upd H p (.lst vs)) :=
  h ρ p vs _ (Ext.fresh hp _) (m.fresh hp) upd_same (.inl hp) (fun i hi e => by
    obtain ⟨ho, h1, _⟩ := m.ob i μ[i] (by simp [hi])
    rw [e, hp] at h1; cases h1) (d.ext (Ext.fresh hp _))
/-- a list just made, numbered -/
theorem ext_num {μ : Mem} {ts : List T} {vs : List V} {p : Addr} (e : Ext g ρ n H ρ' μ.length H') (m : MRel g ρ' μ H') (h1 : H' p = some (.lst vs)) (h2 : Nt H p) (h3 : ∀ i, i < μ.length → ρ' i ≠ p) (d : DVs g.K ρ' μ.length H' ts vs) :
    Ext g ρ n H (ρadd ρ' μ.length p) (μ ++ [MO.lst ts]).length H' ∧ MRel g (ρadd ρ' μ.length p) (μ ++ [MO.lst ts]) H' ∧ DV g.K (ρadd ρ' μ.length p) (μ ++ [MO.lst ts]).length H' (.ref μ.length) (.ref p) := by
  have hl : (μ ++ [MO.lst ts]).length = μ.length + 1 := by simp
  have ag : ∀ i, i < μ.length → ρadd ρ' μ.length p i = ρ' i := fun i hi => by unfold ρadd; rw [if_neg (Nat.ne_of_lt hi)]
  have at_ : ρadd ρ' μ.length p μ.length = p := by unfold ρadd; rw [if_pos rfl]
  have hk : ∀ k, k < μ.length → k < μ.length + 1 ∧ ρadd ρ' μ.length p k = ρ' k := fun k hk => ⟨Nat.lt_succ_of_lt hk, ag k hk⟩
  rw [hl]
  refine ⟨⟨Nat.le_succ_of_le e.le, fun i hi => (ag i (Nat.lt_of_lt_of_le hi e.le)).trans (e.ag i hi), fun i q1 q2 => ?_, e.kp, e.fx, e.th, e.tb⟩, ⟨fun i j hi hj q => ?_, fun i o q => ?_, m.tb⟩, ⟨Nat.lt_succ_self _, by rw [at_]⟩⟩
  · by_cases hi : i < μ.length
    · rw [ag i hi]; exact e.nw i q1 hi
    · have : i = μ.length := by omega
      rw [this, at_]; exact h2
  · rw [hl] at hi hj
    by_cases h4 : i < μ.length
    · by_cases h5 : j < μ.length
      · rw [ag i h4, ag j h5] at q; exact m.inj i j h4 h5 q
      · have : j = μ.length := by omega
        rw [this, ag i h4, at_] at q
        exact absurd q (h3 i h4)
    · have hi' : i = μ.length := by omega
      by_cases h5 : j < μ.length
      · rw [hi', ag j h5, at_] at q
        exact absurd q.symm (h3 j h5)
      · omega
  · rw [hl]
    by_cases h4 : i < μ.length
    · rw [List.getElem?_append_left h4] at q
      obtain ⟨ho, q1, q2⟩ := m.ob i o q
      exact ⟨ho, by rw [ag i h4]; exact q1, q2.ren hk fun _ _ => ⟨fun z => z, fun z => z, fun _ z => z⟩⟩
    · have hi' : i = μ.length := by
        have := (List.getElem?_eq_some_iff.mp q).1
        rw [hl] at this; omega
      subst hi'
      simp at q
      subst q
      exact ⟨_, by rw [at_]; exact h1, vs, rfl, d.ren hk fun _ _ => ⟨fun z => z, fun z => z, fun _ z => z⟩⟩
end
section
variable {X : Cx} {tb : List (Addr × Str)} {E : XK} {a b : Expr} {da db : EM} {pos : Pos}
def dNew (d : LM) : EM := fun σ μ => (d σ μ).bind fun ts μ1 => .ok (.ref μ1.length) (μ1 ++ [.lst ts])
theorem e_new {d : LM} (h : PE X a (tL (gx X tb) E d)) : PE X a (tE (gx X tb) E (dNew d)) := h.imp fun σ H Q h => by
  obtain ⟨ρ, σT, μ, m, l, h⟩ := h
  refine ⟨ρ, σT, μ, m, l, ?_⟩
  unfold dNew at h
  cases q : d σT μ with
  | ok ts μ1 =>
    rw [q] at h
    intro ρ' p vs H' e m1 h1 h2 h3 d
    obtain ⟨e2, m2, d2⟩ := ext_num e m1 h1 h2 h3 d
    exact h _ _ _ e2 m2 d2
  | exc c fs μ1 =>
    rw [q] at h
    exact h
  | bad =>
    rw [q] at h
    exact h
end
/-! ### sequences by their items -/
abbrev SK := PySem.W.Frag → Hp → Addr → List V → Prop
/-- a list or a tuple; a list -/
abbrev sAny : SK := fun K H a vs => SqL K H a vs ∨ SqT K H a vs
abbrev sLst : SK := fun K H a vs => SqL K H a vs
def GoodS (S : SK) (g : G) (E : XK) (Q : VK) (ρ : Nat → Addr) (n : Nat) (H : Hp) : LRes → Prop
  | .ok ts μ => ∀ ρ' a vs H', Ext g ρ n H ρ' μ.length H' → MRel g ρ' μ H' → S g.K H' a vs → DVs g.K ρ' μ.length H' ts vs → Q (.ref a) H'
  | .exc c fs μ => ∀ ρ' H' C d, Ext g ρ n H ρ' μ.length H' → MRel g ρ' μ H' → g.mg c = some (.ref C) → XD g ρ' μ.length H' fs d → E (.ref C) d H'
  | .bad => False
def tQ (S : SK) (g : G) (E : XK) (d : LM) : TE := fun σ H Q => ∃ ρ σT μ, MRel g ρ μ H ∧ LRel g.K ρ μ.length H σT σ ∧ GoodS S g E Q ρ μ.length H (d σT μ)
def dSeq (d : EM) : LM := fun σ μ => (d σ μ).bindL fun t μ1 => match seqT μ1 t with
  | some ts => .ok ts μ1
  | none => .bad
section
variable {X : Cx} {tb : List (Addr × Str)} {E : XK} {a b e : Expr} {da db : EM} {d : LM} {pos p : Pos}
theorem q_ofL' {S : SK} (hS : ∀ K H a vs, SqL K H a vs → S K H a vs) (h : PE X a (tL (gx X tb) E d)) : PE X a (tQ S (gx X tb) E d) := h.imp fun σ H Q h => by
  obtain ⟨ρ, σT, μ, m, l, h⟩ := h
  refine ⟨ρ, σT, μ, m, l, ?_⟩
  cases q : d σT μ with
  | ok ts μ1 => rw [q] at h; exact fun ρ' p vs H' e m1 h1 _ _ d => h ρ' p vs H' e m1 (hS _ _ _ _ (SqL.of h1)) d
  | exc c fs μ1 => rw [q] at h; exact h
  | bad => rw [q] at h; exact h
theorem q_ofL (h : PE X a (tL (gx X tb) E d)) : PE X a (tQ sAny (gx X tb) E d) := q_ofL' (fun _ _ _ _ z => .inl z) h
theorem ql_ofL (h : PE X a (tL (gx X tb) E d)) : PE X a (tQ sLst (gx X tb) E d) := q_ofL' (fun _ _ _ _ z => z) h
theorem q_ofE (h : PE X a (tE (gx X tb) E da)) : PE X a (tQ sAny (gx X tb) E (dSeq da)) := h.imp fun σ H Q h => by
  obtain ⟨ρ, σT, μ, m, l, h⟩ := h
  refine ⟨ρ, σT, μ, m, l, ?_⟩
  unfold dSeq at h
  cases q : da σT μ with
  | ok t μ1 =>
    rw [q] at h
    have h : GoodS sAny (gx X tb) E Q ρ μ.length H (match seqT μ1 t with | some ts => .ok ts μ1 | none => .bad) := h
    intro ρ' v H' e m1 dv
    split at h
    · rename_i ts hts
      obtain ⟨a, vs, rfl, h2, h3⟩ := seqT_of m1 dv hts
      exact h ρ' a vs H' e m1 h2 h3
    · exact h.elim
  | exc c fs μ1 => rw [q] at h; exact h
  | bad => rw [q] at h; exact h
/-- f(e), f a built-in, e a sequence -/
def CallQ (S : SK) (X : Cx) (tb : List (Addr × Str)) (f : Value) (k : List T → Mem → Res) : Prop :=
  ∃ r : List V → Hp → VK → Prop, CallR X f r ∧ ∀ (E : XK) (Q : VK) (ρ : Nat → Addr) (μ : Mem) (H : Hp) (ts : List T) (a : Addr) (vs : List V), MRel (gx X tb) ρ μ H → S X.K H a vs → DVs X.K ρ μ.length H ts vs → Good (gx X tb) E Q ρ μ.length H (k ts μ) → r [.ref a] H Q
def CallQL (S : SK) (X : Cx) (tb : List (Addr × Str)) (f : Value) (k : List T → Mem → LRes) : Prop :=
  ∃ r : List V → Hp → VK → Prop, CallR X f r ∧ ∀ (E : XK) (Q : VK) (ρ : Nat → Addr) (μ : Mem) (H : Hp) (ts : List T) (a : Addr) (vs : List V), MRel (gx X tb) ρ μ H → S X.K H a vs → DVs X.K ρ μ.length H ts vs → GoodL (gx X tb) E Q ρ μ.length H (k ts μ) → r [.ref a] H Q
def LRes.bindL (r : LRes) (k : List T → Mem → LRes) : LRes := match r with
  | .ok t μ => k t μ
  | .exc c fs μ => .exc c fs μ
  | .bad => .bad
def dQ (k : List T → Mem → Res) (d : LM) : EM := fun σ μ => (d σ μ).bind k
def dQL (k : List T → Mem → LRes) (d : LM) : LM := fun σ μ => (d σ μ).bindL k
theorem tE_q {S : SK} {r : List V → Hp → VK → Prop} {k : List T → Mem → Res} (hr : ∀ (E : XK) (Q : VK) (ρ : Nat → Addr) (μ : Mem) (H : Hp) (ts : List T) (a : Addr) (vs : List V), MRel (gx X tb) ρ μ H → S X.K H a vs → DVs X.K ρ μ.length H ts vs → Good (gx X tb) E Q ρ μ.length H (k ts μ) → r [.ref a] H Q) :
    ∀ σ H Q, tE (gx X tb) E (dQ k d) σ H Q → tCB r (tCons (tQ S (gx X tb) E d) tNil) σ H Q := fun σ H Q h => by
  obtain ⟨ρ, σT, μ, m, l, h⟩ := h
  refine ⟨ρ, σT, μ, m, l, ?_⟩
  unfold dQ at h
  cases q : d σT μ with
  | ok ts μ1 =>
    rw [q] at h
    exact fun ρ' a vs H' e m1 h2 h3 => hr E Q ρ' μ1 H' ts a vs m1 h2 h3 (Good.later (r := k ts μ1) e h)
  | exc c fs μ1 => rw [q] at h; exact h
  | bad => rw [q] at h; exact h
theorem tL_q {S : SK} {r : List V → Hp → VK → Prop} {k : List T → Mem → LRes} (hr : ∀ (E : XK) (Q : VK) (ρ : Nat → Addr) (μ : Mem) (H : Hp) (ts : List T) (a : Addr) (vs : List V), MRel (gx X tb) ρ μ H → S X.K H a vs → DVs X.K ρ μ.length H ts vs → GoodL (gx X tb) E Q ρ μ.length H (k ts μ) → r [.ref a] H Q) :
    ∀ σ H Q, tL (gx X tb) E (dQL k d) σ H Q → tCB r (tCons (tQ S (gx X tb) E d) tNil) σ H Q := fun σ H Q h => by
  obtain ⟨ρ, σT, μ, m, l, h⟩ := h
  refine ⟨ρ, σT, μ, m, l, ?_⟩
  unfold dQL at h
  cases q : d σT μ with
  | ok ts μ1 =>
    rw [q] at h
    exact fun ρ' a vs H' e m1 h2 h3 => hr E Q ρ' μ1 H' ts a vs m1 h2 h3 (GoodL.later (r := k ts μ1) e h)
  | exc c fs μ1 => rw [q] at h; exact h
  | bad => rw [q] at h; exact h
theorem e_callQB {S : SK} {x : Str} {id : String} {k : List T → Mem → Res} (h : CallQ S X tb (.builtin id) k) (hm : X.mg x = none) (ha : PE X e (tQ S (gx X tb) E d)) (hv : bootBuiltins x = some (.builtin id) := by decide +kernel) (hg : Gl X x := by rfl) 
    (hn : x ≠ "__name__" := by decide) (hdb : (x == ("__debug__" : Str)) = false := by decide) (he : starEach [e] X.env = [(false, eval e X.env)] := by rfl) :
    PE X (.Call (.Name x p) [e] [] pos) (tE (gx X tb) E (dQ k d)) := by
  obtain ⟨r, h1, h2⟩ := h
  exact (pe_callB h1 hg hm hv (pa_cons ha pa_nil he) hn hdb he rfl).imp (tE_q h2)
theorem e_callQT {S : SK} {x : Str} {id : String} {k : List T → Mem → Res} (h : CallQ S X tb (.type id) k) (hm : X.mg x = none) (ha : PE X e (tQ S (gx X tb) E d)) (hv : bootBuiltins x = some (.type id) := by decide +kernel) (hg : Gl X x := by rfl) 
    (hn : x ≠ "__name__" := by decide) (hdb : (x == ("__debug__" : Str)) = false := by decide) (he : starEach [e] X.env = [(false, eval e X.env)] := by rfl) :
    PE X (.Call (.Name x p) [e] [] pos) (tE (gx X tb) E (dQ k d)) := by
  obtain ⟨r, h1, h2⟩ := h
  exact (pe_callTy h1 hg hm hv (pa_cons ha pa_nil he) hn hdb he rfl).imp (tE_q h2)
theorem l_callQB {S : SK} {x : Str} {id : String} {k : List T → Mem → LRes} (h : CallQL S X tb (.builtin id) k) (hm : X.mg x = none) (ha : PE X e (tQ S (gx X tb) E d)) (hv : bootBuiltins x = some (.builtin id) := by decide +kernel) (hg : Gl X x := by rfl) 
    (hn : x ≠ "__name__" := by decide) (hdb : (x == ("__debug__" : Str)) = false := by decide) (he : starEach [e] X.env = [(false, eval e X.env)] := by rfl) :
    PE X (.Call (.Name x p) [e] [] pos) (tL (gx X tb) E (dQL k d)) := by
  obtain ⟨r, h1, h2⟩ := h
  exact (pe_callB h1 hg hm hv (pa_cons ha pa_nil he) hn hdb he rfl).imp (tL_q h2)
theorem l_callQT {S : SK} {x : Str} {id : String} {k : List T → Mem → LRes} (h : CallQL S X tb (.type id) k) (hm : X.mg x = none) (ha : PE X e (tQ S (gx X tb) E d)) (hv : bootBuiltins x = some (.type id) := by decide +kernel) (hg : Gl X x := by rfl) 
    (hn : x ≠ "__name__" := by decide) (hdb : (x == ("__debug__" : Str)) = false := by decide) (he : starEach [e] X.env = [(false, eval e X.env)] := by rfl) :
    PE X (.Call (.Name x p) [e] [] pos) (tL (gx X tb) E (dQL k d)) := by
  obtain ⟨r, h1, h2⟩ := h
  exact (pe_callTy h1 hg hm hv (pa_cons ha pa_nil he) hn hdb he rfl).imp (tL_q h2)
/-! list displays, as lists just made -/
abbrev ALM := List (Option T) → Mem → (List T → Mem → LRes) → LRes
def lNil : ALM := fun _ μ k => k [] μ
def lCons (d : EM) (r : ALM) : ALM := fun σ μ k => (d σ μ).bindL fun x μ1 => r σ μ1 fun xs μ2 => k (x :: xs) μ2
structure ALOk (g : G) (E : XK) (t : TA) (d : ALM) : Prop where
  go : ∀ (Q : VK) (ρ : Nat → Addr) (σT : List (Option T)) (μ : Mem) (σ : L2.St) (H : Hp) (k : List T → Mem → LRes) (R : List V → Hp → Prop), MRel g ρ μ H → LRel g.K ρ μ.length H σT σ → GoodL g E Q ρ μ.length H (d σT μ k) →
    (∀ ts μ1 ρ1 vs H1, Ext g ρ μ.length H ρ1 μ1.length H1 → MRel g ρ1 μ1 H1 → DVs g.K ρ1 μ1.length H1 ts vs → GoodL g E Q ρ1 μ1.length H1 (k ts μ1) → R vs H1) → t σ H R
theorem al_nil {g : G} : ALOk g E tNil lNil := ⟨fun Q ρ σT μ σ H k R m l h hR => hR [] μ ρ [] H (Ext.refl _ _ _ _) m rfl h⟩
theorem al_cons {g : G} {t : TA} {d : EM} {r : ALM} (h : ALOk g E t r) : ALOk g E (tCons (tE g E d) t) (lCons d r) := ⟨fun Q ρ σT μ σ H k R m l hg hR => by
  refine ⟨ρ, σT, μ, m, l, ?_⟩
  unfold lCons at hg
  cases q : d σT μ with
  | ok x μ1 =>
    rw [q] at hg
    intro ρ1 v H1 e1 m1 dx
    exact h.go Q ρ1 σT μ1 σ H1 _ _ m1 (l.ext e1) (GoodL.later (r := r σT μ1 fun xs μ2 => k (x :: xs) μ2) e1 hg) fun ts μ2 ρ2 vs H2 e2 m2 ds q2 => hR (x :: ts) μ2 ρ2 (v :: vs) H2 (e1.trans e2) m2 (.cons (dx.ext e2) ds) q2
  | exc c fs μ1 => rw [q] at hg; exact hg
  | bad => rw [q] at hg; exact hg⟩
structure PAl (X : Cx) (tb : List (Addr × Str)) (E : XK) (es : List Expr) (d : ALM) : Prop where
  ex : ∃ t, PA X es t ∧ ALOk (gx X tb) E t d
theorem m_nil : PAl X tb E [] lNil := ⟨⟨_, pa_nil, al_nil⟩⟩
theorem m_cons {e : Expr} {es : List Expr} {d : EM} {r : ALM} (he : PE X e (tE (gx X tb) E d)) (hr : PAl X tb E es r) (hs : starEach (e :: es) X.env = (false, eval e X.env) :: starEach es X.env := by rfl) : PAl X tb E (e :: es) (lCons d r) := by
  obtain ⟨t, h1, h2⟩ := hr.ex
  exact ⟨⟨_, pa_cons he h1 hs, al_cons h2⟩⟩
def dLstL (d : ALM) : LM := fun σ μ => d σ μ fun ts μ1 => if ts.length ≤ sizeLine then .ok ts μ1 else .bad
theorem l_lst {es : List Expr} {d : ALM} (h : PAl X tb E es d) : PE X (.List es pos) (tL (gx X tb) E (dLstL d)) := by
  obtain ⟨t, h1, h2⟩ := h.ex
  refine (pe_lst h1).imp fun σ H Q h => ?_
  obtain ⟨ρ, σT, μ, m, l, h⟩ := h
  refine h2.go Q ρ σT μ σ H _ _ m l h fun ts μ1 ρ1 vs H1 e1 m1 ds q1 => ?_
  split at q1
  · rename_i hz
    exact ⟨by rw [← ds.length]; exact hz, fun p hp => q1.new m1 ds hp⟩
  · exact q1.elim
/-! what the built-ins do with sequences -/
def lenQ : List T → Mem → Res := fun ts μ => .ok (.int ts.length) μ
theorem cq_len : CallQ sAny X tb (.builtin "len") lenQ := ⟨_, call_len_seq, fun E Q ρ μ H ts a vs m h d g => ⟨a, vs, rfl, h, by rw [← d.length]; exact g.same m rfl⟩⟩
def tupQ : List T → Mem → Res := fun ts μ => .ok (.tup ts) μ
theorem cq_tuple : CallQ sAny X tb (.type "tuple") tupQ := ⟨_, call_tuple_of, fun E Q ρ μ H ts a vs m h d g => ⟨a, vs, rfl, h.elim (fun h => .inl ⟨h, fun p hp => g.tup m d hp⟩) fun h => .inr ⟨h, g.same m ⟨a, vs, rfl, h, d⟩⟩⟩⟩
def lstQ : List T → Mem → LRes := fun ts μ => .ok ts μ
theorem cq_list : CallQL sAny X tb (.type "list") lstQ := ⟨_, call_list_of, fun E Q ρ μ H ts a vs m h d g => ⟨a, vs, rfl, h, fun p hp => g.new m d hp⟩⟩
def unB : List T → Option (List Bool)
  | [] => some []
  | .bl b :: r => (unB r).map fun bs => b :: bs
  | _ :: _ => none
theorem unB_of {K : PySem.W.Frag} {ρ : Nat → Addr} {n : Nat} {H : Hp} : ∀ {ts : List T} {vs : List V} {bs : List Bool}, DVs K ρ n H ts vs → unB ts = some bs → vs = bs.map V.bl
  | [], _, _, d, e => by rw [show _ = [] from d]; cases e; rfl
  | .bl b :: r, _, _, d, e => by
    obtain ⟨v, w, rfl, h2, h3⟩ := d
    simp only [unB, Option.map_eq_some_iff] at e
    obtain ⟨cs, e1, rfl⟩ := e
    rw [unB_of h3 e1, show v = _ from h2]
    rfl
  | .non :: _, _, _, _, e => by simp [unB] at e
  | .int _ :: _, _, _, _, e => by simp [unB] at e
  | .str _ :: _, _, _, _, e => by simp [unB] at e
  | .tup _ :: _, _, _, _, e => by simp [unB] at e
  | .ref _ :: _, _, _, _, e => by simp [unB] at e
  | .er _ _ :: _, _, _, _, e => by simp [unB] at e
  | .fl _ :: _, _, _, _, e => by simp [unB] at e
def unI : List T → Option (List Int)
  | [] => some []
  | .int b :: r => (unI r).map fun bs => b :: bs
  | _ :: _ => none
theorem unI_of {K : PySem.W.Frag} {ρ : Nat → Addr} {n : Nat} {H : Hp} : ∀ {ts : List T} {vs : List V} {bs : List Int}, DVs K ρ n H ts vs → unI ts = some bs → vs = bs.map V.int
  | [], _, _, d, e => by rw [show _ = [] from d]; cases e; rfl
  | .int b :: r, _, _, d, e => by
    obtain ⟨v, w, rfl, h2, h3⟩ := d
    simp only [unI, Option.map_eq_some_iff] at e
    obtain ⟨cs, e1, rfl⟩ := e
    rw [unI_of h3 e1, show v = _ from h2]
    rfl
  | .non :: _, _, _, _, e => by simp [unI] at e
  | .bl _ :: _, _, _, _, e => by simp [unI] at e
  | .str _ :: _, _, _, _, e => by simp [unI] at e
  | .tup _ :: _, _, _, _, e => by simp [unI] at e
  | .ref _ :: _, _, _, _, e => by simp [unI] at e
  | .er _ _ :: _, _, _, _, e => by simp [unI] at e
  | .fl _ :: _, _, _, _, e => by simp [unI] at e
def unS : List T → Option (List Str)
  | [] => some []
  | .str b :: r => (unS r).map fun bs => b :: bs
  | _ :: _ => none
theorem unS_of {K : PySem.W.Frag} {ρ : Nat → Addr} {n : Nat} {H : Hp} : ∀ {ts : List T} {vs : List V} {bs : List Str}, DVs K ρ n H ts vs → unS ts = some bs → vs = bs.map V.str
  | [], _, _, d, e => by rw [show _ = [] from d]; cases e; rfl
  | .str b :: r, _, _, d, e => by
    obtain ⟨v, w, rfl, h2, h3⟩ := d
    simp only [unS, Option.map_eq_some_iff] at e
    obtain ⟨cs, e1, rfl⟩ := e
    rw [unS_of h3 e1, show v = _ from h2]
    rfl
  | .non :: _, _, _, _, e => by simp [unS] at e
  | .bl _ :: _, _, _, _, e => by simp [unS] at e
  | .int _ :: _, _, _, _, e => by simp [unS] at e
  | .tup _ :: _, _, _, _, e => by simp [unS] at e
  | .ref _ :: _, _, _, _, e => by simp [unS] at e
  | .er _ _ :: _, _, _, _, e => by simp [unS] at e
  | .fl _ :: _, _, _, _, e => by simp [unS] at e
end
end TL
set_option Elab.async false
set_option linter.all false
set_option maxRecDepth 100000
set_option maxHeartbeats 2000000
/-! TL5: what is walked, targets, statements, comprehensions -/
namespace TL
open PySem PySem.Spec PyProof.Rows L2
/-! ### equality that computes -/
mutual
def T.beq : T → T → Bool
  | .non, .non => true
  | .bl a, .bl b => a == b
  | .int a, .int b => a == b
  | .str a, .str b => a == b
  | .ref a, .ref b => a == b
  | .er a d, .er b f => a == b && d == f
  | .fl a, .fl b => a == b
  | .tup a, .tup b => T.beqs a b
  | _, _ => false
def T.beqs : List T → List T → Bool
  | [], [] => true
  | a :: r, b :: s => T.beq a b && T.beqs r s
  | _, _ => false
end
mutual
theorem T.beq_eq : ∀ {a b : T}, T.beq a b = true → a = b
  | .non, b, h => by cases b <;> first | rfl | simp [T.beq] at h
  | .bl _, b, h => by cases b <;> first | (simp [T.beq] at h; rw [h]) | simp [T.beq] at h
  | .int _, b, h => by cases b <;> first | (simp [T.beq] at h; rw [h]) | simp [T.beq] at h
  | .str _, b, h => by cases b <;> first | (simp [T.beq] at h; rw [h]) | simp [T.beq] at h
  | .ref _, b, h => by cases b <;> first | (simp [T.beq] at h; rw [h]) | simp [T.beq] at h
  | .er _ _, b, h => by cases b <;> first | (simp [T.beq] at h; rw [h.1, h.2]) | simp [T.beq] at h
  | .fl _, b, h => by cases b <;> first | (simp [T.beq] at h; rw [h]) | simp [T.beq] at h
  | .tup xs, b, h => by
    cases b with
    | tup ys => simp [T.beq] at h; rw [T.beqs_eq h]
    | _ => simp [T.beq] at h
theorem T.beqs_eq : ∀ {a b : List T}, T.beqs a b = true → a = b
  | [], b, h => by cases b <;> first | rfl | simp [T.beqs] at h
  | x :: r, b, h => by
    cases b with
    | nil => simp [T.beqs] at h
    | cons y s => simp [T.beqs] at h; rw [T.beq_eq h.1, T.beqs_eq h.2]
end
mutual
theorem T.beq_self : ∀ a : T, T.beq a a = true
  | .non => by simp [T.beq]
  | .bl _ => by simp [T.beq]
  | .int _ => by simp [T.beq]
  | .str _ => by simp [T.beq]
  | .ref _ => by simp [T.beq]
  | .er _ _ => by simp [T.beq]
  | .fl _ => by simp [T.beq]
  | .tup xs => by simp only [T.beq]; exact T.beqs_self xs
theorem T.beqs_self : ∀ a : List T, T.beqs a a = true
  | [] => by simp [T.beqs]
  | x :: r => by simp only [T.beqs, T.beq_self x, T.beqs_self r, Bool.and_true]
end
/-- the lists at ws are as they were -/
def watched (ws : List (Nat × List T)) (μ : Mem) : Bool := ws.all fun w => match μ[w.1]? with
  | some (.lst ts) => T.beqs ts w.2
  | _ => false
theorem watched_at {ws : List (Nat × List T)} {μ : Mem} (h : watched ws μ = true) : ∀ w ∈ ws, μ[w.1]? = some (.lst w.2) := fun w hw => by
  have := List.all_eq_true.mp h w hw
  split at this
  · rename_i ts e
    rw [e, T.beqs_eq this]
  · cases this
theorem watched_nil (μ : Mem) : watched [] μ = true := rfl
theorem watched_one {k : Nat} {ts : List T} {μ : Mem} (h : μ[k]? = some (.lst ts)) : watched [(k, ts)] μ = true := by
  unfold watched
  simp only [List.all_cons, List.all_nil, Bool.and_true]
  rw [h]
  exact T.beqs_self ts
/-! ### what is walked -/
inductive IRes where
  | its (xs : List T) (ws : List (Nat × List T)) (μ : Mem)
  | exc (c : Str) (fs : List (Str × T)) (μ : Mem)
  | bad
abbrev IM := List (Option T) → Mem → IRes
def Walks (g : G) (ws : List (Nat × List T)) (ρ : Nat → Addr) (n : Nat) (H : Hp) (J : It) (xs : List T) : Prop :=
  ∀ ρ' μ' H', Ext g ρ n H ρ' μ'.length H' → MRel g ρ' μ' H' → watched ws μ' = true → ∀ i,
    (∀ t, xs[i]? = some t → J.go i H' ∧ ∀ x H3, J.yld i H' x H3 → Ext g ρ' μ'.length H' ρ' μ'.length H3 ∧ MRel g ρ' μ' H3 ∧ DV g.K ρ' μ'.length H3 t x) ∧ (xs.length ≤ i → J.stop i H')
def GoodI (g : G) (E : XK) (R : It → Hp → Prop) (ρ : Nat → Addr) (n : Nat) (H : Hp) (k : List T → List (Nat × List T) → (ρ : Nat → Addr) → Mem → Hp → Prop) : IRes → Prop
  | .its xs ws μ => ∀ ρ' J H', Ext g ρ n H ρ' μ.length H' → MRel g ρ' μ H' → Walks g ws ρ' μ.length H' J xs → k xs ws ρ' μ H' → R J H'
  | .exc c fs μ => ∀ ρ' H' C d, Ext g ρ n H ρ' μ.length H' → MRel g ρ' μ H' → g.mg c = some (.ref C) → XD g ρ' μ.length H' fs d → E (.ref C) d H'
  | .bad => False
def tI (g : G) (E : XK) (d : IM) : TI := fun σ H R => ∃ ρ σT μ, MRel g ρ μ H ∧ LRel g.K ρ μ.length H σT σ ∧ GoodI g E R ρ μ.length H (fun _ _ _ _ _ => True) (d σT μ)
theorem _root_.L2.PI.imp {X : Cx} {tg e : Expr} {t t' : TI} (h : PI X tg e t) (hi : ∀ σ H R, t' σ H R → t σ H R) : PI X tg e t' := ⟨fun pins s σ H R I q => h.run pins s σ H R I (hi σ H R q)⟩
section
variable {X : Cx} {tb : List (Addr × Str)} {E : XK} {tg e : Expr} {d : EM} {p pos : Pos}
/-- over a list, a tuple or a text -/
def iSeq (K : PySem.W.Frag) (tl : TE) : TI := fun σ H R => tl σ H fun x H1 => (∃ a, x = .ref a ∧ ((∃ xs, SqL K H1 a xs ∧ R (Itl K a) H1) ∨ (∃ xs, SqT K H1 a xs ∧ R (Itt K a) H1))) ∨ ∃ z, x = .str z ∧ R (Its z) H1
theorem pi_seq {l : Expr} {tl : TE} (hl : PE X l tl) : PI X tg l (iSeq X.K tl) := by
  refine ⟨fun pins s σ H R I h => ?_⟩
  -- one of the three rules, at the state behind the evaluation
  have h' : wpAny (model X.prog X.w) X.A (eval l X.env) (EP X pins σ fun x H1 => (∃ a, x = .ref a ∧ ((∃ xs, SqL X.K H1 a xs ∧ R (Itl X.K a) H1) ∨ (∃ xs, SqT X.K H1 a xs ∧ R (Itt X.K a) H1))) ∨ ∃ z, x = .str z ∧ R (Its z) H1) X.xe s := hl.run pins s σ H _ I h
  refine thn h' fun v s1 ⟨x, H1, I1, r1, q1⟩ => ?_
  rcases q1 with ⟨a, e, ⟨xs, hq, q⟩ | ⟨xs, hq, q⟩⟩ | ⟨z, e, q⟩
  · subst e
    cases r1
    obtain ⟨its, rv, p, hz⟩ := I1.list hq
    refine wpAny_pyIter_list p.isList ?_
    refine ⟨s1.heap.objs.size, [s1.heap.objs.size], _, _, H1, rfl, I1.kept (t' := s1.toks) fun b o e => Heap.get?_push_of_some _ e, turn_list a _, ⟨_, Heap.get?_push_size _ rfl, rfl, rfl⟩, fun b hb => ?_, q⟩
    have e : b = s1.heap.objs.size := by simpa using hb
    subst e
    exact I1.fpOk (Nat.le_refl _) (I1.hok.fresh (Nat.le_refl _))
  · subst e
    cases r1
    obtain ⟨its, rv, p, hz⟩ := I1.tuple hq
    refine wpAny_pyIter_tuple (show s1.heap.IsTuple a its.toArray from p) ?_
    refine ⟨s1.heap.objs.size, [s1.heap.objs.size], _, _, H1, rfl, I1.kept (t' := s1.toks) fun b o e => Heap.get?_push_of_some _ e, turn_tuple a _, ⟨_, Heap.get?_push_size _ rfl, rfl, rfl⟩, fun b hb => ?_, q⟩
    have e : b = s1.heap.objs.size := by simpa using hb
    subst e
    exact I1.fpOk (Nat.le_refl _) (I1.hok.fresh (Nat.le_refl _))
  · subst e
    obtain ⟨t, rfl⟩ := r1
    cases ha : z.cps.all (· < 128)
    · exact wpAny_pyIter_wide ha (pi_one (tk := s1.toks) I1 _ (turn_str _ z t "str_iterator" (.inr rfl)) ⟨_, Heap.get?_push_size _ rfl, rfl, rfl⟩ q)
    · exact wpAny_pyIter_ascii ha (pi_one (tk := s1.toks) I1 _ (turn_str _ z t "str_ascii_iterator" (.inl rfl)) ⟨_, Heap.get?_push_size _ rfl, rfl, rfl⟩ q)
/-- the signs of a text -/
def signsT (z : Str) : List T := z.cps.toList.map fun c => .str ⟨#[c]⟩
def dIter (d : EM) : IM := fun σ μ => match d σ μ with
  | .ok (.tup ts) μ1 => .its ts [] μ1
  | .ok (.str z) μ1 => .its (signsT z) [] μ1
  | .ok (.ref k) μ1 => match μ1[k]? with
    | some (.lst ts) => .its ts [(k, ts)] μ1
    | _ => .bad
  | .ok _ _ => .bad
  | .exc c fs μ1 => .exc c fs μ1
  | .bad => .bad
theorem walks_tup {g : G} {ρ : Nat → Addr} {n : Nat} {H : Hp} {a : Addr} {vs : List V} {ts : List T} (h : SqT g.K H a vs) (d : DVs g.K ρ n H ts vs) : Walks g [] ρ n H (Itt g.K a) ts := fun ρ' μ' H' e m _ i => by
  have h' := SqT.ext e h
  have d' := d.ext e
  refine ⟨fun t ht => ?_, fun hl => ⟨vs, h', by rw [← d.length]; exact hl⟩⟩
  obtain ⟨v, hv, dv⟩ := d'.get ht
  refine ⟨⟨vs, v, h', hv⟩, fun x H3 y => ?_⟩
  obtain ⟨rfl, y⟩ := y
  have := y vs h'
  rw [hv] at this; cases this
  exact ⟨Ext.refl _ _ _ _, m, dv⟩
theorem walks_lst {g : G} {ρ : Nat → Addr} {n : Nat} {H : Hp} {a : Addr} {ts : List T} {ws : List (Nat × List T)} (h : ∀ ρ' μ' H', Ext g ρ n H ρ' μ'.length H' → MRel g ρ' μ' H' → watched ws μ' = true → ∃ vs, SqL g.K H' a vs ∧ DVs g.K ρ' μ'.length H' ts vs) : Walks g ws ρ n H (Itl g.K a) ts := fun ρ' μ' H' e m w i => by
  obtain ⟨vs, h', d'⟩ := h ρ' μ' H' e m w
  refine ⟨fun t ht => ?_, fun hl => ⟨vs, h', by rw [← d'.length]; exact hl⟩⟩
  obtain ⟨v, hv, dv⟩ := d'.get ht
  refine ⟨⟨vs, v, h', hv⟩, fun x H3 y => ?_⟩
  obtain ⟨rfl, y⟩ := y
  have := y vs h'
  rw [hv] at this; cases this
  exact ⟨Ext.refl _ _ _ _, m, dv⟩
theorem walks_str {g : G} {ρ : Nat → Addr} {n : Nat} {H : Hp} {z : Str} : Walks g [] ρ n H (Its z) (signsT z) := fun ρ' μ' H' e m _ i => by
  refine ⟨fun t ht => ?_, fun hl => by
    unfold signsT at hl
    simp only [List.length_map, Array.length_toList] at hl
    exact hl⟩
  unfold signsT at ht
  rw [List.getElem?_map, Option.map_eq_some_iff] at ht
  obtain ⟨c, hc, rfl⟩ := ht
  have hc' : z.cps[i]? = some c := by rw [← Array.getElem?_toList]; exact hc
  refine ⟨(Array.getElem?_eq_some_iff.mp hc').1, fun x H3 y => ?_⟩
  obtain ⟨rfl, c', h1, rfl⟩ := y
  rw [hc'] at h1; cases h1
  exact ⟨Ext.refl _ _ _ _, m, rfl⟩
theorem walks_tmp {g : G} {ρ : Nat → Addr} {n : Nat} {H : Hp} {p : Addr} {vs : List V} {ts : List T} (h : H p = some (.lst vs)) (hp : ∀ i, i < n → ρ i ≠ p) (d : DVs g.K ρ n H ts vs) : Walks g [] ρ n H (Itl g.K p) ts :=
  walks_lst fun ρ' μ' H' e m _ => ⟨vs, SqL.of (e.kp p _ h (fun i hi z => hp i hi z.symm) fun ps z => nomatch z), d.ext e⟩
theorem walks_num {g : G} {ρ : Nat → Addr} {n : Nat} {H : Hp} {k : Nat} {ts : List T} (hk : k < n) : Walks g [(k, ts)] ρ n H (Itl g.K (ρ k)) ts :=
  walks_lst fun ρ' μ' H' e m w => by
    obtain ⟨ho, h1, vs, rfl, h2⟩ := m.ob k _ (watched_at w (k, ts) (by simp))
    rw [e.ag k hk] at h1
    exact ⟨vs, SqL.of h1, h2⟩
theorem i_seq (he : PE X e (tE (gx X tb) E d)) : PI X tg e (tI (gx X tb) E (dIter d)) := (pi_seq he).imp fun σ H R h => by
  obtain ⟨ρ, σT, μ, m, l, h⟩ := h
  refine ⟨ρ, σT, μ, m, l, ?_⟩
  unfold dIter at h
  cases q : d σT μ with
  | ok t μ1 =>
    rw [q] at h
    intro ρ' v H' e m1 dv
    cases t with
    | tup ts =>
      obtain ⟨a, vs, rfl, h2, h3⟩ := dv
      exact .inl ⟨a, rfl, .inr ⟨vs, h2, h ρ' _ H' e m1 (walks_tup h2 h3) True.intro⟩⟩
    | str z => exact .inr ⟨z, dv, h ρ' _ H' e m1 walks_str True.intro⟩
    | ref k =>
      have h : GoodI (gx X tb) E R ρ μ.length H (fun _ _ _ _ _ => True) (match μ1[k]? with | some (.lst ts) => IRes.its ts [(k, ts)] μ1 | _ => IRes.bad) := h
      obtain ⟨hk, rfl⟩ := dv
      split at h
      · rename_i ts hts
        obtain ⟨ho, h1, vs, rfl, h2⟩ := m1.ob k _ hts
        exact .inl ⟨_, rfl, .inl ⟨vs, SqL.of h1, h ρ' _ H' e m1 (walks_num hk) True.intro⟩⟩
      · exact h.elim
    | non => exact False.elim h
    | er _ _ => exact False.elim h
    | fl _ => exact False.elim h
    | bl b => exact False.elim h
    | int b => exact False.elim h
  | exc c fs μ1 => rw [q] at h; exact h
  | bad => rw [q] at h; exact h
def dIterL (d : LM) : IM := fun σ μ => match d σ μ with
  | .ok ts μ1 => .its ts [] μ1
  | .exc c fs μ1 => .exc c fs μ1
  | .bad => .bad
theorem i_lst {dl : LM} (he : PE X e (tL (gx X tb) E dl)) : PI X tg e (tI (gx X tb) E (dIterL dl)) := (pi_list he).imp fun σ H R h => by
  obtain ⟨ρ, σT, μ, m, l, h⟩ := h
  refine ⟨ρ, σT, μ, m, l, ?_⟩
  unfold dIterL at h
  cases q : dl σT μ with
  | ok ts μ1 =>
    rw [q] at h
    exact fun ρ' p vs H' e m1 h1 h2 h3 dv => ⟨p, rfl, ⟨vs, SqL.of h1⟩, h ρ' _ H' e m1 (walks_tmp h1 h3 dv) True.intro⟩
  | exc c fs μ1 => rw [q] at h; exact h
  | bad => rw [q] at h; exact h
/-! ranges -/
def rngL (lo hi : Int) : List T := (List.range (hi - lo).toNat).map fun i => .int (lo + (i : Nat))
theorem walks_rng {g : G} {ρ : Nat → Addr} {n : Nat} {H : Hp} {lo hi : Int} : Walks g [] ρ n H (Itr lo (hi - lo).toNat) (rngL lo hi) := fun ρ' μ' H' e m _ i => by
  refine ⟨fun t ht => ?_, fun hl => by unfold rngL at hl; rw [List.length_map, List.length_range] at hl; exact hl⟩
  unfold rngL at ht
  rw [List.getElem?_map, Option.map_eq_some_iff] at ht
  obtain ⟨j, hj, rfl⟩ := ht
  have hi : i < (hi - lo).toNat ∧ j = i := by
    rw [List.getElem?_eq_some_iff] at hj
    obtain ⟨h1, h2⟩ := hj
    rw [List.getElem_range] at h2
    rw [List.length_range] at h1
    exact ⟨h1, h2.symm⟩
  refine ⟨hi.1, fun x H3 y => ?_⟩
  obtain ⟨rfl, rfl⟩ := y
  rw [hi.2]
  exact ⟨Ext.refl _ _ _ _, m, rfl⟩
def rngOk (i : Int) : Bool := decide (-(2 ^ 62) ≤ i) && decide (i < 2 ^ 62)
def dRng1 (d : EM) : IM := fun σ μ => match d σ μ with
  | .ok (.int j) μ1 => if rngOk j = true then .its (rngL 0 j) [] μ1 else .bad
  | .ok _ _ => .bad
  | .exc c fs μ1 => .exc c fs μ1
  | .bad => .bad
theorem i_range1 {a : Expr} (hm : X.mg "range" = none) (ha : PE X a (tE (gx X tb) E d)) (hg : Gl X "range" := by rfl) (hs : starEach [a] X.env = [(false, eval a X.env)] := by rfl) : PI X tg (.Call (.Name "range" p) [a] [] pos) (tI (gx X tb) E (dRng1 d)) :=
  (pi_range1 hg hm (pa_cons ha pa_nil hs) hs).imp fun σ H R h => by
    obtain ⟨ρ, σT, μ, m, l, h⟩ := h
    refine ⟨ρ, σT, μ, m, l, ?_⟩
    unfold dRng1 at h
    cases q : d σT μ with
    | ok t μ1 =>
      rw [q] at h
      intro ρ' v H' e m1 dv
      cases t with
      | int j =>
        have h : GoodI (gx X tb) E R ρ μ.length H (fun _ _ _ _ _ => True) (if rngOk j = true then IRes.its (rngL 0 j) [] μ1 else .bad) := h
        split at h
        · rename_i hj
          simp only [rngOk, Bool.and_eq_true, decide_eq_true_eq] at hj
          have e1 : (j - 0).toNat = j.toNat := by rw [Int.sub_zero]
          exact ⟨j, by rw [show v = _ from dv], hj.1, hj.2, by rw [← e1]; exact h ρ' _ H' e m1 walks_rng True.intro⟩
        · exact h.elim
      | non => exact False.elim h
      | bl b => exact False.elim h
      | str b => exact False.elim h
      | er _ _ => exact False.elim h
      | fl _ => exact False.elim h
      | tup b => exact False.elim h
      | ref b => exact False.elim h
    | exc c fs μ1 => rw [q] at h; exact h
    | bad => rw [q] at h; exact h
def dRng2 (d d2 : EM) : IM := fun σ μ => match d σ μ with
  | .ok (.int i) μ1 => (match d2 σ μ1 with
    | .ok (.int j) μ2 => if rngOk i = true ∧ rngOk j = true then .its (rngL i j) [] μ2 else .bad
    | .ok _ _ => .bad
    | .exc c fs μ1 => .exc c fs μ1
    | .bad => .bad)
  | .ok _ _ => .bad
  | .exc c fs μ1 => .exc c fs μ1
  | .bad => .bad
theorem i_range2 {a b : Expr} {d2 : EM} (hm : X.mg "range" = none) (ha : PE X a (tE (gx X tb) E d)) (hb : PE X b (tE (gx X tb) E d2)) (hg : Gl X "range" := by rfl) (hs : starEach [a, b] X.env = [(false, eval a X.env), (false, eval b X.env)] := by rfl)
    (hs2 : starEach [b] X.env = [(false, eval b X.env)] := by rfl) : PI X tg (.Call (.Name "range" p) [a, b] [] pos) (tI (gx X tb) E (dRng2 d d2)) :=
  (pi_range2 hg hm (pa_cons ha (pa_cons hb pa_nil hs2) (by rw [hs, hs2])) hs hs2).imp fun σ H R h => by
    obtain ⟨ρ, σT, μ, m, l, h⟩ := h
    refine ⟨ρ, σT, μ, m, l, ?_⟩
    unfold dRng2 at h
    cases q : d σT μ with
    | ok t μ1 =>
      rw [q] at h
      intro ρ' v H' e m1 dv
      cases t with
      | int i =>
        refine ⟨ρ', σT, μ1, m1, l.ext e, ?_⟩
        cases q2 : d2 σT μ1 with
        | ok t2 μ2 =>
          simp only [q2] at h
          intro ρ2 v2 H2 e2 m2 dv2
          cases t2 with
          | int j =>
            have h : GoodI (gx X tb) E R ρ μ.length H (fun _ _ _ _ _ => True) (if rngOk i = true ∧ rngOk j = true then IRes.its (rngL i j) [] μ2 else .bad) := h
            split at h
            · rename_i hj
              simp only [rngOk, Bool.and_eq_true, decide_eq_true_eq] at hj
              exact ⟨i, j, by rw [show v = _ from dv, show v2 = _ from dv2], ⟨hj.1.1, hj.1.2, hj.2.1, hj.2.2⟩, h ρ2 _ H2 (e.trans e2) m2 walks_rng True.intro⟩
            · exact h.elim
          | non => exact False.elim h
          | bl b => exact False.elim h
          | str b => exact False.elim h
          | er _ _ => exact False.elim h
          | fl _ => exact False.elim h
          | tup b => exact False.elim h
          | ref b => exact False.elim h
        | exc c fs μ2 =>
          simp only [q2] at h
          exact fun ρ2 H2 C d e2 m2 hc x => h ρ2 H2 C d (e.trans e2) m2 hc x
        | bad =>
          simp only [q2] at h
          exact h
      | non => exact False.elim h
      | bl b => exact False.elim h
      | str b => exact False.elim h
      | er _ _ => exact False.elim h
      | fl _ => exact False.elim h
      | tup b => exact False.elim h
      | ref b => exact False.elim h
    | exc c fs μ1 => rw [q] at h; exact h
    | bad => rw [q] at h; exact h
/-! ### targets -/
inductive Pat where
  | nm (i : Nat)
  | tp (ps : List Pat)
mutual
def bindP : Pat → T → List (Option T) → Option (List (Option T))
  | .nm i, t, σ => some (σ.set i (some t))
  | .tp ps, .tup ts, σ => bindPs ps ts σ
  | .tp _, _, _ => none
def bindPs : List Pat → List T → List (Option T) → Option (List (Option T))
  | [], [], σ => some σ
  | p :: ps, t :: ts, σ => (bindP p t σ).bind fun σ' => bindPs ps ts σ'
  | _, _, _ => none
end
mutual
/-- the slots that a target stores -/
def pslots : Pat → List Nat
  | .nm i => [i]
  | .tp ps => pslotss ps
def pslotss : List Pat → List Nat
  | [] => []
  | p :: ps => pslots p ++ pslotss ps
end
/-- all slots but these are as they were -/
def SameBut (L : List Nat) (σ σ' : L2.St) : Prop := σ'.length = σ.length ∧ ∀ j, j ∉ L → σ'[j]? = σ[j]?
def tG (K : PySem.W.Frag) (p : Pat) : TG := fun v σ H Q => ∃ ρ n σT t σT', LRel K ρ n H σT σ ∧ DV K ρ n H t v ∧ bindP p t σT = some σT' ∧ ∀ σ', LRel K ρ n H σT' σ' → SameBut (pslots p) σ σ' → Q σ' H
def tGs (K : PySem.W.Frag) (p : List Pat) : TGs := fun vs σ H Q => ∃ ρ n σT ts σT', LRel K ρ n H σT σ ∧ DVs K ρ n H ts vs ∧ bindPs p ts σT = some σT' ∧ ∀ σ', LRel K ρ n H σT' σ' → SameBut (pslotss p) σ σ' → Q σ' H
theorem _root_.L2.PG.imp {X : Cx} {e : Expr} {t t' : TG} (h : PG X e t) (hi : ∀ v σ H R, t' v σ H R → t v σ H R) : PG X e t' := ⟨fun pins s σ H v u R I r q => h.run pins s σ H v u R I r (hi v σ H R q)⟩
theorem _root_.L2.PGs.imp {X : Cx} {e : List Expr} {t t' : TGs} (h : PGs X e t) (hi : ∀ v σ H R, t' v σ H R → t v σ H R) : PGs X e t' := ⟨fun pins s σ H v u R I r q => h.run pins s σ H v u R I r (hi v σ H R q)⟩
theorem g_name (i : Nat) {x : Str} (hN : X.N.Nodup) (hi : X.N[i]? = some x := by rfl) (hx : Loc X.env.scope x := by first | exact Or.inl rfl | exact Or.inr rfl) (hf : X.fn x = true ∨ X.env.scope.names.lookup x = some .local := by first | exact .inl rfl | exact .inr rfl | assumption) :
    PG X (.Name x pos) (tG X.K (.nm i)) := (pg_name hN hi hx hf).imp fun v σ H Q h => by
  obtain ⟨ρ, n, σT, t, σT', l, d, e, q⟩ := h
  have e : σT.set i (some t) = σT' := by simpa [bindP] using e
  exact q _ (by rw [← e]; exact l.set i d) ⟨by simp, fun j hj => by rw [List.getElem?_set_ne (by simp [pslots] at hj; exact fun z => hj z.symm)]⟩
theorem gs_nil : PGs X [] (tGs X.K []) := pgs_nil.imp fun v σ H Q h => by
  obtain ⟨ρ, n, σT, ts, σT', l, d, e, q⟩ := h
  cases ts with
  | nil =>
    have e : σT = σT' := by simpa [bindPs] using e
    exact ⟨d, q _ (by rw [← e]; exact l) ⟨rfl, fun _ _ => rfl⟩⟩
  | cons t ts => simp [bindPs] at e
theorem gs_cons {e : Expr} {es : List Expr} {p : Pat} {ps : List Pat} (h1 : PG X e (tG X.K p)) (h2 : PGs X es (tGs X.K ps))
    (hs : (assignEach (e :: es) X.env).map (·.2) = assign e X.env :: (assignEach es X.env).map (·.2) := by rfl) : PGs X (e :: es) (tGs X.K (p :: ps)) := (pgs_cons h1 h2 hs).imp fun v σ H Q h => by
  obtain ⟨ρ, n, σT, ts, σT', l, d, e, q⟩ := h
  cases ts with
  | nil => simp [bindPs] at e
  | cons t ts =>
    obtain ⟨w, r, rfl, d1, d2⟩ := d
    simp only [bindPs, Option.bind_eq_some_iff] at e
    obtain ⟨σ1, e1, e2⟩ := e
    exact ⟨w, r, rfl, ρ, n, σT, t, σ1, l, d1, e1, fun σ' l' s1 => ⟨ρ, n, σ1, ts, σT', l', d2, e2, fun σ2 l2 s2 => q σ2 l2 ⟨s2.1.trans s1.1, fun j hj => by
    simp only [pslotss, List.mem_append, not_or] at hj
    exact (s2.2 j hj.2).trans (s1.2 j hj.1)⟩⟩⟩
theorem bindPs_len : ∀ {ps : List Pat} {ts : List T} {σ σ' : List (Option T)}, bindPs ps ts σ = some σ' → ts.length = ps.length
  | [], [], _, _, _ => rfl
  | [], _ :: _, _, _, h => by simp [bindPs] at h
  | _ :: _, [], _, _, h => by simp [bindPs] at h
  | p :: ps, t :: ts, _, _, h => by
    simp only [bindPs, Option.bind_eq_some_iff] at h
    obtain ⟨σ1, _, e2⟩ := h
    simp [bindPs_len e2]
theorem g_tup {es : List Expr} {k : Nat} {ps : List Pat} (hc : X.calm = true) (h : PGs X es (tGs X.K ps))
    (hn : (assignEach es X.env).length = ps.length := by rfl) (hst : (assignEach es X.env).findIdx? (·.1) = none := by rfl) : PG X (.Tuple es k pos) (tG X.K (.tp ps)) :=
  (pg_tup (n := ps.length) hc h hn hst).imp fun v σ H Q h => by
    obtain ⟨ρ, n, σT, t, σT', l, d, e, q⟩ := h
    cases t with
    | tup ts =>
      obtain ⟨a, vs, rfl, h2, h3⟩ := d
      have e : bindPs ps ts σT = some σT' := by simpa [bindP] using e
      exact ⟨a, vs, rfl, h2, by rw [← h3.length]; exact bindPs_len e, ρ, n, σT, ts, σT', l, h3, e, fun σ' l' s' => q σ' l' (by simpa [pslots] using s')⟩
    | _ => simp [bindP] at e
/-! ### statements -/
end
inductive SRes where
  | nx (σ : List (Option T)) (μ : Mem)
  | rt (t : T) (μ : Mem)
  | bk (σ : List (Option T)) (μ : Mem)
  | ct (σ : List (Option T)) (μ : Mem)
  | exc (c : Str) (fs : List (Str × T)) (μ : Mem)
  | bad
abbrev SM := List (Option T) → Mem → SRes
def GSt (g : G) (ρ : Nat → Addr) (n : Nat) (H : Hp) (k : L2.St → Hp → Prop) (σT : List (Option T)) (μ : Mem) : Prop := ∀ ρ' σ' H', Ext g ρ n H ρ' μ.length H' → MRel g ρ' μ H' → LRel g.K ρ' μ.length H' σT σ' → k σ' H'
def SGood (g : G) (E : XK) (D : Ends) (ρ : Nat → Addr) (n : Nat) (H : Hp) : SRes → Prop
  | .nx σT μ => GSt g ρ n H D.nx σT μ
  | .bk σT μ => GSt g ρ n H D.bk σT μ
  | .ct σT μ => GSt g ρ n H D.ct σT μ
  | .rt t μ => Good g E D.rt ρ n H (.ok t μ)
  | .exc c fs μ => Good g E D.rt ρ n H (.exc c fs μ)
  | .bad => False
def tS (g : G) (E : XK) (d : SM) : TS := fun D σ H => ∃ ρ σT μ, MRel g ρ μ H ∧ LRel g.K ρ μ.length H σT σ ∧ SGood g E D ρ μ.length H (d σT μ)
theorem _root_.L2.PS.imp {X : Cx} {e : Stmt} {t t' : TS} (h : PS X e t) (hi : ∀ D σ H, t' D σ H → t D σ H) : PS X e t' := ⟨fun pins s σ H D I q => h.run pins s σ H D I (hi D σ H q)⟩
theorem _root_.L2.PSs.imp {X : Cx} {e : List Stmt} {t t' : TS} (h : PSs X e t) (hi : ∀ D σ H, t' D σ H → t D σ H) : PSs X e t' := ⟨fun pins s σ H D I q => h.run pins s σ H D I (hi D σ H q)⟩
section
variable {g : G} {E : XK} {D : Ends} {ρ ρ' : Nat → Addr} {n n' : Nat} {H H' : Hp} {r : SRes}
theorem SGood.later (e : Ext g ρ n H ρ' n' H') (h : SGood g E D ρ n H r) : SGood g E D ρ' n' H' r := by
  cases r with
  | nx σT μ => exact fun ρ2 σ2 H2 e2 m l => h ρ2 σ2 H2 (e.trans e2) m l
  | bk σT μ => exact fun ρ2 σ2 H2 e2 m l => h ρ2 σ2 H2 (e.trans e2) m l
  | ct σT μ => exact fun ρ2 σ2 H2 e2 m l => h ρ2 σ2 H2 (e.trans e2) m l
  | rt t μ => exact Good.later (E := E) (r := .ok t μ) e h
  | exc c fs μ => exact Good.later (E := E) (Q := D.rt) (r := .exc c fs μ) e h
  | bad => exact h
end
def SRes.seq (r : SRes) (k : SM) : SRes := match r with
  | .nx σ μ => k σ μ
  | r => r
def Res.toS (r : Res) (k : T → Mem → SRes) : SRes := match r with
  | .ok t μ => k t μ
  | .exc c fs μ => .exc c fs μ
  | .bad => .bad
def sNil : SM := fun σ μ => .nx σ μ
def sSeq (a b : SM) : SM := fun σ μ => (a σ μ).seq b
section
variable {X : Cx} {tb : List (Addr × Str)} {E : XK} {st : Stmt} {rest : List Stmt} {a b : SM} {e : Expr} {d : EM} {pos pos' : Pos}
theorem tS_seq {g : G} {t : SM} : ∀ D σ H, tS g E (sSeq a b) D σ H → tSeq (tS g E a) (tS g E b) D σ H := fun D σ H h => by
  obtain ⟨ρ, σT, μ, m, l, h⟩ := h
  refine ⟨ρ, σT, μ, m, l, ?_⟩
  unfold sSeq at h
  cases q : a σT μ with
  | nx σ1 μ1 =>
    rw [q] at h
    exact fun ρ2 σ2 H2 e2 m2 l2 => ⟨ρ2, σ1, μ1, m2, l2, SGood.later (r := b σ1 μ1) e2 h⟩
  | bk σ1 μ1 => rw [q] at h; exact h
  | ct σ1 μ1 => rw [q] at h; exact h
  | rt t μ1 => rw [q] at h; exact h
  | exc c fs μ1 => rw [q] at h; exact h
  | bad => rw [q] at h; exact h
theorem ss_nil : PSs X [] (tS (gx X tb) E sNil) := pss_nil.imp fun D σ H h => by
  obtain ⟨ρ, σT, μ, m, l, h⟩ := h
  exact h ρ σ H (Ext.refl _ _ _ _) m l
theorem ss_cons (h1 : PS X st (tS (gx X tb) E a)) (h2 : PSs X rest (tS (gx X tb) E b)) : PSs X (st :: rest) (tS (gx X tb) E (sSeq a b)) := (pss_cons h1 h2).imp (tS_seq (t := a))
theorem ss_one (h1 : PS X st (tS (gx X tb) E a)) : PSs X [st] (tS (gx X tb) E a) := pss_one h1
theorem s_pass : PS X (.Pass pos) (tS (gx X tb) E sNil) := ps_pass.imp fun D σ H h => by
  obtain ⟨ρ, σT, μ, m, l, h⟩ := h
  exact h ρ σ H (Ext.refl _ _ _ _) m l
theorem s_break : PS X (.Break pos) (tS (gx X tb) E (fun σ μ => .bk σ μ)) := ps_break.imp fun D σ H h => by
  obtain ⟨ρ, σT, μ, m, l, h⟩ := h
  exact h ρ σ H (Ext.refl _ _ _ _) m l
theorem s_continue : PS X (.Continue pos) (tS (gx X tb) E (fun σ μ => .ct σ μ)) := ps_continue.imp fun D σ H h => by
  obtain ⟨ρ, σT, μ, m, l, h⟩ := h
  exact h ρ σ H (Ext.refl _ _ _ _) m l
/-- from an expression to a statement -/
theorem bindS {g : G} {Q : VK} {D : Ends} {k : T → Mem → SRes} {R : VK} {ρ : Nat → Addr} {σT : List (Option T)} {σ : L2.St} {μ : Mem} {H : Hp} (m : MRel g ρ μ H) (l : LRel g.K ρ μ.length H σT σ) (h : SGood g E D ρ μ.length H ((d σT μ).toS k))
    (hR : ∀ x μ1 ρ1 v H1, Ext g ρ μ.length H ρ1 μ1.length H1 → MRel g ρ1 μ1 H1 → LRel g.K ρ1 μ1.length H1 σT σ → DV g.K ρ1 μ1.length H1 x v → SGood g E D ρ1 μ1.length H1 (k x μ1) → R v H1) : tE g E d σ H R := by
  refine ⟨ρ, σT, μ, m, l, ?_⟩
  cases q : d σT μ with
  | ok t μ1 =>
    rw [q] at h
    exact fun ρ1 v H1 e m1 dv => hR t μ1 ρ1 v H1 e m1 (l.ext e) dv (SGood.later (r := k t μ1) e h)
  | exc c fs μ1 => rw [q] at h; exact h
  | bad => rw [q] at h; exact h
def sExpr (d : EM) : SM := fun σ μ => (d σ μ).toS fun _ μ1 => .nx σ μ1
theorem s_expr (he : PE X e (tE (gx X tb) E d)) (hs : swapsWith e none pos.line X.env = pure false := by rfl) : PS X (.Expr e pos) (tS (gx X tb) E (sExpr d)) := (ps_expr he hs).imp fun D σ H h => by
  obtain ⟨ρ, σT, μ, m, l, h⟩ := h
  exact bindS (Q := D.rt) m l h fun x μ1 ρ1 v H1 e1 m1 l1 dv h1 => h1 ρ1 σ H1 (Ext.refl _ _ _ _) m1 l1
def sRet (d : EM) : SM := fun σ μ => (d σ μ).toS fun t μ1 => .rt t μ1
theorem s_ret (he : PE X e (tE (gx X tb) E d)) : PS X (.Return (some e) pos) (tS (gx X tb) E (sRet d)) := (ps_ret he).imp fun D σ H h => by
  obtain ⟨ρ, σT, μ, m, l, h⟩ := h
  exact bindS (Q := D.rt) m l h fun x μ1 ρ1 v H1 e1 m1 l1 dv h1 => h1 ρ1 v H1 (Ext.refl _ _ _ _) m1 dv
theorem s_retN : PS X (.Return none pos) (tS (gx X tb) E (fun _ μ => .rt .non μ)) := ps_retN.imp fun D σ H h => by
  obtain ⟨ρ, σT, μ, m, l, h⟩ := h
  exact h ρ _ H (Ext.refl _ _ _ _) m rfl
def sIf (c : EM) (a b : SM) : SM := fun σ μ => (c σ μ).toS fun t μ1 => match t with
  | .bl true => a σ μ1
  | .bl false => b σ μ1
  | _ => .bad
theorem s_if {c : Expr} {as bs : List Stmt} (hc : PT X c (tT (gx X tb) E d)) (ha : PSs X as (tS (gx X tb) E a)) (hb : PSs X bs (tS (gx X tb) E b)) : PS X (.If c as bs pos) (tS (gx X tb) E (sIf d a b)) := (ps_if hc ha hb).imp fun D σ H h => by
  obtain ⟨ρ, σT, μ, m, l, h⟩ := h
  refine bindS (Q := D.rt) m l h fun x μ1 ρ1 v H1 e1 m1 l1 dv h1 => ?_
  cases x with
  | bl q =>
    refine ⟨q, dv, ?_⟩
    cases q with
    | true => rw [if_pos rfl]; exact ⟨ρ1, σT, μ1, m1, l1, h1⟩
    | false => rw [if_neg Bool.false_ne_true]; exact ⟨ρ1, σT, μ1, m1, l1, h1⟩
  | _ => exact False.elim h1
/-! stores -/
def sSet (i : Nat) (d : EM) : SM := fun σ μ => (d σ μ).toS fun t μ1 => .nx (σ.set i (some t)) μ1
theorem s_set (i : Nat) {x : Str} (hN : X.N.Nodup) (he : PE X e (tE (gx X tb) E d)) (hs : swapsWith e (some (.Name x pos')) pos.line X.env = pure false := by rfl) (hi : X.N[i]? = some x := by rfl) (hx : Loc X.env.scope x := by first | exact Or.inl rfl | exact Or.inr rfl)
    (hf : X.fn x = true ∨ X.env.scope.names.lookup x = some .local := by first | exact .inl rfl | exact .inr rfl | assumption) : PS X (.Assign [.Name x pos'] e pos) (tS (gx X tb) E (sSet i d)) := (ps_set hN hi hx he hs hf).imp fun D σ H h => by
  obtain ⟨ρ, σT, μ, m, l, h⟩ := h
  exact bindS (Q := D.rt) m l h fun x μ1 ρ1 v H1 e1 m1 l1 dv h1 => h1 ρ1 _ H1 (Ext.refl _ _ _ _) m1 (l1.set i dv)
def sAsg (p : Pat) (d : EM) : SM := fun σ μ => (d σ μ).toS fun t μ1 => match bindP p t σ with
  | some σ' => .nx σ' μ1
  | none => .bad
theorem s_asg {tg : Expr} {p : Pat} (he : PE X e (tE (gx X tb) E d)) (hg : PG X tg (tG X.K p)) (hs : swapsWithSole [tg] e pos.line X.env = pure false := by rfl) (hw : swappedStores [tg] e X.env = pure none := by rfl)
    (h1 : (assignEach [tg] X.env).map (·.2) = [assign tg X.env] := by rfl) : PS X (.Assign [tg] e pos) (tS (gx X tb) E (sAsg p d)) := (ps_asg he hg hs hw h1).imp fun D σ H h => by
  obtain ⟨ρ, σT, μ, m, l, h⟩ := h
  refine bindS (Q := D.rt) m l h fun x μ1 ρ1 v H1 e1 m1 l1 dv h1 => ?_
  cases q : bindP p x σT with
  | some σ' =>
    simp only [q] at h1
    exact ⟨ρ1, μ1.length, σT, x, σ', l1, dv, q, fun σ2 l2 _ => h1 ρ1 σ2 H1 (Ext.refl _ _ _ _) m1 l2⟩
  | none =>
    simp only [q] at h1
    exact h1.elim
def sPar (i j : Nat) (da db : EM) : SM := fun σ μ => (da σ μ).toS fun x μ1 => (db σ μ1).toS fun y μ2 => .nx ((σ.set i (some x)).set j (some y)) μ2
theorem s_par (i j : Nat) {x y : Str} {e1 e2 : Expr} {da db : EM} {px py pt : Pos} {kt k2 pt2} (hc : X.calm = true) (hN : X.N.Nodup) (h1 : PE X e1 (tE (gx X tb) E da)) (h2 : PE X e2 (tE (gx X tb) E db))
    (hw : swappedStores [.Tuple [.Name x px, .Name y py] kt pt] (.Tuple [e1, e2] k2 pt2) X.env = pure (some [x, y]) := by rfl) (hi : X.N[i]? = some x := by rfl) (hj : X.N[j]? = some y := by rfl) (hij : i ≠ j := by decide)
    (hx : X.env.scope.names.lookup x = some .local := by rfl) (hy : X.env.scope.names.lookup y = some .local := by rfl)
    (hs : swapsWithSole [.Tuple [.Name x px, .Name y py] kt pt] (.Tuple [e1, e2] k2 pt2) pos.line X.env = pure false := by rfl) (hs1 : starEach [e1, e2] X.env = (false, eval e1 X.env) :: starEach [e2] X.env := by rfl) (hs2 : starEach [e2] X.env = [(false, eval e2 X.env)] := by rfl) :
    PS X (.Assign [.Tuple [.Name x px, .Name y py] kt pt] (.Tuple [e1, e2] k2 pt2) pos) (tS (gx X tb) E (sPar i j da db)) :=
  (ps_par hc hN hi hj hij hx hy (pa_cons h1 (pa_cons h2 pa_nil hs2) hs1) hw hs).imp fun D σ H h => by
    obtain ⟨ρ, σT, μ, m, l, h⟩ := h
    refine bindS (Q := D.rt) m l h fun x μ1 ρ1 v H1 e1 m1 l1 dv h1 => ?_
    refine bindS (Q := D.rt) m1 l1 h1 fun y μ2 ρ2 w H2 e2 m2 l2 dw h2 => ?_
    exact ⟨v, w, rfl, h2 ρ2 _ H2 (Ext.refl _ _ _ _) m2 ((l2.set i (dv.ext e2)).set j dw)⟩
def sPar3 (i j k : Nat) (da db dc : EM) : SM := fun σ μ => (da σ μ).toS fun x μ1 => (db σ μ1).toS fun y μ2 => (dc σ μ2).toS fun z μ3 => .nx (((σ.set i (some x)).set j (some y)).set k (some z)) μ3
theorem s_par3 (i j k : Nat) {x y z : Str} {e1 e2 e3 : Expr} {da db dc : EM} {px py pz pt : Pos} {kt k2 pt2} (hc : X.calm = true) (hN : X.N.Nodup) (h1 : PE X e1 (tE (gx X tb) E da)) (h2 : PE X e2 (tE (gx X tb) E db)) (h3 : PE X e3 (tE (gx X tb) E dc))
    (hw : swappedStores [.Tuple [.Name x px, .Name y py, .Name z pz] kt pt] (.Tuple [e1, e2, e3] k2 pt2) X.env = pure (some [x, y, z]) := by rfl) (hi : X.N[i]? = some x := by rfl) (hj : X.N[j]? = some y := by rfl) (hk : X.N[k]? = some z := by rfl) (hij : i ≠ j := by decide) (hik : i ≠ k := by decide) (hjk : j ≠ k := by decide)
    (hx : X.env.scope.names.lookup x = some .local := by rfl) (hy : X.env.scope.names.lookup y = some .local := by rfl) (hz : X.env.scope.names.lookup z = some .local := by rfl)
    (hs : swapsWithSole [.Tuple [.Name x px, .Name y py, .Name z pz] kt pt] (.Tuple [e1, e2, e3] k2 pt2) pos.line X.env = pure false := by rfl) (hs1 : starEach [e1, e2, e3] X.env = (false, eval e1 X.env) :: starEach [e2, e3] X.env := by rfl) (hs2 : starEach [e2, e3] X.env = (false, eval e2 X.env) :: starEach [e3] X.env := by rfl) (hs3 : starEach [e3] X.env = [(false, eval e3 X.env)] := by rfl) :
    PS X (.Assign [.Tuple [.Name x px, .Name y py, .Name z pz] kt pt] (.Tuple [e1, e2, e3] k2 pt2) pos) (tS (gx X tb) E (sPar3 i j k da db dc)) :=
  (ps_par3 hc hN hi hj hk hij hik hjk hx hy hz (pa_cons h1 (pa_cons h2 (pa_cons h3 pa_nil hs3) hs2) hs1) hw hs).imp fun D σ H h => by
    obtain ⟨ρ, σT, μ, m, l, h⟩ := h
    refine bindS (Q := D.rt) m l h fun x μ1 ρ1 v H1 e1 m1 l1 dv h1 => ?_
    refine bindS (Q := D.rt) m1 l1 h1 fun y μ2 ρ2 w H2 e2 m2 l2 dw h2 => ?_
    refine bindS (Q := D.rt) m2 l2 h2 fun z μ3 ρ3 u H3 e3 m3 l3 du h3 => ?_
    exact ⟨v, w, u, rfl, h3 ρ3 _ H3 (Ext.refl _ _ _ _) m3 (((l3.set i ((dv.ext e2).ext e3)).set j (dw.ext e3)).set k du)⟩
end
end TL
set_option Elab.async false
set_option linter.all false
set_option maxRecDepth 100000
set_option maxHeartbeats 2000000
/-! TL6: loops, comprehensions -/
namespace TL
open PySem PySem.Spec PyProof.Rows L2
def SRes.loop (r : SRes) (k : SM) : SRes := match r with
  | .nx σ μ => k σ μ
  | .ct σ μ => k σ μ
  | .bk σ μ => .nx σ μ
  | r => r
theorem SGood.loop {g : G} {E : XK} {D : Ends} {N : L2.St → Hp → Prop} {ρ : Nat → Addr} {n : Nat} {H : Hp} {r : SRes} {k : SM} (h : SGood g E D ρ n H (r.loop k))
    (hN : ∀ σT μ ρ' σ' H', Ext g ρ n H ρ' μ.length H' → MRel g ρ' μ H' → LRel g.K ρ' μ.length H' σT σ' → SGood g E D ρ' μ.length H' (k σT μ) → N σ' H') : SGood g E { D with nx := N, ct := N, bk := D.nx } ρ n H r := by
  cases r with
  | nx σT μ => exact fun ρ' σ' H' e m l => hN σT μ ρ' σ' H' e m l (SGood.later (r := k σT μ) e h)
  | ct σT μ => exact fun ρ' σ' H' e m l => hN σT μ ρ' σ' H' e m l (SGood.later (r := k σT μ) e h)
  | bk σT μ => exact h
  | rt t μ => exact h
  | exc c fs μ => exact h
  | bad => exact h
/-- for: the items one after another -/
def forL (ws : List (Nat × List T)) (p : Pat) (body : SM) : List T → SM
  | [], σ, μ => if watched ws μ = true then .nx σ μ else .bad
  | x :: r, σ, μ => if watched ws μ = true then (match bindP p x σ with
    | some σ1 => (body σ1 μ).loop (forL ws p body r)
    | none => .bad) else .bad
def sFor (it : IM) (p : Pat) (body : SM) : SM := fun σ μ => match it σ μ with
  | .its xs ws μ1 => forL ws p body xs σ μ1
  | .exc c fs μ1 => .exc c fs μ1
  | .bad => .bad
section
variable {X : Cx} {tb : List (Addr × Str)} {E : XK} {tg iter : Expr} {body : List Stmt} {it : IM} {p : Pat} {b : SM} {pos : Pos}
theorem tS_for : ∀ D σ H, tS (gx X tb) E (sFor it p b) D σ H → tFor (tI (gx X tb) E it) (tG X.K p) (tS (gx X tb) E b) D σ H := fun D σ H h => by
  obtain ⟨ρ, σT, μ, m, l, h⟩ := h
  refine ⟨ρ, σT, μ, m, l, ?_⟩
  unfold sFor at h
  cases q : it σT μ with
  | exc c fs μ1 => rw [q] at h; exact h
  | bad => rw [q] at h; exact h
  | its xs ws μ1 =>
    rw [q] at h
    intro ρ1 J H1 e1 m1 wk _
    have h : SGood (gx X tb) E D ρ μ.length H (forL ws p b xs σT μ1) := h
    refine ⟨fun i k σ' H' => k = xs.length - i ∧ i ≤ xs.length ∧ ∃ ρ' σ2 μ', Ext (gx X tb) ρ1 μ1.length H1 ρ' μ'.length H' ∧ MRel (gx X tb) ρ' μ' H' ∧ LRel X.K ρ' μ'.length H' σ2 σ' ∧ SGood (gx X tb) E D ρ' μ'.length H' (forL ws p b (xs.drop i) σ2 μ'),
      ⟨xs.length, by simp, Nat.zero_le _, ρ1, σT, μ1, Ext.refl _ _ _ _, m1, l.ext e1, by rw [List.drop_zero]; exact SGood.later e1 h⟩, ?_⟩
    rintro i k σ' H' ⟨rfl, hi, ρ', σ2, μ', e2, m2, l2, g2⟩
    by_cases hlt : i < xs.length
    · have hd : xs.drop i = xs[i] :: xs.drop (i + 1) := List.drop_eq_getElem_cons hlt
      rw [hd] at g2
      unfold forL at g2
      split at g2
      · rename_i hw
        obtain ⟨w1, _⟩ := wk ρ' μ' H' e2 m2 hw i
        obtain ⟨hgo, hy⟩ := w1 xs[i] (by simp [hlt])
        refine .inr ⟨hgo, fun σ3 H3 => ∃ m', m' < xs.length - i ∧ m' = xs.length - (i + 1) ∧ i + 1 ≤ xs.length ∧ ∃ ρ' σ2 μ', Ext (gx X tb) ρ1 μ1.length H1 ρ' μ'.length H3 ∧ MRel (gx X tb) ρ' μ' H3 ∧ LRel X.K ρ' μ'.length H3 σ2 σ3 ∧ SGood (gx X tb) E D ρ' μ'.length H3 (forL ws p b (xs.drop (i + 1)) σ2 μ'), fun σ3 H3 q => q, fun x H3 y => ?_⟩
        obtain ⟨e3, m3, dx⟩ := hy x H3 y
        cases hb : bindP p xs[i] σ2 with
        | none => simp only [hb] at g2; exact g2.elim
        | some σ4 =>
          simp only [hb] at g2
          refine ⟨ρ', μ'.length, σ2, xs[i], σ4, l2.ext e3, dx, hb, fun σ5 l5 _ => ⟨ρ', σ4, μ', m3, l5, ?_⟩⟩
          refine SGood.loop (SGood.later e3 g2) fun σ6 μ6 ρ6 σ7 H7 e7 m7 l7 g7 => ?_
          exact ⟨xs.length - (i + 1), by omega, rfl, hlt, ρ6, σ6, μ6, (e2.trans e3).trans e7, m7, l7, g7⟩
      · exact g2.elim
    · have he : i = xs.length := by omega
      rw [he, List.drop_length] at g2
      unfold forL at g2
      split at g2
      · rename_i hw
        obtain ⟨_, w2⟩ := wk ρ' μ' H' e2 m2 hw i
        exact .inl ⟨w2 (by omega), g2 ρ' σ' H' (Ext.refl _ _ _ _) m2 l2⟩
      · exact g2.elim
theorem s_for (hp : PassesOwn (model X.prog X.w) X.A X.env X.xe) (hc : X.calm = true) (hi : PI X tg iter (tI (gx X tb) E it)) (hg : PG X tg (tG X.K p)) (hb : PSs X body (tS (gx X tb) E b))
    (hs : ∀ x, foldedSetIterable iter X.env x = pure x := by intro _; rfl) : PS X (.For tg iter body [] pos) (tS (gx X tb) E (sFor it p b)) := (ps_for hp hc hi hg hb hs).imp tS_for
/-! ### while -/
def whileGo (c : EM) (body : SM) : Nat → SM
  | 0, _, _ => .bad
  | k + 1, σ, μ => (c σ μ).toS fun t μ1 => match t with
    | .bl true => (body σ μ1).loop (whileGo c body k)
    | .bl false => .nx σ μ1
    | _ => .bad
def fuel : Nat := 1000000000000000000
def sWhile (c : EM) (body : SM) : SM := whileGo c body fuel
theorem tS_while {c : EM} : ∀ D σ H, tS (gx X tb) E (sWhile c b) D σ H → tWhile (tT (gx X tb) E c) (tS (gx X tb) E b) D σ H := fun D σ H h => by
  obtain ⟨ρ, σT, μ, m, l, h⟩ := h
  refine ⟨fun k σ' H' => ∃ ρ' σ2 μ', MRel (gx X tb) ρ' μ' H' ∧ LRel X.K ρ' μ'.length H' σ2 σ' ∧ SGood (gx X tb) E D ρ' μ'.length H' (whileGo c b k σ2 μ'), ⟨fuel, ρ, σT, μ, m, l, h⟩, ?_⟩
  rintro k σ' H' ⟨ρ', σ2, μ', m2, l2, g2⟩
  cases k with
  | zero => exact g2.elim
  | succ k =>
    unfold whileGo at g2
    refine bindS (Q := D.rt) m2 l2 g2 fun x μ1 ρ1 v H1 e1 m1 l1 dv h1 => ?_
    cases x with
    | bl q =>
      refine ⟨q, dv, ?_⟩
      cases q with
      | true =>
        rw [if_pos rfl]
        refine ⟨fun σ3 H3 => ∃ ρ' σ2 μ', MRel (gx X tb) ρ' μ' H3 ∧ LRel X.K ρ' μ'.length H3 σ2 σ3 ∧ SGood (gx X tb) E D ρ' μ'.length H3 (whileGo c b k σ2 μ'), fun σ3 H3 q => ⟨k, Nat.lt_succ_self _, q⟩, ρ1, σ2, μ1, m1, l1, ?_⟩
        exact SGood.loop h1 fun σ6 μ6 ρ6 σ7 H7 e7 m7 l7 g7 => ⟨ρ6, σ6, μ6, m7, l7, g7⟩
      | false =>
        rw [if_neg Bool.false_ne_true]
        exact h1 ρ1 σ' H1 (Ext.refl _ _ _ _) m1 l1
    | _ => exact False.elim h1
theorem s_while {c : Expr} {dc : EM} (hp : PassesOwn (model X.prog X.w) X.A X.env X.xe) (hc : PT X c (tT (gx X tb) E dc)) (hb : PSs X body (tS (gx X tb) E b)) : PS X (.While c body [] pos) (tS (gx X tb) E (sWhile dc b)) := (ps_while hp hc hb).imp tS_while
/-! ### list comprehensions -/
/-- the slots of the block's own names forgotten -/
def wipeT (σ : List (Option T)) : List Nat → List (Option T)
  | [] => σ
  | v :: vs => (wipeT σ vs).set v none
theorem LRel.wipe {K : PySem.W.Frag} {ρ : Nat → Addr} {n : Nat} {H : Hp} {σT : List (Option T)} {σ : L2.St} (l : LRel K ρ n H σT σ) : ∀ vs, LRel K ρ n H (wipeT σT vs) (L2.wipe σ vs)
  | [] => l
  | v :: vs => by
    have ih := LRel.wipe l vs
    refine ⟨by simp [wipeT, L2.wipe, ih.len], fun i t e => ?_⟩
    unfold wipeT at e
    unfold L2.wipe
    by_cases hi : v = i
    · subst hi
      by_cases hv : v < (wipeT σT vs).length
      · rw [List.getElem?_set_self hv] at e; cases e
      · rw [List.getElem?_eq_none (by simpa using hv)] at e; cases e
    · rw [List.getElem?_set_ne hi] at e ⊢
      exact ih.at_ i t e
theorem wipe_in {σ : L2.St} {i : Nat} : ∀ {vs : List Nat}, i ∈ vs → i < σ.length → (L2.wipe σ vs)[i]? = some none
  | [], h, _ => by simp at h
  | v :: vs, h, hl => by
    unfold L2.wipe
    by_cases hv : v = i
    · subst hv
      rw [List.getElem?_set_self (by rw [L2.wipe_length]; exact hl)]
    · rw [List.getElem?_set_ne hv]
      exact wipe_in ((List.mem_cons.mp h).resolve_left fun e => hv e.symm) hl
theorem wipe_same {σ σ' : L2.St} {L vs : List Nat} (h : SameBut L (L2.wipe σ vs) σ') (hs : ∀ i ∈ L, i ∈ vs) : L2.wipe σ' vs = L2.wipe σ vs := by
  have hl : σ'.length = σ.length := h.1.trans (L2.wipe_length σ vs)
  apply List.ext_getElem?
  intro i
  by_cases hi : i ∈ vs
  · by_cases hb : i < σ.length
    · rw [wipe_in hi (by omega), wipe_in hi hb]
    · rw [List.getElem?_eq_none (by rw [L2.wipe_length]; omega), List.getElem?_eq_none (by rw [L2.wipe_length]; omega)]
  · rw [L2.wipe_out hi, h.2 i (fun z => hi (hs i z))]
def Res.toL (r : Res) (k : T → Mem → LRes) : LRes := match r with
  | .ok t μ => k t μ
  | _ => .bad
def lcGo (ws : List (Nat × List T)) (p : Pat) (t : Option EM) (el : EM) (σ : List (Option T)) : List T → List T → Mem → LRes
  | [], acc, μ => if watched ws μ = true then .ok acc μ else .bad
  | x :: r, acc, μ => if watched ws μ = true then (match bindP p x σ with
    | some σ1 => match t with
      | none => (el σ1 μ).toL fun y μ1 => if acc.length < sizeLine then lcGo ws p t el σ r (acc ++ [y]) μ1 else .bad
      | some c => (c σ1 μ).toL fun q μ1 => match q with
        | .bl true => (el σ1 μ1).toL fun y μ2 => if acc.length < sizeLine then lcGo ws p t el σ r (acc ++ [y]) μ2 else .bad
        | .bl false => lcGo ws p t el σ r acc μ1
        | _ => .bad
    | none => .bad) else .bad
def dLc (it : IM) (p : Pat) (own : List Nat) (t : Option EM) (el : EM) : LM := fun σ μ => match it σ μ with
  | .its xs ws μ1 => lcGo ws p t el (wipeT σ own) xs [] μ1
  | .exc c fs μ1 => .exc c fs μ1
  | .bad => .bad
theorem Good.toL {g : G} {ρ ρ0 : Nat → Addr} {n n0 : Nat} {H H0 : Hp} {r : Res} {k : T → Mem → LRes} {R : VK} {E : XK} {Q : VK} (h : GoodL g E Q ρ0 n0 H0 (r.toL k))
    (hR : ∀ x μ1 ρ1 v H1, Ext g ρ n H ρ1 μ1.length H1 → MRel g ρ1 μ1 H1 → DV g.K ρ1 μ1.length H1 x v → GoodL g E Q ρ0 n0 H0 (k x μ1) → R v H1) : Good g E0 R ρ n H r := by
  cases r with
  | ok t μ => exact fun ρ2 v H2 e2 m d => hR t μ ρ2 v H2 e2 m d h
  | exc c fs μ => exact (show False from h).elim
  | bad => exact h
/-! a list of no one's in the memory is changed -/
section
variable {g : G} {ρ ρ4 : Nat → Addr} {n n4 : Nat} {H1 H4 : Hp} {D : Addr} {vs ws : List V}
theorem SqT.side {a : Addr} {us : List V} (h4 : H4 D = some (.lst vs)) (h : SqT g.K H4 a us) : SqT g.K (upd H4 D (.lst ws)) a us := by
  rcases h with (h | ⟨o, h⟩) | h
  · exact .inl (.inl (by rw [upd_ne (ne_of h h4 (fun z => nomatch z))]; exact h))
  · exact .inl (.inr ⟨o, by rw [upd_ne (ne_of h h4 (fun z => nomatch z))]; exact h⟩)
  · exact .inr h
theorem FSq.side {a : Addr} {us : List V} (h4 : H4 D = some (.lst vs)) (h : FSq g.K H4 a us) : FSq g.K (upd H4 D (.lst ws)) a us := h.elim (fun ⟨o, h⟩ => .inl ⟨o, by rw [upd_ne (ne_of h h4 (fun z => nomatch z))]; exact h⟩) .inr
theorem DV.side {t : T} {v : V} (h4 : H4 D = some (.lst vs)) (h : DV g.K ρ n H4 t v) : DV g.K ρ n (upd H4 D (.lst ws)) t v := h.ren (fun k hk => ⟨hk, rfl⟩) fun _ _ => ⟨fun q => SqT.side h4 q, fun q => FSq.side (g := g) h4 q, fun ws q => by rw [upd_ne (ne_of q h4 (fun z => nomatch z))]; exact q⟩
theorem DVs.side {t : List T} {v : List V} (h4 : H4 D = some (.lst vs)) (h : DVs g.K ρ n H4 t v) : DVs g.K ρ n (upd H4 D (.lst ws)) t v := h.ren (fun k hk => ⟨hk, rfl⟩) fun _ _ => ⟨fun q => SqT.side h4 q, fun q => FSq.side (g := g) h4 q, fun ws q => by rw [upd_ne (ne_of q h4 (fun z => nomatch z))]; exact q⟩
theorem LRel.side {σT : List (Option T)} {σ : L2.St} (h4 : H4 D = some (.lst vs)) (l : LRel g.K ρ n H4 σT σ) : LRel g.K ρ n (upd H4 D (.lst ws)) σT σ := ⟨l.len, fun i t e => let ⟨v, h1, h2⟩ := l.at_ i t e; ⟨v, h1, h2.side h4⟩⟩
theorem tabs_side {o : HO} {tb : List (Addr × Str)} (h4 : H4 D = some (.lst vs)) (h : LamX.Tabs tb H4) : LamX.Tabs tb (upd H4 D o) := fun q hq => by
  obtain ⟨ps, q1, q2, q3⟩ := h q hq
  refine ⟨ps, by rw [upd_ne (ne_of q1 h4 (fun z => nomatch z))]; exact q1, q2, fun pos cv hc => ?_⟩
  obtain ⟨c, e1, e2⟩ := q3 pos cv hc
  refine ⟨c, e1, ?_⟩
  rw [upd_ne (ne_of e2 h4 (fun z => by unfold LamX.CodeO at z; cases z))]; exact e2
theorem Ext.side (e : Ext g ρ n H1 ρ4 n4 H4) (hD : H1 D = none) (h4 : H4 D = some (.lst vs)) : Ext g ρ n H1 ρ4 n4 (upd H4 D (.lst ws)) :=
  ⟨e.le, e.ag, e.nw, fun b o h hn ht => by rw [upd_ne (ne_of_none h hD)]; exact e.kp b o h hn ht, fun b o h f => by rw [upd_ne (ne_of_none h hD)]; exact e.fx b o h f,
    fun b h => by
      by_cases z : b = D
      · rw [z]; exact .inl hD
      · exact e.th b (h.un z),
    fun h => tabs_side h4 (e.tb h)⟩
theorem MRel.side {μ : Mem} (m : MRel g ρ μ H4) (h4 : H4 D = some (.lst vs)) (hn : ∀ i, i < μ.length → ρ i ≠ D) : MRel g ρ μ (upd H4 D (.lst ws)) :=
  ⟨m.inj, fun i o h => by
    obtain ⟨ho, h1, h2⟩ := m.ob i o h
    exact ⟨ho, by rw [upd_ne (hn i (List.getElem?_eq_some_iff.mp h).1)]; exact h1, h2.ren (fun k hk => ⟨hk, rfl⟩) fun _ _ => ⟨fun q => SqT.side h4 q, fun q => FSq.side (g := g) h4 q, fun ws q => by rw [upd_ne (ne_of q h4 (fun z => nomatch z))]; exact q⟩⟩, tabs_side h4 m.tb⟩
end
/-- the tests of a clause -/
def PTs' (X : Cx) (tb : List (Addr × Str)) (ifs : List Expr) : Option EM → Prop
  | none => ifs = []
  | some c => ∃ e, ifs = [e] ∧ PT X e (tT (gx X tb) E0 c)
def ttOf (g : G) : Option EM → TT
  | none => tYes
  | some c => tT g E0 c
theorem ttOf_none {g : G} {σ : L2.St} {H : Hp} {A B : Hp → Prop} (h : A H) : ttOf g none σ H (fun b H3 => if b = true then A H3 else B H3) := by
  show (if true = true then A H else B H)
  rw [if_pos rfl]; exact h
theorem pts_of {ifs : List Expr} {t : Option EM} (h : PTs' X tb ifs t) : PTs X ifs (ttOf (gx X tb) t) := by
  cases t with
  | none =>
    have h : ifs = [] := h
    rw [h]; exact pts_nil
  | some c =>
    obtain ⟨e, rfl, h⟩ := h
    exact pts_one h
theorem tL_lc {t : Option EM} {el : EM} {own : List Nat} (hs : ∀ i ∈ pslots p, i ∈ own) : ∀ σ H Q, tL (gx X tb) E (dLc it p own t el) σ H Q → tLc (tI (gx X tb) E it) (tG X.K p) (ttOf (gx X tb) t) (tE (gx X tb) E0 el) own σ H Q := fun σ H Q h => by
  obtain ⟨ρ, σT, μ, m, l, h⟩ := h
  refine ⟨ρ, σT, μ, m, l, ?_⟩
  unfold dLc at h
  cases q : it σT μ with
  | exc c fs μ1 => rw [q] at h; exact h
  | bad => rw [q] at h; exact h
  | its xs ws μ1 =>
    rw [q] at h
    have h : GoodL (gx X tb) E Q ρ μ.length H (lcGo ws p t el (wipeT σT own) xs [] μ1) := h
    intro ρ1 J H1 e1 m1 wk _ D hD
    have ef : Ext (gx X tb) ρ1 μ1.length H1 ρ1 μ1.length (upd H1 D (.lst [])) := Ext.fresh hD _
    have mf := m1.fresh (o := HO.lst []) hD
    have nD : ∀ i, i < μ1.length → ρ1 i ≠ D := fun i hi e => by
      obtain ⟨ho, h1, _⟩ := m1.ob i μ1[i] (by simp [hi])
      rw [e, hD] at h1; cases h1
    refine ⟨fun i k H' => k = xs.length - i ∧ i ≤ xs.length ∧ ∃ ρ' μ' acc vs, Ext (gx X tb) ρ1 μ1.length H1 ρ' μ'.length H' ∧ MRel (gx X tb) ρ' μ' H' ∧ LRel X.K ρ' μ'.length H' (wipeT σT own) (L2.wipe σ own) ∧
        H' D = some (.lst vs) ∧ (∀ i, i < μ'.length → ρ' i ≠ D) ∧ DVs X.K ρ' μ'.length H' acc vs ∧ GoodL (gx X tb) E Q ρ μ.length H (lcGo ws p t el (wipeT σT own) (xs.drop i) acc μ'),
      ⟨xs.length, by simp, Nat.zero_le _, ρ1, μ1, [], [], ef, mf, ((l.ext e1).ext ef).wipe own, upd_same, nD, rfl, by rw [List.drop_zero]; exact h⟩, ?_⟩
    rintro i k H' ⟨rfl, hi, ρ', μ', acc, vs, e2', m2, l2, hDv, nD', dA, fin⟩
    -- D's list is no one's of the memory: it stays while anything else is reckoned
    have stay : ∀ {ρ2 n2 H2}, Ext (gx X tb) ρ' μ'.length H' ρ2 n2 H2 → H2 D = some (.lst vs) := fun {ρ2 n2 H2} e => e.kp D _ hDv (fun i hi z => nD' i hi z.symm) fun ps z => nomatch z
    have away : ∀ {ρ2 : Nat → Addr} {μ2 : Mem} {H2 : Hp}, Ext (gx X tb) ρ' μ'.length H' ρ2 μ2.length H2 → ∀ i, i < μ2.length → ρ2 i ≠ D := fun {ρ2 μ2 H2} e i hi z => by
      by_cases h5 : i < μ'.length
      · rw [e.ag i h5] at z; exact nD' i h5 z
      · have := e.nw i (Nat.not_lt.mp h5) hi
        rw [z] at this
        exact this.no hDv (fun _ z => nomatch z)
    by_cases hlt : i < xs.length
    · have hd : xs.drop i = xs[i] :: xs.drop (i + 1) := List.drop_eq_getElem_cons hlt
      rw [hd] at fin
      by_cases hw : watched ws μ' = true
      · obtain ⟨w1, _⟩ := wk ρ' μ' H' e2' m2 hw i
        obtain ⟨hgo, hy⟩ := w1 xs[i] (by simp [hlt])
        cases hb : bindP p xs[i] (wipeT σT own) with
        | none =>
          have z : lcGo ws p t el (wipeT σT own) (xs[i] :: xs.drop (i + 1)) acc μ' = .bad := by
            simp only [lcGo, if_pos hw, hb]
          rw [z] at fin
          exact fin.elim
        | some σ4 =>
          refine .inr ⟨hgo, _, fun H3 q => q, fun x H3 y => ?_⟩
          obtain ⟨e3, m3, dx⟩ := hy x H3 y
          refine ⟨ρ', μ'.length, wipeT σT own, xs[i], σ4, l2.ext e3, dx, hb, fun σ5 l5 s5 => ⟨wipe_same s5 hs, ?_⟩⟩
          -- behind an element y: the list one longer
          have more : ∀ {ρ4 : Nat → Addr} {μ4 : Mem} {H4 : Hp} {u : T} {w : V}, Ext (gx X tb) ρ' μ'.length H' ρ4 μ4.length H4 → MRel (gx X tb) ρ4 μ4 H4 → DV X.K ρ4 μ4.length H4 u w → GoodL (gx X tb) E Q ρ μ.length H (if acc.length < sizeLine then lcGo ws p t el (wipeT σT own) (xs.drop (i + 1)) (acc ++ [u]) μ4 else .bad) →
              ∃ acc, H4 D = some (.lst acc) ∧ acc.length < sizeLine ∧ ∃ m', m' < xs.length - i ∧ m' = xs.length - (i + 1) ∧ i + 1 ≤ xs.length ∧ ∃ ρ' μ' acc' vs, Ext (gx X tb) ρ1 μ1.length H1 ρ' μ'.length (upd H4 D (.lst (acc ++ [w]))) ∧ MRel (gx X tb) ρ' μ' (upd H4 D (.lst (acc ++ [w]))) ∧ LRel X.K ρ' μ'.length (upd H4 D (.lst (acc ++ [w]))) (wipeT σT own) (L2.wipe σ own) ∧
                (upd H4 D (.lst (acc ++ [w]))) D = some (.lst vs) ∧ (∀ i, i < μ'.length → ρ' i ≠ D) ∧ DVs X.K ρ' μ'.length (upd H4 D (.lst (acc ++ [w]))) acc' vs ∧ GoodL (gx X tb) E Q ρ μ.length H (lcGo ws p t el (wipeT σT own) (xs.drop (i + 1)) acc' μ') := fun {ρ4 μ4 H4 u w} e4 m4 du g4 => by
            split at g4
            · rename_i hz
              have hD4 := stay e4
              have nD4 := away e4
              exact ⟨vs, hD4, by rw [← dA.length]; exact hz, _, by omega, rfl, hlt, ρ4, μ4, acc ++ [u], vs ++ [w], (e2'.trans e4).side hD hD4, m4.side hD4 nD4, LRel.side (g := gx X tb) hD4 (l2.ext e4), upd_same, nD4, DVs.side (g := gx X tb) hD4 ((dA.ext e4).append (.cons du .nil)), g4⟩
            · exact g4.elim
          cases t with
          | none =>
            have z : lcGo ws p none el (wipeT σT own) (xs[i] :: xs.drop (i + 1)) acc μ' = (el σ4 μ').toL fun y μ1 => if acc.length < sizeLine then lcGo ws p none el (wipeT σT own) (xs.drop (i + 1)) (acc ++ [y]) μ1 else .bad := by
              simp only [lcGo, if_pos hw, hb]
            rw [z] at fin
            refine ttOf_none ?_
            exact ⟨ρ', σ4, μ', m3, l5, Good.toL fin fun y μ4 ρ4 w H4 e4 m4 dy g4 => more (e3.trans e4) m4 dy g4⟩
          | some c =>
            have z : lcGo ws p (some c) el (wipeT σT own) (xs[i] :: xs.drop (i + 1)) acc μ' = (c σ4 μ').toL fun q μ1 => match q with
                | .bl true => (el σ4 μ1).toL fun y μ2 => if acc.length < sizeLine then lcGo ws p (some c) el (wipeT σT own) (xs.drop (i + 1)) (acc ++ [y]) μ2 else .bad
                | .bl false => lcGo ws p (some c) el (wipeT σT own) (xs.drop (i + 1)) acc μ1
                | _ => .bad := by
              simp only [lcGo, if_pos hw, hb]
            rw [z] at fin
            refine ⟨ρ', σ4, μ', m3, l5, Good.toL fin fun q μ4 ρ4 w H4 e4 m4 dq g4 => ?_⟩
            cases q with
            | bl q =>
              refine ⟨q, dq, ?_⟩
              cases q with
              | true =>
                rw [if_pos rfl]
                exact ⟨ρ4, σ4, μ4, m4, l5.ext e4, Good.toL g4 fun y μ5 ρ5 w5 H5 e5 m5 dy g5 => more ((e3.trans e4).trans e5) m5 dy g5⟩
              | false =>
                rw [if_neg Bool.false_ne_true]
                have e34 := e3.trans e4
                exact ⟨_, by omega, rfl, hlt, ρ4, μ4, acc, vs, e2'.trans e34, m4, l2.ext e34, stay e34, away e34, dA.ext e34, g4⟩
            | _ => exact (show False from g4).elim
      · have z : lcGo ws p t el (wipeT σT own) (xs[i] :: xs.drop (i + 1)) acc μ' = .bad := by
          simp only [lcGo, if_neg hw]
        rw [z] at fin
        exact fin.elim
    · have he : i = xs.length := by omega
      rw [he, List.drop_length] at fin
      by_cases hw : watched ws μ' = true
      · obtain ⟨_, w2⟩ := wk ρ' μ' H' e2' m2 hw i
        refine .inl ⟨w2 (by omega), ?_⟩
        have z : lcGo ws p t el (wipeT σT own) [] acc μ' = .ok acc μ' := by
          simp only [lcGo, if_pos hw]
        rw [z] at fin
        exact fin ρ' D vs H' (e1.trans e2') m2 hDv (e1.th _ (.inl hD)) nD' dA
      · have z : lcGo ws p t el (wipeT σT own) [] acc μ' = .bad := by
          simp only [lcGo, if_neg hw]
        rw [z] at fin
        exact fin.elim
theorem l_lc {elt : Expr} {ifs : List Expr} {scope : Scope} {own : List (Str × Nat)} {t : Option EM} {el : EM} (hc : X.calm = true) (hN : X.N.Nodup) (hi : PI X tg iter (tI (gx X tb) E it)) (ok : BlkOk X.N X.env.scope scope own) (hs : ∀ i ∈ pslots p, i ∈ own.map (·.2))
    (hg : ∀ (s : Shared) (H : Hp) (C : Addr) (cl : List (Str × Addr)) (fp : List Addr), PG (X.blk s H scope (compEnvC scope cl C X.env) fp) tg (tG X.K p)) (ht : ∀ (s : Shared) (H : Hp) (C : Addr) (cl : List (Str × Addr)) (fp : List Addr), PTs' (X.blk s H scope (compEnvC scope cl C X.env) fp) tb ifs t)
    (he : ∀ (s : Shared) (H : Hp) (C : Addr) (cl : List (Str × Addr)) (fp : List Addr), PE (X.blk s H scope (compEnvC scope cl C X.env) fp) elt (tE (gx X tb) E0 el)) (hf : ∀ x, foldedSetIterable iter X.env x = pure x := by intro _; rfl) :
    PE X (.ListComp elt [⟨tg, iter, ifs, 0⟩] scope pos) (tL (gx X tb) E (dLc it p (own.map (·.2)) t el)) :=
  (pe_lc hc hN hi ok hg (fun s H C cl fp => pts_of (ht s H C cl fp)) he hf).imp (tL_lc hs)
end
end TL
set_option Elab.async false
set_option linter.all false
set_option maxRecDepth 100000
set_option maxHeartbeats 2000000
/-! TL7: defs, calls, instances, dicts -/
namespace TL
open PySem PySem.Spec PyProof.Rows L2
/-! ### defs -/
abbrev Fn := List T → Mem → Res
def spT (g : G) (n : Nat) (F : Fn) : Sp := fun vs H Q E => ∃ ρ ts μ, MRel g ρ μ H ∧ DVs g.K ρ μ.length H ts vs ∧ ts.length = n ∧ Good g E Q ρ μ.length H (F ts μ)
def SRes.toR (r : SRes) : Res := match r with
  | .nx _ μ => .ok .non μ
  | .rt t μ => .ok t μ
  | .exc c fs μ => .exc c fs μ
  | _ => .bad
/-- a body run: nn its names, the parameters first -/
def runF (nn : Nat) (d : SM) : Fn := fun ts μ => (d (ts.map some ++ List.replicate (nn - ts.length) none) μ).toR
theorem start_rel {K : PySem.W.Frag} {ρ : Nat → Addr} {n : Nat} {H : Hp} {ts : List T} {vs : List V} {N : List Str} (d : DVs K ρ n H ts vs) : LRel K ρ n H (ts.map some ++ List.replicate (N.length - ts.length) none) (L2.start N vs) := by
  have hl := d.length
  unfold L2.start
  refine ⟨by simp [hl], fun i t e => ?_⟩
  by_cases hi : i < ts.length
  · rw [List.getElem?_append_left (by simpa using hi), List.getElem?_map] at e
    cases q : ts[i]? with
    | none => rw [q] at e; cases e
    | some u =>
      rw [q] at e; cases e
      obtain ⟨v, h1, h2⟩ := d.get q
      exact ⟨v, by rw [List.getElem?_append_left (by simpa [← hl] using hi), List.getElem?_map, h1]; rfl, h2⟩
  · rw [List.getElem?_append_right (by simpa using hi), List.getElem?_replicate] at e
    split at e <;> cases e
/-- how a def stands for its callers -/
structure Def (P : Program) (w : World) (K : PySem.W.Frag) (mg : Str → Option Value) (base : Heap) (tb : List (Addr × Str)) (x : Str) (n : Nat) (F : Fn) (k : Nat) : Prop where
  ex : ∃ f fd ps, FnOk P w K mg base (L2.CX P w) k f fd ps (spT ⟨K, mg, tb⟩ n F) ∧ mg x = some (.ref f) ∧ PySem.W.keepIn K (.ref f) = true ∧ Binds K fd ps []
/-- a method of the class c -/
structure MDef (P : Program) (w : World) (K : PySem.W.Frag) (mg : Str → Option Value) (base : Heap) (tb : List (Addr × Str)) (c m : Str) (n : Nat) (F : Fn) (k : Nat) : Prop where
  ex : ∃ C f fd ps, FnOk P w K mg base (L2.CX P w) k f fd ps (spT ⟨K, mg, tb⟩ n F) ∧ mg c = some (.ref C) ∧ Cls K C ∧ Meth K C m f ∧ Binds K fd ps []
/-- a class that is made by its __init__ -/
structure CDef (P : Program) (w : World) (K : PySem.W.Frag) (mg : Str → Option Value) (base : Heap) (tb : List (Addr × Str)) (c : Str) (n : Nat) (F : Fn) (k : Nat) : Prop where
  ex : ∃ C f fd ps, FnOk P w K mg base (L2.CX P w) k f fd ps (spT ⟨K, mg, tb⟩ n F) ∧ mg c = some (.ref C) ∧ Mk K C f ∧ Binds K fd ps []
section
variable {P : Program} {w : World} {K : PySem.W.Frag} {mg : Str → Option Value} {base : Heap} {tb : List (Addr × Str)}
/-- THE RULE of a def's body -/
theorem fn_body {x qual : Str} {st : Stmt} {f : Addr} {fd : FuncData} {N ps : List Str} {k : Nat} {d : SM} {F' : Fn} (F : Fun K x qual st f fd) (S : FnScope N ps (defScope st))
    (hb : ∀ (cdv : Value) (A : Around) (outer : List Env) (s : Shared) (H : Hp) (E : XK), Room k (A.deeper (envOfC qual (defScope st) s.heap.objs.size f cdv)) → PSs (cxOf (L2.CX P w) P w K mg base N qual (defScope st) f cdv A outer s H E) (defBody st) (tS ⟨K, mg, tb⟩ E d))
    (hF : ∀ ρ ts μ H E Q, MRel ⟨K, mg, tb⟩ ρ μ H → (∃ vs, DVs K ρ μ.length H ts vs) → ts.length = ps.length → Good ⟨K, mg, tb⟩ E Q ρ μ.length H (F' ts μ) → Good ⟨K, mg, tb⟩ E Q ρ μ.length H (runF N.length d ts μ)) :
    FnOk P w K mg base (L2.CX P w) (k + 1) f fd ps (spT ⟨K, mg, tb⟩ ps.length F') := by
  refine F.okX S (fun vs H Q E h => ?_) fun cdv A outer s H vs Q E hr h => ⟨_, hb cdv A outer s H E hr, ?_⟩
  · obtain ⟨ρ, ts, μ, m, d, hl, _⟩ := h
    rw [← d.length]; exact hl
  · obtain ⟨ρ, ts, μ, m, dv, hl, g⟩ := h
    have g2 := hF ρ ts μ H E Q m ⟨vs, dv⟩ hl g
    refine ⟨ρ, _, μ, m, start_rel dv, ?_⟩
    unfold runF at g2
    have e : ts.map some ++ List.replicate (N.length - ts.length) none = ts.map some ++ List.replicate (N.length - ts.length) none := rfl
    revert g2
    generalize d (ts.map some ++ List.replicate (N.length - ts.length) none) μ = r
    intro g2
    cases r with
    | nx σT μ' => exact fun ρ' σ' H' e m l => g2 ρ' .non H' e m rfl
    | rt t μ' => exact g2
    | exc c fs μ' => exact g2
    | bk σT μ' => exact g2.elim
    | ct σT μ' => exact g2.elim
    | bad => exact g2.elim
theorem Def.mono {x : Str} {n : Nat} {F : Fn} {j k : Nat} (d : Def P w K mg base tb x n F j) (h : j ≤ k) : Def P w K mg base tb x n F k := by
  obtain ⟨f, fd, ps, h1, h2⟩ := d.ex
  exact ⟨f, fd, ps, h1.mono h, h2⟩
theorem MDef.mono {c x : Str} {n : Nat} {F : Fn} {j k : Nat} (d : MDef P w K mg base tb c x n F j) (h : j ≤ k) : MDef P w K mg base tb c x n F k := by
  obtain ⟨C, f, fd, ps, h1, h2⟩ := d.ex
  exact ⟨C, f, fd, ps, h1.mono h, h2⟩
end
/-! ### calls -/
def dFn (n : Nat) (F : Fn) (d : AM) : EM := fun σ μ => d σ μ fun ts μ1 => if ts.length = n then F ts μ1 else .bad
section
variable {X : Cx} {tb : List (Addr × Str)} {E : XK} {e o : Expr} {es : List Expr} {d : AM} {dd : EM} {p pos apos : Pos} {x c m : Str} {n k : Nat} {F : Fn}
theorem pass_of (tk : Takes X (fun c d _ H => E c d H)) : Passes (L2.CX X.prog X.w) X E := passes_call tk fun _ _ _ _ h => h
theorem fn_args {g : G} {t : TA} (ha : AOk g E t d) : ∀ σ H Q, tE g E (dFn n F d) σ H Q → tCall (spT g n F) [] E t σ H Q := fun σ H Q h => by
  obtain ⟨ρ, σT, μ, m, l, h⟩ := h
  refine ha.go Q ρ σT μ σ H _ _ m l h fun ts μ1 ρ1 vs H1 e1 m1 ds q1 => ?_
  split at q1
  · rename_i hl
    exact ⟨ρ1, ts, μ1, m1, by rw [List.append_nil]; exact ds, hl, q1⟩
  · exact q1.elim
theorem e_call (D : Def X.prog X.w X.K X.mg X.base tb x n F k) (hr : Room k X.A) (tk : Takes X (fun c d _ H => E c d H)) (ha : PAd X tb E (e :: es) d) (hg : Gl X x := by rfl) (hdb : (x == ("__debug__" : Str)) = false := by decide)
    (he : starEach (e :: es) X.env = (false, eval e X.env) :: starEach es X.env := by rfl) (hpl : (backTo pos (starEach es X.env)).any (·.1) = false := by rfl) : PE X (.Call (.Name x p) (e :: es) [] pos) (tE (gx X tb) E (dFn n F d)) := by
  obtain ⟨f, fd, ps, h1, h2, h3, h4⟩ := D.ex
  obtain ⟨t, a1, a2⟩ := ha.ex
  exact (pe_call h1 hr hg h2 h3 h4 .nil (pass_of tk) a1 hdb he hpl).imp (fn_args a2)
theorem e_call0 (D : Def X.prog X.w X.K X.mg X.base tb x n F k) (hr : Room k X.A) (tk : Takes X (fun c d _ H => E c d H)) (hg : Gl X x := by rfl) (hdb : (x == ("__debug__" : Str)) = false := by decide) : PE X (.Call (.Name x p) [] [] pos) (tE (gx X tb) E (dFn n F aNil)) := by
  obtain ⟨f, fd, ps, h1, h2, h3, h4⟩ := D.ex
  exact (pe_call0 h1 hr hg h2 h3 h4 .nil (pass_of tk) hdb).imp (fn_args ao_nil)
theorem DVk.lookN {K : PySem.W.Frag} {ρ : Nat → Addr} {n : Nat} {H : Hp} {f : Str} : ∀ {fs : List (Str × T)} {ws : List (Str × V)}, DVk K ρ n H fs ws → fs.lookup f = none → ws.lookup f = none
  | [], _, d, _ => by rw [show _ = [] from d]; rfl
  | q :: fs, _, d, e => by
    obtain ⟨v, w, rfl, h2, h3⟩ := d
    obtain ⟨a, t⟩ := q
    simp only [List.lookup] at e ⊢
    split at e
    · cases e
    · exact DVk.lookN h3 e
theorem DVk.lookS {K : PySem.W.Frag} {ρ : Nat → Addr} {n : Nat} {H : Hp} {f : Str} {t : T} : ∀ {fs : List (Str × T)} {ws : List (Str × V)}, DVk K ρ n H fs ws → fs.lookup f = some t → ∃ v, ws.lookup f = some v ∧ DV K ρ n H t v
  | [], _, d, e => by cases e
  | q :: fs, _, d, e => by
    obtain ⟨v, w, rfl, h2, h3⟩ := d
    obtain ⟨a, u⟩ := q
    simp only [List.lookup] at e ⊢
    split at e
    · cases e; exact ⟨v, rfl, h2⟩
    · exact DVk.lookS h3 e
/-- o.m(..) of an instance of the class c -/
def dMeth (c m : Str) (n : Nat) (F : Fn) (dd : EM) (d : AM) : EM := fun σ μ => (dd σ μ).bind fun o μ1 => match o with
  | .ref k => match μ1[k]? with
    | some (.ins c' fs) => if c' = c ∧ fs.lookup m = none then d σ μ1 fun ts μ2 => if ts.length + 1 = n then F (.ref k :: ts) μ2 else .bad else .bad
    | _ => .bad
  | _ => .bad
theorem meth_args {t : TA} {C : Addr} (hC : X.mg c = some (.ref C)) (ha : AOk (gx X tb) E t d) : ∀ σ H Q, tE (gx X tb) E (dMeth c m n F dd d) σ H Q → tMeth C m (spT (gx X tb) n F) [] E (tE (gx X tb) E dd) t σ H Q := fun σ H Q h => by
  obtain ⟨ρ, σT, μ, mr, l, h⟩ := h
  refine bindE mr l h fun x μ1 ρ1 v H1 e1 m1 l1 dx h1 => ?_
  cases x with
  | ref k =>
    have h1 : Good (gx X tb) E Q ρ1 μ1.length H1 (match μ1[k]? with | some (.ins c' fs) => if c' = c ∧ fs.lookup m = none then d σT μ1 fun ts μ2 => if ts.length + 1 = n then F (.ref k :: ts) μ2 else .bad else .bad | _ => .bad) := h1
    split at h1
    · rename_i c' fs hk
      split at h1
      · rename_i hc
        obtain ⟨ho, q1, C', dx', ws, q2, rfl, q3⟩ := m1.ob k _ hk
        have q2 : X.mg c' = some (.ref C') := q2
        rw [hc.1, hC] at q2
        cases q2
        obtain ⟨hkl, rfl⟩ := dx
        refine ⟨ρ1 k, dx', ws, rfl, q1, q3.lookN hc.2, ?_⟩
        refine ha.go Q ρ1 σT μ1 σ H1 _ _ m1 l1 h1 fun ts μ2 ρ2 vs H2 e2 m2 ds g2 => ?_
        split at g2
        · rename_i hl
          exact ⟨ρ2, .ref k :: ts, μ2, m2, .cons ⟨Nat.lt_of_lt_of_le hkl e2.le, by rw [e2.ag k hkl]⟩ (by rw [List.append_nil]; exact ds), by simpa using hl, g2⟩
        · exact g2.elim
      · exact h1.elim
    · exact h1.elim
  | _ => exact (show False from h1).elim
theorem e_meth {pl : Sem Bool} (D : MDef X.prog X.w X.K X.mg X.base tb c m n F k) (ho : PE X o (tE (gx X tb) E dd)) (hr : Room k X.A) (tk : Takes X (fun c d _ H => E c d H)) (ha : PAd X tb E (e :: es) d)
    (hst : starEach (e :: es) X.env = (false, eval e X.env) :: starEach es X.env := by rfl) (hpl : (backTo pos (starEach es X.env)).any (·.1) = false := by rfl)
    (ht : eval (.Call (.Attribute o m apos) (e :: es) [] pos) X.env = (do
      let ov ← eval o X.env
      standAt apos.atName
      let (f, first) ← holding [ov] (getMethod ov m pl)
      callWith pos f first (backTo pos (starEach (e :: es) X.env)) (backToKw pos (keywordEach [] X.env))) := by rfl) : PE X (.Call (.Attribute o m apos) (e :: es) [] pos) (tE (gx X tb) E (dMeth c m n F dd d)) := by
  obtain ⟨C, f, fd, ps, h1, h2, h3, h4, h5⟩ := D.ex
  obtain ⟨t, a1, a2⟩ := ha.ex
  exact (pe_meth ho h3 h4 h1 hr h5 .nil (pass_of tk) a1 hst hpl ht).imp (meth_args h2 a2)
theorem e_meth0 {pl : Sem Bool} (D : MDef X.prog X.w X.K X.mg X.base tb c m n F k) (ho : PE X o (tE (gx X tb) E dd)) (hr : Room k X.A) (tk : Takes X (fun c d _ H => E c d H))
    (ht : eval (.Call (.Attribute o m apos) [] [] pos) X.env = (do
      let ov ← eval o X.env
      standAt apos.atName
      let (f, first) ← holding [ov] (getMethod ov m pl)
      callWith pos f first (backTo pos (starEach [] X.env)) (backToKw pos (keywordEach [] X.env))) := by rfl) : PE X (.Call (.Attribute o m apos) [] [] pos) (tE (gx X tb) E (dMeth c m n F dd aNil)) := by
  obtain ⟨C, f, fd, ps, h1, h2, h3, h4, h5⟩ := D.ex
  exact (pe_meth0 ho h3 h4 h1 hr h5 .nil (pass_of tk) ht).imp (meth_args h2 ao_nil)
/-- C(..) -/
def dMake (c : Str) (n : Nat) (F : Fn) (d : AM) : EM := fun σ μ => d σ μ fun ts μ1 => if ts.length + 1 = n then (F (.ref μ1.length :: ts) (μ1 ++ [.ins c []])).bind fun r μ2 => match r with
  | .non => .ok (.ref μ1.length) μ2
  | _ => .bad else .bad
theorem make_args {t : TA} {C : Addr} (hC : X.mg c = some (.ref C)) (ha : AOk (gx X tb) E t d) : ∀ σ H Q, tE (gx X tb) E (dMake c n F d) σ H Q → tMake C (spT (gx X tb) n F) [] E t σ H Q := fun σ H Q h => by
  obtain ⟨ρ, σT, μ, mr, l, h⟩ := h
  refine ha.go Q ρ σT μ σ H _ _ mr l h fun ts μ1 ρ1 vs H1 e1 m1 ds q1 => ?_
  intro x dx hx hdx hne
  split at q1
  · rename_i hl
    have a1 : Ext (gx X tb) ρ1 μ1.length H1 ρ1 μ1.length (upd H1 dx (.own x)) := Ext.fresh hdx _
    have b1 := m1.fresh (o := HO.own x) hdx
    have hx' : (upd H1 dx (.own x)) x = none := by rw [upd_ne (Ne.symm hne)]; exact hx
    have a2 : Ext (gx X tb) ρ1 μ1.length (upd H1 dx (.own x)) (ρadd ρ1 μ1.length x) (μ1.length + 1) (upd (upd H1 dx (.own x)) x (.ins C dx [])) := Ext.new hx' _
    have b2 := b1.new (mo := .ins c []) hx' ⟨C, dx, [], hC, rfl, rfl⟩
    have hl2 : (μ1 ++ [MO.ins c []]).length = μ1.length + 1 := by simp
    have a3 := a1.trans a2
    refine ⟨ρadd ρ1 μ1.length x, .ref μ1.length :: ts, μ1 ++ [.ins c []], b2, .cons ⟨by rw [hl2]; exact Nat.lt_succ_self _, by unfold ρadd; rw [if_pos rfl]⟩ (by rw [List.append_nil, hl2]; exact ds.ext a3), by simpa using hl, ?_⟩
    rw [hl2]
    refine Good.bind (Good.later a3 q1) fun r μ2 ρ2 w H2 _ e2 m2 dw g2 => ?_
    cases r with
    | non =>
      refine ⟨dw, g2 ρ2 (.ref x) H2 (Ext.refl _ _ _ _) m2 ⟨Nat.lt_of_lt_of_le (Nat.lt_succ_self _) e2.le, ?_⟩⟩
      rw [e2.ag _ (Nat.lt_succ_self _)]
      unfold ρadd; rw [if_pos rfl]
    | _ => exact (show False from g2).elim
  · exact q1.elim
theorem e_make (D : CDef X.prog X.w X.K X.mg X.base tb c n F k) (hr : Room (k + 1) X.A) (tk : Takes X (fun c d _ H => E c d H)) (ha : PAd X tb E (e :: es) d) (hg : Gl X c := by rfl) (hdb : (c == ("__debug__" : Str)) = false := by decide)
    (he : starEach (e :: es) X.env = (false, eval e X.env) :: starEach es X.env := by rfl) (hpl : (backTo pos (starEach es X.env)).any (·.1) = false := by rfl) : PE X (.Call (.Name c p) (e :: es) [] pos) (tE (gx X tb) E (dMake c n F d)) := by
  obtain ⟨C, f, fd, ps, h1, h2, h3, h4⟩ := D.ex
  obtain ⟨t, a1, a2⟩ := ha.ex
  exact (pe_make h3 h1 hr hg h2 h4 .nil (pass_of tk) a1 hdb he hpl).imp (make_args h2 a2)
theorem e_make0 (D : CDef X.prog X.w X.K X.mg X.base tb c n F k) (hr : Room (k + 1) X.A) (tk : Takes X (fun c d _ H => E c d H)) (hg : Gl X c := by rfl) (hdb : (c == ("__debug__" : Str)) = false := by decide) : PE X (.Call (.Name c p) [] [] pos) (tE (gx X tb) E (dMake c n F aNil)) := by
  obtain ⟨C, f, fd, ps, h1, h2, h3, h4⟩ := D.ex
  exact (pe_make0 h3 h1 hr hg h2 h4 .nil (pass_of tk) hdb).imp (make_args h2 ao_nil)
/-! ### fields -/
/-- what must be known of a class to read and store its field f -/
def FldOk (K : PySem.W.Frag) (mg : Str → Option Value) (c f : Str) : Prop := ∃ C, mg c = some (.ref C) ∧ Cls K C ∧ NoAttr K C f
def fldT (c f : Str) : T → Mem → Res := fun o μ => match o with
  | .ref k => match μ[k]? with
    | some (.ins c' fs) => if c' = c then (match fs.lookup f with
      | some t => .ok t μ
      | none => .bad) else .bad
    | _ => .bad
  | _ => .bad
theorem e_fld {f : Str} (h : FldOk X.K X.mg c f) (he : PE X o (tE (gx X tb) E dd)) (hb : attributeBase o f X.env (eval o X.env) = eval o X.env := by rfl) : PE X (.Attribute o f pos) (tE (gx X tb) E (d1 (fldT c f) dd)) :=
  (pe_fld he hb).imp fun σ H Q q => by
    obtain ⟨C, hC, cl, na⟩ := h
    obtain ⟨ρ, σT, μ, mr, l, q⟩ := q
    refine bindE mr l q fun x μ1 ρ1 v H1 e1 m1 l1 dx h1 => ?_
    unfold fldT at h1
    split at h1
    · rename_i k
      split at h1
      · rename_i c' fs hk
        split at h1
        · rename_i hc
          split at h1
          · rename_i t ht
            obtain ⟨ho, q1, C', dx', ws, q2, rfl, q3⟩ := m1.ob k _ hk
            have q2 : X.mg c' = some (.ref C') := q2
            rw [hc, hC] at q2
            cases q2
            obtain ⟨hkl, rfl⟩ := dx
            obtain ⟨w, hw, dw⟩ := q3.lookS ht
            exact ⟨_, C, dx', ws, w, rfl, q1, cl, na, hw, h1.same m1 dw⟩
          · exact h1.elim
        · exact h1.elim
      · exact h1.elim
    · exact h1.elim
def putT (f : Str) (v : T) : List (Str × T) → List (Str × T)
  | [] => [(f, v)]
  | (g, x) :: r => if g = f then (g, v) :: r else (g, x) :: putT f v r
theorem DVk.put {K : PySem.W.Frag} {ρ : Nat → Addr} {n : Nat} {H : Hp} {f : Str} {t : T} {v : V} (d : DV K ρ n H t v) : ∀ {fs : List (Str × T)} {ws : List (Str × V)}, DVk K ρ n H fs ws → DVk K ρ n H (putT f t fs) (L2.putF f v ws)
  | [], _, h => by rw [show _ = [] from h]; exact ⟨v, [], rfl, d, rfl⟩
  | (a, u) :: fs, _, h => by
    obtain ⟨w, r, rfl, h2, h3⟩ := h
    unfold putT
    rw [show L2.putF f v ((a, w) :: r) = (if a = f then (a, v) :: r else (a, w) :: L2.putF f v r) from rfl]
    by_cases e : a = f
    · rw [if_pos e, if_pos e]; exact ⟨v, r, rfl, d, h3⟩
    · rw [if_neg e, if_neg e]; exact ⟨w, _, rfl, h2, DVk.put d h3⟩
/-- o.f = e -/
def sFldT (c f : Str) (dd dv : EM) : SM := fun σ μ => (dv σ μ).toS fun v μ1 => (dd σ μ1).toS fun o μ2 => match o with
  | .ref k => match μ2[k]? with
    | some (.ins c' fs) => if c' = c ∧ fs.length < 1000 then .nx σ (μ2.set k (.ins c' (putT f v fs))) else .bad
    | _ => .bad
  | _ => .bad
theorem s_fld {f : Str} {dv : EM} {pos' : Pos} (h : FldOk X.K X.mg c f) (he : PE X o (tE (gx X tb) E dd)) (hv : PE X e (tE (gx X tb) E dv)) (hs : swapsWith e (some (.Attribute o f pos')) pos.line X.env = pure false := by rfl) : PS X (.Assign [.Attribute o f pos'] e pos) (tS (gx X tb) E (sFldT c f dd dv)) :=
  (ps_fld he hv hs).imp fun D σ H q => by
    obtain ⟨C, hC, cl, na⟩ := h
    obtain ⟨ρ, σT, μ, mr, l, q⟩ := q
    refine bindS (Q := D.rt) mr l q fun x μ1 ρ1 v H1 e1 m1 l1 dx h1 => ?_
    refine bindS (Q := D.rt) m1 l1 h1 fun y μ2 ρ2 w H2 e2 m2 l2 dy h2 => ?_
    split at h2
    · rename_i k
      split at h2
      · rename_i c' fs hk
        split at h2
        · rename_i hc
          obtain ⟨ho, q1, C', dx', ws, q2, rfl, q3⟩ := m2.ob k _ hk
          have q2' : X.mg c' = some (.ref C') := q2
          rw [hc.1, hC] at q2'
          cases q2'
          obtain ⟨hkl, rfl⟩ := dy
          have pe : Ext (gx X tb) ρ2 μ2.length H2 ρ2 μ2.length (upd H2 (ρ2 k) (.ins C dx' (L2.putF f v ws))) := Ext.put m2 hk
          refine ⟨_, C, dx', ws, rfl, q1, cl, na, by rw [← q3.length]; exact hc.2, ?_⟩
          exact h2 ρ2 σ _ (by rw [List.length_set]; exact pe) (m2.put hk ⟨C, dx', _, q2, rfl, q3.put (dx.ext e2)⟩) (by rw [List.length_set]; exact l2.ext pe)
        · exact h2.elim
      · exact h2.elim
    · exact h2.elim
end
end TL
set_option Elab.async false
set_option linter.all false
set_option maxRecDepth 100000
set_option maxHeartbeats 2000000
/-! TL8: built-ins, methods, dicts, slices, raise -/
namespace TL
open PySem PySem.Spec PyProof.Rows L2
section
variable {X : Cx} {tb : List (Addr × Str)} {E : XK} {a b e o : Expr} {es : List Expr} {da db dd : EM} {d : AM} {pos p apos cpos : Pos}
/-! ### isinstance of a built-in type -/
def tyName (x : T) (μ : Mem) : Option String := match x with
  | .non => some "NoneType"
  | .bl _ => some "bool"
  | .int _ => some "int"
  | .str _ => some "str"
  | .tup _ => some "tuple"
  | .er _ _ => none
  | .fl _ => none
  | .ref k => match μ[k]? with
    | some (.lst _) => some "list"
    | some (.dct _) => some "dict"
    | some (.lck _) => some "dict"
    | _ => none
theorem tyName_of {g : G} {ρ : Nat → Addr} {μ : Mem} {H : Hp} {x : T} {v : V} {n : String} (m : MRel g ρ μ H) (h : DV g.K ρ μ.length H x v) (e : tyName x μ = some n) : TyX g.K H v (.type n) := by
  cases x with
  | non => cases e; rw [show v = _ from h]; exact .base .non
  | bl b => cases e; rw [show v = _ from h]; exact .base (.bl b)
  | int b => cases e; rw [show v = _ from h]; exact .base (.int b)
  | str b => cases e; rw [show v = _ from h]; exact .base (.str b)
  | er _ _ => cases e
  | fl b => cases e
  | tup ts =>
    cases e
    obtain ⟨a, vs, rfl, h2, h3⟩ := h
    rcases h2 with (h2 | ⟨o, h2⟩) | ⟨o, its, n, h2, h4, _⟩
    · exact .base (.tup h2)
    · exact .fTuple h2
    · exact .kTuple h2 h4
  | ref k =>
    obtain ⟨h1, rfl⟩ := h
    unfold tyName at e
    dsimp only at e
    split at e
    · rename_i hk
      cases e
      obtain ⟨ho, q1, vs, rfl, q2⟩ := m.ob k _ hk
      exact .base (.lst q1)
    · rename_i hk
      cases e
      obtain ⟨ho, q1, vs, rfl, q2⟩ := m.ob k _ hk
      exact .base (.dK q1)
    · rename_i hk
      cases e
      obtain ⟨ho, q1, od, vs, rfl, q2⟩ := m.ob k _ hk
      exact .fDict q1
    · cases e
def isiT (ty : String) : T → Mem → Res := fun x μ => match tyName x μ with
  | some n => match kitB n ty with
    | some b => .ok (.bl b) μ
    | none => .bad
  | none => .bad
theorem e_isi {x : Str} {px : Pos} (ty : String) (hm : X.mg "isinstance" = none) (hm2 : X.mg x = none) (ha : PE X a (tE (gx X tb) E da)) (hv2 : bootBuiltins x = some (.type ty) := by decide +kernel) (hg : Gl X "isinstance" := by rfl) (hg2 : Gl X x := by rfl)
    (hn2 : x ≠ "__name__" := by decide) (hd2 : (x == ("__debug__" : Str)) = false := by decide) (hv : bootBuiltins "isinstance" = some (.builtin "isinstance") := by decide +kernel)
    (hs : starEach [a, .Name x px] X.env = (false, eval a X.env) :: starEach [.Name x px] X.env := by rfl) (hs2 : starEach [.Name x px] X.env = [(false, eval (.Name x px) X.env)] := by rfl) (hpl : (backTo pos (starEach [.Name x px] X.env)).any (·.1) = false := by rfl) :
    PE X (.Call (.Name "isinstance" p) [a, .Name x px] [] pos) (tE (gx X tb) E (d1 (isiT ty) da)) :=
  (pe_callB call_isi hg hm hv (pa_cons ha (pa_cons (pe_bltn (v := .ty ty) hg2 hm2 hv2 rfl hn2 hd2) pa_nil hs2) hs) (by decide) (by decide) hs hpl).imp fun σ H Q h => by
    obtain ⟨ρ, σT, μ, m, l, h⟩ := h
    refine bindE m l h fun x μ1 ρ1 v H1 e1 m1 l1 dx h1 => ?_
    unfold isiT at h1
    split at h1
    · rename_i n hn
      split at h1
      · rename_i b hb
        exact ⟨v, .ty ty, .type n, .type ty, b, rfl, .ty ty, tyName_of m1 dx hn, kit_ty hb, h1.same m1 rfl⟩
      · exact h1.elim
    · exact h1.elim
/-! ### all, any, sum, of lists just made -/
def allQ : List T → Mem → Res := fun ts μ => match unB ts with
  | some bs => .ok (.bl (bs.all id)) μ
  | none => .bad
def anyQ : List T → Mem → Res := fun ts μ => match unB ts with
  | some bs => .ok (.bl (bs.any id)) μ
  | none => .bad
def sumQ : List T → Mem → Res := fun ts μ => match unI ts with
  | some ns => .ok (.int ns.sum) μ
  | none => .bad
theorem cq_all (hc : X.calm = true) : CallQ sLst X tb (.builtin "all") allQ := ⟨_, cr_all hc, fun E Q ρ μ H ts a vs m h d g => by
  unfold allQ at g
  split at g
  · rename_i bs hb
    exact ⟨a, bs, rfl, by rw [← unB_of d hb]; exact h, g.same m rfl⟩
  · exact g.elim⟩
theorem cq_any (hc : X.calm = true) : CallQ sLst X tb (.builtin "any") anyQ := ⟨_, cr_any hc, fun E Q ρ μ H ts a vs m h d g => by
  unfold anyQ at g
  split at g
  · rename_i bs hb
    exact ⟨a, bs, rfl, by rw [← unB_of d hb]; exact h, g.same m rfl⟩
  · exact g.elim⟩
theorem cq_sum (hc : X.calm = true) : CallQ sLst X tb (.builtin "sum") sumQ := ⟨_, cr_sum hc, fun E Q ρ μ H ts a vs m h d g => by
  unfold sumQ at g
  split at g
  · rename_i bs hb
    exact ⟨a, bs, rfl, by rw [← unI_of d hb]; exact h, g.same m rfl⟩
  · exact g.elim⟩
/-! ### abs, int, min, max, len -/
def absC : List T → Mem → Res := fun ts μ => match ts with
  | [.int i] => .ok (.int (if i < 0 then -i else i)) μ
  | _ => .bad
theorem cl_abs : CallL X tb (.builtin "abs") absC := ⟨_, call_abs, fun E Q ρ μ H ts vs m d g => by
  unfold absC at g
  split at g
  · obtain ⟨v, r, rfl, h2, h3⟩ := d
    exact ⟨_, by rw [show v = _ from h2, show r = [] from h3], g.same m rfl⟩
  · exact g.elim⟩
def intC : List T → Mem → Res := fun ts μ => match ts with
  | [.int i] => .ok (.int i) μ
  | [.bl b] => .ok (.int (if b then 1 else 0)) μ
  | _ => .bad
theorem cl_int : CallL X tb (.type "int") intC := ⟨_, call_int1, fun E Q ρ μ H ts vs m d g => by
  unfold intC at g
  split at g
  · obtain ⟨v, r, rfl, h2, h3⟩ := d
    exact .inl ⟨_, by rw [show v = _ from h2, show r = [] from h3], g.same m rfl⟩
  · obtain ⟨v, r, rfl, h2, h3⟩ := d
    exact .inr ⟨_, by rw [show v = _ from h2, show r = [] from h3], g.same m rfl⟩
  · exact g.elim⟩
def max2C : List T → Mem → Res := fun ts μ => match ts with
  | [.int i, .int j] => .ok (.int (if j > i then j else i)) μ
  | _ => .bad
theorem cl_max2 (hc : X.calm = true) : CallL X tb (.builtin "max") max2C := ⟨_, call_max2 hc, fun E Q ρ μ H ts vs m d g => by
  unfold max2C at g
  split at g
  · obtain ⟨v, r, rfl, h2, w, r2, rfl, h3, h4⟩ := d
    exact ⟨_, _, by rw [show v = _ from h2, show w = _ from h3, show r2 = [] from h4], g.same m rfl⟩
  · exact g.elim⟩
def min2C : List T → Mem → Res := fun ts μ => match ts with
  | [.int i, .int j] => .ok (.int (if j < i then j else i)) μ
  | _ => .bad
theorem cl_min2 (hc : X.calm = true) : CallL X tb (.builtin "min") min2C := ⟨_, call_min2 hc, fun E Q ρ μ H ts vs m d g => by
  unfold min2C at g
  split at g
  · obtain ⟨v, r, rfl, h2, w, r2, rfl, h3, h4⟩ := d
    exact ⟨_, _, by rw [show v = _ from h2, show w = _ from h3, show r2 = [] from h4], g.same m rfl⟩
  · exact g.elim⟩
def lenC : List T → Mem → Res := fun ts μ => match ts with
  | [.str z] => if z.length ≤ sizeLine then .ok (.int z.length) μ else .bad
  | [.ref k] => (match μ[k]? with
    | some (.lst xs) => .ok (.int xs.length) μ
    | some (.dct kvs) => .ok (.int kvs.length) μ
    | _ => .bad)
  | [.tup xs] => .ok (.int xs.length) μ
  | _ => .bad
theorem cl_len : CallL X tb (.builtin "len") lenC := ⟨_, CallR.or call_len_seq (CallR.or call_len_str call_lenD), fun E Q ρ μ H ts vs m d g => by
  unfold lenC at g
  split at g
  · split at g
    · rename_i hz
      obtain ⟨v, r, rfl, h2, h3⟩ := d
      exact .inr (.inl ⟨_, by rw [show v = _ from h2, show r = [] from h3], hz, g.same m rfl⟩)
    · exact g.elim
  · obtain ⟨v, r, rfl, h2, h3⟩ := d
    rw [show r = [] from h3]
    split at g
    · rename_i k _ xs hk
      obtain ⟨hkl, rfl⟩ := h2
      obtain ⟨ho, q1, ws, rfl, q2⟩ := m.ob k _ hk
      exact .inl ⟨_, ws, rfl, .inl (SqL.of q1), by rw [← q2.length]; exact g.same m rfl⟩
    · rename_i k _ xs hk
      obtain ⟨hkl, rfl⟩ := h2
      obtain ⟨ho, q1, ws, rfl, q2⟩ := m.ob k _ hk
      exact .inr (.inr ⟨_, ws, rfl, q1, by rw [← q2.length]; exact g.same m rfl⟩)
    · exact g.elim
  · obtain ⟨v, r, rfl, ⟨a, ws, rfl, q2, q3⟩, h3⟩ := d
    rw [show r = [] from h3]
    exact .inl ⟨_, ws, rfl, .inr q2, by rw [← q3.length]; exact g.same m rfl⟩
  · exact g.elim⟩
/-! ### methods of lists -/
def isLst (μ : Mem) : T → Bool
  | .ref k => match μ[k]? with
    | some (.lst _) => true
    | _ => false
  | _ => false
def dLM (k : T → List T → Mem → Res) (dd : EM) (d : AM) : EM := fun σ μ => (dd σ μ).bind fun o μ1 => if isLst μ1 o = true then d σ μ1 fun ts μ2 => k o ts μ2 else .bad
/-- o.m(..), o a list -/
def MtL (X : Cx) (tb : List (Addr × Str)) (id : String) (k : T → List T → Mem → Res) : Prop :=
  ∃ r : V → List V → Hp → VK → Prop, MtR X id r ∧ ∀ (E : XK) (Q : VK) (ρ : Nat → Addr) (μ : Mem) (H : Hp) (x : T) (v : V) (ts : List T) (vs : List V), MRel (gx X tb) ρ μ H → DV X.K ρ μ.length H x v → DVs X.K ρ μ.length H ts vs → Good (gx X tb) E Q ρ μ.length H (k x ts μ) → r v vs H Q
theorem e_lm {name : Str} {id : String} {k : T → List T → Mem → Res} (h : MtL X tb id k) (slot : Slot "list" name id) (hty : typeOf (.builtin id) = pure (.type "method_descriptor")) (ho : PE X o (tE (gx X tb) E dd)) (ha : PAd X tb E (e :: es) d)
    (hbase : attributeBase o name X.env (eval o X.env) = eval o X.env := by rfl)
    (hfew : ((backTo cpos (starEach (e :: es) X.env)).all (fun x => !x.1) && (backToKw cpos (keywordEach [] X.env)).all (fun x => x.1.isSome)
      && decide ((e :: es).length + ([] : List Keyword).length + (if ([] : List Keyword).isEmpty then 0 else 1) < 30)) = true := by rfl)
    (hline : (apos.endLine == cpos.line) = true := by rfl) (hs : starEach (e :: es) X.env = (false, eval e X.env) :: starEach es X.env := by rfl) (hplain : (backTo cpos (starEach es X.env)).any (·.1) = false := by rfl) :
    PE X (.Call (.Attribute o name apos) (e :: es) [] cpos) (tE (gx X tb) E (dLM k dd d)) := by
  obtain ⟨r, h1, h2⟩ := h
  obtain ⟨t, a1, a2⟩ := ha.ex
  refine (pe_bm PySem.F.plainAttrs_list slot hty h1 ho a1 hbase hfew hline hs hplain).imp fun σ H Q q => ?_
  obtain ⟨ρ, σT, μ, m, l, q⟩ := q
  refine bindE m l q fun x μ1 ρ1 v H1 e1 m1 l1 dx g1 => ?_
  split at g1
  · rename_i hl
    refine ⟨?_, a2.go Q ρ1 σT μ1 σ H1 _ _ m1 l1 g1 fun ts μ2 ρ2 vs H2 e2 m2 ds g2 => h2 E Q ρ2 μ2 H2 x v ts vs m2 (dx.ext e2) ds g2⟩
    cases x with
    | ref k =>
      unfold isLst at hl
      dsimp only at hl
      obtain ⟨hkl, rfl⟩ := dx
      split at hl
      · rename_i xs hk
        obtain ⟨ho, q1, ws, rfl, q2⟩ := m1.ob k _ hk
        exact .inl ⟨rfl, ws, SqL.of q1⟩
      · cases hl
    | _ => cases hl
  · exact g1.elim
theorem e_lm0 {name : Str} {id : String} {k : T → List T → Mem → Res} (h : MtL X tb id k) (slot : Slot "list" name id) (hty : typeOf (.builtin id) = pure (.type "method_descriptor")) (ho : PE X o (tE (gx X tb) E dd))
    (hbase : attributeBase o name X.env (eval o X.env) = eval o X.env := by rfl) (hline : (apos.endLine == cpos.line) = true := by rfl) : PE X (.Call (.Attribute o name apos) [] [] cpos) (tE (gx X tb) E (dLM k dd aNil)) := by
  obtain ⟨r, h1, h2⟩ := h
  refine (pe_bm0 PySem.F.plainAttrs_list slot hty h1 ho hbase hline).imp fun σ H Q q => ?_
  obtain ⟨ρ, σT, μ, m, l, q⟩ := q
  refine bindE m l q fun x μ1 ρ1 v H1 e1 m1 l1 dx g1 => ?_
  split at g1
  · rename_i hl
    refine ⟨?_, h2 E Q ρ1 μ1 H1 x v [] [] m1 dx rfl g1⟩
    cases x with
    | ref k =>
      unfold isLst at hl
      dsimp only at hl
      obtain ⟨hkl, rfl⟩ := dx
      split at hl
      · rename_i xs hk
        obtain ⟨ho, q1, ws, rfl, q2⟩ := m1.ob k _ hk
        exact .inl ⟨rfl, ws, SqL.of q1⟩
      · cases hl
    | _ => cases hl
  · exact g1.elim
def appendT : T → List T → Mem → Res := fun x ts μ => match x, ts with
  | .ref k, [y] => (match μ[k]? with
    | some (.lst xs) => if xs.length < sizeLine then .ok .non (μ.set k (.lst (xs ++ [y]))) else .bad
    | _ => .bad)
  | _, _ => .bad
theorem ml_append : MtL X tb "list.append" appendT := ⟨_, mt_append, fun E Q ρ μ H x v ts vs m dx ds g => by
  unfold appendT at g
  split at g
  · split at g
    · rename_i k y _ xs hk
      split at g
      · rename_i hz
        obtain ⟨hkl, rfl⟩ := dx
        obtain ⟨w, r, rfl, h2, h3⟩ := ds
        rw [show r = [] from h3]
        obtain ⟨ho, q1, ws, rfl, q2⟩ := m.ob k _ hk
        exact ⟨_, ws, w, rfl, rfl, q1, by rw [← q2.length]; exact hz, g.put m hk ⟨_, rfl, q2.append (.cons h2 .nil)⟩ rfl⟩
      · exact g.elim
    · exact g.elim
  · exact g.elim⟩
def extendT : T → List T → Mem → Res := fun x ts μ => match x, ts with
  | .ref k, [.ref j] => (match μ[k]?, μ[j]? with
    | some (.lst xs), some (.lst ys) => if xs.length + ys.length ≤ sizeLine then .ok .non (μ.set k (.lst (xs ++ ys))) else .bad
    | _, _ => .bad)
  | _, _ => .bad
theorem ml_extend : MtL X tb "list.extend" extendT := ⟨_, mt_extend, fun E Q ρ μ H x v ts vs m dx ds g => by
  unfold extendT at g
  split at g
  · split at g
    · rename_i k j _ _ xs ys hk hj
      split at g
      · rename_i hz
        obtain ⟨hkl, rfl⟩ := dx
        obtain ⟨w, r, rfl, ⟨hjl, rfl⟩, h3⟩ := ds
        rw [show r = [] from h3]
        obtain ⟨ho, q1, ws, rfl, q2⟩ := m.ob k _ hk
        obtain ⟨ho', q1', ws', rfl, q2'⟩ := m.ob j _ hj
        exact ⟨_, _, ws, ws', rfl, rfl, q1, q1', by rw [← q2.length, ← q2'.length]; exact hz, g.put m hk ⟨_, rfl, q2.append q2'⟩ rfl⟩
      · exact g.elim
    · exact g.elim
  · exact g.elim⟩
def popT : T → List T → Mem → Res := fun x ts μ => match x, ts with
  | .ref k, [] => (match μ[k]? with
    | some (.lst xs) => match xs[xs.length - 1]? with
      | some y => .ok y (μ.set k (.lst xs.dropLast))
      | none => .bad
    | _ => .bad)
  | _, _ => .bad
theorem DVs.dropLast {K : PySem.W.Frag} {ρ : Nat → Addr} {n : Nat} {H : Hp} {ts : List T} {vs : List V} (h : DVs K ρ n H ts vs) : DVs K ρ n H ts.dropLast vs.dropLast := by
  rw [List.dropLast_eq_take, List.dropLast_eq_take, ← h.length]
  exact h.take _
theorem ml_pop : MtL X tb "list.pop" popT := ⟨_, mt_pop, fun E Q ρ μ H x v ts vs m dx ds g => by
  unfold popT at g
  split at g
  · split at g
    · rename_i k _ xs hk
      split at g
      · rename_i y hy
        obtain ⟨hkl, rfl⟩ := dx
        obtain ⟨ho, q1, ws, rfl, q2⟩ := m.ob k _ hk
        obtain ⟨w, hw, dw⟩ := q2.get hy
        exact ⟨_, ws, w, rfl, ds, q1, by rw [← q2.length]; exact hw, g.put m hk ⟨_, rfl, q2.dropLast⟩ dw⟩
      · exact g.elim
    · exact g.elim
  · exact g.elim⟩
/-! ### dicts -/
def keyT : T → Option Key
  | .int i => some (.inl i)
  | .str x => some (.inr x)
  | _ => none
def ktT : Key → T
  | .inl i => .int i
  | .inr x => .str x
theorem keyT_of {K : PySem.W.Frag} {ρ : Nat → Addr} {n : Nat} {H : Hp} {t : T} {v : V} {k : Key} (h : DV K ρ n H t v) (e : keyT t = some k) : v = kV k := by
  cases t <;> first
    | (cases e; exact h)
    | cases e
section
variable {κ : Type} [DecidableEq κ]
def valT (kvs : List (κ × T)) (k : κ) : Option T := (kvs.find? fun kv => decide (kv.1 = k)).map (·.2)
def putKT (kvs : List (κ × T)) (k : κ) (v : T) : List (κ × T) :=
  if (kvs.any fun kv => decide (kv.1 = k)) = true then kvs.map (fun kv => if kv.1 = k then (kv.1, v) else kv) else kvs ++ [(k, v)]
variable {K : PySem.W.Frag} {ρ : Nat → Addr} {n : Nat} {H : Hp}
theorem DVk.val {k : κ} : ∀ {ts : List (κ × T)} {vs : List (κ × V)}, DVk K ρ n H ts vs → (valT ts k = none ∧ valV vs k = none) ∨ ∃ t v, valT ts k = some t ∧ valV vs k = some v ∧ DV K ρ n H t v
  | [], _, h => by rw [show _ = [] from h]; exact .inl ⟨rfl, rfl⟩
  | q :: ts, _, h => by
    obtain ⟨v, r, rfl, h2, h3⟩ := h
    by_cases e : q.1 = k
    · exact .inr ⟨q.2, v, by simp [valT, List.find?_cons, e], by simp [valV, List.find?_cons, e], h2⟩
    · have e1 : valT (q :: ts) k = valT ts k := by simp [valT, List.find?_cons, e]
      have e2 : valV ((q.1, v) :: r) k = valV r k := by simp [valV, List.find?_cons, e]
      rw [e1, e2]
      exact DVk.val h3
theorem DVk.any {k : κ} : ∀ {ts : List (κ × T)} {vs : List (κ × V)}, DVk K ρ n H ts vs → (ts.any fun kv => decide (kv.1 = k)) = (vs.any fun kv => decide (kv.1 = k))
  | [], _, h => by rw [show _ = [] from h]; rfl
  | q :: ts, _, h => by
    obtain ⟨v, r, rfl, h2, h3⟩ := h
    simp only [List.any_cons]
    rw [DVk.any h3]
theorem DVk.mapIf {k : κ} {t : T} {w : V} (d : DV K ρ n H t w) : ∀ {ts : List (κ × T)} {vs : List (κ × V)}, DVk K ρ n H ts vs → DVk K ρ n H (ts.map fun kv => if kv.1 = k then (kv.1, t) else kv) (vs.map fun kv => if kv.1 = k then (kv.1, w) else kv)
  | [], _, h => by rw [show _ = [] from h]; exact rfl
  | q :: ts, _, h => by
    obtain ⟨v, r, rfl, h2, h3⟩ := h
    simp only [List.map_cons]
    by_cases e : q.1 = k
    · rw [if_pos e, if_pos e]; exact ⟨w, _, rfl, d, DVk.mapIf d h3⟩
    · rw [if_neg e, if_neg e]; exact ⟨v, _, rfl, h2, DVk.mapIf d h3⟩
theorem DVk.append {κ : Type} : ∀ {ts us : List (κ × T)} {vs ws : List (κ × V)}, DVk K ρ n H ts vs → DVk K ρ n H us ws → DVk K ρ n H (ts ++ us) (vs ++ ws)
  | [], _, _, _, h, h' => by rw [show _ = [] from h]; exact h'
  | t :: ts, _, _, _, h, h' => by
    obtain ⟨v, r, rfl, h2, h3⟩ := h
    exact ⟨v, _, rfl, h2, DVk.append h3 h'⟩
theorem DVk.putK {k : κ} {t : T} {w : V} (d : DV K ρ n H t w) {ts : List (κ × T)} {vs : List (κ × V)} (h : DVk K ρ n H ts vs) : DVk K ρ n H (putKT ts k t) (L2.putK vs k w) := by
  unfold putKT L2.putK
  rw [h.any]
  split
  · exact h.mapIf d
  · exact h.append ⟨w, [], rfl, d, rfl⟩
end
def dctT (μ : Mem) : T → Option (List (Key × T))
  | .ref k => match μ[k]? with
    | some (.dct kvs) => some kvs
    | some (.lck kvs) => some kvs
    | _ => none
  | _ => none
theorem dctT_of {g : G} {ρ : Nat → Addr} {μ : Mem} {H : Hp} {x : T} {v : V} {kvs : List (Key × T)} (m : MRel g ρ μ H) (h : DV g.K ρ μ.length H x v) (e : dctT μ x = some kvs) : ∃ a ws, v = .ref a ∧ Rd H a (.dK ws) ∧ DVk g.K ρ μ.length H kvs ws := by
  cases x with
  | ref k =>
    obtain ⟨hkl, rfl⟩ := h
    unfold dctT at e
    dsimp only at e
    split at e
    · rename_i ks hk
      cases e
      obtain ⟨ho, q1, ws, rfl, q2⟩ := m.ob k _ hk
      exact ⟨_, ws, rfl, .inl q1, q2⟩
    · rename_i ks hk
      cases e
      obtain ⟨ho, q1, od, ws, rfl, q2⟩ := m.ob k _ hk
      exact ⟨_, ws, rfl, .inr ⟨od, q1⟩, q2⟩
    · cases e
  | _ => cases e
/-- y in d, also in sequences -/
def inDT : T → T → Mem → Res := fun x y μ => match dctT μ y with
  | some kvs => match keyT x with
    | some k => .ok (.bl (valT kvs k).isSome) μ
    | none => .bad
  | none => inT x y μ
def notInDT : T → T → Mem → Res := fun x y μ => match dctT μ y with
  | some kvs => match keyT x with
    | some k => .ok (.bl (!(valT kvs k).isSome)) μ
    | none => .bad
  | none => notInT x y μ
theorem op_in_dict (hu : X.A.units + 1 < cLine) : OpR X (compareOp .In) (fun x y H Q => ∃ a o, y = .ref a ∧ DGet H a x o ∧ Q (.bl o.isSome) H) := by
  intro pins s σ H x y v u Q I rx ry h
  obtain ⟨a, o, rfl, g, q⟩ := h
  obtain rfl : u = Value.ref a := ry
  exact d_in hu I g rx fun s' I' => ⟨.bl o.isSome, H, I', rfl, q⟩
theorem op_notIn_dict (hu : X.A.units + 1 < cLine) : OpR X (compareOp .NotIn) (fun x y H Q => ∃ a o, y = .ref a ∧ DGet H a x o ∧ Q (.bl (!o.isSome)) H) := by
  intro pins s σ H x y v u Q I rx ry h
  obtain ⟨a, o, rfl, g, q⟩ := h
  obtain rfl : u = Value.ref a := ry
  exact d_notIn hu I g rx fun s' I' => ⟨.bl (!o.isSome), H, I', rfl, q⟩
theorem dget_of {K : PySem.W.Frag} {ρ : Nat → Addr} {n : Nat} {H : Hp} {a : Addr} {x : T} {v : V} {k : Key} {ws : List (Key × V)} (h : Rd H a (.dK ws)) (dx : DV K ρ n H x v) (e : keyT x = some k) : DGet H a v (valV ws k) := .inl ⟨ws, k, h, keyT_of dx e, rfl⟩
theorem opl_inD (hu : X.A.units + 65 < cLine) : OpL X tb (compareOp .In) inDT := by
  obtain ⟨r, h1, h2⟩ := opl_in (X := X) (tb := tb) hu
  refine ⟨_, (op_in_dict (by omega)).or h1, fun E Q ρ μ H x y v u m dx dy g => ?_⟩
  unfold inDT at g
  split at g
  · rename_i kvs hk
    split at g
    · rename_i k hkey
      obtain ⟨a, ws, rfl, q1, q2⟩ := dctT_of m dy hk
      refine .inl ⟨a, _, rfl, dget_of q1 dx hkey, ?_⟩
      have e : (valV ws k).isSome = (valT kvs k).isSome := by
        rcases q2.val (k := k) with ⟨e1, e2⟩ | ⟨t, w, e1, e2, _⟩
        · rw [e1, e2]; rfl
        · rw [e1, e2]; rfl
      rw [e]
      exact g.same m rfl
    · exact g.elim
  · exact .inr (h2 E Q ρ μ H x y v u m dx dy g)
theorem opl_notInD (hu : X.A.units + 65 < cLine) : OpL X tb (compareOp .NotIn) notInDT := by
  obtain ⟨r, h1, h2⟩ := opl_notIn (X := X) (tb := tb) hu
  refine ⟨_, (op_notIn_dict (by omega)).or h1, fun E Q ρ μ H x y v u m dx dy g => ?_⟩
  unfold notInDT at g
  split at g
  · rename_i kvs hk
    split at g
    · rename_i k hkey
      obtain ⟨a, ws, rfl, q1, q2⟩ := dctT_of m dy hk
      refine .inl ⟨a, _, rfl, dget_of q1 dx hkey, ?_⟩
      have e : (valV ws k).isSome = (valT kvs k).isSome := by
        rcases q2.val (k := k) with ⟨e1, e2⟩ | ⟨t, w, e1, e2, _⟩
        · rw [e1, e2]; rfl
        · rw [e1, e2]; rfl
      rw [e]
      exact g.same m rfl
    · exact g.elim
  · exact .inr (h2 E Q ρ μ H x y v u m dx dy g)
/-- x[i], of sequences and dicts -/
def subT' : T → T → Mem → Res := fun x y μ => match dctT μ x with
  | some kvs => match keyT y with
    | some k => match valT kvs k with
      | some t => .ok t μ
      | none => .bad
    | none => .bad
  | none => ixT x y μ
theorem ix_dict (hu : X.A.units + 1 < cLine) : IxR X (fun x y H Q => ∃ a v, x = .ref a ∧ DGet H a y (some v) ∧ Q v H) := by
  intro value slice pins s σ H x y v u Q I rx ry h hs
  obtain ⟨a, w, rfl, g, q⟩ := h
  obtain rfl : v = Value.ref a := rx
  exact tail_any (dict_typeIs I g) PySem.F.slot_dict_getitem.lookup (d_getItem hu I g ry fun w' s3 I3 rw' => ⟨w, H, I3, rw', q⟩) hs
theorem ixlD (hu : X.A.units + 1 < cLine) : IxL X tb subT' := by
  obtain ⟨r, h1, h2⟩ := ixl (X := X) (tb := tb)
  refine ⟨_, (ix_dict hu).or h1, fun E Q ρ μ H x y v u m dx dy g => ?_⟩
  unfold subT' at g
  split at g
  · rename_i kvs hk
    split at g
    · rename_i k hkey
      split at g
      · rename_i t ht
        obtain ⟨a, ws, rfl, q1, q2⟩ := dctT_of m dx hk
        rcases q2.val (k := k) with ⟨e1, e2⟩ | ⟨t', w, e1, e2, dw⟩
        · rw [e1] at ht; cases ht
        · rw [e1] at ht; cases ht
          exact .inl ⟨a, w, rfl, by rw [← e2]; exact dget_of q1 dy hkey, g.same m dw⟩
      · exact g.elim
    · exact g.elim
  · exact .inr (h2 E Q ρ μ H x y v u m dx dy g)
/-! x[i] = v -/
def setT (x i v : T) (μ : Mem) : Option Mem := match x with
  | .ref k => match μ[k]? with
    | some (.lst xs) => (match i with
      | .int j => (ixN xs.length j).map fun n => μ.set k (.lst (xs.set n v))
      | _ => none)
    | some (.dct kvs) => (match keyT i with
      | some key => if kvs.length < sizeLine then some (μ.set k (.dct (putKT kvs key v))) else none
      | none => none)
    | _ => none
  | _ => none
theorem pset_or {t t' : TSet} (h : PSet X t) (h' : PSet X t') : PSet X (fun o i v H Q => t o i v H Q ∨ t' o i v H Q) := by
  intro pins s σ H o i v ov iv u Q I ro ri rv q
  rcases q with q | q
  · exact h pins s σ H o i v ov iv u Q I ro ri rv q
  · exact h' pins s σ H o i v ov iv u Q I ro ri rv q
theorem setT_of {g : G} {ρ : Nat → Addr} {μ μ' : Mem} {H : Hp} {x i t : T} {xv iv tv : V} {Q : Hp → Prop} (m : MRel g ρ μ H) (dx : DV g.K ρ μ.length H x xv) (di : DV g.K ρ μ.length H i iv) (dt : DV g.K ρ μ.length H t tv) (e : setT x i t μ = some μ')
    (h : ∀ H', Ext g ρ μ.length H ρ μ'.length H' → MRel g ρ μ' H' → Q H') : rSetL xv iv tv H Q ∨ rSetD xv iv tv H Q := by
  cases x with
  | ref k =>
    obtain ⟨hkl, rfl⟩ := dx
    unfold setT at e
    dsimp only at e
    split at e
    · rename_i xs hk
      split at e
      · rename_i j
        simp only [Option.map_eq_some_iff] at e
        obtain ⟨n, hn, rfl⟩ := e
        obtain ⟨ho, q1, ws, rfl, q2⟩ := m.ob k _ hk
        have pe : Ext g ρ μ.length H ρ μ.length (upd H (ρ k) (.lst (ws.set n tv))) := Ext.put m hk
        exact .inl ⟨_, ws, j, n, rfl, di, q1, by rw [← q2.length]; exact hn, h _ (by rw [List.length_set]; exact pe) (m.put hk ⟨_, rfl, q2.set n dt⟩)⟩
      · cases e
    · rename_i kvs hk
      split at e
      · rename_i key hkey
        split at e
        · rename_i hz
          cases e
          obtain ⟨ho, q1, ws, rfl, q2⟩ := m.ob k _ hk
          have pe : Ext g ρ μ.length H ρ μ.length (upd H (ρ k) (.dK (L2.putK ws key tv))) := Ext.put m hk
          exact .inr ⟨_, _, rfl, .inl ⟨ws, key, q1, keyT_of di hkey, by rw [← q2.length]; exact hz, rfl⟩, h _ (by rw [List.length_set]; exact pe) (m.put hk ⟨_, rfl, q2.putK dt⟩)⟩
        · cases e
      · cases e
    · cases e
  | _ => cases e
def sSub (dd di dv : EM) : SM := fun σ μ => (dv σ μ).toS fun v μ1 => (dd σ μ1).toS fun x μ2 => (di σ μ2).toS fun i μ3 => match setT x i v μ3 with
  | some μ4 => .nx σ μ4
  | none => .bad
theorem s_sub {i : Expr} {di dv : EM} {tpos : Pos} (hu : X.A.units + 1 < cLine) (ho : PE X o (tE (gx X tb) E dd)) (hi : PE X i (tE (gx X tb) E di)) (hv : PE X e (tE (gx X tb) E dv))
    (ha : ∀ v, assign (.Subscript o i tpos) X.env v = (do
      let ov ← holding [v] (eval o X.env)
      let iv ← holding [v, ov] (eval i X.env)
      standAt tpos
      holding [v, ov, iv] (setItem ov iv v)
      release [v, ov, iv] []) := by intro _; rfl) (hs : swapsWithSole [.Subscript o i tpos] e pos.line X.env = pure false := by rfl) (hw : swappedStores [.Subscript o i tpos] e X.env = pure none := by rfl)
    (h1 : (assignEach [.Subscript o i tpos] X.env).map (·.2) = [assign (.Subscript o i tpos) X.env] := by rfl) : PS X (.Assign [.Subscript o i tpos] e pos) (tS (gx X tb) E (sSub dd di dv)) :=
  (ps_asg hv (pg_sub ho hi (pset_or set_list (set_dict hu)) ha) hs hw h1).imp fun D σ H q => by
    obtain ⟨ρ, σT, μ, m, l, q⟩ := q
    refine bindS (Q := D.rt) m l q fun x μ1 ρ1 v H1 e1 m1 l1 dx g1 => ?_
    refine bindS (Q := D.rt) m1 l1 g1 fun y μ2 ρ2 w H2 e2 m2 l2 dy g2 => ?_
    refine bindS (Q := D.rt) m2 l2 g2 fun z μ3 ρ3 u H3 e3 m3 l3 dz g3 => ?_
    cases q4 : setT y z x μ3 with
    | none => simp only [q4] at g3; exact g3.elim
    | some μ4 =>
      simp only [q4] at g3
      exact setT_of m3 (dy.ext e3) dz ((dx.ext e2).ext e3) q4 fun H' e4 m4 => g3 ρ3 σ H' e4 m4 (l3.ext e4)
/-! {}, d.get(k, x), dict(d) -/
theorem e_dnew : PE X (.Dict [] [] pos) (tE (gx X tb) E (fun _ μ => .ok (.ref μ.length) (μ ++ [.dct []]))) := pe_dnewK.imp fun σ H Q q => by
  obtain ⟨ρ, σT, μ, m, l, q⟩ := q
  exact fun p hp => q.new m ⟨[], rfl, rfl⟩ hp
def get2T (x y z : T) (μ : Mem) : Res := match dctT μ x with
  | some kvs => match keyT y with
    | some k => .ok ((valT kvs k).getD z) μ
    | none => .bad
  | none => .bad
def dGet2 (dd dk dx : EM) : EM := fun σ μ => (dd σ μ).bind fun x μ1 => (if (dctT μ1 x).isSome = true then (dk σ μ1).bind fun y μ2 => (dx σ μ2).bind fun z μ3 => get2T x y z μ3 else .bad)
theorem e_get2 {f : Expr} {dk dx : EM} (hu : X.A.units + 1 < cLine) (ho : PE X o (tE (gx X tb) E dd)) (he : PE X e (tE (gx X tb) E dk)) (hf : PE X f (tE (gx X tb) E dx)) (mm : M2 X o "get" apos e f cpos := by exact ⟨rfl, rfl, rfl, rfl⟩) : PE X (.Call (.Attribute o "get" apos) [e, f] [] cpos) (tE (gx X tb) E (dGet2 dd dk dx)) :=
  (pe_dget2 hu ho he hf mm).imp fun σ H Q q => by
    obtain ⟨ρ, σT, μ, m, l, q⟩ := q
    refine bindE m l q fun x μ1 ρ1 v H1 e1 m1 l1 dx g1 => ?_
    split at g1
    · rename_i hd
      obtain ⟨kvs, hk⟩ := Option.isSome_iff_exists.mp hd
      obtain ⟨a, ws, rfl, q1, q2⟩ := dctT_of m1 dx hk
      refine ⟨a, rfl, .inl ⟨ws, q1⟩, ?_⟩
      refine bindE m1 l1 g1 fun y μ2 ρ2 u H2 e2 m2 l2 dy g2 => ?_
      refine bindE m2 l2 g2 fun z μ3 ρ3 w H3 e3 m3 l3 dz g3 => ?_
      unfold get2T at g3
      split at g3
      · rename_i kvs3 hk3
        split at g3
        · rename_i k hkey
          obtain ⟨a', ws', ea, q1', q2'⟩ := dctT_of m3 ((dx.ext e2).ext e3) hk3
          cases ea
          rcases q2'.val (k := k) with ⟨h1, h2⟩ | ⟨t, tv, h1, h2, dt⟩
          · refine ⟨_, dget_of q1' (dy.ext e3) hkey, ?_⟩
            rw [h2]; rw [h1] at g3
            exact g3.same m3 dz
          · refine ⟨_, dget_of q1' (dy.ext e3) hkey, ?_⟩
            rw [h2]; rw [h1] at g3
            exact g3.same m3 dt
        · exact g3.elim
      · exact g3.elim
    · exact g1.elim
def dictC : List T → Mem → Res := fun ts μ => match ts with
  | [x] => (match dctT μ x with
    | some kvs => .ok (.ref μ.length) (μ ++ [.dct kvs])
    | none => .bad)
  | _ => .bad
theorem cl_dict : CallL X tb (.type "dict") dictC := ⟨_, call_dictD, fun E Q ρ μ H ts vs m d g => by
  unfold dictC at g
  split at g
  · split at g
    · rename_i x _ kvs hk
      obtain ⟨v, r, rfl, h2, h3⟩ := d
      rw [show r = [] from h3]
      obtain ⟨a, ws, rfl, q1, q2⟩ := dctT_of m h2 hk
      exact ⟨a, ws, rfl, q1, fun p hp => g.new m ⟨ws, rfl, q2⟩ hp⟩
    · exact g.elim
  · exact g.elim⟩
/-! list(d): its keys -/
def dKeys (dd : EM) : LM := fun σ μ => (dd σ μ).bindL fun x μ1 => match dctT μ1 x with
  | some kvs => .ok (kvs.map fun kv => ktT kv.1) μ1
  | none => .bad
theorem DVk.kts {K : PySem.W.Frag} {ρ : Nat → Addr} {n : Nat} {H : Hp} : ∀ {ts : List (Key × T)} {vs : List (Key × V)}, DVk K ρ n H ts vs → DVs K ρ n H (ts.map fun kv => ktT kv.1) (vs.map fun kv => kV kv.1)
  | [], _, h => by rw [show _ = [] from h]; exact rfl
  | q :: ts, _, h => by
    obtain ⟨v, r, rfl, h2, h3⟩ := h
    obtain ⟨k, t⟩ := q
    refine ⟨kV k, _, rfl, ?_, DVk.kts h3⟩
    cases k <;> exact rfl
theorem l_listD (hc : X.calm = true) (hm : X.mg "list" = none) (ha : PE X a (tE (gx X tb) E da)) (hv : bootBuiltins "list" = some (.type "list") := by decide +kernel) (hg : Gl X "list" := by rfl) (he : starEach [a] X.env = [(false, eval a X.env)] := by rfl) :
    PE X (.Call (.Name "list" p) [a] [] pos) (tL (gx X tb) E (dKeys da)) :=
  (pe_callTy (call_listD hc) hg hm hv (pa_cons ha pa_nil he) (by decide) (by decide) he rfl).imp fun σ H Q q => by
    obtain ⟨ρ, σT, μ, m, l, q⟩ := q
    refine ⟨ρ, σT, μ, m, l, ?_⟩
    unfold dKeys at q
    cases h : da σT μ with
    | exc c fs μ1 => rw [h] at q; exact q
    | bad => rw [h] at q; exact q
    | ok x μ1 =>
      rw [h] at q
      have q : GoodL (gx X tb) E Q ρ μ.length H (match dctT μ1 x with | some kvs => .ok (kvs.map fun kv => ktT kv.1) μ1 | none => .bad) := q
      intro ρ1 v H1 e1 m1 dx
      split at q
      · rename_i kvs hk
        obtain ⟨a, ws, rfl, q1, q2⟩ := dctT_of m1 dx hk
        exact ⟨a, ws, rfl, q1, fun p hp => (GoodL.later e1 q).new m1 q2.kts hp⟩
      · exact q.elim
end
end TL
set_option Elab.async false
set_option linter.all false
set_option maxRecDepth 100000
set_option maxHeartbeats 2000000
/-! TL9: sorted, slices, augmented stores, raise, dict comprehensions -/
namespace TL
open PySem PySem.Spec PyProof.Rows L2
/-! ### one order, one sorted list -/
def leS (a b : Str) : Bool := !ltCps b.cps.toList a.cps.toList
theorem ltCps_irr : ∀ a : List Nat, ltCps a a = false
  | [] => rfl
  | a :: r => by simp [ltCps, ltCps_irr r]
theorem ltCps_asym : ∀ {a b : List Nat}, ltCps a b = true → ltCps b a = false
  | [], [], h => by simp [ltCps] at h
  | [], _ :: _, _ => rfl
  | _ :: _, [], h => by simp [ltCps] at h
  | a :: r, b :: t, h => by
    simp only [ltCps, Bool.or_eq_true, decide_eq_true_eq, Bool.and_eq_true, beq_iff_eq] at h
    simp only [ltCps, Bool.or_eq_false_iff, decide_eq_false_iff_not, Bool.and_eq_false_iff]
    rcases h with h | ⟨rfl, h⟩
    · exact ⟨by omega, .inl (by simp; omega)⟩
    · exact ⟨by omega, .inr (ltCps_asym h)⟩
theorem ltCps_conn : ∀ {a b : List Nat}, ltCps a b = false → ltCps b a = false → a = b
  | [], [], _, _ => rfl
  | [], _ :: _, h, _ => by simp [ltCps] at h
  | _ :: _, [], _, h => by simp [ltCps] at h
  | a :: r, b :: t, h, h' => by
    simp only [ltCps, Bool.or_eq_false_iff, decide_eq_false_iff_not] at h h'
    have e : a = b := by omega
    subst e
    simp at h h'
    rw [ltCps_conn h h']
theorem ltCps_trans : ∀ {a b c : List Nat}, ltCps a b = true → ltCps b c = true → ltCps a c = true
  | [], [], _, h, _ => by simp [ltCps] at h
  | [], _ :: _, [], _, h => by simp [ltCps] at h
  | [], _ :: _, _ :: _, _, _ => rfl
  | _ :: _, [], _, h, _ => by simp [ltCps] at h
  | _ :: _, _ :: _, [], _, h => by simp [ltCps] at h
  | a :: r, b :: t, c :: u, h, h' => by
    simp only [ltCps, Bool.or_eq_true, decide_eq_true_eq, Bool.and_eq_true, beq_iff_eq] at h h' ⊢
    rcases h with h | ⟨rfl, h⟩
    · rcases h' with h' | ⟨rfl, h'⟩
      · exact .inl (by omega)
      · exact .inl h
    · rcases h' with h' | ⟨rfl, h'⟩
      · exact .inl h'
      · exact .inr ⟨rfl, ltCps_trans h h'⟩
theorem leS_total (a b : Str) : (leS a b || leS b a) = true := by
  unfold leS
  cases h : ltCps b.cps.toList a.cps.toList with
  | false => rfl
  | true => rw [ltCps_asym h]; rfl
theorem leS_trans (a b c : Str) (h : leS a b = true) (h' : leS b c = true) : leS a c = true := by
  unfold leS at *
  simp only [Bool.not_eq_true'] at *
  cases q : ltCps c.cps.toList a.cps.toList with
  | false => rfl
  | true =>
    exfalso
    cases h2 : ltCps a.cps.toList b.cps.toList with
    | true => have := ltCps_trans q h2; rw [this] at h'; cases h'
    | false =>
      have e := ltCps_conn h2 h
      rw [← e] at h'
      rw [q] at h'; cases h'
theorem leS_anti {a b : Str} (h : leS a b = true) (h' : leS b a = true) : a = b := by
  unfold leS at *
  simp only [Bool.not_eq_true'] at *
  have := ltCps_conn h' h
  obtain ⟨x⟩ := a
  obtain ⟨y⟩ := b
  exact congrArg Str.mk (Array.toList_inj.mp this)
def sortS (xs : List Str) : List Str := xs.mergeSort leS
def sortI (xs : List Int) : List Int := xs.mergeSort fun a b => decide (a ≤ b)
theorem sortedS_pw : ∀ {ys : List Str}, sortedS ys = true → ys.Pairwise fun a b => leS a b = true := by
  have step : ∀ (ys : List Str) (p : Str), risingS p ys = true → (∀ y ∈ ys, leS p y = true) ∧ ys.Pairwise fun a b => leS a b = true := by
    intro ys
    induction ys with
    | nil => intro p _; exact ⟨fun y h => absurd h (by simp), .nil⟩
    | cons x r ih =>
      intro p h
      simp only [risingS, Bool.and_eq_true] at h
      obtain ⟨i1, i2⟩ := ih x h.2
      have hx : leS p x = true := h.1
      refine ⟨fun y hy => ?_, List.pairwise_cons.mpr ⟨i1, i2⟩⟩
      rcases List.mem_cons.mp hy with rfl | hy
      · exact hx
      · exact leS_trans _ _ _ hx (i1 y hy)
  intro ys h
  cases ys with
  | nil => exact .nil
  | cons x r =>
    obtain ⟨i1, i2⟩ := step r x h
    exact List.pairwise_cons.mpr ⟨i1, i2⟩
theorem sortS_eq {xs ys : List Str} (h : ys.Perm xs) (hs : sortedS ys = true) : ys = sortS xs :=
  List.Perm.eq_of_pairwise (le := fun a b => leS a b = true) (fun a b _ _ h1 h2 => leS_anti h1 h2) (sortedS_pw hs) (List.pairwise_mergeSort leS_trans leS_total xs) (h.trans (List.mergeSort_perm xs leS).symm)
theorem sortI_eq {xs ys : List Int} (h : ys.Perm xs) (hs : ys.Pairwise (· ≤ ·)) : ys = sortI xs :=
  List.Perm.eq_of_pairwise (le := fun a b => decide (a ≤ b) = true) (fun a b _ _ h1 h2 => by simp at h1 h2; omega) (hs.imp fun {a b} h => by simpa using h)
    (List.pairwise_mergeSort (fun a b c h1 h2 => by simp at *; omega) (fun a b => by simp; omega) xs) (h.trans (List.mergeSort_perm xs _).symm)
section
variable {K : PySem.W.Frag} {ρ : Nat → Addr} {n : Nat} {H : Hp}
theorem dvs_strs : ∀ xs : List Str, DVs K ρ n H (xs.map T.str) (xs.map V.str)
  | [] => rfl
  | x :: xs => ⟨_, _, rfl, rfl, dvs_strs xs⟩
theorem dvs_ints : ∀ xs : List Int, DVs K ρ n H (xs.map T.int) (xs.map V.int)
  | [] => rfl
  | x :: xs => ⟨_, _, rfl, rfl, dvs_ints xs⟩
end
section
variable {X : Cx} {tb : List (Addr × Str)} {E : XK} {a b e o : Expr} {es : List Expr} {da db dd : EM} {d : AM} {pos p apos cpos : Pos}
def sortQ : List T → Mem → LRes := fun ts μ => match unI ts with
  | some ns => .ok ((sortI ns).map .int) μ
  | none => match unS ts with
    | some xs => if xs.length < 64 then .ok ((sortS xs).map .str) μ else .bad
    | none => .bad
theorem cq_sorted : CallQL sLst X tb (.builtin "sorted") sortQ := ⟨_, CallR.or cr_sortedI cr_sortedS, fun E Q ρ μ H ts a vs m h d g => by
  unfold sortQ at g
  split at g
  · rename_i ns hn
    refine .inl ⟨a, ns, rfl, by rw [← unI_of d hn]; exact h, fun ns' p h1 h2 hp => ?_⟩
    rw [sortI_eq h1 h2]
    exact g.new m (dvs_ints _) hp
  · split at g
    · rename_i xs hx
      split at g
      · rename_i hz
        refine .inr ⟨a, xs, rfl, by rw [← unS_of d hx]; exact h, hz, fun ys p h1 h2 hp => ?_⟩
        rw [sortS_eq h1 h2]
        exact g.new m (dvs_strs _) hp
      · exact g.elim
    · exact g.elim⟩
/-- the keys of a dict, if all are texts, if all are ints -/
def keyS : List (Key × T) → Option (List Str)
  | [] => some []
  | (.inr x, _) :: r => (keyS r).map fun xs => x :: xs
  | _ => none
theorem keyS_of {K : PySem.W.Frag} {ρ : Nat → Addr} {n : Nat} {H : Hp} : ∀ {ts : List (Key × T)} {vs : List (Key × V)} {xs : List Str}, DVk K ρ n H ts vs → keyS ts = some xs → vs.map (·.1) = xs.map Sum.inr
  | [], _, _, d, e => by rw [show _ = [] from d]; cases e; rfl
  | (.inr x, t) :: r, _, _, d, e => by
    obtain ⟨v, w, rfl, h2, h3⟩ := d
    simp only [keyS, Option.map_eq_some_iff] at e
    obtain ⟨ys, e1, rfl⟩ := e
    simp [keyS_of h3 e1]
  | (.inl i, t) :: r, _, _, _, e => by simp [keyS] at e
def dSortD (dd : EM) : LM := fun σ μ => (dd σ μ).bindL fun x μ1 => match dctT μ1 x with
  | some kvs => match keyS kvs with
    | some xs => if xs.length < 64 then .ok ((sortS xs).map .str) μ1 else .bad
    | none => .bad
  | none => .bad
theorem l_sortD (hc : X.calm = true) (hm : X.mg "sorted" = none) (ha : PE X a (tE (gx X tb) E da)) (hv : bootBuiltins "sorted" = some (.builtin "sorted") := by decide +kernel) (hg : Gl X "sorted" := by rfl) (he : starEach [a] X.env = [(false, eval a X.env)] := by rfl) :
    PE X (.Call (.Name "sorted" p) [a] [] pos) (tL (gx X tb) E (dSortD da)) :=
  (pe_callB (call_sortedD hc) hg hm hv (pa_cons ha pa_nil he) (by decide) (by decide) he rfl).imp fun σ H Q q => by
    obtain ⟨ρ, σT, μ, m, l, q⟩ := q
    refine ⟨ρ, σT, μ, m, l, ?_⟩
    unfold dSortD at q
    cases h : da σT μ with
    | exc c fs μ1 => rw [h] at q; exact q
    | bad => rw [h] at q; exact q
    | ok x μ1 =>
      rw [h] at q
      have q : GoodL (gx X tb) E Q ρ μ.length H (match dctT μ1 x with | some kvs => (match keyS kvs with | some xs => if xs.length < 64 then .ok ((sortS xs).map .str) μ1 else .bad | none => .bad) | none => .bad) := q
      intro ρ1 v H1 e1 m1 dx
      split at q
      · rename_i kvs hk
        split at q
        · rename_i xs hx
          split at q
          · rename_i hz
            obtain ⟨a, ws, rfl, q1, q2⟩ := dctT_of m1 dx hk
            refine ⟨a, ws, xs, rfl, q1, keyS_of q2 hx, hz, fun ys p h1 h2 hp => ?_⟩
            rw [sortS_eq h1 h2]
            exact (GoodL.later e1 q).new m1 (dvs_strs _) hp
          · exact q.elim
        · exact q.elim
      · exact q.elim
/-! dict(pairs) -/
def unPair : T → Option (Key × T)
  | .tup [k, v] => (keyT k).map fun k => (k, v)
  | _ => none
def unPairs : List T → Option (List (Key × T))
  | [] => some []
  | t :: r => (unPair t).bind fun p => (unPairs r).map fun ps => p :: ps
theorem unPairs_of {K : PySem.W.Frag} {ρ : Nat → Addr} {n : Nat} {H : Hp} : ∀ {ts : List T} {vs : List V} {kvs : List (Key × T)}, DVs K ρ n H ts vs → unPairs ts = some kvs →
    ∃ (ps : List Addr) (ws : List (Key × V)), vs = ps.map V.ref ∧ DVk K ρ n H kvs ws ∧ Paired (fun p kv => SqT K H p [kV kv.1, kv.2]) ps ws
  | [], _, _, d, e => by rw [show _ = [] from d]; cases e; exact ⟨[], [], rfl, rfl, .nil⟩
  | t :: r, _, _, d, e => by
    obtain ⟨v, w, rfl, h2, h3⟩ := d
    simp only [unPairs, Option.bind_eq_some_iff, Option.map_eq_some_iff] at e
    obtain ⟨q, e1, ps, e2, rfl⟩ := e
    obtain ⟨as, ws, rfl, i1, i2⟩ := unPairs_of h3 e2
    unfold unPair at e1
    split at e1
    · rename_i k x
      simp only [Option.map_eq_some_iff] at e1
      obtain ⟨key, e3, rfl⟩ := e1
      obtain ⟨a, us, rfl, s1, u1, r1, rfl, dk, u2, r2, rfl, dx, e4⟩ := h2
      rw [show r2 = [] from e4, keyT_of dk e3] at s1
      exact ⟨a :: as, (key, u2) :: ws, rfl, ⟨u2, ws, rfl, dx, i1⟩, .cons s1 i2⟩
    · cases e1
def mergeKT (kvs more : List (Key × T)) : List (Key × T) := more.foldl (fun acc kv => putKT acc kv.1 kv.2) kvs
theorem DVk.merge {K : PySem.W.Frag} {ρ : Nat → Addr} {n : Nat} {H : Hp} : ∀ {ms : List (Key × T)} {ns : List (Key × V)} {ts : List (Key × T)} {vs : List (Key × V)}, DVk K ρ n H ms ns → DVk K ρ n H ts vs → DVk K ρ n H (mergeKT ts ms) (mergeK vs ns)
  | [], _, _, _, h, h' => by rw [show _ = [] from h]; exact h'
  | q :: ms, _, ts, vs, h, h' => by
    obtain ⟨v, r, rfl, h2, h3⟩ := h
    show DVk K ρ n H (mergeKT (putKT ts q.1 q.2) ms) (mergeK (L2.putK vs q.1 v) r)
    exact DVk.merge (ms := ms) h3 (h'.putK h2)
def dictQ : List T → Mem → Res := fun ts μ => match unPairs ts with
  | some kvs => .ok (.ref μ.length) (μ ++ [.dct (mergeKT [] kvs)])
  | none => .bad
theorem cq_dict (hc : X.calm = true) : CallQ sLst X tb (.type "dict") dictQ := ⟨_, call_dictP hc, fun E Q ρ μ H ts a vs m h d g => by
  unfold dictQ at g
  split at g
  · rename_i kvs hk
    obtain ⟨as, ws, rfl, i1, i2⟩ := unPairs_of d hk
    exact ⟨a, as, ws, rfl, h, i2, fun p hp => g.new m ⟨_, rfl, i1.merge rfl⟩ hp⟩
  · exact g.elim⟩
/-! ### slices -/
abbrev OM := Option EM
structure POd (X : Cx) (tb : List (Addr × Str)) (E : XK) (e : Option Expr) (d : OM) : Prop where
  ex : (e = none ∧ d = none) ∨ ∃ x dx, e = some x ∧ d = some dx ∧ PE X x (tE (gx X tb) E dx)
theorem o_none : POd X tb E none none := ⟨.inl ⟨rfl, rfl⟩⟩
theorem o_some (h : PE X a (tE (gx X tb) E da)) : POd X tb E (some a) (some da) := ⟨.inr ⟨a, da, rfl, rfl, h⟩⟩
def odRun (d : OM) (σ : List (Option T)) (μ : Mem) (k : Option Int → Mem → LRes) : LRes := match d with
  | none => k none μ
  | some dx => (dx σ μ).bindL fun x μ1 => match x with
    | .int i => k (some i) μ1
    | _ => .bad
/-- as Good.bind for lists -/
theorem bindL_ {g : G} {Q : VK} {dx : EM} {k : T → Mem → LRes} {R : VK} {ρ : Nat → Addr} {σT : List (Option T)} {σ : L2.St} {μ : Mem} {H : Hp} (m : MRel g ρ μ H) (l : LRel g.K ρ μ.length H σT σ) (h : GoodL g E Q ρ μ.length H ((dx σT μ).bindL k))
    (hR : ∀ x μ1 ρ1 v H1, Ext g ρ μ.length H ρ1 μ1.length H1 → MRel g ρ1 μ1 H1 → LRel g.K ρ1 μ1.length H1 σT σ → DV g.K ρ1 μ1.length H1 x v → GoodL g E Q ρ1 μ1.length H1 (k x μ1) → R v H1) : tE g E dx σ H R := by
  refine ⟨ρ, σT, μ, m, l, ?_⟩
  cases q : dx σT μ with
  | ok t μ1 =>
    rw [q] at h
    exact fun ρ1 v H1 e m1 dv => hR t μ1 ρ1 v H1 e m1 (l.ext e) dv (GoodL.later (r := k t μ1) e h)
  | exc c fs μ1 => rw [q] at h; exact h
  | bad => rw [q] at h; exact h
theorem po_of {eo : Option Expr} {d : OM} (h : POd X tb E eo d) : ∃ t, PO X eo t ∧ ∀ (Q : VK) (ρ : Nat → Addr) (σT : List (Option T)) (μ : Mem) (σ : L2.St) (H : Hp) (k : Option Int → Mem → LRes) (R : Option Int → Hp → Prop), MRel (gx X tb) ρ μ H → LRel X.K ρ μ.length H σT σ →
    GoodL (gx X tb) E Q ρ μ.length H (odRun d σT μ k) → (∀ i μ1 ρ1 H1, Ext (gx X tb) ρ μ.length H ρ1 μ1.length H1 → MRel (gx X tb) ρ1 μ1 H1 → LRel X.K ρ1 μ1.length H1 σT σ → GoodL (gx X tb) E Q ρ1 μ1.length H1 (k i μ1) → R i H1) → t σ H R := by
  rcases h.ex with ⟨rfl, rfl⟩ | ⟨x, dx, rfl, rfl, hx⟩
  · exact ⟨_, po_none, fun Q ρ σT μ σ H k R m l h hR => hR none μ ρ H (Ext.refl _ _ _ _) m l h⟩
  · refine ⟨_, po_some hx, fun Q ρ σT μ σ H k R m l h hR => ?_⟩
    refine bindL_ m l h fun y μ1 ρ1 v H1 e1 m1 l1 dy g1 => ?_
    cases y with
    | int i => exact ⟨i, dy, hR (some i) μ1 ρ1 H1 e1 m1 l1 g1⟩
    | _ => exact (show False from g1).elim
def cutT (xs : List T) (lo hi : Option Int) : List T := (xs.drop (HT.sIx xs.length 0 lo)).take (HT.sIx xs.length xs.length hi - HT.sIx xs.length 0 lo)
theorem DVs.cut {K : PySem.W.Frag} {ρ : Nat → Addr} {n : Nat} {H : Hp} {ts : List T} {vs : List V} {lo hi : Option Int} (h : DVs K ρ n H ts vs) : DVs K ρ n H (cutT ts lo hi) (cutV vs lo hi) := by
  unfold cutT cutV
  rw [← h.length]
  exact (h.drop _).take _
/-- xs[lo:hi], xs a list -/
def dSlL (dd : EM) (dl dh : OM) : LM := fun σ μ => (dd σ μ).bindL fun x μ1 => odRun dl σ μ1 fun lo μ2 => odRun dh σ μ2 fun hi μ3 => match x with
  | .ref k => (match μ3[k]? with
    | some (.lst xs) => .ok (cutT xs lo hi) μ3
    | _ => .bad)
  | .fl is => .ok (cutT (is.map T.int) lo hi) μ3
  | _ => .bad
theorem l_slice {lo hi : Option Expr} {dl dh : OM} {p2 : Pos} (ha : PE X a (tE (gx X tb) E da)) (hl : POd X tb E lo dl) (hh : POd X tb E hi dh) : PE X (.Subscript a (.Slice lo hi none p2) pos) (tL (gx X tb) E (dSlL da dl dh)) := by
  obtain ⟨t1, p1, r1⟩ := po_of hl
  obtain ⟨t2, p2', r2⟩ := po_of hh
  refine (pe_slice sl_list ha p1 p2').imp fun σ H Q q => ?_
  obtain ⟨ρ, σT, μ, m, l, q⟩ := q
  refine bindL_ m l q fun x μ1 ρ1 v H1 e1 m1 l1 dx g1 => ?_
  refine r1 Q ρ1 σT μ1 σ H1 _ _ m1 l1 g1 fun i μ2 ρ2 H2 e2 m2 l2 g2 => ?_
  refine r2 Q ρ2 σT μ2 σ H2 _ _ m2 l2 g2 fun j μ3 ρ3 H3 e3 m3 l3 g3 => ?_
  cases x with
  | ref k =>
    have dx3 := (dx.ext e2).ext e3
    obtain ⟨hkl, rfl⟩ := dx3
    have g3 : GoodL (gx X tb) E Q ρ3 μ3.length H3 (match μ3[k]? with | some (.lst xs) => .ok (cutT xs i j) μ3 | _ => .bad) := g3
    split at g3
    · rename_i xs hk
      obtain ⟨ho, q1, ws, rfl, q2⟩ := m3.ob k _ hk
      exact ⟨_, ws, rfl, SqL.of q1, fun p hp => g3.new m3 q2.cut hp⟩
    · exact g3.elim
  | fl is =>
    obtain ⟨b, rfl, q1⟩ := (dx.ext e2).ext e3
    have q2 : ∀ js : List Int, DVs (gx X tb).K ρ3 μ3.length H3 (js.map T.int) (js.map V.int) := fun js => by
      induction js with
      | nil => rfl
      | cons j r ih => exact ⟨_, _, rfl, rfl, ih⟩
    exact ⟨_, _, rfl, q1.sq, fun p hp => GoodL.new (g := gx X tb) g3 m3 (q2 is).cut hp⟩
  | _ => exact (show False from g3).elim
/-! ### lists in sums -/
def dCat (da db : EM) : LM := fun σ μ => (da σ μ).bindL fun x μ1 => (db σ μ1).bindL fun y μ2 => match x, y with
  | .ref i, .ref j => (match μ2[i]?, μ2[j]? with
    | some (.lst xs), some (.lst ys) => if xs.length + ys.length ≤ sizeLine then .ok (xs ++ ys) μ2 else .bad
    | _, _ => .bad)
  | _, _ => .bad
theorem l_cat (ha : PE X a (tE (gx X tb) E da)) (hb : PE X b (tE (gx X tb) E db)) : PE X (.BinOp a .Add b pos) (tL (gx X tb) E (dCat da db)) := (pe_op op_cat ha hb).imp fun σ H Q q => by
  obtain ⟨ρ, σT, μ, m, l, q⟩ := q
  refine bindL_ m l q fun x μ1 ρ1 v H1 e1 m1 l1 dx g1 => ?_
  refine bindL_ m1 l1 g1 fun y μ2 ρ2 u H2 e2 m2 l2 dy g2 => ?_
  split at g2
  · rename_i i j
    have dx2 := dx.ext e2
    split at g2
    · rename_i xs ys hi hj
      split at g2
      · rename_i hz
        obtain ⟨_, rfl⟩ := dx2
        obtain ⟨_, rfl⟩ := dy
        obtain ⟨ho, q1, ws, rfl, q2⟩ := m2.ob i _ hi
        obtain ⟨ho', q1', ws', rfl, q2'⟩ := m2.ob j _ hj
        exact ⟨_, _, ws, ws', rfl, rfl, q1, q1', by rw [← q2.length, ← q2'.length]; exact hz, fun p hp => g2.new m2 (q2.append q2') hp⟩
      · exact g2.elim
    · exact g2.elim
  · exact g2.elim
/-! ### raise -/
/-- an own class of errors without __init__ -/
structure ExcC0 (K : PySem.W.Frag) (mg : Str → Option Value) (c : Str) : Prop where
  ex : ∃ C bmB newId B initId, mg c = some (.ref C) ∧ ExcBaseFacts B newId initId bmB ∧ PySem.W.excIn K C bmB newId = true ∧ PySem.W.keepIn K (.ref C) = true ∧ PySem.W.subIn K (.ref C) (.type "BaseException") = some true ∧ PySem.W.typeIn K (.ref C) = some (.type "type")
theorem pmk_own0 {C : Addr} {bmB : List Value} {B newId initId : String} {x : Str} {p pos : Pos} (F : ExcBaseFacts B newId initId bmB) (q : PySem.W.excIn X.K C bmB newId = true) (gC : X.mg x = some (.ref C))
    (kC : PySem.W.keepIn X.K (.ref C) = true) (r : Raises X (.ref C)) (hg : Gl X x) (hdb : (x == ("__debug__" : Str)) = false := by decide) :
    PMk X (.Call (.Name x p) [] [] pos) (fun σ H Q => Q (.ref C) none H) := by
  intro pins s σ H Q I h
  refine wpAny_Call_Name_kw (ld_glob I hg gC ?_ hdb)
  refine PySem.W.callWith_K0 I.kIn kC ?_
  show wpAny _ _ (call (.ref C) []) _ _ _
  obtain ⟨bm, N, nm, qn, bs, hdct, sn, sub, ab, col, dd, k0, k1, k2, k3, k5, mN, hC, hN, hni, T⟩ := exc_obj I.kIn q
  refine wpAny_call_exc_subT F T hC hN hni (fun h' e hm => ?_) (Nat.zero_le _)
  exact mk_of I hm r h (I.hok.gone hm.new)
def sRaise0 (c : Str) : SM := fun _ μ => .exc c [] μ
theorem s_raise0 {c : Str} {p2 : Pos} (h : ExcC0 X.K X.mg c) (hc : X.calm = true) (tk : Takes X (fun c d _ H => E c d H)) (hg : Gl X c := by rfl) (hdb : (c == ("__debug__" : Str)) = false := by decide) :
    PS X (.Raise (some (.Call (.Name c p) [] [] p2)) none pos) (tS (gx X tb) E (sRaise0 c)) := by
  obtain ⟨C, bmB, newId, B, initId, h1, F, h2, h3, h4, h5⟩ := h.ex
  refine (ps_raise hc tk (pmk_own0 F h2 h1 h3 (raises_own h4 h5) hg hdb)).imp fun D σ H q => ?_
  obtain ⟨ρ, σT, μ, m, l, q⟩ := q
  exact q ρ H C none (Ext.refl _ _ _ _) m h1 (.inl ⟨rfl, rfl⟩)
/-! ### augmented stores -/
/-- name += e: ints -/
def sAug (i : Nat) (k : T → T → Mem → Res) (d : EM) : SM := fun σ μ => match σ[i]? with
  | some (some x) => (d σ μ).toS fun y μ1 => (k x y μ1).toS fun z μ2 => .nx (σ.set i (some z)) μ2
  | _ => .bad
theorem s_augI {op : Operator} {f : Int → Int → Int} {k : T → T → Mem → Res} (i : Nat) {x : Str} {pos' : Pos} (hk : ∀ x y μ, k x y μ ≠ .bad → ∃ i j, x = .int i ∧ y = .int j ∧ k x y μ = .ok (.int (f i j)) μ) (hop : PIp X op (ipI f)) (hN : X.N.Nodup) (he : PE X e (tE (gx X tb) E da))
    (hi : X.N[i]? = some x := by rfl) (hx : Loc X.env.scope x := by first | exact Or.inl rfl | exact Or.inr rfl) (hf : X.fn x = true ∨ X.env.scope.names.lookup x = some .local := by first | exact .inl rfl | exact .inr rfl | assumption) :
    PS X (.AugAssign (.Name x pos') op e pos) (tS (gx X tb) E (sAug i k da)) := (ps_aug hN hi hx he hop hf).imp fun D σ H q => by
  obtain ⟨ρ, σT, μ, m, l, q⟩ := q
  unfold sAug at q
  cases h : σT[i]? with
  | none => simp only [h] at q; exact q.elim
  | some o =>
    cases o with
    | none => simp only [h] at q; exact q.elim
    | some t =>
      simp only [h] at q
      obtain ⟨v, h1, h2⟩ := l.at_ i t h
      refine ⟨v, h1, bindS (Q := D.rt) m l q fun y μ1 ρ1 u H1 e1 m1 l1 dy g1 => ?_⟩
      obtain ⟨a, b, rfl, rfl, e2⟩ := hk t y μ1 (fun z => by rw [z] at g1; exact g1)
      rw [e2] at g1
      exact ⟨a, b, h2, dy, g1 ρ1 _ H1 (Ext.refl _ _ _ _) m1 (l1.set i rfl)⟩
def addI : T → T → Mem → Res := fun x y μ => match x, y with
  | .int i, .int j => .ok (.int (i + j)) μ
  | _, _ => .bad
theorem s_augAdd (i : Nat) {x : Str} {pos' : Pos} (hN : X.N.Nodup) (he : PE X e (tE (gx X tb) E da)) (hi : X.N[i]? = some x := by rfl) (hx : Loc X.env.scope x := by first | exact Or.inl rfl | exact Or.inr rfl) (hf : X.fn x = true ∨ X.env.scope.names.lookup x = some .local := by first | exact .inl rfl | exact .inr rfl | assumption) :
    PS X (.AugAssign (.Name x pos') .Add e pos) (tS (gx X tb) E (sAug i addI da)) := s_augI i (fun x y μ h => by
      unfold addI at h ⊢
      split at h
      · exact ⟨_, _, rfl, rfl, rfl⟩
      · exact absurd rfl h) ip_add hN he hi hx hf
end
end TL
set_option Elab.async false
set_option linter.all false
set_option maxRecDepth 100000
set_option maxHeartbeats 2000000
/-! TL10: list(range), signs in texts, the dict of a dict's pairs -/
namespace TL
open PySem PySem.Spec PyProof.Rows L2
section
variable {X : Cx} {tb : List (Addr × Str)} {E : XK} {a b e o : Expr} {es : List Expr} {da db dd : EM} {d : AM} {pos p apos cpos : Pos}
theorem DVs.maps {α : Type} {K : PySem.W.Frag} {ρ : Nat → Addr} {n : Nat} {H : Hp} {f : α → T} {h : α → V} (q : ∀ i, DV K ρ n H (f i) (h i)) : ∀ l : List α, DVs K ρ n H (l.map f) (l.map h)
  | [] => rfl
  | x :: r => ⟨h x, r.map h, rfl, q x, DVs.maps q r⟩
/-! ### list(range(..)) -/
def rgOkB (i : Int) : Bool := decide (-(2 ^ 62) ≤ i) && decide (i < 2 ^ 62) && decide ((i - 0).toNat ≤ 2 ^ 24)
def dListRg (da : EM) : LM := fun σ μ => (da σ μ).bindL fun x μ1 => match x with
  | .int n => if rgOkB n = true then .ok (rngL 0 n) μ1 else .bad
  | _ => .bad
theorem l_listRg {p2 p3 : Pos} (hc : X.calm = true) (hm : X.mg "list" = none) (hm2 : X.mg "range" = none) (ha : PE X a (tE (gx X tb) E da)) (hg : Gl X "list" := by rfl) (hg2 : Gl X "range" := by rfl) (na : starEach [a] X.env = (false, eval a X.env) :: starEach [] X.env := by rfl)
    (nb : starEach [Expr.Call (.Name "range" p2) [a] [] p3] X.env = (false, eval (Expr.Call (.Name "range" p2) [a] [] p3) X.env) :: starEach [] X.env := by rfl) :
    PE X (.Call (.Name "list" p) [.Call (.Name "range" p2) [a] [] p3] [] pos) (tL (gx X tb) E (dListRg da)) := (pe_listRg hc hg hm (prg_1 hg2 hm2 ha na) nb).imp fun σ H Q q => by
  obtain ⟨ρ, σT, μ, m, l, q⟩ := q
  refine bindL_ m l q fun x μ1 ρ1 v H1 e1 m1 l1 dx g1 => ?_
  cases x with
  | int i =>
    have g1 : GoodL (gx X tb) E Q ρ1 μ1.length H1 (if rgOkB i = true then .ok (rngL 0 i) μ1 else .bad) := g1
    split at g1
    · rename_i hr
      simp only [rgOkB, Bool.and_eq_true, decide_eq_true_eq] at hr
      exact ⟨i, dx, ⟨by omega, by omega, hr.1.1, hr.1.2, hr.2⟩, fun q hq => g1.new m1 (DVs.maps (f := fun j : Nat => T.int (0 + (j : Nat))) (h := fun j : Nat => V.int (0 + (j : Nat))) (fun j => rfl) _) hq⟩
    · exact g1.elim
  | _ => exact (show False from g1).elim
/-! ### a sign in a text -/
def inTx : T → T → Mem → Res := fun x y μ => match x, y with
  | .str ⟨⟨[c]⟩⟩, .str z => .ok (.bl (decide (c ∈ z.cps.toList))) μ
  | _, _ => .bad
theorem opl_inTx : OpL X tb (compareOp .In) inTx := ⟨_, op_inS, fun E Q ρ μ H x y v u m dx dy g => by
  unfold inTx at g
  split at g
  · rename_i c z
    exact ⟨c, z, dx, dy, g.same m rfl⟩
  · exact g.elim⟩
end
/-! ### a thing of no one's is changed -/
structure Loo (o : HO) : Prop where
  t : ∀ xs, o ≠ .tup xs
  f : ∀ u v, o ≠ .frz u v
  b : ∀ ps, o ≠ .tbl ps
  c : ∀ a q, o ≠ LamX.CodeO a q
  x : ∀ ws, o ≠ .xd ws
theorem loo_dK {ws : List (Key × V)} : Loo (.dK ws) where
  t := fun _ z => by cases z
  f := fun _ _ z => by cases z
  b := fun _ z => by cases z
  c := fun _ _ z => by unfold LamX.CodeO at z; cases z
  x := fun _ z => by cases z
section
variable {g : G} {ρ ρ4 : Nat → Addr} {n n4 : Nat} {H1 H4 : Hp} {D : Addr} {o1 o2 : HO}
theorem SqT.sid {a : Addr} {us : List V} (h4 : H4 D = some o1) (lo : Loo o1) (h : SqT g.K H4 a us) : SqT g.K (upd H4 D o2) a us := by
  rcases h with (h | ⟨o, h⟩) | h
  · exact .inl (.inl (by rw [upd_ne (ne_of h h4 (fun z => lo.t _ z.symm))]; exact h))
  · exact .inl (.inr ⟨o, by rw [upd_ne (ne_of h h4 (fun z => lo.f _ _ z.symm))]; exact h⟩)
  · exact .inr h
theorem FSq.sid {a : Addr} {us : List V} (h4 : H4 D = some o1) (lo : Loo o1) (h : FSq g.K H4 a us) : FSq g.K (upd H4 D o2) a us := h.elim (fun ⟨o, h⟩ => .inl ⟨o, by rw [upd_ne (ne_of h h4 (fun z => lo.f _ _ z.symm))]; exact h⟩) .inr
theorem DV.sid {t : T} {v : V} (h4 : H4 D = some o1) (lo : Loo o1) (h : DV g.K ρ n H4 t v) : DV g.K ρ n (upd H4 D o2) t v := h.ren (fun k hk => ⟨hk, rfl⟩) fun _ _ => ⟨SqT.sid (g := g) h4 lo, FSq.sid (g := g) h4 lo, fun ws q => by rw [upd_ne (ne_of q h4 (fun z => lo.x _ z.symm))]; exact q⟩
theorem DVk.sid {κ : Type} {t : List (κ × T)} {v : List (κ × V)} (h4 : H4 D = some o1) (lo : Loo o1) (h : DVk g.K ρ n H4 t v) : DVk g.K ρ n (upd H4 D o2) t v := h.ren (fun k hk => ⟨hk, rfl⟩) fun _ _ => ⟨SqT.sid (g := g) h4 lo, FSq.sid (g := g) h4 lo, fun ws q => by rw [upd_ne (ne_of q h4 (fun z => lo.x _ z.symm))]; exact q⟩
theorem LRel.sid {σT : List (Option T)} {σ : L2.St} (h4 : H4 D = some o1) (lo : Loo o1) (l : LRel g.K ρ n H4 σT σ) : LRel g.K ρ n (upd H4 D o2) σT σ := ⟨l.len, fun i t e => let ⟨v, h1, h2⟩ := l.at_ i t e; ⟨v, h1, h2.sid (g := g) h4 lo⟩⟩
theorem tabs_sid {tb : List (Addr × Str)} (h4 : H4 D = some o1) (lo : Loo o1) (h : LamX.Tabs tb H4) : LamX.Tabs tb (upd H4 D o2) := fun q hq => by
  obtain ⟨ps, q1, q2, q3⟩ := h q hq
  refine ⟨ps, by rw [upd_ne (ne_of q1 h4 (fun z => lo.b _ z.symm))]; exact q1, q2, fun pos cv hc => ?_⟩
  obtain ⟨c, e1, e2⟩ := q3 pos cv hc
  refine ⟨c, e1, ?_⟩
  rw [upd_ne (ne_of e2 h4 (fun z => lo.c _ _ z.symm))]; exact e2
theorem Ext.sid (e : Ext g ρ n H1 ρ4 n4 H4) (hD : H1 D = none) (h4 : H4 D = some o1) (lo : Loo o1) : Ext g ρ n H1 ρ4 n4 (upd H4 D o2) :=
  ⟨e.le, e.ag, e.nw, fun b o h hn ht => by rw [upd_ne (ne_of_none h hD)]; exact e.kp b o h hn ht, fun b o h f => by rw [upd_ne (ne_of_none h hD)]; exact e.fx b o h f,
    fun b h => by
      by_cases z : b = D
      · rw [z]; exact .inl hD
      · exact e.th b (h.un z),
    fun h => tabs_sid h4 lo (e.tb h)⟩
theorem MRel.sid {μ : Mem} (m : MRel g ρ μ H4) (h4 : H4 D = some o1) (lo : Loo o1) (hn : ∀ i, i < μ.length → ρ i ≠ D) : MRel g ρ μ (upd H4 D o2) :=
  ⟨m.inj, fun i o h => by
    obtain ⟨ho, h1, h2⟩ := m.ob i o h
    exact ⟨ho, by rw [upd_ne (hn i (List.getElem?_eq_some_iff.mp h).1)]; exact h1, h2.ren (fun k hk => ⟨hk, rfl⟩) fun _ _ => ⟨SqT.sid h4 lo, FSq.sid (g := g) h4 lo, fun ws q => by rw [upd_ne (ne_of q h4 (fun z => lo.x _ z.symm))]; exact q⟩⟩, tabs_sid h4 lo m.tb⟩
/-! ### unlocked -/
variable {μ1 : Mem} {H : Hp} {od : Obj} {ws : List (Key × V)} {kvs : List (Key × T)} {k : Nat} {ρ1 : Nat → Addr}
theorem sqT_unl {K : PySem.W.Frag} {D : Addr} {o : HO} {a : Addr} {us : List V} (h1 : H1 D = some (.frz od (.dK ws))) (h : SqT K H1 a us) : SqT K (upd H1 D o) a us := by
  rcases h with (h | ⟨o, h⟩) | h
  · exact .inl (.inl (by rw [upd_ne (ne_of h h1 (fun z => nomatch z))]; exact h))
  · exact .inl (.inr ⟨o, by rw [upd_ne (ne_of h h1 (fun z => by cases z))]; exact h⟩)
  · exact .inr h
theorem fsq_unl {K : PySem.W.Frag} {D : Addr} {o : HO} {a : Addr} {us : List V} (h1 : H1 D = some (.frz od (.dK ws))) (h : FSq K H1 a us) : FSq K (upd H1 D o) a us :=
  h.elim (fun ⟨o, h⟩ => .inl ⟨o, by rw [upd_ne (ne_of h h1 (fun z => by cases z))]; exact h⟩) .inr
theorem tabs_unl {tb : List (Addr × Str)} {D : Addr} {o : HO} (h1 : H1 D = some (.frz od (.dK ws))) (h : LamX.Tabs tb H1) : LamX.Tabs tb (upd H1 D o) := fun q hq => by
  obtain ⟨ps, q1, q2, q3⟩ := h q hq
  refine ⟨ps, by rw [upd_ne (ne_of q1 h1 (fun z => nomatch z))]; exact q1, q2, fun pos cv hc => ?_⟩
  obtain ⟨c, e1, e2⟩ := q3 pos cv hc
  refine ⟨c, e1, ?_⟩
  rw [upd_ne (ne_of e2 h1 (fun z => by unfold LamX.CodeO at z; cases z))]; exact e2
theorem Ext.unlock {μ : Mem} (m : MRel g ρ μ H) (hk : μ[k]? = some (.dct kvs)) (hd : H (ρ k) = some (.dK ws)) (e : Ext g ρ μ.length (upd H (ρ k) (.frz od (.dK ws))) ρ1 μ1.length H1) (h1 : H1 (ρ k) = some (.frz od (.dK ws))) :
    Ext g ρ μ.length H ρ1 μ1.length (upd H1 (ρ k) (.dK ws)) := by
  have hlt := (List.getElem?_eq_some_iff.mp hk).1
  refine ⟨e.le, e.ag, fun i h2 h3 => ?_, fun b o h hn ht => ?_, fun b o h f => ?_, fun b h => ?_, fun ht => tabs_unl h1 (e.tb ?_)⟩
  · have z := e.nw i h2 h3
    by_cases q : ρ1 i = ρ k
    · rw [q] at z
      exact (z.no upd_same (fun _ z => nomatch z)).elim
    · exact z.un q
  · have nb := hn k hlt
    rw [upd_ne nb]
    exact e.kp b o (by rw [upd_ne nb]; exact h) hn ht
  · have nb : b ≠ ρ k := fun z => by rw [z, hd] at h; cases h; exact f
    rw [upd_ne nb]
    exact e.fx b o (by rw [upd_ne nb]; exact h) f
  · by_cases q : b = ρ k
    · rw [q] at h
      exact (h.no upd_same (fun _ z => by cases z)).elim
    · exact (e.th b (h.un q)).un q
  · exact (Ext.put m hk).tb ht
theorem MRel.unlock (m : MRel g ρ1 μ1 H1) {D : Addr} (hD : ρ1 k = D) (h1 : H1 D = some (.frz od (.dK ws))) (hk : k < μ1.length) (dk : DVk g.K ρ1 μ1.length H1 kvs ws) : MRel g ρ1 (μ1.set k (.dct kvs)) (upd H1 D (.dK ws)) := by
  subst hD
  have hs : ∀ a vs, (SqT g.K H1 a vs → SqT g.K (upd H1 (ρ1 k) (.dK ws)) a vs) ∧ (FSq g.K H1 a vs → FSq g.K (upd H1 (ρ1 k) (.dK ws)) a vs) ∧ ∀ us, H1 a = some (.xd us) → (upd H1 (ρ1 k) (.dK ws)) a = some (.xd us) := fun a vs => ⟨sqT_unl h1, fsq_unl h1, fun us q => by rw [upd_ne (ne_of q h1 (fun z => by cases z))]; exact q⟩
  refine ⟨fun i j hi hj q => m.inj i j (by simpa using hi) (by simpa using hj) q, fun i u h => ?_, tabs_unl h1 m.tb⟩
  rw [List.length_set]
  by_cases q : k = i
  · subst q
    rw [List.getElem?_set_self hk] at h
    cases h
    exact ⟨_, upd_same, ws, rfl, dk.ren (fun k hk => ⟨hk, rfl⟩) hs⟩
  · rw [List.getElem?_set_ne q] at h
    obtain ⟨ho', q1, q2⟩ := m.ob i u h
    refine ⟨ho', ?_, q2.ren (fun k hk => ⟨hk, rfl⟩) hs⟩
    rw [upd_ne]; exact q1
    intro z
    exact q (m.inj i k (List.getElem?_eq_some_iff.mp h).1 hk z).symm
end
theorem DVk.atI' {κ : Type} {K : PySem.W.Frag} {ρ : Nat → Addr} {n : Nat} {H : Hp} : ∀ {ts : List (κ × T)} {vs : List (κ × V)} {i : Nat} {q : κ × T}, DVk K ρ n H ts vs → ts[i]? = some q → ∃ v, vs[i]? = some (q.1, v) ∧ DV K ρ n H q.2 v
  | [], _, i, q, _, e => by simp at e
  | p :: r, _, 0, q, h, e => by
    obtain ⟨v, w, rfl, h2, h3⟩ := h
    simp at e; subst e
    exact ⟨v, rfl, h2⟩
  | p :: r, _, i + 1, q, h, e => by
    obtain ⟨v, w, rfl, h2, h3⟩ := h
    have z := DVk.atI' (ts := r) (vs := w) (i := i) (q := q) h3 (by simpa using e)
    exact z
/-! ### {k: v for .. in d.items() if ..} -/
def ditGo (p : Pat) (c ke ve : EM) (σ : List (Option T)) : List (Key × T) → List (Key × T) → Mem → Option (List (Key × T) × Mem)
  | [], acc, μ => some (acc, μ)
  | q :: r, acc, μ => match bindP p (.tup [ktT q.1, q.2]) σ with
    | none => none
    | some σ1 => match c σ1 μ with
      | .ok (.bl true) μ1 => (match ke σ1 μ1 with
        | .ok x μ2 => (match ve σ1 μ2 with
          | .ok y μ3 => (match keyT x with
            | some kk => if acc.length < sizeLine then ditGo p c ke ve σ r (putKT acc kk y) μ3 else none
            | none => none)
          | _ => none)
        | _ => none)
      | .ok (.bl false) μ1 => ditGo p c ke ve σ r acc μ1
      | _ => none
def dItems (de : EM) (p : Pat) (own : List Nat) (c ke ve : EM) : EM := fun σ μ => match de σ μ with
  | .ok (.ref k) _ => (match μ[k]? with
    | some (.dct kvs) => (match de σ (μ.set k (.lck kvs)) with
      | .ok (.ref k2) μ1 => if k2 = k then (match ditGo p c ke ve (wipeT σ own) kvs [] μ1 with
          | some (acc, μ2) => .ok (.ref (μ2.set k (.dct kvs)).length) (μ2.set k (.dct kvs) ++ [.dct acc])
          | none => .bad) else .bad
      | _ => .bad)
    | _ => .bad)
  | _ => .bad
section
variable {X : Cx} {tb : List (Addr × Str)} {E : XK} {a b e o tg : Expr} {es : List Expr} {da db dd : EM} {d : AM} {pos apos cpos : Pos}
theorem ext_numO {g : G} {ρ ρ' : Nat → Addr} {n : Nat} {H H' : Hp} {μ : Mem} {mo : MO} {ho : HO} {p : Addr} (e : Ext g ρ n H ρ' μ.length H') (m : MRel g ρ' μ H') (h1 : H' p = some ho) (h2 : Nt H p) (h3 : ∀ i, i < μ.length → ρ' i ≠ p) (d : MOr g ρ' μ.length H' mo ho) :
    Ext g ρ n H (ρadd ρ' μ.length p) (μ ++ [mo]).length H' ∧ MRel g (ρadd ρ' μ.length p) (μ ++ [mo]) H' ∧ DV g.K (ρadd ρ' μ.length p) (μ ++ [mo]).length H' (.ref μ.length) (.ref p) := by
  have hl : (μ ++ [mo]).length = μ.length + 1 := by simp
  have ag : ∀ i, i < μ.length → ρadd ρ' μ.length p i = ρ' i := fun i hi => by unfold ρadd; rw [if_neg (Nat.ne_of_lt hi)]
  have at_ : ρadd ρ' μ.length p μ.length = p := by unfold ρadd; rw [if_pos rfl]
  have hk : ∀ k, k < μ.length → k < μ.length + 1 ∧ ρadd ρ' μ.length p k = ρ' k := fun k hk => ⟨Nat.lt_succ_of_lt hk, ag k hk⟩
  rw [hl]
  refine ⟨⟨Nat.le_succ_of_le e.le, fun i hi => (ag i (Nat.lt_of_lt_of_le hi e.le)).trans (e.ag i hi), fun i q1 q2 => ?_, e.kp, e.fx, e.th, e.tb⟩, ⟨fun i j hi hj q => ?_, fun i o q => ?_, m.tb⟩, ⟨Nat.lt_succ_self _, by rw [at_]⟩⟩
  · by_cases hi : i < μ.length
    · rw [ag i hi]; exact e.nw i q1 hi
    · have : i = μ.length := by omega
      rw [this, at_]; exact h2
  · rw [hl] at hi hj
    by_cases h4 : i < μ.length
    · by_cases h5 : j < μ.length
      · rw [ag i h4, ag j h5] at q; exact m.inj i j h4 h5 q
      · have : j = μ.length := by omega
        rw [this, ag i h4, at_] at q
        exact absurd q (h3 i h4)
    · have hi' : i = μ.length := by omega
      by_cases h5 : j < μ.length
      · rw [hi', ag j h5, at_] at q
        exact absurd q.symm (h3 j h5)
      · omega
  · rw [hl]
    by_cases h4 : i < μ.length
    · rw [List.getElem?_append_left h4] at q
      obtain ⟨ho, q1, q2⟩ := m.ob i o q
      exact ⟨ho, by rw [ag i h4]; exact q1, q2.ren hk fun _ _ => ⟨fun z => z, fun z => z, fun _ z => z⟩⟩
    · have hi' : i = μ.length := by
        have := (List.getElem?_eq_some_iff.mp q).1
        rw [hl] at this; omega
      subst hi'
      simp at q
      subst q
      exact ⟨_, by rw [at_]; exact h1, d.ren hk fun _ _ => ⟨fun z => z, fun z => z, fun _ z => z⟩⟩
theorem tE_items {p : Pat} {de c ke ve : EM} {own : List Nat} (hs : ∀ i ∈ pslots p, i ∈ own) : ∀ σ H Q, tE (gx X tb) E (dItems de p own c ke ve) σ H Q →
    tLockE (tDc (iItems (tE (gx X tb) E de)) (tG X.K p) (ttOf (gx X tb) (some c)) (tE (gx X tb) E0 ke) (tE (gx X tb) E0 ve) own) σ H Q := fun σ H Q h => by
  obtain ⟨ρ, σT, μ, m, l, h⟩ := h
  unfold dItems at h
  split at h
  case h_2 => exact h.elim
  rename_i k μ0 hde0
  split at h
  case h_2 => exact h.elim
  rename_i kvs hk
  split at h
  case h_2 => exact h.elim
  rename_i k2 μ1 hde
  split at h
  case isFalse => exact h.elim
  rename_i hk2
  subst hk2
  split at h
  case h_2 => exact h.elim
  rename_i acc μ2 hgo
  obtain ⟨ho, q1, ws, rfl, q2⟩ := m.ob k2 _ hk
  refine ⟨ρ k2, .dK ws, q1, True.intro, fun od => ?_⟩
  have mL : MRel (gx X tb) ρ (μ.set k2 (.lck kvs)) (upd H (ρ k2) (.frz od (.dK ws))) := m.put hk ⟨od, ws, rfl, q2⟩
  have eP : Ext (gx X tb) ρ μ.length H ρ μ.length (upd H (ρ k2) (.frz od (.dK ws))) := Ext.put m hk
  have hlen : (μ.set k2 (.lck kvs)).length = μ.length := List.length_set
  have hkl := (List.getElem?_eq_some_iff.mp hk).1
  refine ⟨ρ, σT, μ.set k2 (.lck kvs), mL, by rw [hlen]; exact l.ext eP, ?_⟩
  rw [hde]
  intro ρ1 v H1 e1 m1 dv
  rw [hlen] at e1
  obtain ⟨hk1, rfl⟩ := dv
  have a1 : ρ1 k2 = ρ k2 := e1.ag k2 hkl
  have hd1 : H1 (ρ k2) = some (.frz od (.dK ws)) := e1.fx _ _ upd_same True.intro
  refine ⟨ρ1 k2, od, ws, rfl, by rw [a1]; exact hd1, ?_⟩
  rw [a1]
  have dk0 : DVk X.K ρ μ.length (upd H (ρ k2) (.frz od (.dK ws))) kvs ws := q2.ext eP
  have dk1 := dk0.ext e1
  intro D hD
  have ef : Ext (gx X tb) ρ1 μ1.length H1 ρ1 μ1.length (upd H1 D (.dK [])) := Ext.fresh hD _
  have mf := m1.fresh (o := HO.dK []) hD
  have nD : ∀ i, i < μ1.length → ρ1 i ≠ D := fun i hi e => by
    obtain ⟨ho, h1, _⟩ := m1.ob i μ1[i] (by simp [hi])
    rw [e, hD] at h1; cases h1
  have lL : LRel X.K ρ1 μ1.length H1 σT σ := (l.ext eP).ext e1
  refine ⟨fun i mm H' => mm = kvs.length - i ∧ i ≤ kvs.length ∧ ∃ ρ' μ' acc' vs, Ext (gx X tb) ρ1 μ1.length H1 ρ' μ'.length H' ∧ MRel (gx X tb) ρ' μ' H' ∧ LRel X.K ρ' μ'.length H' (wipeT σT own) (L2.wipe σ own) ∧
      H' D = some (.dK vs) ∧ (∀ i, i < μ'.length → ρ' i ≠ D) ∧ DVk X.K ρ' μ'.length H' acc' vs ∧ ditGo p c ke ve (wipeT σT own) (kvs.drop i) acc' μ' = some (acc, μ2),
    ⟨kvs.length, by simp, Nat.zero_le _, ρ1, μ1, [], [], ef, mf, (lL.ext ef).wipe own, upd_same, nD, rfl, by rw [List.drop_zero]; exact hgo⟩, ?_⟩
  rintro i mm H' ⟨rfl, hi, ρ', μ', acc', vs, e2, m2, l2, hDv, nD', dA, fin⟩
  have stay : ∀ {ρ2 n2 H2}, Ext (gx X tb) ρ' μ'.length H' ρ2 n2 H2 → H2 D = some (.dK vs) := fun {ρ2 n2 H2} e => e.kp D _ hDv (fun i hi z => nD' i hi z.symm) fun ps z => nomatch z
  have away : ∀ {ρ2 : Nat → Addr} {μ2 : Mem} {H2 : Hp}, Ext (gx X tb) ρ' μ'.length H' ρ2 μ2.length H2 → ∀ i, i < μ2.length → ρ2 i ≠ D := fun {ρ2 μ2 H2} e i hi z => by
    by_cases h5 : i < μ'.length
    · rw [e.ag i h5] at z; exact nD' i h5 z
    · have := e.nw i (Nat.not_lt.mp h5) hi
      rw [z] at this
      exact this.no hDv (fun _ z => by cases z)
  have hd2 : H' (ρ k2) = some (.frz od (.dK ws)) := e2.fx _ _ hd1 True.intro
  have dk2 := dk1.ext e2
  have hwl : kvs.length = ws.length := dk1.length
  by_cases hlt : i < kvs.length
  · have hd : kvs.drop i = kvs[i] :: kvs.drop (i + 1) := List.drop_eq_getElem_cons hlt
    rw [hd] at fin
    unfold ditGo at fin
    split at fin
    · cases fin
    · rename_i σ4 hb
      refine .inr ⟨⟨hd2, by rw [← hwl]; exact hlt⟩, _, fun H3 q => q, fun x H3 y => ?_⟩
      obtain ⟨TT, kk, vv, y1, rfl, y3, rfl⟩ := y
      have e3 : Ext (gx X tb) ρ' μ'.length H' ρ' μ'.length (upd H' TT (.tup [kV kk, vv])) := Ext.fresh y3 _
      have m3 := m2.fresh (o := HO.tup [kV kk, vv]) y3
      have dx : DV X.K ρ' μ'.length (upd H' TT (.tup [kV kk, vv])) (.tup [ktT kvs[i].1, kvs[i].2]) (.ref TT) := by
        obtain ⟨t1, t2, t3⟩ := dk2.atI' (i := i) (q := kvs[i]) (by simp [hlt])
        rw [t2] at y1; cases y1
        refine ⟨TT, _, rfl, .inl (.inl upd_same), kV kvs[i].1, [_], rfl, ?_, _, [], rfl, t3.ext e3, rfl⟩
        cases kvs[i].1 <;> rfl
      refine ⟨ρ', μ'.length, wipeT σT own, _, σ4, l2.ext e3, dx, hb, fun σ5 l5 s5 => ⟨wipe_same s5 hs, ?_⟩⟩
      split at fin
      · rename_i μ4 hcq
        split at fin
        case h_2 => cases fin
        rename_i xk μ5 hke
        split at fin
        case h_2 => cases fin
        rename_i yv μ6 hve
        split at fin
        case h_2 => cases fin
        rename_i kq hkq
        split at fin
        case isFalse => cases fin
        rename_i hz
        refine ⟨ρ', σ4, μ', m3, l5, ?_⟩
        rw [hcq]
        intro ρ4 w4 H4 e4 m4 dq
        refine ⟨true, dq, ?_⟩
        show (if true = true then _ else _)
        rw [if_pos rfl]
        refine ⟨ρ4, σ4, μ4, m4, l5.ext e4, ?_⟩
        rw [hke]
        intro ρ5 w5 H5 e5 m5 d5
        refine ⟨ρ5, σ4, μ5, m5, (l5.ext e4).ext e5, ?_⟩
        rw [hve]
        intro ρ6 w6 H6 e6 m6 d6
        have e36 := ((e3.trans e4).trans e5).trans e6
        have hD6 := stay e36
        have nD6 := away e36
        refine ⟨vs, kq, keyT_of d5 hkq, hD6, by rw [← dA.length]; exact hz, _, by omega, rfl, hlt, ρ6, μ6, putKT acc' kq yv, L2.putK vs kq w6, (e2.trans e36).sid hD hD6 loo_dK, m6.sid hD6 loo_dK nD6, (l2.ext e36).sid (g := gx X tb) hD6 loo_dK, upd_same, nD6, (DVk.putK d6 (dA.ext e36)).sid (g := gx X tb) hD6 loo_dK, fin⟩
      · rename_i μ4 hcq
        refine ⟨ρ', σ4, μ', m3, l5, ?_⟩
        rw [hcq]
        intro ρ4 w4 H4 e4 m4 dq
        refine ⟨false, dq, ?_⟩
        show (if false = true then _ else _)
        rw [if_neg Bool.false_ne_true]
        have e34 := e3.trans e4
        exact ⟨_, by omega, rfl, hlt, ρ4, μ4, acc', vs, e2.trans e34, m4, l2.ext e34, stay e34, away e34, dA.ext e34, fin⟩
      · cases fin
  · have he : i = kvs.length := by omega
    rw [he, List.drop_length] at fin
    unfold ditGo at fin
    cases fin
    refine .inl ⟨⟨hd2, by rw [← hwl]; omega⟩, hd2, ?_⟩
    have a2 : ρ' k2 = ρ k2 := (e2.ag k2 hk1).trans a1
    have e12 := e1.trans e2
    have U := Ext.unlock m hk q1 e12 hd2
    have M := m2.unlock (kvs := kvs) a2 hd2 (Nat.lt_of_lt_of_le hk1 e2.le) dk2
    have hlen2 : (μ2.set k2 (.dct kvs)).length = μ2.length := List.length_set
    have nk : D ≠ ρ k2 := fun z => by rw [z, hd2] at hDv; cases hDv
    have hDn : Nt H D := (e1.th D (.inl hD)).un nk
    have hDv' : (upd H' (ρ k2) (.dK ws)) D = some (.dK vs) := by rw [upd_ne nk]; exact hDv
    have dA' : DVk X.K ρ' (μ2.set k2 (.dct kvs)).length (upd H' (ρ k2) (.dK ws)) acc vs := by
      rw [hlen2]
      exact dA.ren (fun k hk => ⟨hk, rfl⟩) fun _ _ => ⟨sqT_unl hd2, fsq_unl hd2, fun ws q => by rw [upd_ne (ne_of q hd2 (fun z => by cases z))]; exact q⟩
    obtain ⟨z1, z2, z3⟩ := ext_numO (p := D) (mo := .dct acc) (ho := .dK vs) (g := gx X tb) (by rw [hlen2]; exact U) M hDv' hDn (fun i hi => nD' i (by rw [← hlen2]; exact hi)) ⟨vs, rfl, dA'⟩
    exact h _ _ _ z1 z2 z3
theorem e_items {kx vx : Expr} {elts : List Expr} {kk : Nat} {tpos : Pos} {ifs : List Expr} {scope : Scope} {own : List (Str × Nat)} {p : Pat} {de c ke ve : EM} (hc : X.calm = true) (hN : X.N.Nodup) (hi : PE X e (tE (gx X tb) E de)) (ok : BlkOk X.N X.env.scope scope own) (hs : ∀ i ∈ pslots p, i ∈ own.map (·.2))
    (hg : ∀ (s : Shared) (H : Hp) (C : Addr) (cl : List (Str × Addr)) (fp : List Addr), PG (X.blk s H scope (compEnvC scope cl C X.env) fp) (.Tuple elts kk tpos) (tG X.K p)) (ht : ∀ (s : Shared) (H : Hp) (C : Addr) (cl : List (Str × Addr)) (fp : List Addr), PTs' (X.blk s H scope (compEnvC scope cl C X.env) fp) tb ifs (some c))
    (hk : ∀ (s : Shared) (H : Hp) (C : Addr) (cl : List (Str × Addr)) (fp : List Addr), PE (X.blk s H scope (compEnvC scope cl C X.env) fp) kx (tE (gx X tb) E0 ke))
    (hv : ∀ (s : Shared) (H : Hp) (C : Addr) (cl : List (Str × Addr)) (fp : List Addr), PE (X.blk s H scope (compEnvC scope cl C X.env) fp) vx (tE (gx X tb) E0 ve))
    (hf : ∀ x, foldedSetIterable (.Call (.Attribute e "items" apos) [] [] cpos) X.env x = pure x := by intro _; rfl) (hbase : attributeBase e "items" X.env (eval e X.env) = eval e X.env := by rfl) (hline : (apos.endLine == cpos.line) = true := by rfl) :
    PE X (.DictComp kx vx [⟨.Tuple elts kk tpos, .Call (.Attribute e "items" apos) [] [] cpos, ifs, 0⟩] scope pos) (tE (gx X tb) E (dItems de p (own.map (·.2)) c ke ve)) :=
  (pe_lock (pe_dc hc hN (pi_items hi hbase hline) ok hg (fun s H C cl fp => pts_of (ht s H C cl fp)) hk hv hf)).imp (tE_items hs)
end
end TL
set_option Elab.async false
set_option linter.all false
set_option maxRecDepth 100000
set_option maxHeartbeats 2000000
/-! TL11: written dicts, lists of bools asked -/
namespace TL
open PySem PySem.Spec PyProof.Rows L2
section
variable {X : Cx} {tb : List (Addr × Str)} {E : XK} {a b e o : Expr} {es : List Expr} {da db dd : EM} {d : AM} {pos p apos cpos : Pos}
/-! ### a dict of the written part -/
structure WD (w : World) (K : PySem.W.Frag) (mg : Str → Option Value) (x : Str) (tab : List (Str × T)) : Prop where
  ex : ∃ p es n, mg x = some (.ref p) ∧ K.lookup p = some ⟨.type "dict", none, .dict es n, #[]⟩ ∧ PySem.W.KeysLit w.params es.toList ∧ (p == sysModules) = false ∧
    ∀ q ∈ tab, ∃ v u, PySem.W.nsIn K p q.1 = some (some u) ∧ RelV v u ∧ ∀ ρ n H, DV K ρ n H q.2 v
theorem lookup_mem {κ : Type} [BEq κ] [LawfulBEq κ] {α : Type} : ∀ {l : List (κ × α)} {x : κ} {v : α}, l.lookup x = some v → (x, v) ∈ l
  | [], _, _, h => by simp at h
  | (y, w) :: r, x, v, h => by
    unfold List.lookup at h
    split at h
    · rename_i q
      cases h
      rw [show x = y from LawfulBEq.eq_of_beq q]
      exact List.mem_cons_self ..
    · exact List.mem_cons_of_mem _ (lookup_mem h)
def wdT (tab : List (Str × T)) : T → Mem → Res := fun y μ => match y with
  | .str z => (match tab.lookup z with
    | some t => .ok t μ
    | none => .bad)
  | _ => .bad
theorem e_wd {x : Str} {tab : List (Str × T)} (h : WD X.w X.K X.mg x tab) (hb : PE X b (tE (gx X tb) E db)) (hg : Gl X x := by rfl) (hd : (x == ("__debug__" : Str)) = false := by decide) (hs : PlainIx b := by exact fun _ _ => rfl) :
    PE X (.Subscript (.Name x p) b pos) (tE (gx X tb) E (d1 (wdT tab) db)) := by
  obtain ⟨q, es, n, h1, h2, h3, h4, h5⟩ := h.ex
  refine (pe_ix ix_kdict (pe_glob (v := .ref q) hg h1 rfl hd) hb hs).imp fun σ H Q z => ?_
  obtain ⟨ρ, σT, μ, m, l, z⟩ := z
  refine bindE m l z fun y μ1 ρ1 u H1 e1 m1 l1 dy g1 => ?_
  unfold wdT at g1
  split at g1
  · rename_i y0 zz
    split at g1
    · rename_i t ht
      obtain ⟨v, u', k1, k2, k3⟩ := h5 _ (lookup_mem ht)
      exact ⟨q, zz, v, rfl, dy, ⟨es, n, u', h2, h3, k1, k2⟩, g1.same m1 (k3 _ _ _)⟩
    · exact g1.elim
  · exact g1.elim
def wdNot (tab : List (Str × T)) : T → Mem → Res := fun y μ => match y with
  | .str z => (match tab.lookup z with
    | some _ => .ok (.bl false) μ
    | none => .bad)
  | _ => .bad
theorem e_wdNot {x : Str} {tab : List (Str × T)} (h : WD X.w X.K X.mg x tab) (hb : PE X b (tE (gx X tb) E db)) (hg : Gl X x := by rfl) (hd : (x == ("__debug__" : Str)) = false := by decide)
    (hm : behindInMarks .NotIn (.Name x p) = false := by first | exact nomark _ (by decide) (by decide) | with_unfolding_all rfl) :
    PE X (.Compare b [.NotIn] [.Name x p] pos) (tE (gx X tb) E (d1 (wdNot tab) db)) := by
  obtain ⟨q, es, n, h1, h2, h3, h4, h5⟩ := h.ex
  have op : OpR X (compareOp .NotIn) (fun x y H Q => ∃ z r, x = .str z ∧ y = .ref q ∧ PySem.W.nsIn X.K q z = some r ∧ Q (.bl (!r.isSome)) H) := by
    intro pins s σ H x y v u Q I rx ry h
    obtain ⟨z, r, rfl, rfl, k1, k2⟩ := h
    obtain ⟨t, rfl⟩ := rx
    obtain rfl : u = Value.ref q := ry
    refine wpAny_notIn_of (strKind_is X.prog X.w z t) h4 (PySem.W.mapOf_K (prog := X.prog) (w := X.w) I.kIn h2 h3) ?_
    rw [PySem.W.find_K h2 k1]
    exact ⟨_, _, I.tok _, (show RelV (.bl (!r.isSome)) (.bool (!r.isSome)) from rfl), k2⟩
  refine (pe_cmpR op hb (pe_glob (v := .ref q) hg h1 rfl hd) hm).imp fun σ H Q z => ?_
  obtain ⟨ρ, σT, μ, m, l, z⟩ := z
  refine bindE m l z fun y μ1 ρ1 u H1 e1 m1 l1 dy g1 => ?_
  unfold wdNot at g1
  split at g1
  · rename_i y0 zz
    split at g1
    · rename_i t ht
      obtain ⟨v, u', k1, k2, k3⟩ := h5 _ (lookup_mem ht)
      exact ⟨zz, _, dy, rfl, k1, g1.same m1 rfl⟩
    · exact g1.elim
  · exact g1.elim
theorem t_wdNot {x : Str} {tab : List (Str × T)} (h : WD X.w X.K X.mg x tab) (hb : PE X b (tE (gx X tb) E db)) (hg : Gl X x := by rfl) (hd : (x == ("__debug__" : Str)) = false := by decide)
    (hm : behindInMarks .NotIn (.Name x p) = false := by first | exact nomark _ (by decide) (by decide) | with_unfolding_all rfl) :
    PT X (.Compare b [.NotIn] [.Name x p] pos) (tT (gx X tb) E (d1 (wdNot tab) db)) := by
  obtain ⟨q, es, n, h1, h2, h3, h4, h5⟩ := h.ex
  have op : OpR X (compareOp .NotIn) (fun x y H Q => ∃ z r, x = .str z ∧ y = .ref q ∧ PySem.W.nsIn X.K q z = some r ∧ Q (.bl (!r.isSome)) H) := by
    intro pins s σ H x y v u Q I rx ry h
    obtain ⟨z, r, rfl, rfl, k1, k2⟩ := h
    obtain ⟨t, rfl⟩ := rx
    obtain rfl : u = Value.ref q := ry
    refine wpAny_notIn_of (strKind_is X.prog X.w z t) h4 (PySem.W.mapOf_K (prog := X.prog) (w := X.w) I.kIn h2 h3) ?_
    rw [PySem.W.find_K h2 k1]
    exact ⟨_, _, I.tok _, (show RelV (.bl (!r.isSome)) (.bool (!r.isSome)) from rfl), k2⟩
  refine (pt_cmpR op hb (pe_glob (v := .ref q) hg h1 rfl hd) hm).imp fun σ H Q z => ?_
  obtain ⟨ρ, σT, μ, m, l, z⟩ := z
  refine bindE m l z fun y μ1 ρ1 u H1 e1 m1 l1 dy g1 => ?_
  unfold wdNot at g1
  split at g1
  · rename_i y0 zz
    split at g1
    · rename_i t ht
      obtain ⟨v, u', k1, k2, k3⟩ := h5 _ (lookup_mem ht)
      exact ⟨zz, _, dy, rfl, k1, g1.same (v := .bl false) m1 rfl⟩
    · exact g1.elim
  · exact g1.elim
/-! ### lists of bools asked -/
theorem hold_bl {h : Heap} {b : Bool} : PySem.W.Holds h (.bool b) b := ⟨[], .bool b⟩
theorem bools_of : ∀ {bs : List Bool} {its : List Value} {h : Heap}, Vals (bs.map V.bl) its → PySem.W.HoldAll h its bs
  | [], _, _, r => by cases r; exact .nil
  | b :: r, _, h, q => by
    cases q with
    | cons h1 h2 =>
      rw [show _ = Value.bool b from h1]
      exact .cons hold_bl (bools_of h2)
theorem mt_countB (hu : X.A.units + 1 < cLine) : MtR X "list.count" (fun x xs H Q => ∃ (p : Addr) (bs : List Bool) (c : Bool), x = .ref p ∧ xs = [.bl c] ∧ SqL X.K H p (bs.map V.bl) ∧ Q (.int (bs.countP fun y => decide (y = c) : Nat)) H) := by
  intro pins s σ H x xs v us Q I rx rxs h
  obtain ⟨p, bs, c, rfl, rfl, hs, q⟩ := h
  cases rx
  obtain ⟨u, rfl, ru⟩ := rxs.one
  obtain rfl : u = Value.bool c := ru
  obtain ⟨its, rv, pl, hlen⟩ := I.list hs
  exact PySem.W.count_list_datum pl.isList (by simpa using bools_of rv) hold_bl (by show X.A.units + 1 + 0 < cLine; omega) ⟨.int _, H, I.tok _, ⟨s.toks, rfl⟩, q⟩
theorem mt_indexB (hu : X.A.units + 1 < cLine) : MtR X "list.index" (fun x xs H Q => ∃ (p : Addr) (bs : List Bool) (c : Bool), x = .ref p ∧ xs = [.bl c] ∧ SqL X.K H p (bs.map V.bl) ∧ bs.length ≤ sizeLine ∧ c ∈ bs ∧ Q (.int (bs.idxOf c : Nat)) H) := by
  intro pins s σ H x xs v us Q I rx rxs h
  obtain ⟨p, bs, c, rfl, rfl, hs, hz, hc, q⟩ := h
  cases rx
  obtain ⟨u, rfl, ru⟩ := rxs.one
  obtain rfl : u = Value.bool c := ru
  obtain ⟨its, rv, pl, hlen⟩ := I.list hs
  exact PySem.W.index_list_datum pl.isList (bools_of rv) hold_bl (by show X.A.units + 1 + 0 < cLine; omega) hz hc ⟨.int _, H, I.tok _, ⟨s.toks, rfl⟩, q⟩
def unBs : List T → Option (List Bool)
  | [] => some []
  | .bl b :: r => (unBs r).map fun bs => b :: bs
  | _ :: _ => none
theorem unBs_of : ∀ {ts : List T} {bs : List Bool}, unBs ts = some bs → ts = bs.map T.bl
  | [], _, e => by cases e; rfl
  | .bl b :: r, _, e => by
    simp only [unBs, Option.map_eq_some_iff] at e
    obtain ⟨cs, e1, rfl⟩ := e
    rw [unBs_of e1]; rfl
  | .non :: _, _, e => by simp [unBs] at e
  | .int _ :: _, _, e => by simp [unBs] at e
  | .str _ :: _, _, e => by simp [unBs] at e
  | .tup _ :: _, _, e => by simp [unBs] at e
  | .ref _ :: _, _, e => by simp [unBs] at e
  | .er _ _ :: _, _, e => by simp [unBs] at e
  | .fl _ :: _, _, e => by simp [unBs] at e
theorem bls_of {K : PySem.W.Frag} {ρ : Nat → Addr} {n : Nat} {H : Hp} : ∀ {bs : List Bool} {vs : List V}, DVs K ρ n H (bs.map T.bl) vs → vs = bs.map V.bl
  | [], _, d => d
  | b :: r, _, d => by
    obtain ⟨v, w, rfl, h2, h3⟩ := d
    rw [show v = _ from h2, bls_of h3]; rfl
def countBT : T → List T → Mem → Res := fun x ts μ => match x, ts with
  | .ref k, [.bl c] => (match μ[k]? with
    | some (.lst xs) => (match unBs xs with
      | some bs => .ok (.int (bs.countP fun y => decide (y = c) : Nat)) μ
      | none => .bad)
    | _ => .bad)
  | _, _ => .bad
def indexBT : T → List T → Mem → Res := fun x ts μ => match x, ts with
  | .ref k, [.bl c] => (match μ[k]? with
    | some (.lst xs) => (match unBs xs with
      | some bs => if bs.length ≤ sizeLine ∧ c ∈ bs then .ok (.int (bs.idxOf c : Nat)) μ else .bad
      | none => .bad)
    | _ => .bad)
  | _, _ => .bad
theorem ml_countB (hu : X.A.units + 1 < cLine) : MtL X tb "list.count" countBT := ⟨_, mt_countB hu, fun E Q ρ μ H x v ts vs m dx ds g => by
  unfold countBT at g
  split at g
  · rename_i k c
    split at g
    · rename_i xs hk
      split at g
      · rename_i bs hb
        obtain ⟨hkl, rfl⟩ := dx
        obtain ⟨w, r, rfl, h2, h3⟩ := ds
        rw [show r = [] from h3, show w = _ from h2]
        obtain ⟨ho, q1, ws, rfl, q2⟩ := m.ob k _ hk
        rw [unBs_of hb] at q2
        rw [bls_of q2] at q1
        exact ⟨_, bs, c, rfl, rfl, SqL.of q1, g.same m rfl⟩
      · exact g.elim
    · exact g.elim
  · exact g.elim⟩
theorem ml_indexB (hu : X.A.units + 1 < cLine) : MtL X tb "list.index" indexBT := ⟨_, mt_indexB hu, fun E Q ρ μ H x v ts vs m dx ds g => by
  unfold indexBT at g
  split at g
  · rename_i k c
    split at g
    · rename_i xs hk
      split at g
      · rename_i bs hb
        split at g
        · rename_i hz
          obtain ⟨hkl, rfl⟩ := dx
          obtain ⟨w, r, rfl, h2, h3⟩ := ds
          rw [show r = [] from h3, show w = _ from h2]
          obtain ⟨ho, q1, ws, rfl, q2⟩ := m.ob k _ hk
          rw [unBs_of hb] at q2
          rw [bls_of q2] at q1
          exact ⟨_, bs, c, rfl, rfl, SqL.of q1, hz.1, hz.2, g.same m rfl⟩
        · exact g.elim
      · exact g.elim
    · exact g.elim
  · exact g.elim⟩
end
end TL
set_option Elab.async false
set_option linter.all false
set_option maxRecDepth 100000
set_option maxHeartbeats 2000000
/-! TL12: errors caught, lambdas called -/
namespace TL
open PySem PySem.Spec PyProof.Rows L2
/-- what the written part says of an own class of errors, asked by isinstance -/
structure ErK (K : PySem.W.Frag) (D : Addr) : Prop where
  cl : (PySem.W.clsIn K D).isSome = true
  ga : PySem.W.findIn K (.ref D) "__getattribute__" = some (some (.builtin "BaseException.__getattribute__"))
  gt : PySem.W.findIn K (.ref D) "__getattr__" = some none
  sb : PySem.W.subIn K (.ref D) (.type "BaseException") = some true
  ca : PySem.W.findIn K (.ref D) "__class__" = some (some (.builtin "object.__class__"))
  cn : PySem.W.specialIn K (.builtin "object.__class__") "__get__" = some (some (.builtin "getset_descriptor.__get__"))
  ct : PySem.W.takesIn K (.builtin "object.__class__") = some true
  mr : PySem.W.mroIn K D (.type "object") = some true
section
variable {X : Cx} {tb : List (Addr × Str)} {E : XK} {pos p p2 p3 : Pos}
theorem call_isEd {a C : Addr} {oe : Obj} {d : Option Addr} {pn : List (Addr × Obj)} (F : ErK X.K C) (hz : Zc (.ref C) d oe) (hf : ∃ vs, oe.data = .fields vs) :
    CallR (X.suite a ((a, oe) :: pn)) (.builtin "isinstance") (fun xs H Q => ∃ (c : V) (cv : Value) (b : Bool), xs = [.ref a, c] ∧ (∀ u, RelV c u → u = cv) ∧ PySem.W.kitOne X.K (.ref C) cv = some b ∧ (∀ dx, d = some dx → ∃ ws, H dx = some (.xd ws)) ∧ Q (.bl b) H) := by
  intro pins s σ H xs us Q I r h
  obtain ⟨c, cv, b, rfl, hcv, e, hd, q⟩ := h
  cases r with
  | cons rx rr =>
    cases rr with
    | cons rt rr =>
      cases rr
      cases rx
      have ec := hcv _ rt
      subst ec
      obtain ⟨hget, _⟩ := I.pin (a, oe) (List.mem_append.mpr (.inl List.mem_cons_self))
      obtain ⟨vs, hv⟩ := hf
      have J : ∃ od, PySem.W.InstAt s.heap a oe C od := by
        obtain ⟨oc, odd, oda, osl⟩ := oe
        obtain ⟨h1, h2⟩ := hz
        dsimp only at h1 h2 hv
        subst h1 h2 hv
        cases odd with
        | none => exact ⟨none, hget, rfl, rfl, trivial⟩
        | some dx =>
          obtain ⟨ws, hw⟩ := hd dx rfl
          obtain ⟨mA, ⟨od, es, ep, ho, _⟩, _⟩ := I.hok dx _ hw
          exact ⟨some od, hget, rfl, rfl, ho⟩
      obtain ⟨od, J⟩ := J
      exact PySem.W.kia_one (PySem.W.kitx_exc F.cl F.ga F.gt F.sb F.ca F.cn F.ct F.mr) I.kIn J e (fun z => nomatch z) fun tk => ⟨.bl b, H, I.kept (t' := tk) fun _ _ z => z, rfl, q⟩
/-- isinstance(e, x), e the caught error in slot i -/
def dIsErr (i : Nat) (a : Addr) (d : Option Addr) (b : Bool) : EM := fun σ μ => match σ[i]? with
  | some (some (.er a' d')) => if a' = a ∧ d' = d then .ok (.bl b) μ else .bad
  | _ => .bad
theorem e_isErr {a C D : Addr} {oe : Obj} {d : Option Addr} {pn : List (Addr × Obj)} {n x : Str} {b : Bool} (i : Nat) (F : ErK X.K C) (hz : Zc (.ref C) d oe) (hf : ∃ vs, oe.data = .fields vs) (hk : PySem.W.kitOne X.K (.ref C) (.ref D) = some b) (hm : X.mg "isinstance" = none) (hx : X.mg x = some (.ref D))
    (hi : X.N[i]? = some n := by rfl) (hv0 : Vis X.env.scope n := by first | exact .inl rfl | exact .inr (.inl rfl) | exact .inr (.inr rfl)) (hg : Gl X "isinstance" := by rfl) (hg2 : Gl X x := by rfl)
    (hn1 : (n == ("__debug__" : Str)) = false := by decide) (hn2 : (n == ("__classdict__" : Str)) = false := by decide) (hd2 : (x == ("__debug__" : Str)) = false := by decide) (hv : bootBuiltins "isinstance" = some (.builtin "isinstance") := by decide +kernel)
    (hs : starEach [.Name n p2, .Name x p3] X.env = (false, eval (.Name n p2) X.env) :: starEach [.Name x p3] X.env := by rfl) (hs2 : starEach [.Name x p3] X.env = [(false, eval (.Name x p3) X.env)] := by rfl) (hpl : (backTo pos (starEach [.Name x p3] X.env)).any (·.1) = false := by rfl) :
    PE (X.suite a ((a, oe) :: pn)) (.Call (.Name "isinstance" p) [.Name n p2, .Name x p3] [] pos) (tE (gx X tb) E (dIsErr i a d b)) :=
  (pe_callB (X := X.suite a ((a, oe) :: pn)) (call_isEd F hz hf) hg hm hv (pa_cons (pe_var (X := X.suite a ((a, oe) :: pn)) (i := i) hi hv0 hn1 hn2) (pa_cons (pe_glob (X := X.suite a ((a, oe) :: pn)) (v := .ref D) hg2 hx rfl hd2) pa_nil hs2) hs) (by decide) (by decide) hs hpl).imp fun σ H Q h => by
    obtain ⟨ρ, σT, μ, m, l, h⟩ := h
    unfold dIsErr at h
    split at h
    · rename_i a' d' hs
      split at h
      · rename_i hh
        obtain ⟨rfl, rfl⟩ := hh
        obtain ⟨v, h1, h2⟩ := l.at_ i _ hs
        rw [show v = _ from h2.1] at h1
        exact ⟨.ref a', h1, .ref D, .ref D, b, rfl, fun u r => r, hk, h2.2, h.same m rfl⟩
      · exact h.elim
    · exact h.elim
end
/-! ### lambdas without parameters -/
open LamX in
theorem Ext.ofN {g : G} {ρ : Nat → Addr} {n : Nat} {H H1 : Hp} (eN : ExtN H H1) (T1 : Tabs g.tabs H1) : Ext g ρ n H ρ n H1 :=
  ⟨Nat.le_refl _, fun _ _ => rfl, fun i h1 h2 => absurd h2 (Nat.not_lt.mpr h1), fun b o h _ ht => eN b o h ht, fun b o h f => eN b o h fun ps z => by subst z; exact f, fun b h => by
    cases q : H b with
    | none => exact .inl q
    | some o =>
      by_cases ht : ∃ ps, o = .tbl ps
      · obtain ⟨ps, rfl⟩ := ht
        exact .inr ⟨ps, q⟩
      · exact (h.no (eN b o q fun ps z => ht ⟨ps, z⟩) fun ps z => ht ⟨ps, z⟩).elim, fun _ => T1⟩
section
open LamX
variable {X : Cx} {pins : List (Addr × Obj)} {σ : L2.St} {H HZ : Hp} {s s1 : Shared}
/-- x(), in the def that got the lambda: Z is that def's context, entered at s -/
theorem pe_actS {CXg : CXT} {Eg : XK} {Ng : List Str} {qg : Str} {sg : Scope} {g f c' : Addr} {cdg pm ctv : Value} {params : Arguments} {body : Expr} {scope : Scope} {k i : Nat} {a : Str} {pn : List (Addr × Obj)} {xe : Value → Shared → Prop} {W : WX} {tb : XK → TE} {p1 p2 : Pos}
    (I : Inv X pins σ H s) (L : LamS X.env.scope scope) (hf : s.heap.get? f = some (PySem.W.kla_obj "<lambda>" (X.env.qual ++ "<lambda>") params body scope (cloFrom X.env.cells scope.names []) pm c' ctv)) (hfn : H f = none) (hfr : f ∉ frs X.stack)
    (hbind : bindArgs (PySem.W.kla_fn "<lambda>" (X.env.qual ++ "<lambda>") params body scope (cloFrom X.env.cells scope.names []) pm (.ref c') ctv) ⟨[], []⟩ = pure [])
    (tk : Takes ((cxOf CXg X.prog X.w X.K X.mg X.base Ng qg sg g cdg X.A X.stack s H Eg).tr pn xe) W) (hr : Room (k + 1) (X.A.deeper (envOfC qg sg s.heap.objs.size g cdg)))
    (hbody : ∀ (A : Around) (outer : List Env) (s : Shared) (H : Hp) (E : XK), Room k (A.deeper (lamEnv X scope s.heap.objs.size f c')) → PE (lamCx X A outer s H E scope f c') body (tb E))
    (hN : Ng[i]? = some a) (hv : Vis sg a) (hd : (a == ("__debug__" : Str)) = false := by decide) (hcd : (a == ("__classdict__" : Str)) = false := by decide) :
    PE ((cxOf CXg X.prog X.w X.K X.mg X.base Ng qg sg g cdg X.A X.stack s H Eg).tr pn xe) (.Call (.Name a p1) [] [] p2)
      (fun σZ HZ Q => σZ[i]? = some (some (.ref f)) ∧ HZ c' = some (CodeO c' (X.env.qual ++ "<lambda>")) ∧ ∃ E : XK, (∀ cls d H', E cls d H' → W cls d σZ H') ∧ tb E σ HZ Q) := by
  refine ⟨fun pinsZ sZ σZ HZ Q IZ h => ?_⟩
  obtain ⟨hs, hc, E, hW, ht⟩ := h
  refine wpAny_Call_Name_kw (thn ((pe_var (pos := p1) (i := i) hN hv hd hcd).run pinsZ sZ σZ HZ (fun v H1 => v = .ref f ∧ H1 = HZ) IZ ⟨.ref f, hs, rfl, rfl⟩) fun u s1 ⟨v, H1, I1, r1, q1⟩ => ?_)
  obtain ⟨ev, eH⟩ := q1
  subst ev
  rw [eH] at I1
  obtain rfl : u = Value.ref f := r1
  have of1 : s1.heap.get? f = some (PySem.W.kla_obj "<lambda>" (X.env.qual ++ "<lambda>") params body scope (cloFrom X.env.cells scope.names []) pm c' ctv) := I1.base.keep f _ hf hfn hfr (fun z => nomatch (show f ∈ ([] : List Addr) from z))
  refine PySem.W.callWith_F0 ⟨_, _, _, _, of1⟩ ?_
  have un : Un (frs X.stack) [] H HZ s.heap s1.heap := I1.base
  obtain ⟨⟨oc, vs, t, hoc, hdc, hvc⟩, _, _⟩ := I1.hok c' _ hc
  have rc : codeAny (model X.prog X.w) (X.A.deeper (envOfC qg sg s.heap.objs.size g cdg)) (.call (.ref f) ⟨[], []⟩) (CR (L2.CX X.prog X.w) (envOfC qg sg s.heap.objs.size g cdg :: X.stack) X.prog X.w HZ s1 Q E) s1 := by
    refine PySem.W.kla_callFunE hr.depth of1 rfl L.co L.gen rfl ⟨c', oc, vs, t, rfl, hoc, hdc, hvc⟩ ?_
    rw [hbind]
    refine wpAny_pure (wpAny_newFunctionEnv (fun y hy => (L.own y hy).2) (fun y hy => absurd hy (by simp)) (fun h₁ hns hsb => ⟨I1.nolimit.fresh _ hsb, ?_⟩) L.kind)
    show codeAny _ _ (.expr body (lamEnv X scope s1.heap.objs.size f c')) _ _
    have kp : ∀ b o, s1.heap.get? b = some o → h₁.get? b = some o := fun b o e => hsb.extBut b o (Nat.ne_of_lt (Heap.lt_size e)) (Heap.get?_push_of_some _ e)
    have J : Inv (lamCx X (X.A.deeper (envOfC qg sg s.heap.objs.size g cdg)) (envOfC qg sg s.heap.objs.size g cdg :: X.stack) s1 HZ E scope f c') [] σ HZ { s1 with heap := h₁, toks := s1.toks + ([] : List (Str × Value)).length } :=
      lam_start2 I L I1.env0 hr.hd un hns kp
    refine PySem.W.kla_codeExpr (wpAny_mono ((hbody _ _ s1 HZ E (hr.deeper _)).run [] _ _ HZ Q J ht) (fun v s' hq => ?_) fun e s' hq => hq)
    obtain ⟨w', H', J', rv, q⟩ := hq
    exact ⟨w', H', J'.os, J'.bare, J'.base, J'.hok, rv, q⟩
  refine wpAny_call (codeAny_mono rc fun r s' hq => ?_)
  cases r with
  | error e => exact tk e s' (XE.of_call I1 hW hq)
  | ok fl =>
    cases fl with
    | ret u => exact I1.after hq
    | next => exact False.elim hq
    | brk => exact False.elim hq
    | cont => exact False.elim hq
def GivesS (kr : Nat) (X : Cx) (Ng : List Str) (x : Str) (sg : Scope) (g : Addr) (cdg : Value) (bg : List Stmt) (a : Str) (q : Str) (TT : (XK → Hp → VK → Prop) → Hp → VK → Prop) : Prop :=
  ∀ (f c' : Addr) (s : Shared) (H : Hp) (Q : VK) (tl : XK → Hp → VK → Prop), Room kr (X.A.deeper (envOfC x sg s.heap.objs.size g cdg)) →
    (∀ (W : WX) (pn : List (Addr × Obj)) (xe : Value → Shared → Prop) (p1 p2 : Pos), Takes ((cxOf C8.CX0 X.prog X.w X.K X.mg X.base Ng x sg g cdg X.A X.stack s H C8.E0).tr pn xe) W →
      PE ((cxOf C8.CX0 X.prog X.w X.K X.mg X.base Ng x sg g cdg X.A X.stack s H C8.E0).tr pn xe) (.Call (.Name a p1) [] [] p2) (fun σZ HZ Q => σZ[0]? = some (some (.ref f)) ∧ HZ c' = some (CodeO c' q) ∧ ∃ E : XK, (∀ cls d H', E cls d H' → W cls d σZ H') ∧ tl E HZ Q)) →
    H c' = some (CodeO c' q) → TT tl H Q →
    ∃ t, PSs (cxOf C8.CX0 X.prog X.w X.K X.mg X.base Ng x sg g cdg X.A X.stack s H C8.E0).nox bg t ∧ t { nx := fun _ H' => Q .non H', rt := Q } (L2.start Ng [.ref f]) H
/-- x(lambda: body) -/
theorem pe_lamcallS {T : List (Addr × Str)} {TT : (XK → Hp → VK → Prop) → Hp → VK → Prop} {x a : Str} {g c P : Addr} {k : Nat} {pg : Arguments} {bg : List Stmt} {sg : Scope} {dV kV doc pm cdv ct oc : Value} {an od : Option Addr} {osl : Array (Option Value)} {Ng : List Str}
    {params : Arguments} {body : Expr} {scope : Scope} {t : XK → TE} {p lpos pos : Pos} (hg : Gl X x) (hm : X.mg x = some (.ref g)) (hk : PySem.W.keepIn X.K (.ref g) = true)
    (lk : X.K.lookup g = some ⟨oc, od, .func (PySem.W.fnOf x x pg bg sg dV kV doc pm an cdv ct), osl⟩) (hcg : PySem.W.codeIn X.K cdv x = true) (hb : L2.Binds X.K (PySem.W.fnOf x x pg bg sg dV kV doc pm an cdv ct) [a] []) (Sg : FnScope Ng [a] sg) (hNg : Ng[0]? = some a) (hva : Vis sg a)
    (hG : GivesS (k + 1) X Ng x sg g cdv bg a (X.env.qual ++ "<lambda>") TT)
    (TB : TabB X.base X.mg c P) (hcode : X.env.code = .ref c) (hmT : (P, X.env.qual ++ "<lambda>") ∈ T) (hu : ∀ p ∈ T, p.1 = P → p.2 = X.env.qual ++ "<lambda>") (hr : Room (k + 2) X.A) (L : LamS X.env.scope scope) (hdef : defaultsOf params X.env = ([], []))
    (hbind : ∀ (q : Str) (cl : List (Str × Addr)) (pm cv ctv : Value), bindArgs (PySem.W.kla_fn "<lambda>" q params body scope cl pm cv ctv) ⟨[], []⟩ = pure [])
    (hbody : ∀ (A : Around) (outer : List Env) (s : Shared) (H : Hp) (E : XK) (f c' : Addr), Room k (A.deeper (lamEnv X scope s.heap.objs.size f c')) → PE (lamCx X A outer s H E scope f c') body (t E))
    (hdb : (x == ("__debug__" : Str)) = false := by decide) (hd : (a == ("__debug__" : Str)) = false := by decide) (hcd : (a == ("__classdict__" : Str)) = false := by decide) :
    PE X (.Call (.Name x p) [.Lambda params body scope lpos] [] pos) (tLam T TT t) := by
  refine ⟨fun pins s σ H Q I h => ?_⟩
  obtain ⟨hT, h⟩ := h
  refine wpAny_Call_Name_kw (ld_glob I hg hm ?_ hdb)
  refine PySem.W.callWith_K (h₀ := X.base) I.ok.mod.kin hk ?_ (by rfl) (by rfl)
  show wpAny _ _ (spliced ((false, eval (.Lambda params body scope lpos) X.env) :: backTo pos (starEach [] X.env))) _ _ s
  refine Calls.spliced_cons (lam_make2 I TB hcode hmT hu hT hdef (L.has I.ok) fun f c' pm' ctv H1 s' I1 eN T1 hf hfn hfr hco => ?_)
  refine Calls.spliced_nil ⟨I1.kIn, ?_⟩
  have rc : codeAny (model X.prog X.w) X.A (.call (.ref g) ⟨[.ref f], []⟩) (CR C8.CX0 X.stack X.prog X.w H1 s' Q C8.E0) s' := by
    refine run_ofS (N := Ng) (ps := [a]) (us := [.ref f]) (vs := [.ref f]) lk hcg Sg hr I1.env0 (hb s' [.ref f] I1.kIn rfl) (.cons rfl .nil) rfl fun hr' => ?_
    obtain ⟨t', ht', hq'⟩   := hG f c' s' H1 Q (fun E H' Q' => t E σ H' Q') hr' (fun W pn xe p1 p2 tk => pe_actS (i := 0) I1 L hf hfn hfr (hbind _ _ _ _ _) tk hr' (fun A outer s H E hr2 => hbody A outer s H E f c' hr2) hNg hva hd hcd) hco (h H1 eN T1)
    exact ⟨t', ht'.nox, hq'⟩
  refine wpAny_call (codeAny_mono rc fun r s2 hq => ?_)
  cases r with
  | error e => exact (show False from hq).elim
  | ok fl =>
    cases fl with
    | ret u => exact I1.after hq
    | next => exact False.elim hq
    | brk => exact False.elim hq
    | cont => exact False.elim hq
/-- what a def that calls its lambda makes of the lambda's end -/
def TTw (g : G) (F : Res → Res) : (XK → Hp → VK → Prop) → Hp → VK → Prop := fun tl H Q => ∃ ρ μ r, MRel g ρ μ H ∧ Good g (fun _ _ _ => False) Q ρ μ.length H (F r) ∧ ∀ E' Q', Good g E' Q' ρ μ.length H r → tl E' H Q'
theorem tE_lam {tb : List (Addr × Str)} {E : XK} {F : Res → Res} {d : EM} (hF : ∀ r c fs μ, F r ≠ .exc c fs μ) : ∀ σ H Q, tE (gx X tb) E (fun σ μ => F (d σ μ)) σ H Q → tLam tb (TTw (gx X tb) F) (fun E => tE (gx X tb) E d) σ H Q := fun σ H Q h => by
  obtain ⟨ρ, σT, μ, m, l, h⟩ := h
  refine ⟨m.tb, fun H1 eN T1 => ?_⟩
  have e : Ext (gx X tb) ρ μ.length H ρ μ.length H1 := Ext.ofN eN T1
  have m1 : MRel (gx X tb) ρ μ H1 := m.same e fun i o hi h => by
    obtain ⟨ho, h1, h2⟩ := m.ob i μ[i] (by simp [hi])
    rw [h] at h1; cases h1
    exact eN _ _ h h2.noTbl
  refine ⟨ρ, μ, d σT μ, m1, ?_, fun E' Q' g' => ⟨ρ, σT, μ, m1, l.ext e, g'⟩⟩
  have g2 : Good (gx X tb) E Q ρ μ.length H1 (F (d σT μ)) := Good.later e h
  cases q : F (d σT μ) with
  | ok t μ' => rw [q] at g2; exact g2
  | exc c fs μ' => exact absurd q (hF _ _ _ _)
  | bad => rw [q] at g2; exact g2
end
end TL
set_option Elab.async false
set_option linter.all false
set_option maxRecDepth 100000
set_option maxHeartbeats 2000000
/-! TL13: the def that calls a lambda and tells the word of its error -/
namespace TL
open PySem PySem.Spec PyProof.Rows L2 LamX
section
variable {X : Cx} {tb : List (Addr × Str)}
theorem gives_word {kr : Nat} {Ng : List Str} {x : Str} {sg : Scope} {g : Addr} {cdg : Value} {a q n1 n2 xe told : Str} {F : Res → Res} {dh : Addr → Option Addr → Str → SM} {cls : List Str} {TE : Addr} {i : Nat} {j : Nat} {b0 : Stmt} {suite : List Stmt} {p1 p2 p3 p4 p5 p6 p7 p8 p9 p10 p11 : Pos}
    (hN : Ng.Nodup) (h1 : Ng[1]? = some n1) (hi : Ng[i]? = some n2) (hi0 : i ≠ 0) (hi1 : i ≠ 1) (hl1 : sg.names.lookup n1 = some .local) (hl2 : sg.names.lookup n2 = some .local) (hgt : sg.names.lookup xe = some .globalImplicit) (hdt : (xe == ("__debug__" : Str)) = false) (hmt : X.mg xe = some (.ref TE))
    (hd1 : (n1 == ("__debug__" : Str)) = false) (hc1 : (n1 == ("__classdict__" : Str)) = false)
    (hder : ∀ (s : Shared) (H : Hp) (a : Addr) (oe : Obj) (C : Addr) (cn : Str) (d : Option Addr) (pn : List (Addr × Obj)), Room kr (X.A.deeper (envOfC x sg s.heap.objs.size g cdg)) → cn ∈ cls → X.mg cn = some (.ref C) → Zc (.ref C) d oe → (∃ vs, oe.data = .fields vs) →
      PSs ((cxOf C8.CX0 X.prog X.w X.K X.mg X.base Ng x sg g cdg X.A X.stack s H C8.E0).nox.suite a ((a, oe) :: pn)) (b0 :: suite) (tS (gx X tb) (fun _ _ _ => False) (dh a d cn)))
    (hok : ∀ t μ, F (.ok t μ) = .ok (.str told) μ) (hbad : F .bad = .bad)
    (hex : ∀ c fs μ, F (.exc c fs μ) = .bad ∨ ∃ w μ'', F (.exc c fs μ) = .ok (.str w) μ'' ∧ c ∈ cls ∧ (∀ C, X.mg c = some (.ref C) → PySem.W.exmOne X.K (.ref C) (.ref TE) = some true) ∧
      ∀ a d, ∃ σT', dh a d c ((none :: some (.str told) :: List.replicate (Ng.length - 2) none).set i (some (.er a d))) μ = .nx σT' μ'' ∧ σT'[1]? = some (some (.str w))) :
    GivesS kr X Ng x sg g cdg [.Assign [.Name n1 p1] (.Constant (.str told) j p2) p3, .Try [.Expr (.Call (.Name a p4) [] [] p5) p6] [.ExceptHandler (some (.Name xe p7)) (some n2) (b0 :: suite) p8] [] [] p9, .Return (some (.Name n1 p10)) p11] a q (TTw (gx X tb) F) := by
  intro f c' s H Q tl hrm act hc hT
  obtain ⟨ρ, μ, r, m, good, htl⟩ := hT
  have hNl : 2 ≤ Ng.length := by
    have := (List.getElem?_eq_some_iff.mp h1).1
    omega
  have hil : i < Ng.length := (List.getElem?_eq_some_iff.mp hi).1
  let Z : Cx := (cxOf C8.CX0 X.prog X.w X.K X.mg X.base Ng x sg g cdg X.A X.stack s H C8.E0).nox
  let ts : Addr → Value → Option Addr → TS := fun a cl d D σ H => ∃ C cn, cl = .ref C ∧ cn ∈ cls ∧ X.mg cn = some (.ref C) ∧ tS (gx X tb) (fun _ _ _ => False) (dh a d cn) D σ H
  have P1 : PS Z (.Assign [.Name n1 p1] (.Constant (.str told) j p2) p3) (tAsg (tC (.str told)) (gName 1)) := ps_set (X := Z) (i := 1) hN h1 (.inl hl1) pe_str rfl (.inr hl1)
  have P2 := ps_try_as (X := Z) (x := xe) (n := n2) (c := .ref TE) (i := i) (body := [.Expr (.Call (.Name a p4) [] [] p5) p6]) (suite := suite) (b₀ := b0) (np := p7) (pos := p9) (pos' := p8) (Wout := fun _ _ _ _ => False) (ts := ts)
    (tb := fun W => tDrop (fun σZ HZ Q => σZ[0]? = some (some (.ref f)) ∧ HZ c' = some (CodeO c' q) ∧ ∃ E : XK, (∀ cls d H', E cls d H' → W cls d σZ H') ∧ tl E HZ Q))
    rfl rfl hN hi hl2 ⟨hgt, hdt, .inl hmt⟩ L2.takes0 (fun W pn xe tk _ => pss_one (ps_expr (act W pn xe p4 p5 tk)))
    (fun a oe cl d pn hz hf => ⟨fun pins s' σ' H' D I h => by
      obtain ⟨C, cn, rfl, k1, k2, k3⟩ := h
      exact (hder s H a oe C cn d pn hrm k1 k2 hz hf).run pins s' σ' H' D I k3⟩)
  have P3 : PS Z (.Return (some (.Name n1 p10)) p11) (tRet (tVar 1)) := ps_ret (pe_var (X := Z) (i := 1) h1 (.inl hl1) hd1 hc1)
  refine ⟨_, pss_cons P1 (pss_cons P2 (pss_one P3)), ?_⟩
  have e0 : L2.start Ng [V.ref f] = some (V.ref f) :: none :: List.replicate (Ng.length - 2) none := by
    unfold L2.start
    obtain ⟨k, hk⟩ : ∃ k, Ng.length = k + 2 := ⟨Ng.length - 2, by omega⟩
    simp [hk, List.replicate_succ]
  rw [e0]
  show _ ∧ _ ∧ _
  refine ⟨rfl, hc, _, fun cls d H' z => z, htl _ _ ?_⟩
  cases r with
  | ok t μ' =>
    rw [hok] at good
    intro ρ' v H' e' m' dv
    exact ⟨V.str told, rfl, good ρ' _ H' e' m' rfl⟩
  | bad => rw [hbad] at good; exact good
  | exc c fs μ' =>
    rcases hex c fs μ' with z | ⟨w, μ'', z, k1, k2, k3⟩
    · rw [z] at good; exact good.elim
    · rw [z] at good
      intro ρ' H' C d e' m' hmc xd
      refine ⟨true, k2 C hmc, fun _ a0 na => ⟨C, c, rfl, k1, hmc, ?_⟩, fun z => nomatch z⟩
      obtain ⟨σT', k4, k5⟩ := k3 a0 d
      refine ⟨ρ', (none :: some (.str told) :: List.replicate (Ng.length - 2) none).set i (some (.er a0 d)), μ', m', ?_, ?_⟩
      · refine ⟨by simp, fun y t ht => ?_⟩
        by_cases hy : i = y
        · subst hy
          rw [List.getElem?_set_self (by simp; omega)] at ht
          cases ht
          refine ⟨.ref a0, by rw [List.getElem?_set_self (by simp; omega)], rfl, fun dx hdx => ?_⟩
          rcases xd with ⟨_, hd⟩ | ⟨ax, ws, _, hd, hx, _⟩
          · rw [hdx] at hd; cases hd
          · rw [hdx] at hd; cases hd
            exact ⟨ws, hx⟩
        · rw [List.getElem?_set_ne hy] at ht ⊢
          match y, ht with
          | 0, ht => simp at ht
          | 1, ht =>
            simp at ht
            subst ht
            exact ⟨.str told, rfl, rfl⟩
          | y + 2, ht =>
            simp [List.getElem?_replicate] at ht
      · rw [k4]
        intro ρ2 σ2 H2 e2 m2 l2
        obtain ⟨v, q1, q2⟩ := l2.at_ 1 _ k5
        refine ⟨v, ?_, ?_⟩
        · show (σ2.set i none)[1]? = some (some v)
          rw [List.getElem?_set_ne hi1]; exact q1
        · exact good ρ2 _ H2 (e'.trans e2) m2 q2
end
end TL
set_option Elab.async false
set_option linter.all false
set_option maxRecDepth 100000
set_option maxHeartbeats 2000000
/-! TL14: defs whose code is known, lambdas in the tree layer, errors with a field -/
namespace TL
open PySem PySem.Spec PyProof.Rows L2
/-- a def of the text as it stands behind the top, its code object at hand -/
structure FD (K : PySem.W.Frag) (x qual : Str) (st : Stmt) (f : Addr) (cdv : Value) : Prop where
  ex : ∃ (oc : Value) (od : Option Addr) (kV doc pm : Value) (an : Option Addr) (ct : Value) (osl : Array (Option Value)), K.lookup f = some ⟨oc, od, .func (PySem.W.fnOf x qual (defArgs st) (defBody st) (defScope st) .none kV doc pm an cdv ct), osl⟩
  cd : PySem.W.codeIn K cdv qual = true
  kp : PySem.W.keepIn K (.ref f) = true
theorem fd_mk {K : PySem.W.Frag} {x qual : Str} {st : Stmt} {f : Addr} {oc : Value} {od an : Option Addr} {osl : Array (Option Value)} {kV doc pm cdv ct : Value} (l : K.lookup f = some ⟨oc, od, .func (PySem.W.fnOf x qual (defArgs st) (defBody st) (defScope st) .none kV doc pm an cdv ct), osl⟩)
    (c : PySem.W.codeIn K cdv qual = true) (k : PySem.W.keepIn K (.ref f) = true) : FD K x qual st f cdv := ⟨⟨_, _, _, _, _, _, _, _, l⟩, c, k⟩
/-- its arguments are bound by places -/
def BindP (x qual : Str) (st : Stmt) (ps : List Str) : Prop := ∀ (kV doc pm : Value) (an : Option Addr) (cdv ct : Value) (us : List Value), us.length = ps.length → bindArgs (PySem.W.fnOf x qual (defArgs st) (defBody st) (defScope st) .none kV doc pm an cdv ct) ⟨us, []⟩ = pure (ps.zip us)
section
variable {P : Program} {w : World} {K : PySem.W.Frag} {mg : Str → Option Value} {base : Heap} {tb : List (Addr × Str)}
theorem fd_ok {x qual : Str} {st : Stmt} {f : Addr} {cdv : Value} {N ps : List Str} {k : Nat} {d : SM} (F : FD K x qual st f cdv) (S : FnScope N ps (defScope st)) (B : BindP x qual st ps)
    (hb : ∀ (A : Around) (outer : List Env) (s : Shared) (H : Hp) (E : XK), Room k (A.deeper (envOfC qual (defScope st) s.heap.objs.size f cdv)) → PSs (cxOf (L2.CX P w) P w K mg base N qual (defScope st) f cdv A outer s H E) (defBody st) (tS ⟨K, mg, tb⟩ E d)) :
    ∃ fd, FnOk P w K mg base (L2.CX P w) (k + 1) f fd ps (spT ⟨K, mg, tb⟩ ps.length (runF N.length d)) ∧ Binds K fd ps [] := by
  obtain ⟨oc, od, kV, doc, pm, an, ct, osl, lk⟩ := F.ex
  refine ⟨_, fn_of lk F.cd S (fun vs H Q E h => ?_) fun A outer s H vs Q E hr h => ⟨_, hb A outer s H E hr, ?_⟩, .all (B kV doc pm an cdv ct)⟩
  · obtain ⟨ρ, ts, μ, m, d, hl, _⟩ := h
    rw [← d.length]; exact hl
  · obtain ⟨ρ, ts, μ, m, dv, hl, g⟩ := h
    refine ⟨ρ, _, μ, m, start_rel dv, ?_⟩
    unfold runF at g
    revert g
    generalize d (ts.map some ++ List.replicate (N.length - ts.length) none) μ = r
    intro g2
    cases r with
    | nx σT μ' => exact fun ρ' σ' H' e m l => g2 ρ' .non H' e m rfl
    | rt t μ' => exact g2
    | exc c fs μ' => exact g2
    | bk σT μ' => exact g2.elim
    | ct σT μ' => exact g2.elim
    | bad => exact g2.elim
theorem def_of {x : Str} {st : Stmt} {f : Addr} {cdv : Value} {N ps : List Str} {k : Nat} {d : SM} (F : FD K x x st f cdv) (hm : mg x = some (.ref f)) (S : FnScope N ps (defScope st)) (B : BindP x x st ps)
    (hb : ∀ (A : Around) (outer : List Env) (s : Shared) (H : Hp) (E : XK), Room k (A.deeper (envOfC x (defScope st) s.heap.objs.size f cdv)) → PSs (cxOf (L2.CX P w) P w K mg base N x (defScope st) f cdv A outer s H E) (defBody st) (tS ⟨K, mg, tb⟩ E d)) :
    Def P w K mg base tb x ps.length (runF N.length d) (k + 1) := by
  obtain ⟨fd, h1, h2⟩ := fd_ok F S B hb
  exact ⟨f, fd, ps, h1, hm, F.kp, h2⟩
theorem meth_of {c m qual : Str} {C : Addr} {st : Stmt} {f : Addr} {cdv : Value} {N ps : List Str} {k : Nat} {d : SM} (F : FD K m qual st f cdv) (hm : mg c = some (.ref C)) (cl : Cls K C) (mt : Meth K C m f) (S : FnScope N ps (defScope st)) (B : BindP m qual st ps)
    (hb : ∀ (A : Around) (outer : List Env) (s : Shared) (H : Hp) (E : XK), Room k (A.deeper (envOfC qual (defScope st) s.heap.objs.size f cdv)) → PSs (cxOf (L2.CX P w) P w K mg base N qual (defScope st) f cdv A outer s H E) (defBody st) (tS ⟨K, mg, tb⟩ E d)) :
    MDef P w K mg base tb c m ps.length (runF N.length d) (k + 1) := by
  obtain ⟨fd, h1, h2⟩ := fd_ok F S B hb
  exact ⟨C, f, fd, ps, h1, hm, cl, mt, h2⟩
theorem cls_of {c qual : Str} {C : Addr} {st : Stmt} {f : Addr} {cdv : Value} {N ps : List Str} {k : Nat} {d : SM} (F : FD K "__init__" qual st f cdv) (hm : mg c = some (.ref C)) (mk : Mk K C f) (S : FnScope N ps (defScope st)) (B : BindP "__init__" qual st ps)
    (hb : ∀ (A : Around) (outer : List Env) (s : Shared) (H : Hp) (E : XK), Room k (A.deeper (envOfC qual (defScope st) s.heap.objs.size f cdv)) → PSs (cxOf (L2.CX P w) P w K mg base N qual (defScope st) f cdv A outer s H E) (defBody st) (tS ⟨K, mg, tb⟩ E d)) :
    CDef P w K mg base tb c ps.length (runF N.length d) (k + 1) := by
  obtain ⟨fd, h1, h2⟩ := fd_ok F S B hb
  exact ⟨C, f, fd, ps, h1, hm, mk, h2⟩
end
theorem huk1 {k : Nat} {A : Around} (hr : Room k A) : A.units + 1 < cLine := by have := hr.un; omega
theorem huk64 {k : Nat} {A : Around} (hr : Room k A) : A.units + 64 < cLine := by have := hr.un; omega
theorem huk65 {k : Nat} {A : Around} (hr : Room k A) : A.units + 65 < cLine := by have := hr.un; omega
section
open LamX
variable {X : Cx} {tb : List (Addr × Str)} {E : XK}
/-- x(lambda: body), x a def that makes F of the end of its lambda -/
theorem e_lam {x a : Str} {st : Stmt} {g c P : Addr} {cdv : Value} {k : Nat} {Ng : List Str} {params : Arguments} {body : Expr} {scope : Scope} {d : EM} {F : Res → Res} {p lpos pos : Pos} (W : FD X.K x x st g cdv) (hm : X.mg x = some (.ref g)) (B : BindP x x st [a]) (Sg : FnScope Ng [a] (defScope st)) (hNg : Ng[0]? = some a) (hva : Vis (defScope st) a)
    (hG : GivesS (k + 1) X Ng x (defScope st) g cdv (defBody st) a (X.env.qual ++ "<lambda>") (TTw (gx X tb) F)) (hF : ∀ r c fs μ, F r ≠ .exc c fs μ)
    (TB : TabB X.base X.mg c P) (hcode : X.env.code = .ref c) (hmT : (P, X.env.qual ++ "<lambda>") ∈ tb) (hu : ∀ p ∈ tb, p.1 = P → p.2 = X.env.qual ++ "<lambda>") (hr : Room (k + 2) X.A) (L : LamS X.env.scope scope)
    (hbody : ∀ (A : Around) (outer : List Env) (s : Shared) (H : Hp) (E1 : XK) (f c' : Addr), Room k (A.deeper (lamEnv X scope s.heap.objs.size f c')) → PE (lamCx X A outer s H E1 scope f c') body (tE (gx X tb) E1 d))
    (hdef : defaultsOf params X.env = ([], []) := by rfl) (hbind : ∀ (q : Str) (cl : List (Str × Addr)) (pm cv ctv : Value), bindArgs (PySem.W.kla_fn "<lambda>" q params body scope cl pm cv ctv) ⟨[], []⟩ = pure [] := by intros; rfl)
    (hg : Gl X x := by rfl) (hdb : (x == ("__debug__" : Str)) = false := by decide) (hd : (a == ("__debug__" : Str)) = false := by decide) (hcd : (a == ("__classdict__" : Str)) = false := by decide) :
    PE X (.Call (.Name x p) [.Lambda params body scope lpos] [] pos) (tE (gx X tb) E (fun σ μ => F (d σ μ))) := by
  obtain ⟨oc, od, kV, doc, pm, an, ct, osl, lk⟩ := W.ex
  exact (pe_lamcallS (T := tb) hg hm W.kp lk W.cd (.all (B kV doc pm an cdv ct)) Sg hNg hva hG TB hcode hmT hu hr L hdef hbind hbody hdb hd hcd).imp (tE_lam hF)
/-! ### raise C(e), C an own error that keeps a field -/
/-- an __init__ that keeps its one argument as f -/
def spI1 (C : Addr) (f : Str) : Sp := fun vs H Q _ => ∃ a v, vs = [.ref a, v] ∧ H a = some (exo a C none) ∧ ∀ d, H d = none → d ≠ a → Q .non (upd (upd H d (exd d [(f, v)])) a (exo a C (some d)))
structure Exc1 (P : Program) (w : World) (K : PySem.W.Frag) (mg : Str → Option Value) (base : Heap) (c f : Str) (k : Nat) : Prop where
  ex : ∃ C fI fd ps, mg c = some (.ref C) ∧ OexC K C ∧ PySem.W.findIn K (.ref C) "__init__" = some (some (.ref fI)) ∧ PySem.W.typeIn K (.ref fI) = some (.type "function") ∧ FnOk P w K mg base (L2.CX P w) k fI fd ps (spI1 C f) ∧ Binds K fd ps []
def sRaise1 (c f : Str) (d : EM) : SM := fun σ μ => (d σ μ).toS fun x μ1 => .exc c [(f, x)] μ1
theorem s_raise1 {c f : Str} {e : Expr} {d : EM} {k : Nat} {p p2 pos : Pos} (h : Exc1 X.prog X.w X.K X.mg X.base c f k) (hc : X.calm = true) (hr : Room (k + 1) X.A) (tk : Takes X (fun c d _ H => E c d H)) (he : PE X e (tE (gx X tb) E d)) (hx : Passes (L2.CX X.prog X.w) X (fun _ _ _ => False)) (hg : Gl X c := by rfl) (hdb : (c == ("__debug__" : Str)) = false := by decide)
    (hs : starEach [e] X.env = (false, eval e X.env) :: starEach [] X.env := by rfl) (hpl : (backTo p2 (starEach [] X.env)).any (·.1) = false := by rfl) :
    PS X (.Raise (some (.Call (.Name c p) [e] [] p2)) none pos) (tS (gx X tb) E (sRaise1 c f d)) := by
  obtain ⟨C, fI, fd, ps, h1, h2, h3, h4, h5, h6⟩ := h.ex
  refine (ps_raise hc tk (pmk_oex (ds := []) (dvs := []) h2 h3 h4 h5 hr h6 .nil hx hg h1 (pa_cons he pa_nil hs) hdb hs hpl)).imp fun D σ H q => ?_
  obtain ⟨ρ, σT, μ, m, l, q⟩ := q
  refine bindS (Q := D.rt) m l q fun y μ1 ρ1 u H1 e1 m1 l1 dy g1 => ?_
  refine ⟨by simp, fun a na => ⟨a, u, rfl, upd_same, fun dx hd ne => ?_⟩⟩
  have hd1 : H1 dx = none := by rw [upd_ne ne] at hd; exact hd
  refine ⟨rfl, dx, [(f, u)], upd_same, by rw [upd_ne ne, upd_same], hd1, ?_⟩
  have eH : upd (del (upd (upd (upd H1 a (exo a C none)) dx (exd dx [(f, u)])) a (exo a C (some dx))) a) dx (.xd [(f, u)]) = upd H1 dx (.xd [(f, u)]) := by
    funext b
    by_cases hb : b = dx
    · rw [hb, upd_same, upd_same]
    · rw [upd_ne hb, upd_ne hb]
      by_cases hb2 : b = a
      · rw [hb2, del_same, na]
      · rw [del_ne hb2, upd_ne hb2, upd_ne hb, upd_ne hb2]
  rw [eH]
  have ef : Ext (gx X tb) ρ1 μ1.length H1 ρ1 μ1.length (upd H1 dx (.xd [(f, u)])) := Ext.fresh hd1 _
  exact g1 ρ1 _ C (some dx) ef (m1.fresh hd1) h1 (.inr ⟨dx, [(f, u)], by simp, rfl, upd_same, u, [], rfl, dy.ext ef, rfl⟩)
end
end TL
set_option Elab.async false
set_option linter.all false
set_option maxRecDepth 100000
set_option maxHeartbeats 2000000
/-! TL15: x = [comprehension], blocks looked at -/
namespace TL
open PySem PySem.Spec PyProof.Rows L2
theorem tL_new {g : G} {E : XK} {d : LM} : ∀ σ H Q, tE g E (dNew d) σ H Q → tL g E d σ H Q := fun σ H Q h => by
  obtain ⟨ρ, σT, μ, m, l, h⟩ := h
  refine ⟨ρ, σT, μ, m, l, ?_⟩
  unfold dNew at h
  cases q : d σT μ with
  | ok ts μ1 =>
    rw [q] at h
    intro ρ' p vs H' e m1 h1 h2 h3 dv
    obtain ⟨z1, z2, z3⟩ := ext_num e m1 h1 h2 h3 dv
    exact h _ _ _ z1 z2 z3
  | exc c fs μ1 => rw [q] at h; exact h
  | bad => rw [q] at h; exact h
section
variable {X : Cx} {tb : List (Addr × Str)} {E : XK} {tg iter : Expr} {it : IM} {p : Pat} {pos spos py : Pos}
theorem s_setLc (i : Nat) {y : Str} {elt : Expr} {ifs : List Expr} {scope : Scope} {own : List (Str × Nat)} {t : Option EM} {el : EM} (hc : X.calm = true) (hN : X.N.Nodup) (hi : PI X tg iter (tI (gx X tb) E it)) (ok : BlkOk X.N X.env.scope scope own) (hs : ∀ i ∈ pslots p, i ∈ own.map (·.2))
    (hg : ∀ (s : Shared) (H : Hp) (C : Addr) (cl : List (Str × Addr)) (fp : List Addr), PG (X.blk s H scope (compEnvC scope cl C X.env) fp) tg (tG X.K p)) (ht : ∀ (s : Shared) (H : Hp) (C : Addr) (cl : List (Str × Addr)) (fp : List Addr), PTs' (X.blk s H scope (compEnvC scope cl C X.env) fp) tb ifs t)
    (he : ∀ (s : Shared) (H : Hp) (C : Addr) (cl : List (Str × Addr)) (fp : List Addr), PE (X.blk s H scope (compEnvC scope cl C X.env) fp) elt (tE (gx X tb) E0 el)) (hf : ∀ x, foldedSetIterable iter X.env x = pure x := by intro _; rfl) (hy : X.N[i]? = some y := by rfl) (hyl : X.env.scope.names.lookup y = some .local := by rfl)
    (hsw : swapsWith (.ListComp elt [⟨tg, iter, ifs, 0⟩] scope pos) (some (.Name y py)) spos.line X.env = pure true := by rfl) :
    PS X (.Assign [.Name y py] (.ListComp elt [⟨tg, iter, ifs, 0⟩] scope pos) spos) (tS (gx X tb) E (sSet i (dNew (dLc it p (own.map (·.2)) t el)))) :=
  (ps_setLc hc hN hy hyl hsw hi ok hg (fun s H C cl fp => pts_of (ht s H C cl fp)) he hf).imp fun D σ H q => by
    obtain ⟨ρ, σT, μ, m, l, q⟩ := q
    refine tL_lc (t := t) (el := el) (it := it) hs σ H _ (tL_new σ H _ ?_)
    exact bindS (Q := D.rt) m l q fun x μ1 ρ1 v H1 e1 m1 l1 dx g1 => g1 ρ1 _ H1 (Ext.refl _ _ _ _) m1 (l1.set i dx)
end
def blkC (N : List Str) (sc scope : Scope) (own : List (Str × Nat)) : Bool :=
  decide (scope.kind = .function) && scope.names.all (fun y => decide (scope.names.lookup y.1 = some y.2)) && own.all (fun p => decide (N[p.2]? = some p.1)) &&
    scope.names.all (fun y => !decide (y.2 = .free) || decide (sc.names.lookup y.1 = some .cell) || decide (sc.names.lookup y.1 = some .free)) &&
    scope.names.all fun y => !(decide (y.2 = .local) || decide (y.2 = .cell)) || decide (y.1 ∈ own.map (·.1)) || decide (y.1 ∉ N)
theorem blk_by {N : List Str} {sc scope : Scope} {own : List (Str × Nat)} (h : blkC N sc scope own = true) : BlkOk N sc scope own := by
  unfold blkC at h
  simp only [Bool.and_eq_true, Bool.or_eq_true, Bool.not_eq_true', decide_eq_true_eq, decide_eq_false_iff_not, List.all_eq_true, Bool.or_eq_false_iff] at h
  obtain ⟨⟨⟨⟨h1, h2⟩, h3⟩, h4⟩, h5⟩ := h
  refine ⟨h1, h2, h3, fun y hy e => ?_, fun y hy e => ?_⟩
  · rcases h4 y hy with (k | k) | k
    · exact absurd e k
    · exact .inl k
    · exact .inr k
  · rcases h5 y hy with (k | k) | k
    · rcases e with e | e
      · exact absurd e k.1
      · exact absurd e k.2
    · exact .inl k
    · exact .inr k
end TL
set_option Elab.async false
set_option linter.all false
set_option maxRecDepth 100000
set_option maxHeartbeats 2000000
/-! TL16: the law's own def, written values, the start -/
namespace TL
open PySem PySem.Spec PyProof.Rows L2
section
variable {P : Program} {w : World} {K : PySem.W.Frag} {mg : Str → Option Value} {base : Heap} {tb : List (Addr × Str)}
theorem fd_okE {x qual : Str} {st : Stmt} {f : Addr} {cdv : Value} {N ps : List Str} {k : Nat} {d : SM} {oc : Value} {od an : Option Addr} {kV doc pm ct : Value} {osl : Array (Option Value)} (lk : K.lookup f = some ⟨oc, od, .func (PySem.W.fnOf x qual (defArgs st) (defBody st) (defScope st) .none kV doc pm an cdv ct), osl⟩) (cd : PySem.W.codeIn K cdv qual = true) (S : FnScope N ps (defScope st))
    (hb : ∀ (A : Around) (outer : List Env) (s : Shared) (H : Hp) (E : XK), Room k (A.deeper (envOfC qual (defScope st) s.heap.objs.size f cdv)) → PSs (cxOf (L2.CX P w) P w K mg base N qual (defScope st) f cdv A outer s H E) (defBody st) (tS ⟨K, mg, tb⟩ E d)) :
    FnOk P w K mg base (L2.CX P w) (k + 1) f (PySem.W.fnOf x qual (defArgs st) (defBody st) (defScope st) .none kV doc pm an cdv ct) ps (spT ⟨K, mg, tb⟩ ps.length (runF N.length d)) := by
  refine fn_of lk cd S (fun vs H Q E h => ?_) fun A outer s H vs Q E hr h => ⟨_, hb A outer s H E hr, ?_⟩
  · obtain ⟨ρ, ts, μ, m, d, hl, _⟩ := h
    rw [← d.length]; exact hl
  · obtain ⟨ρ, ts, μ, m, dv, hl, g⟩ := h
    refine ⟨ρ, _, μ, m, start_rel dv, ?_⟩
    unfold runF at g
    revert g
    generalize d (ts.map some ++ List.replicate (N.length - ts.length) none) μ = r
    intro g2
    cases r with
    | nx σT μ' => exact fun ρ' σ' H' e m l => g2 ρ' .non H' e m rfl
    | rt t μ' => exact g2
    | exc c fs μ' => exact g2
    | bk σT μ' => exact g2.elim
    | ct σT μ' => exact g2.elim
    | bad => exact g2.elim
/-- the law's promise, once its plain law is known -/
theorem law_start {F : Fn} {H : Hp} {a : Addr} {ns : List Int} (hT : ∀ q ∈ tb, H q.1 = some (.tbl #[])) (hS : SqL K H a (ns.map V.int)) (h1 : ∃ μ, F [.fl ns] [] = .ok (.bl true) μ) (h2 : ∃ μ, F [.ref 0] [.lst (ns.map T.int)] = .ok (.bl true) μ) :
    spT ⟨K, mg, tb⟩ 1 F [.ref a] H (fun v _ => v = .bl true) fun _ _ _ => False := by
  have ht : LamX.Tabs tb H := fun q hq => LamX.TabS.nil (hT q hq)
  rcases hS with (h | ⟨o, h⟩) | h
  · obtain ⟨μ, hm⟩ := h2
    refine ⟨fun _ => a, [.ref 0], [.lst (ns.map T.int)], ⟨fun i j hi hj _ => ?_, fun i o h' => ?_, ht⟩, .cons ⟨by simp, rfl⟩ .nil, rfl, ?_⟩
    · simp at hi hj; omega
    · have hi : i = 0 := by
        have := (List.getElem?_eq_some_iff.mp h').1
        simp at this; omega
      subst hi
      simp at h'
      subst h'
      exact ⟨_, h, _, rfl, DVs.maps (f := T.int) (h := V.int) (fun _ => rfl) ns⟩
    · rw [hm]
      exact fun ρ' v H' _ _ dv => dv
  all_goals
    obtain ⟨μ, hm⟩ := h1
    refine ⟨fun _ => a, [.fl ns], [], ⟨fun i j hi _ _ => absurd hi (by simp), fun i o h' => by simp at h', ht⟩, .cons ⟨a, rfl, ?_⟩ .nil, rfl, by rw [hm]; exact fun ρ' v H' _ _ dv => dv⟩
  · exact .inl ⟨o, h⟩
  · exact .inr h
end
/-- a value of the written part, read -/
def optAll (f : Value → Option T) : List Value → Option (List T)
  | [] => some []
  | v :: r => (f v).bind fun t => (optAll f r).map fun ts => t :: ts
def readK (K : PySem.W.Frag) : Nat → Value → Option T
  | 0 => fun v => match v with
    | .int i _ => some (.int i)
    | .str x _ => some (.str x)
    | _ => none
  | n + 1 => fun v => match v with
    | .int i _ => some (.int i)
    | .str x _ => some (.str x)
    | .ref a => (match K.lookup a with
      | some ⟨.type "tuple", _, .seq its _, _⟩ => if its.size ≤ sizeLine then (optAll (readK K n) its.toList).map .tup else none
      | _ => none)
    | _ => none
theorem optAll_ok {K : PySem.W.Frag} {f : Value → Option T} (hf : ∀ u t, f u = some t → ∃ v, RelV v u ∧ ∀ ρ m H, DV K ρ m H t v) : ∀ {us : List Value} {ts : List T}, optAll f us = some ts → ∃ vs, Vals vs us ∧ ∀ ρ m H, DVs K ρ m H ts vs
  | [], _, e => by cases e; exact ⟨[], .nil, fun _ _ _ => rfl⟩
  | u :: r, _, e => by
    simp only [optAll, Option.bind_eq_some_iff, Option.map_eq_some_iff] at e
    obtain ⟨t, e1, ts, e2, rfl⟩ := e
    obtain ⟨v, h1, h2⟩ := hf u t e1
    obtain ⟨vs, h3, h4⟩ := optAll_ok hf e2
    exact ⟨v :: vs, .cons h1 h3, fun ρ m H => ⟨v, vs, rfl, h2 ρ m H, h4 ρ m H⟩⟩
theorem readK_ok {K : PySem.W.Frag} : ∀ (n : Nat) (u : Value) (t : T), readK K n u = some t → ∃ v, RelV v u ∧ ∀ ρ m H, DV K ρ m H t v
  | 0, u, t, e => by
    unfold readK at e
    split at e
    · cases e; exact ⟨.int _, ⟨_, rfl⟩, fun _ _ _ => rfl⟩
    · cases e; exact ⟨.str _, ⟨_, rfl⟩, fun _ _ _ => rfl⟩
    · cases e
  | n + 1, u, t, e => by
    unfold readK at e
    split at e
    · cases e; exact ⟨.int _, ⟨_, rfl⟩, fun _ _ _ => rfl⟩
    · cases e; exact ⟨.str _, ⟨_, rfl⟩, fun _ _ _ => rfl⟩
    · rename_i a
      split at e
      · rename_i its k sl hk
        split at e
        · rename_i hz
          simp only [Option.map_eq_some_iff] at e
          obtain ⟨ts, e1, rfl⟩ := e
          obtain ⟨vs, h1, h2⟩ := optAll_ok (readK_ok n) e1
          exact ⟨.ref a, rfl, fun ρ m H => ⟨a, vs, rfl, .inr ⟨_, its, k, hk, rfl, rfl, hz, h1⟩, h2 ρ m H⟩⟩
        · cases e
      · cases e
    · cases e
end TL
set_option Elab.async false
set_option linter.all false
set_option maxRecDepth 100000
set_option maxHeartbeats 2000000
/-! TL17: how the denotations run: equations for simp -/
namespace TL
open PySem PySem.Spec PyProof.Rows L2
@[simp] theorem bind_ok {t μ k} : (Res.ok t μ).bind k = k t μ := rfl
@[simp] theorem bind_exc {c fs μ k} : (Res.exc c fs μ).bind k = .exc c fs μ := rfl
@[simp] theorem bindL_ok {t μ k} : (Res.ok t μ).bindL k = k t μ := rfl
@[simp] theorem bindL_exc {c fs μ k} : (Res.exc c fs μ).bindL k = .exc c fs μ := rfl
@[simp] theorem toS_ok {t μ k} : (Res.ok t μ).toS k = k t μ := rfl
@[simp] theorem toS_exc {c fs μ k} : (Res.exc c fs μ).toS k = .exc c fs μ := rfl
@[simp] theorem toL_ok {t μ k} : (Res.ok t μ).toL k = k t μ := rfl
@[simp] theorem lbind_ok {ts μ k} : (LRes.ok ts μ).bind k = k ts μ := rfl
@[simp] theorem lbind_exc {c fs μ k} : (LRes.exc c fs μ).bind k = .exc c fs μ := rfl
@[simp] theorem lbindL_ok {ts μ k} : (LRes.ok ts μ).bindL k = k ts μ := rfl
@[simp] theorem seq_nx {σ μ k} : (SRes.nx σ μ).seq k = k σ μ := rfl
@[simp] theorem seq_rt {t μ k} : (SRes.rt t μ).seq k = .rt t μ := rfl
@[simp] theorem seq_exc {c fs μ k} : (SRes.exc c fs μ).seq k = .exc c fs μ := rfl
@[simp] theorem loop_nx {σ μ k} : (SRes.nx σ μ).loop k = k σ μ := rfl
@[simp] theorem loop_rt {t μ k} : (SRes.rt t μ).loop k = .rt t μ := rfl
@[simp] theorem toR_nx {σ μ} : (SRes.nx σ μ).toR = .ok .non μ := rfl
@[simp] theorem toR_rt {t μ} : (SRes.rt t μ).toR = .ok t μ := rfl
@[simp] theorem toR_exc {c fs μ} : (SRes.exc c fs μ).toR = .exc c fs μ := rfl
@[simp] theorem sNil_e {σ μ} : sNil σ μ = .nx σ μ := rfl
@[simp] theorem sSeq_e {a b σ μ} : sSeq a b σ μ = (a σ μ).seq b := rfl
@[simp] theorem sSet_e {i d σ μ} : sSet i d σ μ = (d σ μ).toS fun t μ1 => .nx (σ.set i (some t)) μ1 := rfl
@[simp] theorem sExpr_e {d σ μ} : sExpr d σ μ = (d σ μ).toS fun _ μ1 => .nx σ μ1 := rfl
@[simp] theorem sRet_e {d σ μ} : sRet d σ μ = (d σ μ).toS fun t μ1 => .rt t μ1 := rfl
@[simp] theorem sRaise0_e {c σ μ} : sRaise0 c σ μ = .exc c [] μ := rfl
@[simp] theorem sRaise1_e {c f d σ μ} : sRaise1 c f d σ μ = (d σ μ).toS fun x μ1 => .exc c [(f, x)] μ1 := rfl
def sIfK (a b : SM) (σ : List (Option T)) : T → Mem → SRes := fun t μ1 => match t with
  | .bl true => a σ μ1
  | .bl false => b σ μ1
  | _ => .bad
@[simp] theorem sIf_e {c a b σ μ} : sIf c a b σ μ = (c σ μ).toS (sIfK a b σ) := by
  unfold sIf sIfK
  congr 1
@[simp] theorem sIfK_e {a b : SM} {σ μ v} : sIfK a b σ (.bl v) μ = if v = true then a σ μ else b σ μ := by cases v <;> rfl
@[simp] theorem sPar_e {i j da db σ μ} : sPar i j da db σ μ = (da σ μ).toS fun x μ1 => (db σ μ1).toS fun y μ2 => .nx ((σ.set i (some x)).set j (some y)) μ2 := rfl
@[simp] theorem sAsg_e {p d σ μ} : sAsg p d σ μ = (d σ μ).toS fun t μ1 => match bindP p t σ with
  | some σ' => .nx σ' μ1
  | none => .bad := rfl
theorem dVar_e {i : Nat} {σ : List (Option T)} {μ : Mem} {t : T} (h : σ[i]? = some (some t)) : dVar i σ μ = .ok t μ := by unfold dVar; rw [h]
@[simp] theorem dVar_0 {t σ μ} : dVar 0 (some t :: σ) μ = .ok t μ := rfl
@[simp] theorem dVar_s {i o σ μ} : dVar (i + 1) (o :: σ) μ = dVar i σ μ := by unfold dVar; rw [List.getElem?_cons_succ]
@[simp] theorem dC_e {t σ μ} : dC t σ μ = .ok t μ := rfl
@[simp] theorem d1_e {k da σ μ} : d1 k da σ μ = (da σ μ).bind fun x μ1 => k x μ1 := rfl
@[simp] theorem d2_e {k da db σ μ} : d2 k da db σ μ = (da σ μ).bind fun x μ1 => (db σ μ1).bind fun y μ2 => k x y μ2 := rfl
def andK (db : EM) (σ : List (Option T)) : T → Mem → Res := fun x μ1 => match x with
  | .bl true => db σ μ1
  | .bl false => .ok (.bl false) μ1
  | _ => .bad
@[simp] theorem andK_e {db : EM} {σ μ v} : andK db σ (.bl v) μ = if v = true then db σ μ else .ok (.bl false) μ := by cases v <;> rfl
@[simp] theorem dAnd_e {da db σ μ} : dAnd da db σ μ = (da σ μ).bind (andK db σ) := by
  unfold dAnd andK
  congr 1
def orK (db : EM) (σ : List (Option T)) : T → Mem → Res := fun x μ1 => match x with
  | .bl true => .ok (.bl true) μ1
  | .bl false => db σ μ1
  | _ => .bad
@[simp] theorem orK_e {db : EM} {σ μ v} : orK db σ (.bl v) μ = if v = true then .ok (.bl true) μ else db σ μ := by cases v <;> rfl
@[simp] theorem dOr_e {da db σ μ} : dOr da db σ μ = (da σ μ).bind (orK db σ) := by
  unfold dOr orK
  congr 1
  funext x μ1
  cases x <;> try rfl
  rename_i b
  cases b <;> rfl
@[simp] theorem notT_e {v μ} : notT (.bl v) μ = .ok (.bl (!v)) μ := rfl
@[simp] theorem dNot_e {da σ μ} : dNot da σ μ = (da σ μ).bind notT := rfl
def ifK (da db : EM) (σ : List (Option T)) : T → Mem → Res := fun x μ1 => match x with
  | .bl true => da σ μ1
  | .bl false => db σ μ1
  | _ => .bad
@[simp] theorem ifK_e {da db : EM} {σ μ v} : ifK da db σ (.bl v) μ = if v = true then da σ μ else db σ μ := by cases v <;> rfl
@[simp] theorem dIfE_e {dc da db σ μ} : dIfE dc da db σ μ = (dc σ μ).bind (ifK da db σ) := by
  unfold dIfE ifK
  congr 1
@[simp] theorem aNil_e {σ μ k} : aNil σ μ k = k [] μ := rfl
@[simp] theorem aCons_e {d r σ μ k} : aCons d r σ μ k = (d σ μ).bind fun x μ1 => r σ μ1 fun xs μ2 => k (x :: xs) μ2 := rfl
@[simp] theorem lNil_e {σ μ k} : lNil σ μ k = k [] μ := rfl
@[simp] theorem lCons_e {d r σ μ k} : lCons d r σ μ k = (d σ μ).bindL fun x μ1 => r σ μ1 fun xs μ2 => k (x :: xs) μ2 := rfl
@[simp] theorem dTup_e {d σ μ} : dTup d σ μ = d σ μ fun ts μ1 => if ts.length ≤ sizeLine then .ok (.tup ts) μ1 else .bad := rfl
@[simp] theorem dLstL_e {d σ μ} : dLstL d σ μ = d σ μ fun ts μ1 => if ts.length ≤ sizeLine then .ok ts μ1 else .bad := rfl
@[simp] theorem dNew_e {d σ μ} : dNew d σ μ = (d σ μ).bind fun ts μ1 => .ok (.ref μ1.length) (μ1 ++ [.lst ts]) := rfl
@[simp] theorem dCall_e {k d σ μ} : dCall k d σ μ = d σ μ k := rfl
@[simp] theorem dQ_e {k d σ μ} : dQ k d σ μ = (d σ μ).bind k := rfl
@[simp] theorem dQL_e {k d σ μ} : dQL k d σ μ = (d σ μ).bindL k := rfl
@[simp] theorem dFn_e {n F d σ μ} : dFn n F d σ μ = d σ μ fun ts μ1 => if ts.length = n then F ts μ1 else .bad := rfl
theorem methK {c m : Str} {n : Nat} {F : Fn} {dd : EM} {d : AM} {σ μ} {k : Nat} {fs : List (Str × T)} {μ1 : Mem} (h : dd σ μ = .ok (.ref k) μ1) (hk : μ1[k]? = some (.ins c fs)) (hm : fs.lookup m = none) :
    dMeth c m n F dd d σ μ = d σ μ1 fun ts μ2 => if ts.length + 1 = n then F (.ref k :: ts) μ2 else .bad := by
  unfold dMeth
  rw [h, bind_ok]
  dsimp only
  rw [hk]
  dsimp only
  rw [if_pos ⟨rfl, hm⟩]
/-- sizes that are small -/
theorem sz {n : Nat} (h : n ≤ 1000) : n ≤ sizeLine := Nat.le_of_lt (Nat.lt_of_le_of_lt h (by decide))
theorem szl {n : Nat} (h : n ≤ 1000) : n < sizeLine := Nat.lt_of_le_of_lt h (by decide)
/-! ### the words -/
@[simp] theorem addT_i {i j μ} : addT (.int i) (.int j) μ = .ok (.int (i + j)) μ := rfl
@[simp] theorem subT_i {i j μ} : subT (.int i) (.int j) μ = .ok (.int (i - j)) μ := rfl
@[simp] theorem ltT_i {i j μ} : ltT (.int i) (.int j) μ = .ok (.bl (decide (i < j))) μ := rfl
@[simp] theorem leT_i {i j μ} : leT (.int i) (.int j) μ = .ok (.bl (decide (i ≤ j))) μ := rfl
@[simp] theorem gtT_i {i j μ} : gtT (.int i) (.int j) μ = .ok (.bl (decide (i > j))) μ := rfl
@[simp] theorem geT_i {i j μ} : geT (.int i) (.int j) μ = .ok (.bl (decide (i ≥ j))) μ := rfl
@[simp] theorem eqT_i {i j μ} : eqT (.int i) (.int j) μ = .ok (.bl (decide (i = j))) μ := rfl
@[simp] theorem eqT_s {i j μ} : eqT (.str i) (.str j) μ = .ok (.bl (decide (i = j))) μ := rfl
@[simp] theorem neT_e {x y μ} : neT x y μ = (eqT x y μ).bind notT := rfl
@[simp] theorem negT_i {i μ} : negT (.int i) μ = .ok (.int (-i)) μ := rfl
@[simp] theorem absC_i {i μ} : absC [.int i] μ = .ok (.int (if i < 0 then -i else i)) μ := rfl
@[simp] theorem intC_i {i μ} : intC [.int i] μ = .ok (.int i) μ := rfl
@[simp] theorem lenC_t {xs μ} : lenC [.tup xs] μ = .ok (.int xs.length) μ := rfl
@[simp] theorem lenQ_e {xs μ} : lenQ xs μ = .ok (.int xs.length) μ := rfl
@[simp] theorem tupQ_e {xs μ} : tupQ xs μ = .ok (.tup xs) μ := rfl
theorem lenC_l {k : Nat} {xs : List T} {μ : Mem} (h : μ[k]? = some (.lst xs)) : lenC [.ref k] μ = .ok (.int xs.length) μ := by unfold lenC; dsimp only; rw [h]
theorem lenC_d {k : Nat} {xs : List (Key × T)} {μ : Mem} (h : μ[k]? = some (.dct xs)) : lenC [.ref k] μ = .ok (.int xs.length) μ := by unfold lenC; dsimp only; rw [h]
theorem mulT_i {i j : Int} {μ : Mem} (h : CMul i j) : mulT (.int i) (.int j) μ = .ok (.int (i * j)) μ := by unfold mulT; dsimp only; rw [if_pos h]
theorem modT_i {i j : Int} {μ : Mem} (h : 0 < j) : modT (.int i) (.int j) μ = .ok (.int (i % j)) μ := by unfold modT; dsimp only; rw [if_pos h]
theorem fdivT_i {i j : Int} {μ : Mem} (h : CDiv i j) : fdivT (.int i) (.int j) μ = .ok (.int (i / j)) μ := by unfold fdivT; dsimp only; rw [if_pos h]
theorem powT_i {i j : Int} {μ : Mem} (h : CPow i j) : powT (.int i) (.int j) μ = .ok (.int (i ^ j.toNat)) μ := by unfold powT; dsimp only; rw [if_pos h]
/-! ### memory -/
theorem subL {k : Nat} {xs : List T} {μ : Mem} {i : Int} {t : T} (h : μ[k]? = some (.lst xs)) (e : L2.atI xs i = some t) : subT' (.ref k) (.int i) μ = .ok t μ := by
  unfold subT'
  have h1 : dctT μ (.ref k) = none := by unfold dctT; dsimp only; rw [h]
  rw [h1]
  unfold ixT seqT
  dsimp only
  rw [h]
  dsimp only
  rw [e]
theorem subTp {xs : List T} {μ : Mem} {i : Int} {t : T} (e : L2.atI xs i = some t) : subT' (.tup xs) (.int i) μ = .ok t μ := by
  unfold subT'
  have h1 : dctT μ (.tup xs) = none := rfl
  rw [h1]
  unfold ixT seqT
  dsimp only
  rw [e]
theorem subD {k : Nat} {kvs : List (Key × T)} {μ : Mem} {x : T} {key : Key} {t : T} (h : μ[k]? = some (.dct kvs)) (hx : keyT x = some key) (e : valT kvs key = some t) : subT' (.ref k) x μ = .ok t μ := by
  unfold subT'
  have h1 : dctT μ (.ref k) = some kvs := by unfold dctT; dsimp only; rw [h]
  rw [h1]
  dsimp only
  rw [hx]
  dsimp only
  rw [e]
theorem setL {k : Nat} {xs : List T} {μ : Mem} {i : Int} {n : Nat} {v : T} (h : μ[k]? = some (.lst xs)) (e : ixN xs.length i = some n) : setT (.ref k) (.int i) v μ = some (μ.set k (.lst (xs.set n v))) := by
  unfold setT
  dsimp only
  rw [h]
  dsimp only
  rw [e]
  rfl
theorem setD {k : Nat} {kvs : List (Key × T)} {μ : Mem} {x v : T} {key : Key} (h : μ[k]? = some (.dct kvs)) (hx : keyT x = some key) (hz : kvs.length < sizeLine) : setT (.ref k) x v μ = some (μ.set k (.dct (putKT kvs key v))) := by
  unfold setT
  dsimp only
  rw [h]
  dsimp only
  rw [hx]
  dsimp only
  rw [if_pos hz]
@[simp] theorem sSub_e {dd di dv σ μ} : sSub dd di dv σ μ = (dv σ μ).toS fun v μ1 => (dd σ μ1).toS fun x μ2 => (di σ μ2).toS fun i μ3 => match setT x i v μ3 with
  | some μ4 => .nx σ μ4
  | none => .bad := rfl
end TL
set_option Elab.async false
set_option linter.all false
set_option maxRecDepth 100000
set_option maxHeartbeats 2000000
namespace TL
open PySem PySem.Spec PySem.Calls PyProof.Rows L2
/-! ### an own error's __init__ that says super().__init__(f); self.f = f -/
abbrev exoO (C t1 : Addr) : Obj := { cls := .ref C, dict := none, data := .fields #[.ref t1, .none, .none, .none, .bool false, .none] }
structure SupF (P : Program) (K : PySem.W.Frag) (mg : Str → Option Value) (C fI cc cda : Addr) (f : Str) (fd : FuncData) (scope : Scope) : Prop where
  T : OexC K C
  lk : ∃ oc od osl, K.lookup fI = some ⟨oc, od, .func fd, osl⟩
  ar : ∃ ar : Arg, (fd.params.posonlyargs ++ fd.params.args).head? = some ar ∧ ar.arg = "self"
  cell : ∃ cl cld csl, K.lookup cc = some ⟨cl, cld, .cell (some (.ref C)), csl⟩
  code : ∃ (ccl : Value) (cdd : Option Addr) (vs : Array Value) (ccs : Array (Option Value)) (file : Str) (tf : Tok), K.lookup cda = some ⟨ccl, cdd, .fields vs, ccs⟩ ∧ vs[2]? = some (.str file tf) ∧ ((P.main.file : Str) == file) = true
  top : (P.main.scope.names.lookup ("super" : Str)).isSome = false
  mgs : mg "super" = none
  sub : PySem.W.mroIn K C (.ref C) = some true
  subV : PySem.W.subIn K (.ref C) (.type "ValueError") = some true
  meth : PySem.W.ks_superIn K C C "__init__" = some (some (.builtin "ValueError.__init__"))
  op : PySem.W.nsIn K PySem.cStatics "thirdparty.any" = some none
  kind : scope.kind = .function
  nsu : scope.names.lookup ("super" : Str) = some .globalImplicit
  ncl : scope.names.lookup ("__class__" : Str) = some .free
  nse : scope.names.lookup ("self" : Str) = some .local
  nf : scope.names.lookup f = some .local
  hf : (f == ("__debug__" : Str)) = false
section
variable {P : Program} {w : World} {K : PySem.W.Frag} {mg : Str → Option Value} {base h : Heap} {C fI cc cda a t1 L : Addr} {f : Str} {fd : FuncData} {scope : Scope} {q : Str} {A : Around} {g : Array GenState} {d : Drawn} {t : Nat} {os : OsState} {E : Value → Shared → Prop} {body : List Stmt} {m : Str → Option Value} {u : Value} {Q : Flow → Shared → Prop}
theorem super_init {p0 p1 p2 p3 p4 p5 : Pos} {pl : Sem Bool} (F : SupF P K mg C fI cc cda f fd scope) (M : Mod K mg base) (kb : ∀ b o, base.get? b = some o → h.get? b = some o) (hns : h.Ns L m) (ms : m "self" = some (.ref a)) (mf : m f = some u) (ho : h.get? a = some (exoO C t1))
    (hq : ∀ h' t' t1', (∀ b o, b ≠ a → h.get? b = some o → h'.get? b = some o) → h'.get? a = some (exoO C t1') → Q .next ⟨h', g, d, t', os⟩)
    (he : eval (.Call (.Attribute (.Call (.Name "super" p0) [] [] p1) "__init__" p2) [.Name f p3] [] p4) (PySem.W.ksEnv q scope L fI (.ref cda) cc) = (do
      let ov ← attributeBase (.Call (.Name "super" p0) [] [] p1) "__init__" (PySem.W.ksEnv q scope L fI (.ref cda) cc) (eval (.Call (.Name "super" p0) [] [] p1) (PySem.W.ksEnv q scope L fI (.ref cda) cc))
      standAt p2.atName
      let (fx, first) ← holding [ov] (getMethod ov "__init__" pl)
      callWith p4 fx first (backTo p4 (starEach [Expr.Name f p3] (PySem.W.ksEnv q scope L fI (.ref cda) cc))) [])) :
    _root_.PySem.wpAt (model P w) A (.func body (PySem.W.ksEnv q scope L fI (.ref cda) cc)) (exec (.Expr (.Call (.Attribute (.Call (.Name "super" p0) [] [] p1) "__init__" p2) [.Name f p3] [] p4) p5) (PySem.W.ksEnv q scope L fI (.ref cda) cc)) Q E ⟨h, g, d, t, os⟩ := by
  have X : K.In h := M.kin.keeps kb
  obtain ⟨oc, od, osl, lk⟩ := F.lk
  obtain ⟨ar, har, harn⟩ := F.ar
  obtain ⟨cl, cld, csl, hcell⟩ := F.cell
  obtain ⟨ccl, cdd, vs, ccs, file, tf, hcode, hvs, hfile⟩ := F.code
  obtain ⟨nm, qn, N, bs, bm, sn, sub, ab, col, dd, k0, k1, k2, k3, k5, hC, hbm⟩ := F.T.cls
  have hCh := X _ _ hC
  have kL : scope.kind = .function := F.kind
  have hint : interactive (PySem.W.ksEnv q scope L fI (.ref cda) cc) = false := by unfold interactive; simp [kL]
  refine ks_wpAt_Expr_any (hi := hint) (ks_wpAt_MethodCall (ks_wpAt_super_base (env := PySem.W.ksEnv q scope L fI (.ref cda) cc) F.nsu F.ncl (by decide) rfl (X _ _ lk) rfl har rfl (X _ _ hcode) rfl hvs hfile F.top ?_) he)
  obtain ⟨mb, hb1, hb2⟩ := M.blt
  refine PySem.W.ks_loadName_global kL F.nsu (loadGlobal_builtin (env := PySem.W.ksEnv q scope L fI (.ref cda) cc) (M.glob.keeps kb) F.mgs (hb1.keeps kb) ((hb2 _ (by decide)).trans PyProof.Rows.Boot.«super») ⟨rfl, ?_⟩)
  refine wpAny_loadName_free kL F.ncl rfl ⟨_, X _ _ hcell, rfl⟩ ?_
  rw [harn]
  refine wpAny_loadName_local kL F.nse hns ms ?_
  refine ks_wpAny_isType_cls hCh rfl ⟨rfl, ?_⟩
  refine ks_wpAny_call_super hCh rfl ho rfl (fun c e => by cases e) (PySem.W.looks_mroIn X F.sub) (fun h1 e1 k1' => ?_)
  have X1 : K.In h1 := X.keeps k1'
  have I : PySem.W.InstAt h1 a (exoO C t1) C none := ⟨k1' _ _ ho, rfl, rfl, trivial⟩
  have hI : PySem.W.Looks (model P w) h1 (isInstance (.ref a) (.type "ValueError")) true := I.type.andThen (PySem.W.looks_subIn X1 F.subV)
  obtain ⟨cd, hc⟩ : ∃ cd, PySem.W.clsIn K C = some cd := by
    cases z : PySem.W.clsIn K C with
    | none => have := F.meth; unfold PySem.W.ks_superIn at this; rw [z] at this; cases this
    | some cd => exact ⟨cd, rfl⟩
  have hm := F.meth
  unfold PySem.W.ks_superIn at hm
  rw [hc] at hm
  refine PySem.W.kxs_getMethod PySem.W.kxs_ValueError e1 (PySem.W.looks_opaque X1 F.op) (l₀ := cd.mro) (fun A Q E s k q => wpAny_bind ((PySem.W.looks_clsIn X1 hc) A _ E s k (wpAny_pure q))) rfl X1 hm hI (PySem.W.ks_ne X1 I hc) (by decide) ?_
  have k2 : ∀ b o, h1.get? b = some o → (h1.push (PySem.W.kxs_mw "ValueError.__init__" a)).get? b = some o := fun b o e => Heap.get?_push_of_some _ e
  have eu : (h1.push (PySem.W.kxs_mw "ValueError.__init__" a)).get? h1.objs.size = some (PySem.W.kxs_mw "ValueError.__init__" a) := Heap.get?_push_at rfl rfl
  generalize hh2 : h1.push (PySem.W.kxs_mw "ValueError.__init__" a) = h2 at *
  have kk : ∀ b o, h.get? b = some o → h2.get? b = some o := fun b o e => k2 _ _ (k1' _ _ e)
  have hs : starEach [Expr.Name f p3] (PySem.W.ksEnv q scope L fI (.ref cda) cc) = (false, eval (.Name f p3) (PySem.W.ksEnv q scope L fI (.ref cda) cc)) :: starEach [] (PySem.W.ksEnv q scope L fI (.ref cda) cc) := rfl
  rw [hs]
  refine PySem.W.kxs_callWith (i := "ValueError.__init__") (x := a) rfl (evalArgs_plain (spliced_cons ?_))
  refine wpAny_Name (wpAny_loadName_local (env := PySem.W.ksEnv q scope L fI (.ref cda) cc) kL F.nf (hns.keeps kk) mf ?_) F.hf
  refine spliced_nil ⟨eu, ?_⟩
  refine wpAny_call (codeAny_of_tree ?_)
  show wpAny _ A.in1 (callAny (.ref h1.objs.size) ⟨[u], []⟩) _ _ _
  simp only [callAny]
  refine wpAny_bind (wpAny_load eu ?_)
  simp only [PySem.W.kxs_mw, show (Value.type "method-wrapper" == Value.type "method" || Value.type "method-wrapper" == Value.type "builtin_function_or_method" || Value.type "method-wrapper" == Value.type "method-wrapper") = true by decide, if_true]
  refine PySem.W.KFB.if_so (by decide) ?_
  refine wpAny_bind (PySem.W.check_bound_init PySem.F.excBase_ValueError.toExcCallFacts (kk _ _ hCh) (kk _ _ ho) rfl ?_)
  refine wpAny_bind (wpAny_pure (wpAny_pure ?_))
  refine ⟨plainId_quiet PySem.F.excBase_ValueError.init.plain _, codeAny_builtin PySem.F.excBase_ValueError.initEntry ?_⟩
  refine PySem.W.exc_init_tree (cls := .ref C) (t0 := t1) (dv := none) (c2 := .none) (c3 := .none) (b4 := .bool false) (kk _ _ ho) (by simp [sizeLine_eq]) (fun h' k3 e3 _ => ?_)
  exact hq h' _ _ (fun b o hb e => k3 b o hb (kk _ _ e)) e3
end
end TL
set_option Elab.async false
set_option linter.all false
set_option maxRecDepth 100000
set_option maxHeartbeats 2000000
namespace TL
open PySem PySem.Spec PySem.Calls PyProof.Rows L2
/-- the context of a body with the cell of its class -/
def cxS (P : Program) (w : World) (K : PySem.W.Frag) (mg : Str → Option Value) (base : Heap) (N : List Str) (qual : Str) (scope : Scope) (f : Addr) (cd : Value) (cc : Addr) (A : Around) (outer : List Env) (s : Shared) (H : Hp) (E : XK) : Cx where
  prog := P
  w := w
  K := K
  mg := mg
  base := base
  A := A.deeper (PySem.W.ksEnv qual scope s.heap.objs.size f cd cc)
  N := N
  s_0 := s
  H_0 := H
  env := PySem.W.ksEnv qual scope s.heap.objs.size f cd cc
  outer := outer
  stack := PySem.W.ksEnv qual scope s.heap.objs.size f cd cc :: outer
  ex := []
  calm := true
  fn := fun _ => false
  pn := []
  xe := fun e s' => wpAny (model P w) (A.deeper (PySem.W.ksEnv qual scope s.heap.objs.size f cd cc)) (leaving (PySem.W.ksEnv qual scope s.heap.objs.size f cd cc) e) (fun _ s'' => L2.CX P w outer H s E e s'') (fun e' s'' => L2.CX P w outer H s E e' s'') s'
theorem lk_self {f : Str} {v u : Value} (h : f ≠ "self") : List.lookup ("self" : Str) [(f, u), (("self" : Str), v)] = some v := by
  have hb : (("self" : Str) == f) = false := by simpa using fun z => h z.symm
  simp [List.lookup, hb]
theorem lk_f {f : Str} {v u : Value} : List.lookup f [(f, u), (("self" : Str), v)] = some u := by simp [List.lookup]
theorem lookup_one {cc c : Addr} {x : Str} (h : List.lookup x [(("__class__" : Str), cc)] = some c) : x = "__class__" ∧ c = cc := by
  simp only [List.lookup] at h
  split at h
  · rename_i z
    exact ⟨by simpa using z, by cases h; rfl⟩
  · cases h
section
variable {P : Program} {w : World} {K : PySem.W.Frag} {mg : Str → Option Value} {base : Heap} {C fI cc cda : Addr} {f : Str} {fd : FuncData} {scope : Scope} {q : Str}
theorem inv_startS {A : Around} {outer : List Env} {s : Shared} {H : Hp} {E : XK} {vs : List V} {us : List Value} {h1 : Heap} {tk : Nat} (F : SupF P K mg C fI cc cda f fd scope) (hd : A.handled = none) (e0 : Env0 P w K mg base A outer s H) (r : Vals vs us) (hl : vs.length = 2) (hnf : f ≠ "self")
    (hfr : ∀ y, scope.names.lookup y = some .cell ∨ scope.names.lookup y = some .free → y = "__class__")
    (hns : h1.Ns s.heap.objs.size fun x => (([("self" : Str), f] : List Str).zip us).reverse.lookup x) (kp : ∀ b o, s.heap.get? b = some o → h1.get? b = some o) :
    Inv (cxS P w K mg base ["self", f] q scope fI (.ref cda) cc A outer s H E) [] (L2.start [("self" : Str), f] vs) H { s with heap := h1, toks := tk } := by
  obtain ⟨cl, cld, csl, hcell⟩ := F.cell
  have hcb := e0.mod.kin _ _ hcell
  have hcs := e0.bs _ _ hcb
  have noA : ∀ b : Addr, b ∉ (cxS P w K mg base ["self", f] q scope fI (.ref cda) cc A outer s H E).ex := fun b z => absurd (show b ∈ ([] : List Addr) from z) (by simp)
  refine ⟨⟨e0.mod, F.kind, rfl, rfl, Nat.le_refl _, fun y z c e1 e2 => (lookup_one e1).1.trans (lookup_one e2).1.symm, fun y hy => ?_, fun y c z _ => ?_, fun _ => hd, Around.frames_deeper e0.frames, .inr ⟨rfl, rfl⟩, fun b z => absurd z (noA b), e0.bs, e0.bsz, fun b _ _ => noA b,
      fun b z => absurd z (noA b), e0.funs, e0.frf⟩,
    rfl, e0.bare, Un.kept kp, ⟨_, hns, fun i y v e1 e2 e3 => ?_⟩, fun y c e => ?_, e0.hok.fresh (Nat.le_refl _), fun y c e => ?_, fun p hp => absurd (show p ∈ ([] : List (Addr × Obj)) from hp) (by simp), e0.hok.kept kp, ?_⟩
  · have e := hfr y hy
    subst e
    exact ⟨cc, rfl⟩
  · have z : false = true := z
    cases z
  · match vs, hl with
    | [v1, v2], _ =>
      cases r with
      | @cons _ u1 _ ur r1 rr =>
        cases rr with
        | @cons _ u2 _ ur2 r2 rr2 =>
          cases rr2
          have e1 : ([("self" : Str), f] : List Str)[i]? = some y := e1
          match i, e1, e2 with
          | 0, e1, e2 =>
            cases e1; cases e2
            refine ⟨u1, r1, .inl ⟨F.nse, ?_⟩⟩
            exact lk_self hnf
          | 1, e1, e2 =>
            cases e1; cases e2
            refine ⟨u2, r2, .inl ⟨F.nf, ?_⟩⟩
            exact lk_f
          | i + 2, e1, e2 => cases e1
  · obtain ⟨_, rfl⟩ := lookup_one e
    exact ⟨_, _, kp _ _ hcs.1, rfl⟩
  · obtain ⟨_, rfl⟩ := lookup_one e
    exact hcs.2
  · show (L2.start [("self" : Str), f] vs).length = 2
    unfold L2.start
    simp [hl]
theorem sup_fn {name qual : Str} {params : Arguments} {dV kV doc pm ct oc : Value} {od an : Option Addr} {osl : Array (Option Value)} {p0 p1 p2 p3 p4 p5 p6 p7 p8 p9 : Pos} {pl : Sem Bool}
    (lk : K.lookup fI = some ⟨oc, od, .func (PySem.W.ksFn name qual params [.Expr (.Call (.Attribute (.Call (.Name "super" p0) [] [] p1) "__init__" p2) [.Name f p3] [] p4) p5, .Assign [.Attribute (.Name "self" p6) f p7] (.Name f p8) p9] scope dV kV doc pm an (.ref cda) ct cc), osl⟩)
    (F : SupF P K mg C fI cc cda f (PySem.W.ksFn name qual params [.Expr (.Call (.Attribute (.Call (.Name "super" p0) [] [] p1) "__init__" p2) [.Name f p3] [] p4) p5, .Assign [.Attribute (.Name "self" p6) f p7] (.Name f p8) p9] scope dV kV doc pm an (.ref cda) ct cc) scope)
    (hcd : PySem.W.codeIn K (.ref cda) qual = true) (hno : PySem.W.findIn K (.ref C) f = some none) (hnf : f ≠ "self") (hf2 : (f == ("__classdict__" : Str)) = false)
    (hfr : ∀ y, scope.names.lookup y = some .cell ∨ scope.names.lookup y = some .free → y = "__class__") (hcel : ∀ x ∈ scope.names, x.2 ≠ .cell) (hco : scope.isCoroutine = false) (hgen : scope.isGenerator = false)
    (he : ∀ L : Addr, eval (.Call (.Attribute (.Call (.Name "super" p0) [] [] p1) "__init__" p2) [.Name f p3] [] p4) (PySem.W.ksEnv qual scope L fI (.ref cda) cc) = (do
      let ov ← attributeBase (.Call (.Name "super" p0) [] [] p1) "__init__" (PySem.W.ksEnv qual scope L fI (.ref cda) cc) (eval (.Call (.Name "super" p0) [] [] p1) (PySem.W.ksEnv qual scope L fI (.ref cda) cc))
      standAt p2.atName
      let (fx, first) ← holding [ov] (getMethod ov "__init__" pl)
      callWith p4 fx first (backTo p4 (starEach [Expr.Name f p3] (PySem.W.ksEnv qual scope L fI (.ref cda) cc))) []))
    (hsw : ∀ L : Addr, swapsWith (.Name f p8) (some (.Attribute (.Name "self" p6) f p7)) p9.line (PySem.W.ksEnv qual scope L fI (.ref cda) cc) = pure false) :
    FnOk P w K mg base (L2.CX P w) 1 fI (PySem.W.ksFn name qual params [.Expr (.Call (.Attribute (.Call (.Name "super" p0) [] [] p1) "__init__" p2) [.Name f p3] [] p4) p5, .Assign [.Attribute (.Name "self" p6) f p7] (.Name f p8) p9] scope dV kV doc pm an (.ref cda) ct cc) ["self", f] (spI1 C f) := by
  refine ⟨fun vs H Q E h => ?_, fun A outer s H args us vs Q E hr e0 hb r hsp => ?_⟩
  · obtain ⟨a, v, rfl, _⟩ := h
    rfl
  have KX : K.In s.heap := e0.mod.kin.keeps fun b o e => (e0.bs b o e).1
  have lim : s.heap.NoLimit := e0.mod.nolimit.keeps fun b o e => (e0.bs b o e).1
  obtain ⟨a, v, rfl, hHa, hq⟩ := hsp
  have r0 := r
  cases r with
  | @cons _ u1 _ ur r1 rr =>
    cases rr with
    | @cons _ u2 _ ur2 r2 rr2 =>
      cases rr2
      obtain rfl : u1 = Value.ref a := r1
      have hsf : (f == ("self" : Str)) = false := by simpa using hnf
      refine ks_codeAny_call_defAt (fd := PySem.W.ksFn name qual params [.Expr (.Call (.Attribute (.Call (.Name "super" p0) [] [] p1) "__init__" p2) [.Name f p3] [] p4) p5, .Assign [.Attribute (.Name "self" p6) f p7] (.Name f p8) p9] scope dV kV doc pm an (.ref cda) ct cc) (body := _) (binds := ([("self" : Str), f] : List Str).zip [Value.ref a, u2]) hr.depth (KX _ _ lk) rfl lim (PySem.W.codeRec_of KX hcd) rfl hb hcel (fun x hx => ?_) (fun h₁ hns kp => ?_) hco hgen F.kind
      · have hx : x ∈ [(("self" : Str), Value.ref a), (f, u2)] := hx
        simp only [List.mem_cons, List.not_mem_nil, or_false] at hx
        rcases hx with rfl | rfl
        · exact F.nse
        · exact F.nf
      obtain ⟨t1, ho⟩ := exo_at e0.hok hHa
      have I := inv_startS (q := qual) (E := E) (tk := s.toks + (([("self" : Str), f] : List Str).zip [Value.ref a, u2]).length) F hr.hd e0 r0 rfl hnf hfr hns kp
      refine ks_wpAt_execs_cons ?_
      refine super_init F e0.mod (fun b o e => kp _ _ (e0.bs b o e).1) hns (lk_self hnf) lk_f (kp _ _ ho) (fun h' t' t1' k hx => ?_) (he _)
      have J := I.write (t' := t') (x := a) (e := a) (o := exo a C none) (by rw [hHa]; exact True.intro) (.inl rfl) k ⟨_, hx⟩ (exo_ok hx)
      have eu : upd H a (exo a C none) = H := by
        funext b
        by_cases hb : b = a
        · rw [hb, upd_same, hHa]
        · rw [upd_ne hb]
      rw [eu] at J
      refine ks_wpAt_execs_cons (wpAt_of_wpAny ?_)
      have hstmt := ps_ost (X := cxS P w K mg base ["self", f] qual scope fI (.ref cda) cc A outer s H E) (f := f) (p' := p7) (pos := p9) (pe_var (i := 0) (x := "self") (pos := p6) rfl (.inl F.nse)) (pe_var (i := 1) (x := f) (pos := p8) rfl (.inl F.nf) F.hf hf2) (hsw _)
      refine wpAny_mono (hstmt.run [] _ _ H { nx := fun _ H' => Q .non H', rt := Q } J ?_) (fun fl s' hs => ?_) fun e s' hs => hs
      · refine ⟨v, rfl, .ref a, rfl, a, C, rfl, F.T, hno, .inl ⟨hHa, fun dx hd ne => hq dx hd ne⟩⟩
      · cases fl with
        | next =>
          obtain ⟨σ', H', J, q⟩ := hs
          exact wpAt_of_wpAny (wpAny_execs_nil ⟨.non, H', J.os, J.bare, J.base, J.hok, rfl, q⟩)
        | ret u =>
          obtain ⟨v', σ', H', J, rv, q⟩ := hs
          exact ⟨v', H', J.os, J.bare, J.base, J.hok, rv, q⟩
        | brk =>
          obtain ⟨_, _, _, q⟩ := hs
          exact False.elim q
        | cont =>
          obtain ⟨_, _, _, q⟩ := hs
          exact False.elim q
end
end TL
set_option Elab.async false
set_option linter.all false
set_option maxRecDepth 100000
set_option maxHeartbeats 2000000
namespace TL
open PySem PySem.Spec PySem.Calls PyProof.Rows L2
def oexIn (K : PySem.W.Frag) (C : Addr) : Bool := match K.lookup C with
  | some ⟨.type "type", _, .cls cd, sl⟩ => (match cd.mro, sl.toList with
    | .ref C' :: bm, [_, _, _, _, some (.builtin n), _] => C' == C && n == "ValueError.__new__" && !cd.hasDel && cd.hasDict && PySem.HandSPX.refsVE bm
    | _, _ => false)
  | _ => false
theorem oex_of {K : PySem.W.Frag} {C : Addr} (q : oexIn K C = true) : ∃ nm q N bs bm sn sub ab col dd k0 k1 k2 k3 k5, K.lookup C = some (excClassObj nm q C N bs bm true sn sub ab col dd k0 k1 k2 k3 k5 "ValueError.__new__") ∧ PySem.HandSPX.refsVE bm = true := by
  unfold oexIn at q
  split at q
  · rename_i dd cd sl ho
    split at q
    · rename_i C' bm k0 k1 k2 k3 n k5 hm hs
      simp only [Bool.and_eq_true, beq_iff_eq, Bool.not_eq_true'] at q
      obtain ⟨⟨⟨⟨rfl, rfl⟩, hdel⟩, hdi⟩, ht⟩ := q
      obtain ⟨nm, bs, mro, ns, qn, hd, sn, sub, ab, col, del⟩ := cd
      dsimp only at hm hdel hdi
      subst hm hdel hdi
      have hsl : sl = #[k0, k1, k2, k3, some (.builtin "ValueError.__new__"), k5] := by
        obtain ⟨l⟩ := sl
        simp only at hs
        rw [hs]
      subst hsl
      exact ⟨_, _, _, _, _, _, _, _, _, _, _, _, _, _, _, ho, ht⟩
    · cases q
  · cases q
def codeFileIn (K : PySem.W.Frag) (cda : Addr) (file : Str) : Bool := match K.lookup cda with
  | some ⟨_, _, .fields vs, _⟩ => (match (vs[2]? : Option Value) with | some (.str x _) => file == x | _ => false)
  | _ => false
theorem codeFile_of {K : PySem.W.Frag} {cda : Addr} {fl : Str} (q : codeFileIn K cda fl = true) : ∃ (ccl : Value) (cdd : Option Addr) (vs : Array Value) (ccs : Array (Option Value)) (file : Str) (tf : Tok), K.lookup cda = some ⟨ccl, cdd, .fields vs, ccs⟩ ∧ vs[2]? = some (.str file tf) ∧ (fl == file) = true := by
  unfold codeFileIn at q
  split at q
  · rename_i ho
    split at q
    · rename_i hx
      exact ⟨_, _, _, _, _, _, ho, hx, q⟩
    · cases q
  · cases q
def freeOk (scope : Scope) : Bool := scope.names.all fun y => !decide (y.2 = .cell) && (!decide (y.2 = .free) || decide (y.1 = "__class__"))
theorem freeOk_of {scope : Scope} (h : freeOk scope = true) : (∀ y, scope.names.lookup y = some .cell ∨ scope.names.lookup y = some .free → y = "__class__") ∧ ∀ x ∈ scope.names, x.2 ≠ .cell := by
  unfold freeOk at h
  simp only [Bool.and_eq_true, Bool.or_eq_true, Bool.not_eq_true', decide_eq_true_eq, decide_eq_false_iff_not, List.all_eq_true] at h
  refine ⟨fun y hy => ?_, fun x hx => (h x hx).1⟩
  rcases hy with hy | hy
  · exact absurd rfl (h _ (PySem.mem_of_lookup hy)).1
  · rcases (h _ (PySem.mem_of_lookup hy)).2 with z | z
    · exact absurd rfl z
    · exact z
theorem exc1_of {P : Program} {w : World} {K : PySem.W.Frag} {mg : Str → Option Value} {base : Heap} {C fI cc cda : Addr} {c f : Str} {name qual : Str} {params : Arguments} {scope : Scope} {dV kV doc pm ct oc cl : Value} {od cld an : Option Addr} {osl csl : Array (Option Value)} {p0 p1 p2 p3 p4 p5 p6 p7 p8 p9 : Pos} {pl : Sem Bool}
    (mC : mg c = some (.ref C)) (h1 : oexIn K C = true) (h2 : PySem.W.findIn K (.ref C) "__setattr__" = some (some (.builtin "object.__setattr__"))) (h3 : PySem.W.subIn K (.ref C) (.type "BaseException") = some true) (h4 : PySem.W.typeIn K (.ref C) = some (.type "type")) (h5 : PySem.W.keepIn K (.ref C) = true)
    (h6 : PySem.W.findIn K (.ref C) "__init__" = some (some (.ref fI))) (h7 : PySem.W.typeIn K (.ref fI) = some (.type "function"))
    (lk : K.lookup fI = some ⟨oc, od, .func (PySem.W.ksFn name qual params [.Expr (.Call (.Attribute (.Call (.Name "super" p0) [] [] p1) "__init__" p2) [.Name f p3] [] p4) p5, .Assign [.Attribute (.Name "self" p6) f p7] (.Name f p8) p9] scope dV kV doc pm an (.ref cda) ct cc), osl⟩)
    (hcell : K.lookup cc = some ⟨cl, cld, .cell (some (.ref C)), csl⟩) (hcode : codeFileIn K cda P.main.file = true) (htop : (P.main.scope.names.lookup ("super" : Str)).isSome = false) (mgs : mg "super" = none)
    (h8 : PySem.W.mroIn K C (.ref C) = some true) (h9 : PySem.W.subIn K (.ref C) (.type "ValueError") = some true) (h10 : PySem.W.ks_superIn K C C "__init__" = some (some (.builtin "ValueError.__init__"))) (h11 : PySem.W.nsIn K PySem.cStatics "thirdparty.any" = some none)
    (hcd : PySem.W.codeIn K (.ref cda) qual = true) (hno : PySem.W.findIn K (.ref C) f = some none)
    (har : ∃ ar : Arg, (params.posonlyargs ++ params.args).head? = some ar ∧ ar.arg = "self") (hkind : scope.kind = .function) (hnsu : scope.names.lookup ("super" : Str) = some .globalImplicit) (hncl : scope.names.lookup ("__class__" : Str) = some .free) (hnse : scope.names.lookup ("self" : Str) = some .local) (hnf' : scope.names.lookup f = some .local)
    (hf : (f == ("__debug__" : Str)) = false) (hnf : f ≠ "self") (hf2 : (f == ("__classdict__" : Str)) = false) (hfr : freeOk scope = true) (hco : scope.isCoroutine = false) (hgen : scope.isGenerator = false)
    (he : ∀ L : Addr, eval (.Call (.Attribute (.Call (.Name "super" p0) [] [] p1) "__init__" p2) [.Name f p3] [] p4) (PySem.W.ksEnv qual scope L fI (.ref cda) cc) = (do
      let ov ← attributeBase (.Call (.Name "super" p0) [] [] p1) "__init__" (PySem.W.ksEnv qual scope L fI (.ref cda) cc) (eval (.Call (.Name "super" p0) [] [] p1) (PySem.W.ksEnv qual scope L fI (.ref cda) cc))
      standAt p2.atName
      let (fx, first) ← holding [ov] (getMethod ov "__init__" pl)
      callWith p4 fx first (backTo p4 (starEach [Expr.Name f p3] (PySem.W.ksEnv qual scope L fI (.ref cda) cc))) []))
    (hsw : ∀ L : Addr, swapsWith (.Name f p8) (some (.Attribute (.Name "self" p6) f p7)) p9.line (PySem.W.ksEnv qual scope L fI (.ref cda) cc) = pure false)
    (hbind : ∀ u v : Value, bindArgs (PySem.W.ksFn name qual params [.Expr (.Call (.Attribute (.Call (.Name "super" p0) [] [] p1) "__init__" p2) [.Name f p3] [] p4) p5, .Assign [.Attribute (.Name "self" p6) f p7] (.Name f p8) p9] scope dV kV doc pm an (.ref cda) ct cc) ⟨[u, v], []⟩ = pure (([("self" : Str), f] : List Str).zip [u, v])) :
    Exc1 P w K mg base c f 1 := by
  have T : OexC K C := ⟨oex_of h1, h2, h3, h4, h5⟩
  have F : SupF P K mg C fI cc cda f (PySem.W.ksFn name qual params [.Expr (.Call (.Attribute (.Call (.Name "super" p0) [] [] p1) "__init__" p2) [.Name f p3] [] p4) p5, .Assign [.Attribute (.Name "self" p6) f p7] (.Name f p8) p9] scope dV kV doc pm an (.ref cda) ct cc) scope :=
    ⟨T, ⟨_, _, _, lk⟩, har, ⟨_, _, _, hcell⟩, codeFile_of hcode, htop, mgs, h8, h9, h10, h11, hkind, hnsu, hncl, hnse, hnf', hf⟩
  refine ⟨C, fI, _, _, mC, T, h6, h7, sup_fn lk F hcd hno hnf hf2 (freeOk_of hfr).1 (freeOk_of hfr).2 hco hgen he hsw, .all fun us hl => ?_⟩
  match us, hl with
  | [u, v], _ => exact hbind u v
end TL
set_option Elab.async false
set_option linter.all false
set_option maxRecDepth 100000
set_option maxHeartbeats 4000000
namespace K78
open PySem PySem.Spec PyProof.Rows L2 TL
abbrev LOC : Str := "<lambda>"
def errs : List Str := ["NoName", "NoNumber", "NoWeb", "TooMany"]
def wordOf (c : Str) : Str := if c = "NoName" then "name" else if c = "NoNumber" then "number" else if c = "NoWeb" then "web" else "many"
/-- what the word's def leaves behind -/
def wordG (c : Str) : Mem := [.lst [.bl (decide (c = "NoName")), .bl (decide (c = "NoNumber"))], .lst [.bl (decide (c = "NoWeb")), .bl (decide (c = "TooMany"))],
  .lst [.bl (decide (c = "NoName")), .bl (decide (c = "NoNumber")), .bl (decide (c = "NoWeb")), .bl (decide (c = "TooMany"))], .lst [.str "name", .str "number", .str "web", .str "many"]]
def wordF : Res → Res
  | .ok _ μ => .ok (.str "told") μ
  | .exc c _ μ => if c ∈ errs then .ok (.str (wordOf c)) (μ ++ wordG c) else .bad
  | .bad => .bad
theorem pass_no {X : Cx} : Passes (L2.CX X.prog X.w) X (fun _ _ _ => False) := fun _ _ _ _ _ _ _ ⟨_, _, _, _, _, _, _, _, _, _, _, _, z⟩ => z.elim
theorem wordF_ne (r : Res) (c : Str) (fs : List (Str × T)) (μ : Mem) : wordF r ≠ .exc c fs μ := by
  unfold wordF
  split
  · exact fun z => nomatch z
  · split <;> exact fun z => nomatch z
  · exact fun z => nomatch z
/-! ### the text by places -/
def top (i : Nat) : Stmt := PySem.Challenge.pw_treesapartways_k78_whole_stores_of_versi.main.body.getD i (.Pass ⟨0, 0, 0, 0⟩)
abbrev s__law_hand : Stmt := top 30
abbrev s_Storedd_initdd : Stmt := inClass (top 24) 0
abbrev s_Store_now : Stmt := inClass (top 24) 1
abbrev s_Store_names : Stmt := inClass (top 24) 6
abbrev s_check_most : Stmt := top 14
abbrev s_is_sized : Stmt := top 12
abbrev s_is_int : Stmt := top 10
abbrev s_is_within : Stmt := top 11
abbrev s_is_pair_of : Stmt := top 18
abbrev s_is_web : Stmt := top 19
abbrev s_check_web : Stmt := top 20
abbrev s_is_name : Stmt := top 13
abbrev s_Store_put : Stmt := inClass (top 24) 2
abbrev s_Store_check_there : Stmt := inClass (top 24) 3
abbrev s_Store_take : Stmt := inClass (top 24) 4
abbrev s__law_draw : Stmt := top 31
abbrev s__law_some : Stmt := top 32
abbrev s__law_word : Stmt := top 34
abbrev s_check_known : Stmt := top 27
abbrev s_known_web : Stmt := top 28
abbrev s__law_is_full_right : Stmt := top 38
abbrev s_Store_drop : Stmt := inClass (top 24) 7
abbrev s_Store_version : Stmt := inClass (top 24) 5
abbrev s__law_is_as : Stmt := top 35
abbrev s__law_is_refused : Stmt := top 37
abbrev s__law_web : Stmt := top 33
abbrev s__law_is_led_right : Stmt := top 36
abbrev s_law : Stmt := top 39
def tab_WEBS : List (Str × T) := [("bow", .tup [.int 5, .tup [.tup [.int 0, .int 1], .tup [.int 0, .int 2], .tup [.int 1, .int 2], .tup [.int 2, .int 3], .tup [.int 2, .int 4], .tup [.int 3, .int 4]]]), ("ring", .tup [.int 5, .tup [.tup [.int 0, .int 1], .tup [.int 1, .int 2], .tup [.int 2, .int 3], .tup [.int 3, .int 4], .tup [.int 0, .int 4]]]), ("wheel", .tup [.int 5, .tup [.tup [.int 0, .int 1], .tup [.int 1, .int 2], .tup [.int 2, .int 3], .tup [.int 0, .int 3], .tup [.int 0, .int 4], .tup [.int 1, .int 4], .tup [.int 2, .int 4], .tup [.int 3, .int 4]]])]
/-! ### what the top has made -/
structure TX (w : World) (K : PySem.W.Frag) (mg : Str → Option Value) : Prop where
  b_abs : mg "abs" = none
  b_all : mg "all" = none
  b_bool : mg "bool" = none
  b_dict : mg "dict" = none
  b_int : mg "int" = none
  b_isinstance : mg "isinstance" = none
  b_len : mg "len" = none
  b_list : mg "list" = none
  b_range : mg "range" = none
  b_sorted : mg "sorted" = none
  b_str : mg "str" = none
  b_tuple : mg "tuple" = none
  g_LETTERS : GlobIs K mg "LETTERS" (.str "abcdefghijklmnopqrstuvwxyz")
  g_MOST_NAME : GlobIs K mg "MOST_NAME" (.int 8)
  g_MOST_NAMES : GlobIs K mg "MOST_NAMES" (.int 50)
  g_MOST_PLACES : GlobIs K mg "MOST_PLACES" (.int 12)
  g_MOST_TIES : GlobIs K mg "MOST_TIES" (.int 40)
  g_MOST_VERSIONS : GlobIs K mg "MOST_VERSIONS" (.int 20)
  x_NoName : ExcC0 K mg "NoName"
  x_NoNumber : ExcC0 K mg "NoNumber"
  x_NoWeb : ExcC0 K mg "NoWeb"
  f_Store_store_stages : FldOk K mg "Store" "store_stages"
  w_WEBS : WD w K mg "WEBS" tab_WEBS
  er : ∀ cn ∈ errs, ∀ C, mg cn = some (.ref C) → ErK K C ∧ ∀ x ∈ errs, ∀ D, mg x = some (.ref D) → PySem.W.kitOne K (.ref C) (.ref D) = some (decide (cn = x))
  te : ∃ TE, mg "TreeError" = some (.ref TE) ∧ ∀ cn ∈ errs, ∀ C, mg cn = some (.ref C) → PySem.W.exmOne K (.ref C) (.ref TE) = some true
  es : ∀ cn ∈ errs, ∃ C, mg cn = some (.ref C)
section
variable {P : Program} {w : World} {K : PySem.W.Frag} {mg : Str → Option Value} {base : Heap} {tb : List (Addr × Str)}
/-! #### _law_hand -/
theorem sc__law_hand : FnScope ["script", "cells", "cell"] ["script"] (defScope s__law_hand) := ⟨rfl, rfl, rfl, by decide +kernel, rfl, by decide +kernel, by decide +kernel⟩
def d__law_hand : SM := (sSeq (sSet 1 (dNew (dLc (dIterL (dSlL (dVar 0) none (some (dC (.int 63))))) (.nm 2) [2] none (d2 modT (dCall absC (aCons (dCall intC (aCons (dVar 2) aNil)) aNil)) (d2 powT (dC (.int 10)) (dC (.int 60)))))))
    (sRet (dNew (dLstL (lCons (dVar 1) (lCons (dC (.int 0)) (lCons (dC (.int 0)) (lCons (d2 addT (dC (.int 7811)) (d2 mulT (dC (.int 7)) (dCall lenC (aCons (dVar 1) aNil)))) (lCons (dC (.int 0)) lNil)))))))))
def F__law_hand : Fn := runF 3 d__law_hand
theorem bp__law_hand : BindP "_law_hand" "_law_hand" s__law_hand ["script"] := fun _ _ _ _ _ _ us hl => match us, hl with | [_], _ => rfl
/-! #### Store.__init__ -/
theorem sc_Storedd_initdd : FnScope ["self"] ["self"] (defScope s_Storedd_initdd) := ⟨rfl, rfl, rfl, by decide +kernel, rfl, by decide +kernel, by decide +kernel⟩
def d_Storedd_initdd : SM := (sFldT "Store" "store_stages" (dVar 0) (dNew (dLstL (lCons (fun _ μ => .ok (.ref μ.length) (μ ++ [.dct []])) lNil))))
def F_Storedd_initdd : Fn := runF 1 d_Storedd_initdd
theorem bp_Storedd_initdd : BindP "__init__" "Store.__init__" s_Storedd_initdd ["self"] := fun _ _ _ _ _ _ us hl => match us, hl with | [_], _ => rfl
/-! #### Store.now -/
theorem sc_Store_now : FnScope ["self"] ["self"] (defScope s_Store_now) := ⟨rfl, rfl, rfl, by decide +kernel, rfl, by decide +kernel, by decide +kernel⟩
def d_Store_now : SM := (sRet (d2 subT' (d1 (fldT "Store" "store_stages") (dVar 0)) (d1 negT (dC (.int 1)))))
def F_Store_now : Fn := runF 1 d_Store_now
theorem bp_Store_now : BindP "now" "Store.now" s_Store_now ["self"] := fun _ _ _ _ _ _ us hl => match us, hl with | [_], _ => rfl
/-! #### Store.names -/
theorem sc_Store_names : FnScope ["self"] ["self"] (defScope s_Store_names) := ⟨rfl, rfl, rfl, by decide +kernel, rfl, by decide +kernel, by decide +kernel⟩
def d_Store_names : SM := (sRet (dQ tupQ (dQL sortQ (dKeys (dMeth "Store" "now" 1 F_Store_now (dVar 0) aNil)))))
def F_Store_names : Fn := runF 1 d_Store_names
theorem bp_Store_names : BindP "names" "Store.names" s_Store_names ["self"] := fun _ _ _ _ _ _ us hl => match us, hl with | [_], _ => rfl
/-! #### check_most -/
theorem sc_check_most : FnScope ["many", "most"] ["many", "most"] (defScope s_check_most) := ⟨rfl, rfl, rfl, by decide +kernel, rfl, by decide +kernel, by decide +kernel⟩
def d_check_most : SM := (sIf (d2 gtT (dVar 0) (dVar 1)) (sRaise1 "TooMany" "most" (dVar 1)) sNil)
def F_check_most : Fn := runF 2 d_check_most
theorem bp_check_most : BindP "check_most" "check_most" s_check_most ["many", "most"] := fun _ _ _ _ _ _ us hl => match us, hl with | [_, _], _ => rfl
/-! #### is_sized -/
theorem sc_is_sized : FnScope ["thing", "least", "most"] ["thing", "least", "most"] (defScope s_is_sized) := ⟨rfl, rfl, rfl, by decide +kernel, rfl, by decide +kernel, by decide +kernel⟩
def d_is_sized : SM := (sRet (dAnd (d1 (isiT "tuple") (dVar 0)) (dChain leT leT (dVar 1) (dCall lenC (aCons (dVar 0) aNil)) (dVar 2))))
def F_is_sized : Fn := runF 3 d_is_sized
theorem bp_is_sized : BindP "is_sized" "is_sized" s_is_sized ["thing", "least", "most"] := fun _ _ _ _ _ _ us hl => match us, hl with | [_, _, _], _ => rfl
/-! #### is_int -/
theorem sc_is_int : FnScope ["thing"] ["thing"] (defScope s_is_int) := ⟨rfl, rfl, rfl, by decide +kernel, rfl, by decide +kernel, by decide +kernel⟩
def d_is_int : SM := (sRet (dAnd (d1 (isiT "int") (dVar 0)) (dNot (d1 (isiT "bool") (dVar 0)))))
def F_is_int : Fn := runF 1 d_is_int
theorem bp_is_int : BindP "is_int" "is_int" s_is_int ["thing"] := fun _ _ _ _ _ _ us hl => match us, hl with | [_], _ => rfl
/-! #### is_within -/
theorem sc_is_within : FnScope ["thing", "low", "high"] ["thing", "low", "high"] (defScope s_is_within) := ⟨rfl, rfl, rfl, by decide +kernel, rfl, by decide +kernel, by decide +kernel⟩
def d_is_within : SM := (sRet (dAnd (dFn 1 F_is_int (aCons (dVar 0) aNil)) (dChain leT leT (dVar 1) (dVar 0) (dVar 2))))
def F_is_within : Fn := runF 3 d_is_within
theorem bp_is_within : BindP "is_within" "is_within" s_is_within ["thing", "low", "high"] := fun _ _ _ _ _ _ us hl => match us, hl with | [_, _, _], _ => rfl
/-! #### is_pair_of -/
theorem sc_is_pair_of : FnScope ["many", "thing"] ["many", "thing"] (defScope s_is_pair_of) := ⟨rfl, rfl, rfl, by decide +kernel, rfl, by decide +kernel, by decide +kernel⟩
def d_is_pair_of : SM := (sSeq (sIf (dOr (dNot (dFn 3 F_is_sized (aCons (dVar 1) (aCons (dC (.int 2)) (aCons (dC (.int 2)) aNil))))) (dOr (dNot (dFn 3 F_is_within (aCons (d2 subT' (dVar 1) (dC (.int 0))) (aCons (dC (.int 0)) (aCons (d2 subT (dVar 0) (dC (.int 1))) aNil))))) (dNot (dFn 3 F_is_within (aCons (d2 subT' (dVar 1) (dC (.int 1))) (aCons (dC (.int 0)) (aCons (d2 subT (dVar 0) (dC (.int 1))) aNil))))))) (sRet (dC (.bl false))) sNil)
    (sRet (d2 ltT (d2 subT' (dVar 1) (dC (.int 0))) (d2 subT' (dVar 1) (dC (.int 1))))))
def F_is_pair_of : Fn := runF 2 d_is_pair_of
theorem bp_is_pair_of : BindP "is_pair_of" "is_pair_of" s_is_pair_of ["many", "thing"] := fun _ _ _ _ _ _ us hl => match us, hl with | [_, _], _ => rfl
/-! #### is_web -/
theorem sc_is_web : FnScope ["thing", "one"] ["thing"] (defScope s_is_web) := ⟨rfl, rfl, rfl, by decide +kernel, rfl, by decide +kernel, by decide +kernel⟩
def d_is_web : SM := (sSeq (sIf (dOr (dNot (dFn 3 F_is_sized (aCons (dVar 0) (aCons (dC (.int 2)) (aCons (dC (.int 2)) aNil))))) (dOr (dNot (dFn 3 F_is_within (aCons (d2 subT' (dVar 0) (dC (.int 0))) (aCons (dC (.int 1)) (aCons (dC (.int 12)) aNil))))) (dNot (dFn 3 F_is_sized (aCons (d2 subT' (dVar 0) (dC (.int 1))) (aCons (dC (.int 0)) (aCons (dC (.int 40)) aNil))))))) (sRet (dC (.bl false))) sNil)
    (sRet (dQ allQ (dLc (dIter (d2 subT' (dVar 0) (dC (.int 1)))) (.nm 1) [1] none (dFn 2 F_is_pair_of (aCons (d2 subT' (dVar 0) (dC (.int 0))) (aCons (dVar 1) aNil)))))))
def F_is_web : Fn := runF 2 d_is_web
theorem bp_is_web : BindP "is_web" "is_web" s_is_web ["thing"] := fun _ _ _ _ _ _ us hl => match us, hl with | [_], _ => rfl
/-! #### check_web -/
theorem sc_check_web : FnScope ["web"] ["web"] (defScope s_check_web) := ⟨rfl, rfl, rfl, by decide +kernel, rfl, by decide +kernel, by decide +kernel⟩
def d_check_web : SM := (sIf (dNot (dFn 1 F_is_web (aCons (dVar 0) aNil))) (sRaise0 "NoWeb") sNil)
def F_check_web : Fn := runF 1 d_check_web
theorem bp_check_web : BindP "check_web" "check_web" s_check_web ["web"] := fun _ _ _ _ _ _ us hl => match us, hl with | [_], _ => rfl
/-! #### is_name -/
theorem sc_is_name : FnScope ["thing", "sign"] ["thing"] (defScope s_is_name) := ⟨rfl, rfl, rfl, by decide +kernel, rfl, by decide +kernel, by decide +kernel⟩
def d_is_name : SM := (sRet (dAnd (d1 (isiT "str") (dVar 0)) (dAnd (dChain leT leT (dC (.int 1)) (dCall lenC (aCons (dVar 0) aNil)) (dC (.int 8))) (dQ allQ (dLc (dIter (dVar 0)) (.nm 1) [1] none (d2 inTx (dVar 1) (dC (.str "abcdefghijklmnopqrstuvwxyz"))))))))
def F_is_name : Fn := runF 2 d_is_name
theorem bp_is_name : BindP "is_name" "is_name" s_is_name ["thing"] := fun _ _ _ _ _ _ us hl => match us, hl with | [_], _ => rfl
/-! #### Store.put -/
theorem sc_Store_put : FnScope ["self", "name", "web", "here"] ["self", "name", "web"] (defScope s_Store_put) := ⟨rfl, rfl, rfl, by decide +kernel, rfl, by decide +kernel, by decide +kernel⟩
def d_Store_put : SM := (sSeq (sIf (dNot (dFn 1 F_is_name (aCons (dVar 1) aNil))) (sRaise0 "NoName") sNil)
    (sSeq (sExpr (dFn 1 F_check_web (aCons (dVar 2) aNil)))
    (sSeq (sSet 3 (dCall dictC (aCons (dMeth "Store" "now" 1 F_Store_now (dVar 0) aNil) aNil)))
    (sSeq (sExpr (dFn 2 F_check_most (aCons (d2 addT (dCall lenC (aCons (dVar 3) aNil)) (dIfE (d2 inDT (dVar 1) (dVar 3)) (dC (.int 0)) (dC (.int 1)))) (aCons (dC (.int 50)) aNil))))
    (sSeq (sExpr (dFn 2 F_check_most (aCons (d2 addT (dCall lenC (aCons (dGet2 (dVar 3) (dVar 1) (dTup aNil)) aNil)) (dC (.int 1))) (aCons (dC (.int 20)) aNil))))
    (sSeq (sSub (dVar 3) (dVar 1) (d2 addT (dGet2 (dVar 3) (dVar 1) (dTup aNil)) (dTup (aCons (dVar 2) aNil))))
    (sSeq (sExpr (dLM appendT (d1 (fldT "Store" "store_stages") (dVar 0)) (aCons (dVar 3) aNil)))
    (sRet (d2 subT (dCall lenC (aCons (d2 subT' (dVar 3) (dVar 1)) aNil)) (dC (.int 1)))))))))))
def F_Store_put : Fn := runF 4 d_Store_put
theorem bp_Store_put : BindP "put" "Store.put" s_Store_put ["self", "name", "web"] := fun _ _ _ _ _ _ us hl => match us, hl with | [_, _, _], _ => rfl
/-! #### Store.check_there -/
theorem sc_Store_check_there : FnScope ["self", "name"] ["self", "name"] (defScope s_Store_check_there) := ⟨rfl, rfl, rfl, by decide +kernel, rfl, by decide +kernel, by decide +kernel⟩
def d_Store_check_there : SM := (sIf (dOr (dNot (dFn 1 F_is_name (aCons (dVar 1) aNil))) (d2 notInDT (dVar 1) (dMeth "Store" "now" 1 F_Store_now (dVar 0) aNil))) (sRaise0 "NoName") sNil)
def F_Store_check_there : Fn := runF 2 d_Store_check_there
theorem bp_Store_check_there : BindP "check_there" "Store.check_there" s_Store_check_there ["self", "name"] := fun _ _ _ _ _ _ us hl => match us, hl with | [_, _], _ => rfl
/-! #### Store.take -/
theorem sc_Store_take : FnScope ["self", "name"] ["self", "name"] (defScope s_Store_take) := ⟨rfl, rfl, rfl, by decide +kernel, rfl, by decide +kernel, by decide +kernel⟩
def d_Store_take : SM := (sSeq (sExpr (dMeth "Store" "check_there" 2 F_Store_check_there (dVar 0) (aCons (dVar 1) aNil)))
    (sRet (d2 subT' (d2 subT' (dMeth "Store" "now" 1 F_Store_now (dVar 0) aNil) (dVar 1)) (d1 negT (dC (.int 1))))))
def F_Store_take : Fn := runF 2 d_Store_take
theorem bp_Store_take : BindP "take" "Store.take" s_Store_take ["self", "name"] := fun _ _ _ _ _ _ us hl => match us, hl with | [_, _], _ => rfl
/-! #### _law_draw -/
theorem sc__law_draw : FnScope ["hand", "many", "cell", "digit", "number"] ["hand", "many"] (defScope s__law_draw) := ⟨rfl, rfl, rfl, by decide +kernel, rfl, by decide +kernel, by decide +kernel⟩
def d__law_draw : SM := (sSeq (sIf (dAnd (d2 eqT (d2 subT' (dVar 0) (dC (.int 2))) (dC (.int 0))) (d2 ltT (d2 subT' (dVar 0) (dC (.int 1))) (dCall lenC (aCons (d2 subT' (dVar 0) (dC (.int 0))) aNil)))) (sSeq (sSet 2 (d2 subT' (d2 subT' (dVar 0) (dC (.int 0))) (d2 subT' (dVar 0) (dC (.int 1)))))
    (sSeq (sSub (dVar 0) (dC (.int 1)) (d2 addT (d2 subT' (dVar 0) (dC (.int 1))) (dC (.int 1))))
    (sSeq (sSub (dVar 0) (dC (.int 3)) (d2 modT (dCall intC (aCons (d2 addT (d2 addT (d2 mulT (d2 subT' (dVar 0) (dC (.int 3))) (dC (.int 69621))) (d2 mulT (dVar 2) (dC (.int 40692)))) (dC (.int 41))) aNil)) (dC (.int 2147483629))))
    (sSub (dVar 0) (dC (.int 2)) (dIfE (d2 geT (dVar 2) (d2 powT (dC (.int 10)) (dC (.int 18)))) (dVar 2) (dC (.int 0))))))) sNil)
    (sSeq (sIf (d2 gtT (d2 subT' (dVar 0) (dC (.int 2))) (dC (.int 0))) (sSeq (sSet 3 (d2 modT (dCall intC (aCons (d2 subT' (dVar 0) (dC (.int 2))) aNil)) (dVar 1)))
    (sSeq (sSub (dVar 0) (dC (.int 2)) (d2 fdivT (d2 subT' (dVar 0) (dC (.int 2))) (dVar 1)))
    (sRet (dVar 3)))) sNil)
    (sSeq (sSub (dVar 0) (dC (.int 4)) (d2 addT (d2 subT' (dVar 0) (dC (.int 4))) (dC (.int 1))))
    (sSeq (sSet 4 (d2 modT (dCall intC (aCons (d2 mulT (dCall intC (aCons (d2 addT (d2 subT' (dVar 0) (dC (.int 3))) (d2 mulT (dC (.int 7927)) (d2 subT' (dVar 0) (dC (.int 4))))) aNil)) (dC (.int 48271))) aNil)) (dC (.int 2147483647))))
    (sSeq (sSet 4 (d2 modT (dCall intC (aCons (d2 mulT (dVar 4) (d2 addT (d2 fdivT (dVar 4) (dC (.int 1013))) (dC (.int 69621)))) aNil)) (dC (.int 2147483647))))
    (sSeq (sSet 4 (d2 modT (dCall intC (aCons (d2 mulT (dVar 4) (d2 addT (d2 fdivT (dVar 4) (dC (.int 2017))) (dC (.int 40014)))) aNil)) (dC (.int 2147483563))))
    (sRet (d2 modT (dCall intC (aCons (d2 fdivT (dVar 4) (dC (.int 16))) aNil)) (dVar 1)))))))))
def F__law_draw : Fn := runF 5 d__law_draw
theorem bp__law_draw : BindP "_law_draw" "_law_draw" s__law_draw ["hand", "many"] := fun _ _ _ _ _ _ us hl => match us, hl with | [_, _], _ => rfl
/-! #### _law_some -/
theorem sc__law_some : FnScope ["hand", "things"] ["hand", "things"] (defScope s__law_some) := ⟨rfl, rfl, rfl, by decide +kernel, rfl, by decide +kernel, by decide +kernel⟩
def d__law_some : SM := (sRet (d2 subT' (dVar 1) (dFn 2 F__law_draw (aCons (dVar 0) (aCons (dCall lenC (aCons (dVar 1) aNil)) aNil)))))
def F__law_some : Fn := runF 2 d__law_some
theorem bp__law_some : BindP "_law_some" "_law_some" s__law_some ["hand", "things"] := fun _ _ _ _ _ _ us hl => match us, hl with | [_, _], _ => rfl
/-! #### _law_word -/
end
theorem sc__law_word : FnScope ["call", "found", "error", "flags", "words"] ["call"] (defScope s__law_word) := ⟨rfl, rfl, rfl, by decide +kernel, rfl, by decide +kernel, by decide +kernel⟩
def dh (a : Addr) (d : Option Addr) (cn : Str) : SM := (sSeq (sSet 3 (dNew (dLstL (lCons (dIsErr 2 a d (decide (cn = "NoName"))) (lCons (dIsErr 2 a d (decide (cn = "NoNumber"))) lNil)))))
    (sSeq (sSet 3 (dNew (dCat (dVar 3) (dNew (dLstL (lCons (dIsErr 2 a d (decide (cn = "NoWeb"))) (lCons (dIsErr 2 a d (decide (cn = "TooMany"))) lNil)))))))
    (sSeq (sSet 4 (dNew (dLstL (lCons (dC (.str "name")) (lCons (dC (.str "number")) (lCons (dC (.str "web")) (lCons (dC (.str "many")) lNil)))))))
    (sSet 1 (dIfE (d2 eqT (dLM countBT (dVar 3) (aCons (dC (.bl true)) aNil)) (dC (.int 1))) (d2 subT' (dVar 4) (dLM indexBT (dVar 3) (aCons (dC (.bl true)) aNil))) (dC (.str "other")))))))
@[simp] theorem dIsErr_e {i a d b} {σ : List (Option T)} {μ : Mem} (h : σ[i]? = some (some (.er a d))) : dIsErr i a d b σ μ = .ok (.bl b) μ := by
  unfold dIsErr; rw [h]; dsimp only; rw [if_pos ⟨rfl, rfl⟩]
theorem dh_run (a : Addr) (d : Option Addr) (c : Str) (hc : c ∈ errs) (μ : Mem) :
    dh a d c [none, some (.str "told"), some (.er a d), none, none] μ = .nx [none, some (.str (wordOf c)), some (.er a d), some (.ref (μ.length + 2)), some (.ref (μ.length + 3))] (μ ++ wordG c) := by
  have z2 : (2 : Nat) ≤ sizeLine := sz (by omega)
  have z4 : (4 : Nat) ≤ sizeLine := sz (by omega)
  have e1 : ∀ (A B : MO), (μ ++ [A] ++ [B])[μ.length]? = some A := fun A B => by simp
  have e2 : ∀ (A B : MO), (μ ++ [A] ++ [B])[μ.length + 1]? = some B := fun A B => by simp
  have e3 : ∀ (A B C D : MO), (μ ++ [A] ++ [B] ++ [C] ++ [D])[μ.length + 2]? = some C := fun A B C D => by simp
  have e4 : ∀ (A B C D : MO), (μ ++ [A] ++ [B] ++ [C] ++ [D])[μ.length + 3]? = some D := fun A B C D => by simp
  have hw : μ ++ wordG c = μ ++ [.lst [.bl (decide (c = "NoName")), .bl (decide (c = "NoNumber"))]] ++ [.lst [.bl (decide (c = "NoWeb")), .bl (decide (c = "TooMany"))]] ++
    [.lst [.bl (decide (c = "NoName")), .bl (decide (c = "NoNumber")), .bl (decide (c = "NoWeb")), .bl (decide (c = "TooMany"))]] ++ [.lst [.str "name", .str "number", .str "web", .str "many"]] := by simp [wordG]
  rw [hw]
  unfold dh
  simp only [sSeq_e, sSet_e, dNew_e, dLstL_e, lCons_e, lNil_e, dIsErr_e, List.getElem?_cons_succ, List.getElem?_cons_zero, bindL_ok, lbind_ok, toS_ok, seq_nx, List.length_cons, List.length_nil, if_pos z2, List.set_cons_zero, List.set_cons_succ, Nat.zero_add, Nat.reduceAdd, List.length_append]
  simp only [dCat, dVar_s, dVar_0, bindL_ok, toS_ok, bind_ok, lbind_ok, List.length_append, List.length_cons, List.length_nil, Nat.zero_add, dC_e, e1, e2, if_pos z4, dNew_e, dIsErr_e, List.getElem?_cons_succ, List.getElem?_cons_zero, if_pos z2, dLstL_e, lCons_e, lNil_e, Nat.reduceAdd, List.set_cons_zero, List.set_cons_succ, sSeq_e, sSet_e, seq_nx, List.cons_append, List.nil_append, dIfE_e, d2_e, Nat.add_assoc]
  have b1 : dLM countBT (dVar 3) (aCons (dC (T.bl true)) aNil) [none, some (.str "told"), some (.er a d), some (.ref (μ.length + 2)), some (.ref (μ.length + 3))] (μ ++ [.lst [.bl (decide (c = "NoName")), .bl (decide (c = "NoNumber"))]] ++ [.lst [.bl (decide (c = "NoWeb")), .bl (decide (c = "TooMany"))]] ++ [.lst [.bl (decide (c = "NoName")), .bl (decide (c = "NoNumber")), .bl (decide (c = "NoWeb")), .bl (decide (c = "TooMany"))]] ++ [.lst [.str "name", .str "number", .str "web", .str "many"]]) = .ok (.int 1) (μ ++ [.lst [.bl (decide (c = "NoName")), .bl (decide (c = "NoNumber"))]] ++ [.lst [.bl (decide (c = "NoWeb")), .bl (decide (c = "TooMany"))]] ++ [.lst [.bl (decide (c = "NoName")), .bl (decide (c = "NoNumber")), .bl (decide (c = "NoWeb")), .bl (decide (c = "TooMany"))]] ++ [.lst [.str "name", .str "number", .str "web", .str "many"]]) := by
    unfold dLM
    simp only [dVar_s, dVar_0, bind_ok, aCons_e, aNil_e, dC_e]
    have q : isLst (μ ++ [MO.lst [.bl (decide (c = "NoName")), .bl (decide (c = "NoNumber"))]] ++ [.lst [.bl (decide (c = "NoWeb")), .bl (decide (c = "TooMany"))]] ++ [.lst [.bl (decide (c = "NoName")), .bl (decide (c = "NoNumber")), .bl (decide (c = "NoWeb")), .bl (decide (c = "TooMany"))]] ++ [.lst [.str "name", .str "number", .str "web", .str "many"]]) (.ref (μ.length + 2)) = true := by
      unfold isLst; dsimp only; rw [e3]
    rw [if_pos q]
    unfold countBT
    dsimp only
    rw [e3]
    simp only [errs, List.mem_cons, List.not_mem_nil, or_false] at hc
    rcases hc with rfl | rfl | rfl | rfl <;> rfl
  have b2 : dLM indexBT (dVar 3) (aCons (dC (T.bl true)) aNil) [none, some (.str "told"), some (.er a d), some (.ref (μ.length + 2)), some (.ref (μ.length + 3))] (μ ++ [.lst [.bl (decide (c = "NoName")), .bl (decide (c = "NoNumber"))]] ++ [.lst [.bl (decide (c = "NoWeb")), .bl (decide (c = "TooMany"))]] ++ [.lst [.bl (decide (c = "NoName")), .bl (decide (c = "NoNumber")), .bl (decide (c = "NoWeb")), .bl (decide (c = "TooMany"))]] ++ [.lst [.str "name", .str "number", .str "web", .str "many"]]) = .ok (.int ([decide (c = "NoName"), decide (c = "NoNumber"), decide (c = "NoWeb"), decide (c = "TooMany")].idxOf true : Nat)) (μ ++ [.lst [.bl (decide (c = "NoName")), .bl (decide (c = "NoNumber"))]] ++ [.lst [.bl (decide (c = "NoWeb")), .bl (decide (c = "TooMany"))]] ++ [.lst [.bl (decide (c = "NoName")), .bl (decide (c = "NoNumber")), .bl (decide (c = "NoWeb")), .bl (decide (c = "TooMany"))]] ++ [.lst [.str "name", .str "number", .str "web", .str "many"]]) := by
    unfold dLM
    simp only [dVar_s, dVar_0, bind_ok, aCons_e, aNil_e, dC_e]
    have q : isLst (μ ++ [MO.lst [.bl (decide (c = "NoName")), .bl (decide (c = "NoNumber"))]] ++ [.lst [.bl (decide (c = "NoWeb")), .bl (decide (c = "TooMany"))]] ++ [.lst [.bl (decide (c = "NoName")), .bl (decide (c = "NoNumber")), .bl (decide (c = "NoWeb")), .bl (decide (c = "TooMany"))]] ++ [.lst [.str "name", .str "number", .str "web", .str "many"]]) (.ref (μ.length + 2)) = true := by
      unfold isLst; dsimp only; rw [e3]
    rw [if_pos q]
    unfold indexBT
    dsimp only
    rw [e3]
    dsimp only [unBs, Option.map]
    rw [if_pos ⟨sz (by simp), by
      simp only [errs, List.mem_cons, List.not_mem_nil, or_false] at hc
      rcases hc with rfl | rfl | rfl | rfl <;> decide⟩]
  simp only [b1, b2, bind_ok, eqT_i, dC_e, ifK_e, decide_true, if_true, d2_e, dVar_s, dVar_0]
  rw [subL (e4 _ _ _ _) (t := .str (wordOf c)) (by
    simp only [errs, List.mem_cons, List.not_mem_nil, or_false] at hc
    rcases hc with rfl | rfl | rfl | rfl <;> rfl)]
  rfl
theorem dh_ok {X : Cx} {TE : Addr} (ht : ∀ cn ∈ errs, ∀ C, X.mg cn = some (.ref C) → PySem.W.exmOne X.K (.ref C) (.ref TE) = some true) (c : Str) (fs : List (Str × T)) (μ : Mem) : wordF (.exc c fs μ) = .bad ∨ ∃ w μ'', wordF (.exc c fs μ) = .ok (.str w) μ'' ∧ c ∈ errs ∧ (∀ C, X.mg c = some (.ref C) → PySem.W.exmOne X.K (.ref C) (.ref TE) = some true) ∧
    ∀ a d, ∃ σT', dh a d c ((none :: some (.str "told") :: List.replicate (([("call" : Str), "found", "error", "flags", "words"] : List Str).length - 2) none).set 2 (some (.er a d))) μ = .nx σT' μ'' ∧ σT'[1]? = some (some (.str w)) := by
  have w0 : wordF (.exc c fs μ) = if c ∈ errs then .ok (.str (wordOf c)) (μ ++ wordG c) else .bad := rfl
  rw [w0]
  by_cases h : c ∈ errs
  · refine .inr ⟨wordOf c, μ ++ wordG c, by rw [if_pos h], h, ht c h, fun a d => ?_⟩
    exact ⟨_, dh_run a d c h μ, rfl⟩
  · exact .inl (by rw [if_neg h])
theorem bp__law_word : BindP "_law_word" "_law_word" s__law_word ["call"] := fun _ _ _ _ _ _ us hl => match us, hl with | [_], _ => rfl
theorem word_gives {X : Cx} {tb : List (Addr × Str)} {kr : Nat} {g : Addr} {cdg : Value} {q : Str} (T : TX X.w X.K X.mg) : GivesS kr X ["call", "found", "error", "flags", "words"] "_law_word" (defScope s__law_word) g cdg (defBody s__law_word) "call" q (TTw (gx X tb) wordF) := by
  obtain ⟨TE, mt, ht⟩ := T.te
  obtain ⟨_, m_NoName⟩ := T.es "NoName" (by decide)
  obtain ⟨_, m_NoNumber⟩ := T.es "NoNumber" (by decide)
  obtain ⟨_, m_NoWeb⟩ := T.es "NoWeb" (by decide)
  obtain ⟨_, m_TooMany⟩ := T.es "TooMany" (by decide)
  exact gives_word (dh := dh) (cls := errs) (TE := TE) (i := 2) sc__law_word.nd rfl rfl (by decide) (by decide) rfl rfl rfl (by decide) mt (by decide) (by decide) (fun s H a oe C cn d pn hrm hcn hmc hz hf => by have hu1 := huk1 hrm; have hu64 := huk64 hrm; have hu65 := huk65 hrm; exact (ss_cons (s_set 3 sc__law_word.nd (e_new (l_lst (m_cons (e_isErr 2 (T.er cn hcn C hmc).1 hz hf ((T.er cn hcn C hmc).2 "NoName" (by decide) _ m_NoName) T.b_isinstance m_NoName) (m_cons (e_isErr 2 (T.er cn hcn C hmc).1 hz hf ((T.er cn hcn C hmc).2 "NoNumber" (by decide) _ m_NoNumber) T.b_isinstance m_NoNumber) m_nil)))))
    (ss_cons (s_set 3 sc__law_word.nd (e_new (l_cat (e_var 3) (e_new (l_lst (m_cons (e_isErr 2 (T.er cn hcn C hmc).1 hz hf ((T.er cn hcn C hmc).2 "NoWeb" (by decide) _ m_NoWeb) T.b_isinstance m_NoWeb) (m_cons (e_isErr 2 (T.er cn hcn C hmc).1 hz hf ((T.er cn hcn C hmc).2 "TooMany" (by decide) _ m_TooMany) T.b_isinstance m_TooMany) m_nil)))))))
    (ss_cons (s_set 4 sc__law_word.nd (e_new (l_lst (m_cons e_str (m_cons e_str (m_cons e_str (m_cons e_str m_nil)))))))
    (ss_one (s_set 1 sc__law_word.nd (e_ifExp (t_cmp (opl_eq hu64) (e_lm (ml_countB hu1) PySem.F.slot_list_count PySem.F.type_list_count (e_var 3) (a_cons e_bl a_nil)) e_int) (e_ix (ixlD hu1) (e_var 4) (e_lm (ml_indexB hu1) PySem.F.slot_list_index PySem.F.type_list_index (e_var 3) (a_cons e_bl a_nil))) e_str))))))) (fun _ _ => rfl) rfl (dh_ok ht)
theorem e_word {X : Cx} {tb : List (Addr × Str)} {E : XK} {k : Nat} {c P_ gw : Addr} {cw : Value} {params : Arguments} {body : Expr} {scope : Scope} {d : EM} {p lpos pos : Pos} (T : TX X.w X.K X.mg) (TW : FD X.K "_law_word" "_law_word" s__law_word gw cw) (mw : X.mg "_law_word" = some (.ref gw)) (hcode : X.env.code = .ref c)
    (TB : LamX.TabB X.base X.mg c P_) (hmT : (P_, X.env.qual ++ "<lambda>") ∈ tb) (hu : ∀ p ∈ tb, p.1 = P_ → p.2 = X.env.qual ++ "<lambda>") (hr : Room (k + 2) X.A) (L : LamX.LamS X.env.scope scope)
    (hbody : ∀ (A : Around) (outer : List Env) (s : Shared) (H : Hp) (E1 : XK) (f c' : Addr), Room k (A.deeper (LamX.lamEnv X scope s.heap.objs.size f c')) → PE (LamX.lamCx X A outer s H E1 scope f c') body (tE (gx X tb) E1 d))
    (hdef : defaultsOf params X.env = ([], []) := by rfl) (hbind : ∀ (q : Str) (cl : List (Str × Addr)) (pm cv ctv : Value), bindArgs (PySem.W.kla_fn "<lambda>" q params body scope cl pm cv ctv) ⟨[], []⟩ = pure [] := by intros; rfl)
    (hg : Gl X "_law_word" := by rfl) : PE X (.Call (.Name "_law_word" p) [.Lambda params body scope lpos] [] pos) (tE (gx X tb) E (fun σ μ => wordF (d σ μ))) :=
  e_lam TW mw bp__law_word sc__law_word rfl (.inl rfl) (word_gives T) wordF_ne TB hcode hmT hu hr L hbody hdef hbind hg
section
variable {P : Program} {w : World} {K : PySem.W.Frag} {mg : Str → Option Value} {base : Heap} {tb : List (Addr × Str)}
/-! #### check_known -/
theorem sc_check_known : FnScope ["name"] ["name"] (defScope s_check_known) := ⟨rfl, rfl, rfl, by decide +kernel, rfl, by decide +kernel, by decide +kernel⟩
def d_check_known : SM := (sIf (dOr (dNot (d1 (isiT "str") (dVar 0))) (d1 (wdNot tab_WEBS) (dVar 0))) (sRaise0 "NoName") sNil)
def F_check_known : Fn := runF 1 d_check_known
theorem bp_check_known : BindP "check_known" "check_known" s_check_known ["name"] := fun _ _ _ _ _ _ us hl => match us, hl with | [_], _ => rfl
/-! #### known_web -/
theorem sc_known_web : FnScope ["name"] ["name"] (defScope s_known_web) := ⟨rfl, rfl, rfl, by decide +kernel, rfl, by decide +kernel, by decide +kernel⟩
def d_known_web : SM := (sSeq (sExpr (dFn 1 F_check_known (aCons (dVar 0) aNil)))
    (sRet (d1 (wdT tab_WEBS) (dVar 0))))
def F_known_web : Fn := runF 1 d_known_web
theorem bp_known_web : BindP "known_web" "known_web" s_known_web ["name"] := fun _ _ _ _ _ _ us hl => match us, hl with | [_], _ => rfl
/-! #### _law_is_full_right -/
theorem sc__law_is_full_right : FnScope ["hand", "store", "web", "n", "names", "letter", "name"] ["hand"] (defScope s__law_is_full_right) := ⟨rfl, rfl, rfl, by decide +kernel, rfl, by decide +kernel, by decide +kernel⟩
def d__law_is_full_right : SM := (sSeq (sAsg (.tp [(.nm 1), (.nm 2)]) (dTup (aCons (dMake "Store" 1 F_Storedd_initdd aNil) (aCons (dFn 1 F_known_web (aCons (dFn 2 F__law_some (aCons (dVar 0) (aCons (dNew (dLstL (lCons (dC (.str "bow")) (lCons (dC (.str "ring")) (lCons (dC (.str "wheel")) lNil))))) aNil))) aNil)) aNil))))
    (sSeq (sIf (d2 neT (dNew (dLc (dRng1 (dC (.int 20))) (.nm 3) [3] none (dMeth "Store" "put" 3 F_Store_put (dVar 1) (aCons (dC (.str "long")) (aCons (dVar 2) aNil))))) (dNew (dListRg (dC (.int 20))))) (sRet (dC (.bl false))) sNil)
    (sSeq (sIf (dOr (d2 neT (fun σ μ => wordF ((dMeth "Store" "put" 3 F_Store_put (dVar 1) (aCons (dC (.str "long")) (aCons (dVar 2) aNil))) σ μ)) (dC (.str "many"))) (d2 neT (dMeth "Store" "take" 2 F_Store_take (dVar 1) (aCons (dC (.str "long")) aNil)) (dVar 2))) (sRet (dC (.bl false))) sNil)
    (sSeq (sSet 4 (dNew (dLc (dIter (dC (.str "abcdefghijklmnopqrstuvwxyz"))) (.nm 5) [5] none (d2 addT (dC (.str "l")) (dVar 5)))))
    (sSeq (sSet 4 (dNew (dCat (dVar 4) (dNew (dLc (dIter (dC (.str "abcdefghijklmnopqrstuvw"))) (.nm 5) [5] none (d2 addT (dC (.str "m")) (dVar 5)))))))
    (sSeq (sFor (dIter (dVar 4)) (.nm 6) (sIf (d2 neT (dMeth "Store" "put" 3 F_Store_put (dVar 1) (aCons (dVar 6) (aCons (dVar 2) aNil))) (dC (.int 0))) (sRet (dC (.bl false))) sNil))
    (sRet (dAnd (d2 eqT (dCall lenC (aCons (dVar 4) aNil)) (dC (.int 49))) (dAnd (d2 eqT (fun σ μ => wordF ((dMeth "Store" "put" 3 F_Store_put (dVar 1) (aCons (dC (.str "zz")) (aCons (dVar 2) aNil))) σ μ)) (dC (.str "many"))) (d2 eqT (dCall lenC (aCons (dMeth "Store" "names" 1 F_Store_names (dVar 1) aNil) aNil)) (dC (.int 50))))))))))))
def F__law_is_full_right : Fn := runF 7 d__law_is_full_right
theorem bp__law_is_full_right : BindP "_law_is_full_right" "_law_is_full_right" s__law_is_full_right ["hand"] := fun _ _ _ _ _ _ us hl => match us, hl with | [_], _ => rfl
/-! #### Store.drop -/
theorem sc_Store_drop : FnScope ["self", "name", "one", "webs"] ["self", "name"] (defScope s_Store_drop) := ⟨rfl, rfl, rfl, by decide +kernel, rfl, by decide +kernel, by decide +kernel⟩
def d_Store_drop : SM := (sSeq (sExpr (dMeth "Store" "check_there" 2 F_Store_check_there (dVar 0) (aCons (dVar 1) aNil)))
    (sExpr (dLM appendT (d1 (fldT "Store" "store_stages") (dVar 0)) (aCons (dItems (dMeth "Store" "now" 1 F_Store_now (dVar 0) aNil) (.tp [(.nm 2), (.nm 3)]) [2, 3] (d2 neT (dVar 2) (dVar 1)) (dVar 2) (dVar 3)) aNil))))
def F_Store_drop : Fn := runF 4 d_Store_drop
theorem bp_Store_drop : BindP "drop" "Store.drop" s_Store_drop ["self", "name"] := fun _ _ _ _ _ _ us hl => match us, hl with | [_, _], _ => rfl
/-! #### Store.version -/
theorem sc_Store_version : FnScope ["self", "name", "n"] ["self", "name", "n"] (defScope s_Store_version) := ⟨rfl, rfl, rfl, by decide +kernel, rfl, by decide +kernel, by decide +kernel⟩
def d_Store_version : SM := (sSeq (sExpr (dMeth "Store" "check_there" 2 F_Store_check_there (dVar 0) (aCons (dVar 1) aNil)))
    (sSeq (sIf (dNot (dFn 3 F_is_within (aCons (dVar 2) (aCons (dC (.int 0)) (aCons (d2 subT (dCall lenC (aCons (d2 subT' (dMeth "Store" "now" 1 F_Store_now (dVar 0) aNil) (dVar 1)) aNil)) (dC (.int 1))) aNil))))) (sRaise0 "NoNumber") sNil)
    (sRet (d2 subT' (d2 subT' (dMeth "Store" "now" 1 F_Store_now (dVar 0) aNil) (dVar 1)) (dVar 2)))))
def F_Store_version : Fn := runF 3 d_Store_version
theorem bp_Store_version : BindP "version" "Store.version" s_Store_version ["self", "name", "n"] := fun _ _ _ _ _ _ us hl => match us, hl with | [_, _, _], _ => rfl
/-! #### _law_is_as -/
theorem sc__law_is_as : FnScope ["store", "account", "name", "webs", "n"] ["store", "account"] (defScope s__law_is_as) := ⟨rfl, rfl, rfl, by decide +kernel, rfl, by decide +kernel, by decide +kernel⟩
def d__law_is_as : SM := (sSeq (sIf (d2 neT (dMeth "Store" "names" 1 F_Store_names (dVar 0) aNil) (dQ tupQ (dSortD (dVar 1)))) (sRet (dC (.bl false))) sNil)
    (sSeq (sFor (dIterL (dSortD (dVar 1))) (.nm 2) (sSeq (sSet 3 (d2 subT' (dVar 1) (dVar 2)))
    (sSeq (sIf (d2 neT (dMeth "Store" "take" 2 F_Store_take (dVar 0) (aCons (dVar 2) aNil)) (d2 subT' (dVar 3) (d1 negT (dC (.int 1))))) (sRet (dC (.bl false))) sNil)
    (sSeq (sIf (d2 neT (dNew (dLc (dRng1 (dCall lenC (aCons (dVar 3) aNil))) (.nm 4) [4] none (dMeth "Store" "version" 3 F_Store_version (dVar 0) (aCons (dVar 2) (aCons (dVar 4) aNil))))) (dVar 3)) (sRet (dC (.bl false))) sNil)
    (sIf (d2 neT (fun σ μ => wordF ((dMeth "Store" "version" 3 F_Store_version (dVar 0) (aCons (dVar 2) (aCons (dCall lenC (aCons (dVar 3) aNil)) aNil))) σ μ)) (dC (.str "number"))) (sRet (dC (.bl false))) sNil)))))
    (sRet (dC (.bl true)))))
def F__law_is_as : Fn := runF 5 d__law_is_as
theorem bp__law_is_as : BindP "_law_is_as" "_law_is_as" s__law_is_as ["store", "account"] := fun _ _ _ _ _ _ us hl => match us, hl with | [_, _], _ => rfl
/-! #### _law_is_refused -/
theorem sc__law_is_refused : FnScope ["hand", "store", "account", "name", "many", "ties", "odd", "bad", "words", "one"] ["hand", "store", "account"] (defScope s__law_is_refused) := ⟨rfl, rfl, rfl, by decide +kernel, rfl, by decide +kernel, by decide +kernel⟩
def d__law_is_refused : SM := (sSeq (sSet 3 (dFn 2 F__law_some (aCons (dVar 0) (aCons (dNew (dLstL (lCons (dC .non) (lCons (dC (.str "")) (lCons (dC (.str "A")) (lCons (dC (.str "a1")) (lCons (dC (.str "toolongnow")) (lCons (dC (.int 0)) (lCons (dTup (aCons (dC (.str "a")) aNil)) (lCons (dC (.bl true)) (lCons (dC (.str "a b")) lNil))))))))))) aNil))))
    (sSeq (sAsg (.tp [(.nm 4), (.nm 5)]) (dTup (aCons (dC (.int 3)) (aCons (dTup (aCons (dTup (aCons (dC (.int 0)) (aCons (dC (.int 1)) aNil))) (aCons (dTup (aCons (dC (.int 1)) (aCons (dC (.int 2)) aNil))) aNil))) aNil))))
    (sSeq (sSet 6 (dNew (dLstL (lCons (dC .non) (lCons (dTup (aCons (dVar 4) aNil)) (lCons (dNew (dLstL (lCons (dVar 4) (lCons (dVar 5) lNil)))) (lCons (dTup (aCons (dC (.int 0)) (aCons (dTup aNil) aNil))) (lCons (dTup (aCons (dC (.int 2)) (aCons (dVar 5) aNil))) (lCons (dTup (aCons (dVar 4) (aCons (dNew (dQL lstQ (dSeq (dVar 5)))) aNil))) (lCons (dC (.str "web")) (lCons (dTup (aCons (dVar 4) (aCons (dTup (aCons (dTup (aCons (dC (.int 1)) (aCons (dC (.int 0)) aNil))) aNil)) aNil))) lNil)))))))))))
    (sSeq (sSet 6 (dFn 2 F__law_some (aCons (dVar 0) (aCons (dVar 6) aNil))))
    (sSeq (sSet 7 (dFn 2 F__law_some (aCons (dVar 0) (aCons (dNew (dLstL (lCons (dC .non) (lCons (d2 subT (dC (.int 0)) (dC (.int 1))) (lCons (dC (.bl true)) (lCons (dC (.str "0")) (lCons (dTup (aCons (dC (.int 0)) aNil)) (lCons (d2 powT (dC (.int 10)) (dC (.int 12))) lNil)))))))) aNil))))
    (sSeq (sSet 8 (dNew (dLstL (lCons (fun σ μ => wordF ((dMeth "Store" "put" 3 F_Store_put (dVar 1) (aCons (dVar 3) (aCons (dFn 2 F__law_some (aCons (dVar 0) (aCons (dNew (dLstL (lCons (dTup (aCons (dVar 4) (aCons (dVar 5) aNil))) (lCons (dVar 6) lNil)))) aNil))) aNil))) σ μ)) lNil))))
    (sSeq (sExpr (dLM appendT (dVar 8) (aCons (fun σ μ => wordF ((dMeth "Store" "put" 3 F_Store_put (dVar 1) (aCons (dC (.str "a")) (aCons (dVar 6) aNil))) σ μ)) aNil)))
    (sSeq (sExpr (dLM appendT (dVar 8) (aCons (fun σ μ => wordF ((dMeth "Store" "take" 2 F_Store_take (dVar 1) (aCons (dVar 3) aNil)) σ μ)) aNil)))
    (sSeq (sExpr (dLM appendT (dVar 8) (aCons (fun σ μ => wordF ((dMeth "Store" "drop" 2 F_Store_drop (dVar 1) (aCons (dVar 3) aNil)) σ μ)) aNil)))
    (sSeq (sExpr (dLM appendT (dVar 8) (aCons (fun σ μ => wordF ((dMeth "Store" "version" 3 F_Store_version (dVar 1) (aCons (dVar 3) (aCons (dVar 7) aNil))) σ μ)) aNil)))
    (sSeq (sExpr (dLM appendT (dVar 8) (aCons (fun σ μ => wordF ((dMeth "Store" "version" 3 F_Store_version (dVar 1) (aCons (dC (.str "nosuch")) (aCons (dC (.int 0)) aNil))) σ μ)) aNil)))
    (sSeq (sIf (dOr (d2 neT (dVar 8) (dNew (dLstL (lCons (dC (.str "name")) (lCons (dC (.str "web")) (lCons (dC (.str "name")) (lCons (dC (.str "name")) (lCons (dC (.str "name")) (lCons (dC (.str "name")) lNil))))))))) (dNot (dFn 2 F__law_is_as (aCons (dVar 1) (aCons (dVar 2) aNil))))) (sRet (dC (.bl false))) sNil)
    (sSeq (sFor (dIterL (dSortD (dVar 2))) (.nm 9) (sIf (d2 neT (fun σ μ => wordF ((dMeth "Store" "version" 3 F_Store_version (dVar 1) (aCons (dVar 9) (aCons (dVar 7) aNil))) σ μ)) (dC (.str "number"))) (sRet (dC (.bl false))) sNil))
    (sRet (dFn 2 F__law_is_as (aCons (dVar 1) (aCons (dVar 2) aNil)))))))))))))))))
def F__law_is_refused : Fn := runF 10 d__law_is_refused
theorem bp__law_is_refused : BindP "_law_is_refused" "_law_is_refused" s__law_is_refused ["hand", "store", "account"] := fun _ _ _ _ _ _ us hl => match us, hl with | [_, _, _], _ => rfl
/-! #### _law_web -/
theorem sc__law_web : FnScope ["hand", "most", "ties", "many", "found", "turn", "i"] ["hand", "most", "ties"] (defScope s__law_web) := ⟨rfl, rfl, rfl, by decide +kernel, rfl, by decide +kernel, by decide +kernel⟩
def d__law_web : SM := (sSeq (sSet 3 (d2 addT (dC (.int 2)) (dFn 2 F__law_draw (aCons (dVar 0) (aCons (d2 subT (dVar 1) (dC (.int 1))) aNil)))))
    (sSeq (sSet 4 (dNew (dLstL lNil)))
    (sSeq (sFor (dRng1 (dFn 2 F__law_draw (aCons (dVar 0) (aCons (d2 addT (dVar 2) (dC (.int 1))) aNil)))) (.nm 5) (sSeq (sSet 6 (dFn 2 F__law_draw (aCons (dVar 0) (aCons (d2 subT (dVar 3) (dC (.int 1))) aNil))))
    (sExpr (dLM appendT (dVar 4) (aCons (dTup (aCons (dVar 6) (aCons (d2 addT (d2 addT (dVar 6) (dC (.int 1))) (dFn 2 F__law_draw (aCons (dVar 0) (aCons (d2 subT (d2 subT (dVar 3) (dC (.int 1))) (dVar 6)) aNil)))) aNil))) aNil)))))
    (sRet (dTup (aCons (dVar 3) (aCons (dQ tupQ (dSeq (dVar 4))) aNil)))))))
def F__law_web : Fn := runF 7 d__law_web
theorem bp__law_web : BindP "_law_web" "_law_web" s__law_web ["hand", "most", "ties"] := fun _ _ _ _ _ _ us hl => match us, hl with | [_, _, _], _ => rfl
/-! #### _law_is_led_right -/
theorem sc__law_is_led_right : FnScope ["hand", "names", "store", "account", "turn", "way", "name", "web", "one"] ["hand", "names"] (defScope s__law_is_led_right) := ⟨rfl, rfl, rfl, by decide +kernel, rfl, by decide +kernel, by decide +kernel⟩
def d__law_is_led_right : SM := (sSeq (sAsg (.tp [(.nm 2), (.nm 3)]) (dTup (aCons (dMake "Store" 1 F_Storedd_initdd aNil) (aCons (fun _ μ => .ok (.ref μ.length) (μ ++ [.dct []])) aNil))))
    (sSeq (sFor (dRng1 (d2 addT (dC (.int 4)) (dFn 2 F__law_draw (aCons (dVar 0) (aCons (dC (.int 11)) aNil))))) (.nm 4) (sSeq (sAsg (.tp [(.nm 5), (.nm 6), (.nm 7)]) (dTup (aCons (dFn 2 F__law_draw (aCons (dVar 0) (aCons (dC (.int 5)) aNil))) (aCons (dFn 2 F__law_some (aCons (dVar 0) (aCons (dVar 1) aNil))) (aCons (dFn 3 F__law_web (aCons (dVar 0) (aCons (dC (.int 6)) (aCons (dC (.int 9)) aNil)))) aNil)))))
    (sSeq (sIf (dAnd (d2 eqT (dVar 5) (dC (.int 0))) (d2 notInDT (dVar 6) (dVar 3))) (sSeq (sIf (d2 neT (fun σ μ => wordF ((dMeth "Store" "drop" 2 F_Store_drop (dVar 2) (aCons (dVar 6) aNil)) σ μ)) (dC (.str "name"))) (sRet (dC (.bl false))) sNil)
    (sIf (d2 neT (fun σ μ => wordF ((dMeth "Store" "take" 2 F_Store_take (dVar 2) (aCons (dVar 6) aNil)) σ μ)) (dC (.str "name"))) (sRet (dC (.bl false))) sNil)) (sIf (d2 eqT (dVar 5) (dC (.int 0))) (sSeq (sExpr (dMeth "Store" "drop" 2 F_Store_drop (dVar 2) (aCons (dVar 6) aNil)))
    (sSet 3 (dQ dictQ (dLc (dIterL (dSortD (dVar 3))) (.nm 8) [8] (some (d2 neT (dVar 8) (dVar 6))) (dTup (aCons (dVar 8) (aCons (d2 subT' (dVar 3) (dVar 8)) aNil))))))) (sSeq (sIf (d2 neT (dMeth "Store" "put" 3 F_Store_put (dVar 2) (aCons (dVar 6) (aCons (dVar 7) aNil))) (dCall lenC (aCons (dGet2 (dVar 3) (dVar 6) (dNew (dLstL lNil))) aNil))) (sRet (dC (.bl false))) sNil)
    (sSub (dVar 3) (dVar 6) (dNew (dCat (dGet2 (dVar 3) (dVar 6) (dNew (dLstL lNil))) (dNew (dLstL (lCons (dVar 7) lNil)))))))))
    (sIf (dNot (dFn 2 F__law_is_as (aCons (dVar 2) (aCons (dVar 3) aNil)))) (sRet (dC (.bl false))) sNil))))
    (sRet (dFn 3 F__law_is_refused (aCons (dVar 0) (aCons (dVar 2) (aCons (dVar 3) aNil)))))))
def F__law_is_led_right : Fn := runF 9 d__law_is_led_right
theorem bp__law_is_led_right : BindP "_law_is_led_right" "_law_is_led_right" s__law_is_led_right ["hand", "names"] := fun _ _ _ _ _ _ us hl => match us, hl with | [_, _], _ => rfl
/-! #### law -/
theorem sc_law : FnScope ["script", "hand", "names", "lap"] ["script"] (defScope s_law) := ⟨rfl, rfl, rfl, by decide +kernel, rfl, by decide +kernel, by decide +kernel⟩
def d_law : SM := (sSeq (sPar 1 2 (dFn 1 F__law_hand (aCons (dVar 0) aNil)) (dNew (dLstL (lCons (dC (.str "a")) (lCons (dC (.str "b")) (lCons (dC (.str "eight")) (lCons (dC (.str "longname")) lNil)))))))
    (sSeq (sFor (dRng1 (dC (.int 2))) (.nm 3) (sIf (dNot (dFn 2 F__law_is_led_right (aCons (dVar 1) (aCons (dVar 2) aNil)))) (sRet (dC (.bl false))) sNil))
    (sRet (dFn 1 F__law_is_full_right (aCons (dVar 1) aNil)))))
def F_law : Fn := runF 4 d_law
theorem bp_law : BindP "law" "law" s_law ["script"] := fun _ _ _ _ _ _ us hl => match us, hl with | [_], _ => rfl
end
end K78
set_option Elab.async false
set_option linter.all false
set_option maxRecDepth 100000
set_option maxHeartbeats 4000000
namespace K78
open PySem PySem.Spec PyProof.Rows L2 TL
variable {P : Program} {w : World} {K : PySem.W.Frag} {mg : Str → Option Value} {base : Heap} {tb : List (Addr × Str)}
theorem ok__law_hand {f : Addr} {cdv : Value} (F : FD K "_law_hand" "_law_hand" s__law_hand f cdv) (hmf : mg "_law_hand" = some (.ref f)) (T : TX w K mg) : Def P w K mg base tb "_law_hand" 1 F__law_hand 1 :=
  def_of (k := 0) F hmf sc__law_hand bp__law_hand fun A outer s H E hr => (ss_cons (s_setLc 1 (own := [("cell", 2)]) rfl sc__law_hand.nd (i_lst (l_slice (e_var 0) o_none (o_some e_int))) (show BlkOk ["script", "cells", "cell"] (defScope s__law_hand) _ [("cell", 2)] from blk_by (by decide +kernel)) (by decide) (fun _ _ _ _ _ => (g_name 2 sc__law_hand.nd)) (fun _ _ _ _ _ => rfl) (fun _ _ _ _ _ => (e_op opl_mod (e_callB cl_abs T.b_abs (a_cons (e_callTy cl_int T.b_int (a_cons (e_var 2) a_nil)) a_nil)) (e_op opl_pow e_int e_int))))
    (ss_one (s_ret (e_new (l_lst (m_cons (e_var 1) (m_cons e_int (m_cons e_int (m_cons (e_op opl_add e_int (e_op opl_mul e_int (e_callB cl_len T.b_len (a_cons (e_var 1) a_nil)))) (m_cons e_int m_nil))))))))))
theorem ok_Storedd_initdd {f : Addr} {cdv : Value} {Ca : Addr} (F : FD K "__init__" "Store.__init__" s_Storedd_initdd f cdv) (hmf : mg "Store" = some (.ref Ca)) (mk : Mk K Ca f) (T : TX w K mg) : CDef P w K mg base tb "Store" 1 F_Storedd_initdd 1 :=
  cls_of (k := 0) F hmf mk sc_Storedd_initdd bp_Storedd_initdd fun A outer s H E hr => (ss_one (s_fld T.f_Store_store_stages (e_var 0) (e_new (l_lst (m_cons e_dnew m_nil)))))
theorem ok_Store_now {f : Addr} {cdv : Value} {Ca : Addr} (F : FD K "now" "Store.now" s_Store_now f cdv) (hmf : mg "Store" = some (.ref Ca)) (cl : Cls K Ca) (mt : Meth K Ca "now" f) (T : TX w K mg) : MDef P w K mg base tb "Store" "now" 1 F_Store_now 1 :=
  meth_of (k := 0) F hmf cl mt sc_Store_now bp_Store_now fun A outer s H E hr => (ss_one (s_ret (e_ix (ixlD (huk1 hr)) (e_fld T.f_Store_store_stages (e_var 0)) (e_neg e_int))))
theorem ok_Store_names {f : Addr} {cdv : Value} {Ca : Addr} (F : FD K "names" "Store.names" s_Store_names f cdv) (hmf : mg "Store" = some (.ref Ca)) (cl : Cls K Ca) (mt : Meth K Ca "names" f) (T : TX w K mg) (D_Store_now : MDef P w K mg base tb "Store" "now" 1 F_Store_now 1) : MDef P w K mg base tb "Store" "names" 1 F_Store_names 2 :=
  meth_of (k := 1) F hmf cl mt sc_Store_names bp_Store_names fun A outer s H E hr => (ss_one (s_ret (e_callQT cq_tuple T.b_tuple (q_ofL (l_callQB cq_sorted T.b_sorted (ql_ofL (l_listD rfl T.b_list (e_meth0 D_Store_now (e_var 0) (hr.mono (by decide)) (takes_of rfl rfl rfl rfl)))))))))
theorem ok_check_most {f : Addr} {cdv : Value} (F : FD K "check_most" "check_most" s_check_most f cdv) (hmf : mg "check_most" = some (.ref f)) (T : TX w K mg) (X_TooMany : Exc1 P w K mg base "TooMany" "most" 1) : Def P w K mg base tb "check_most" 2 F_check_most 3 :=
  def_of (k := 2) F hmf sc_check_most bp_check_most fun A outer s H E hr => (ss_one (s_if (t_cmp opl_gt (e_var 0) (e_var 1)) (ss_one (s_raise1 X_TooMany rfl (hr.mono (by decide)) (takes_of rfl rfl rfl rfl) (e_var 1) pass_no)) ss_nil))
theorem ok_is_sized {f : Addr} {cdv : Value} (F : FD K "is_sized" "is_sized" s_is_sized f cdv) (hmf : mg "is_sized" = some (.ref f)) (T : TX w K mg) : Def P w K mg base tb "is_sized" 3 F_is_sized 1 :=
  def_of (k := 0) F hmf sc_is_sized bp_is_sized fun A outer s H E hr => (ss_one (s_ret (e_and (e_isi "tuple" T.b_isinstance T.b_tuple (e_var 0)) (e_one (e_chain opl_le opl_le (e_var 1) (e_callB cl_len T.b_len (a_cons (e_var 0) a_nil)) (e_var 2))))))
theorem ok_is_int {f : Addr} {cdv : Value} (F : FD K "is_int" "is_int" s_is_int f cdv) (hmf : mg "is_int" = some (.ref f)) (T : TX w K mg) : Def P w K mg base tb "is_int" 1 F_is_int 1 :=
  def_of (k := 0) F hmf sc_is_int bp_is_int fun A outer s H E hr => (ss_one (s_ret (e_and (e_isi "int" T.b_isinstance T.b_int (e_var 0)) (e_one (e_not (e_isi "bool" T.b_isinstance T.b_bool (e_var 0)))))))
theorem ok_is_within {f : Addr} {cdv : Value} (F : FD K "is_within" "is_within" s_is_within f cdv) (hmf : mg "is_within" = some (.ref f)) (T : TX w K mg) (D_is_int : Def P w K mg base tb "is_int" 1 F_is_int 1) : Def P w K mg base tb "is_within" 3 F_is_within 2 :=
  def_of (k := 1) F hmf sc_is_within bp_is_within fun A outer s H E hr => (ss_one (s_ret (e_and (e_call D_is_int (hr.mono (by decide)) (takes_of rfl rfl rfl rfl) (a_cons (e_var 0) a_nil)) (e_one (e_chain opl_le opl_le (e_var 1) (e_var 0) (e_var 2))))))
theorem ok_is_pair_of {f : Addr} {cdv : Value} (F : FD K "is_pair_of" "is_pair_of" s_is_pair_of f cdv) (hmf : mg "is_pair_of" = some (.ref f)) (T : TX w K mg) (D_is_sized : Def P w K mg base tb "is_sized" 3 F_is_sized 1) (D_is_within : Def P w K mg base tb "is_within" 3 F_is_within 2) : Def P w K mg base tb "is_pair_of" 2 F_is_pair_of 3 :=
  def_of (k := 2) F hmf sc_is_pair_of bp_is_pair_of fun A outer s H E hr => (ss_cons (s_if (t_w (w_or (t_not (t_val (e_call D_is_sized (hr.mono (by decide)) (takes_of rfl rfl rfl rfl) (a_cons (e_var 1) (a_cons e_int (a_cons e_int a_nil)))))) (w_or (t_not (t_val (e_call D_is_within (hr.mono (by decide)) (takes_of rfl rfl rfl rfl) (a_cons (e_ix (ixlD (huk1 hr)) (e_var 1) e_int) (a_cons e_int (a_cons (e_op opl_sub (e_var 0) e_int) a_nil)))))) (w_one (t_not (t_val (e_call D_is_within (hr.mono (by decide)) (takes_of rfl rfl rfl rfl) (a_cons (e_ix (ixlD (huk1 hr)) (e_var 1) e_int) (a_cons e_int (a_cons (e_op opl_sub (e_var 0) e_int) a_nil)))))) (.inr rfl))))) (ss_one (s_ret e_bl)) ss_nil)
    (ss_one (s_ret (e_cmp opl_lt (e_ix (ixlD (huk1 hr)) (e_var 1) e_int) (e_ix (ixlD (huk1 hr)) (e_var 1) e_int)))))
theorem ok_is_web {f : Addr} {cdv : Value} (F : FD K "is_web" "is_web" s_is_web f cdv) (hmf : mg "is_web" = some (.ref f)) (T : TX w K mg) (D_is_pair_of : Def P w K mg base tb "is_pair_of" 2 F_is_pair_of 3) (D_is_sized : Def P w K mg base tb "is_sized" 3 F_is_sized 1) (D_is_within : Def P w K mg base tb "is_within" 3 F_is_within 2) : Def P w K mg base tb "is_web" 1 F_is_web 4 :=
  def_of (k := 3) F hmf sc_is_web bp_is_web fun A outer s H E hr => (ss_cons (s_if (t_w (w_or (t_not (t_val (e_call D_is_sized (hr.mono (by decide)) (takes_of rfl rfl rfl rfl) (a_cons (e_var 0) (a_cons e_int (a_cons e_int a_nil)))))) (w_or (t_not (t_val (e_call D_is_within (hr.mono (by decide)) (takes_of rfl rfl rfl rfl) (a_cons (e_ix (ixlD (huk1 hr)) (e_var 0) e_int) (a_cons e_int (a_cons (e_glob T.g_MOST_PLACES) a_nil)))))) (w_one (t_not (t_val (e_call D_is_sized (hr.mono (by decide)) (takes_of rfl rfl rfl rfl) (a_cons (e_ix (ixlD (huk1 hr)) (e_var 0) e_int) (a_cons e_int (a_cons (e_glob T.g_MOST_TIES) a_nil)))))) (.inr rfl))))) (ss_one (s_ret e_bl)) ss_nil)
    (ss_one (s_ret (e_callQB (cq_all rfl) T.b_all (ql_ofL (l_lc (own := [("one", 1)]) rfl sc_is_web.nd (i_seq (e_ix (ixlD (huk1 hr)) (e_var 0) e_int)) (show BlkOk ["thing", "one"] (defScope s_is_web) _ [("one", 1)] from blk_by (by decide +kernel)) (by decide) (fun _ _ _ _ _ => (g_name 1 sc_is_web.nd)) (fun _ _ _ _ _ => rfl) (fun _ _ _ _ _ => (e_call D_is_pair_of (hr.mono (by decide)) L2.takes0 (a_cons (e_ix (ixlD (huk1 hr)) (e_var 0) e_int) (a_cons (e_var 1) a_nil))))))))))
theorem ok_check_web {f : Addr} {cdv : Value} (F : FD K "check_web" "check_web" s_check_web f cdv) (hmf : mg "check_web" = some (.ref f)) (T : TX w K mg) (D_is_web : Def P w K mg base tb "is_web" 1 F_is_web 4) : Def P w K mg base tb "check_web" 1 F_check_web 5 :=
  def_of (k := 4) F hmf sc_check_web bp_check_web fun A outer s H E hr => (ss_one (s_if (t_not (t_val (e_call D_is_web (hr.mono (by decide)) (takes_of rfl rfl rfl rfl) (a_cons (e_var 0) a_nil)))) (ss_one (s_raise0 T.x_NoWeb rfl (takes_of rfl rfl rfl rfl))) ss_nil))
theorem ok_is_name {f : Addr} {cdv : Value} (F : FD K "is_name" "is_name" s_is_name f cdv) (hmf : mg "is_name" = some (.ref f)) (T : TX w K mg) : Def P w K mg base tb "is_name" 1 F_is_name 1 :=
  def_of (k := 0) F hmf sc_is_name bp_is_name fun A outer s H E hr => (ss_one (s_ret (e_and (e_isi "str" T.b_isinstance T.b_str (e_var 0)) (e_and (e_chain opl_le opl_le e_int (e_callB cl_len T.b_len (a_cons (e_var 0) a_nil)) (e_glob T.g_MOST_NAME)) (e_one (e_callQB (cq_all rfl) T.b_all (ql_ofL (l_lc (own := [("sign", 1)]) rfl sc_is_name.nd (i_seq (e_var 0)) (show BlkOk ["thing", "sign"] (defScope s_is_name) _ [("sign", 1)] from blk_by (by decide +kernel)) (by decide) (fun _ _ _ _ _ => (g_name 1 sc_is_name.nd)) (fun _ _ _ _ _ => rfl) (fun _ _ _ _ _ => (e_cmp opl_inTx (e_var 1) (e_glob T.g_LETTERS)))))))))))
theorem ok_Store_put {f : Addr} {cdv : Value} {Ca : Addr} (F : FD K "put" "Store.put" s_Store_put f cdv) (hmf : mg "Store" = some (.ref Ca)) (cl : Cls K Ca) (mt : Meth K Ca "put" f) (T : TX w K mg) (D_Store_now : MDef P w K mg base tb "Store" "now" 1 F_Store_now 1) (D_check_most : Def P w K mg base tb "check_most" 2 F_check_most 3) (D_check_web : Def P w K mg base tb "check_web" 1 F_check_web 5) (D_is_name : Def P w K mg base tb "is_name" 1 F_is_name 1) : MDef P w K mg base tb "Store" "put" 3 F_Store_put 6 :=
  meth_of (k := 5) F hmf cl mt sc_Store_put bp_Store_put fun A outer s H E hr => (ss_cons (s_if (t_not (t_val (e_call D_is_name (hr.mono (by decide)) (takes_of rfl rfl rfl rfl) (a_cons (e_var 1) a_nil)))) (ss_one (s_raise0 T.x_NoName rfl (takes_of rfl rfl rfl rfl))) ss_nil)
    (ss_cons (s_expr (e_call D_check_web (hr.mono (by decide)) (takes_of rfl rfl rfl rfl) (a_cons (e_var 2) a_nil)))
    (ss_cons (s_set 3 sc_Store_put.nd (e_callTy cl_dict T.b_dict (a_cons (e_meth0 D_Store_now (e_var 0) (hr.mono (by decide)) (takes_of rfl rfl rfl rfl)) a_nil)))
    (ss_cons (s_expr (e_call D_check_most (hr.mono (by decide)) (takes_of rfl rfl rfl rfl) (a_cons (e_op opl_add (e_callB cl_len T.b_len (a_cons (e_var 3) a_nil)) (e_ifExp (t_cmp (opl_inD (huk65 hr)) (e_var 1) (e_var 3)) e_int e_int)) (a_cons (e_glob T.g_MOST_NAMES) a_nil))))
    (ss_cons (s_expr (e_call D_check_most (hr.mono (by decide)) (takes_of rfl rfl rfl rfl) (a_cons (e_op opl_add (e_callB cl_len T.b_len (a_cons (e_get2 (huk1 hr) (e_var 3) (e_var 1) (e_tup a_nil)) a_nil)) e_int) (a_cons (e_glob T.g_MOST_VERSIONS) a_nil))))
    (ss_cons (s_sub (huk1 hr) (e_var 3) (e_var 1) (e_op opl_add (e_get2 (huk1 hr) (e_var 3) (e_var 1) (e_tup a_nil)) (e_tup (a_cons (e_var 2) a_nil))))
    (ss_cons (s_expr (e_lm ml_append PySem.F.slot_list_append PySem.F.type_list_append (e_fld T.f_Store_store_stages (e_var 0)) (a_cons (e_var 3) a_nil)))
    (ss_one (s_ret (e_op opl_sub (e_callB cl_len T.b_len (a_cons (e_ix (ixlD (huk1 hr)) (e_var 3) (e_var 1)) a_nil)) e_int))))))))))
theorem ok_Store_check_there {f : Addr} {cdv : Value} {Ca : Addr} (F : FD K "check_there" "Store.check_there" s_Store_check_there f cdv) (hmf : mg "Store" = some (.ref Ca)) (cl : Cls K Ca) (mt : Meth K Ca "check_there" f) (T : TX w K mg) (D_Store_now : MDef P w K mg base tb "Store" "now" 1 F_Store_now 1) (D_is_name : Def P w K mg base tb "is_name" 1 F_is_name 1) : MDef P w K mg base tb "Store" "check_there" 2 F_Store_check_there 2 :=
  meth_of (k := 1) F hmf cl mt sc_Store_check_there bp_Store_check_there fun A outer s H E hr => (ss_one (s_if (t_w (w_or (t_not (t_val (e_call D_is_name (hr.mono (by decide)) (takes_of rfl rfl rfl rfl) (a_cons (e_var 1) a_nil)))) (w_one (t_cmp (opl_notInD (huk65 hr)) (e_var 1) (e_meth0 D_Store_now (e_var 0) (hr.mono (by decide)) (takes_of rfl rfl rfl rfl))) (.inr rfl)))) (ss_one (s_raise0 T.x_NoName rfl (takes_of rfl rfl rfl rfl))) ss_nil))
theorem ok_Store_take {f : Addr} {cdv : Value} {Ca : Addr} (F : FD K "take" "Store.take" s_Store_take f cdv) (hmf : mg "Store" = some (.ref Ca)) (cl : Cls K Ca) (mt : Meth K Ca "take" f) (T : TX w K mg) (D_Store_check_there : MDef P w K mg base tb "Store" "check_there" 2 F_Store_check_there 2) (D_Store_now : MDef P w K mg base tb "Store" "now" 1 F_Store_now 1) : MDef P w K mg base tb "Store" "take" 2 F_Store_take 3 :=
  meth_of (k := 2) F hmf cl mt sc_Store_take bp_Store_take fun A outer s H E hr => (ss_cons (s_expr (e_meth D_Store_check_there (e_var 0) (hr.mono (by decide)) (takes_of rfl rfl rfl rfl) (a_cons (e_var 1) a_nil)))
    (ss_one (s_ret (e_ix (ixlD (huk1 hr)) (e_ix (ixlD (huk1 hr)) (e_meth0 D_Store_now (e_var 0) (hr.mono (by decide)) (takes_of rfl rfl rfl rfl)) (e_var 1)) (e_neg e_int)))))
theorem ok__law_draw {f : Addr} {cdv : Value} (F : FD K "_law_draw" "_law_draw" s__law_draw f cdv) (hmf : mg "_law_draw" = some (.ref f)) (T : TX w K mg) : Def P w K mg base tb "_law_draw" 2 F__law_draw 1 :=
  def_of (k := 0) F hmf sc__law_draw bp__law_draw fun A outer s H E hr => (ss_cons (s_if (t_w (w_and (t_cmp (opl_eq (huk64 hr)) (e_ix (ixlD (huk1 hr)) (e_var 0) e_int) e_int) (w_one (t_cmp opl_lt (e_ix (ixlD (huk1 hr)) (e_var 0) e_int) (e_callB cl_len T.b_len (a_cons (e_ix (ixlD (huk1 hr)) (e_var 0) e_int) a_nil))) (.inl rfl)))) (ss_cons (s_set 2 sc__law_draw.nd (e_ix (ixlD (huk1 hr)) (e_ix (ixlD (huk1 hr)) (e_var 0) e_int) (e_ix (ixlD (huk1 hr)) (e_var 0) e_int)))
    (ss_cons (s_sub (huk1 hr) (e_var 0) e_int (e_op opl_add (e_ix (ixlD (huk1 hr)) (e_var 0) e_int) e_int))
    (ss_cons (s_sub (huk1 hr) (e_var 0) e_int (e_op opl_mod (e_callTy cl_int T.b_int (a_cons (e_op opl_add (e_op opl_add (e_op opl_mul (e_ix (ixlD (huk1 hr)) (e_var 0) e_int) e_int) (e_op opl_mul (e_var 2) e_int)) e_int) a_nil)) e_int))
    (ss_one (s_sub (huk1 hr) (e_var 0) e_int (e_ifExp (t_cmp opl_ge (e_var 2) (e_op opl_pow e_int e_int)) (e_var 2) e_int)))))) ss_nil)
    (ss_cons (s_if (t_cmp opl_gt (e_ix (ixlD (huk1 hr)) (e_var 0) e_int) e_int) (ss_cons (s_set 3 sc__law_draw.nd (e_op opl_mod (e_callTy cl_int T.b_int (a_cons (e_ix (ixlD (huk1 hr)) (e_var 0) e_int) a_nil)) (e_var 1)))
    (ss_cons (s_sub (huk1 hr) (e_var 0) e_int (e_op opl_fdiv (e_ix (ixlD (huk1 hr)) (e_var 0) e_int) (e_var 1)))
    (ss_one (s_ret (e_var 3))))) ss_nil)
    (ss_cons (s_sub (huk1 hr) (e_var 0) e_int (e_op opl_add (e_ix (ixlD (huk1 hr)) (e_var 0) e_int) e_int))
    (ss_cons (s_set 4 sc__law_draw.nd (e_op opl_mod (e_callTy cl_int T.b_int (a_cons (e_op opl_mul (e_callTy cl_int T.b_int (a_cons (e_op opl_add (e_ix (ixlD (huk1 hr)) (e_var 0) e_int) (e_op opl_mul e_int (e_ix (ixlD (huk1 hr)) (e_var 0) e_int))) a_nil)) e_int) a_nil)) e_int))
    (ss_cons (s_set 4 sc__law_draw.nd (e_op opl_mod (e_callTy cl_int T.b_int (a_cons (e_op opl_mul (e_var 4) (e_op opl_add (e_op opl_fdiv (e_var 4) e_int) e_int)) a_nil)) e_int))
    (ss_cons (s_set 4 sc__law_draw.nd (e_op opl_mod (e_callTy cl_int T.b_int (a_cons (e_op opl_mul (e_var 4) (e_op opl_add (e_op opl_fdiv (e_var 4) e_int) e_int)) a_nil)) e_int))
    (ss_one (s_ret (e_op opl_mod (e_callTy cl_int T.b_int (a_cons (e_op opl_fdiv (e_var 4) e_int) a_nil)) (e_var 1))))))))))
theorem ok__law_some {f : Addr} {cdv : Value} (F : FD K "_law_some" "_law_some" s__law_some f cdv) (hmf : mg "_law_some" = some (.ref f)) (T : TX w K mg) (D__law_draw : Def P w K mg base tb "_law_draw" 2 F__law_draw 1) : Def P w K mg base tb "_law_some" 2 F__law_some 2 :=
  def_of (k := 1) F hmf sc__law_some bp__law_some fun A outer s H E hr => (ss_one (s_ret (e_ix (ixlD (huk1 hr)) (e_var 1) (e_call D__law_draw (hr.mono (by decide)) (takes_of rfl rfl rfl rfl) (a_cons (e_var 0) (a_cons (e_callB cl_len T.b_len (a_cons (e_var 1) a_nil)) a_nil))))))
theorem ok_check_known {f : Addr} {cdv : Value} (F : FD K "check_known" "check_known" s_check_known f cdv) (hmf : mg "check_known" = some (.ref f)) (T : TX w K mg) : Def P w K mg base tb "check_known" 1 F_check_known 1 :=
  def_of (k := 0) F hmf sc_check_known bp_check_known fun A outer s H E hr => (ss_one (s_if (t_w (w_or (t_not (t_val (e_isi "str" T.b_isinstance T.b_str (e_var 0)))) (w_one (t_wdNot T.w_WEBS (e_var 0)) (.inr rfl)))) (ss_one (s_raise0 T.x_NoName rfl (takes_of rfl rfl rfl rfl))) ss_nil))
theorem ok_known_web {f : Addr} {cdv : Value} (F : FD K "known_web" "known_web" s_known_web f cdv) (hmf : mg "known_web" = some (.ref f)) (T : TX w K mg) (D_check_known : Def P w K mg base tb "check_known" 1 F_check_known 1) : Def P w K mg base tb "known_web" 1 F_known_web 2 :=
  def_of (k := 1) F hmf sc_known_web bp_known_web fun A outer s H E hr => (ss_cons (s_expr (e_call D_check_known (hr.mono (by decide)) (takes_of rfl rfl rfl rfl) (a_cons (e_var 0) a_nil)))
    (ss_one (s_ret (e_wd T.w_WEBS (e_var 0)))))
theorem ok__law_is_full_right {f : Addr} {cdv : Value} (F : FD K "_law_is_full_right" "_law_is_full_right" s__law_is_full_right f cdv) (hmf : mg "_law_is_full_right" = some (.ref f)) (T : TX w K mg) (D_Storedd_initdd : CDef P w K mg base tb "Store" 1 F_Storedd_initdd 1) (D_Store_names : MDef P w K mg base tb "Store" "names" 1 F_Store_names 2) (D_Store_put : MDef P w K mg base tb "Store" "put" 3 F_Store_put 6) (D_Store_take : MDef P w K mg base tb "Store" "take" 2 F_Store_take 3) (D__law_some : Def P w K mg base tb "_law_some" 2 F__law_some 2) (D_known_web : Def P w K mg base tb "known_web" 1 F_known_web 2) {c P_ : Addr} {gw : Addr} {cw : Value} (hcv : cdv = .ref c) (TW : FD K "_law_word" "_law_word" s__law_word gw cw) (mw : mg "_law_word" = some (.ref gw)) (TB__law_is_full_right : LamX.TabB base mg c P_) (hm__law_is_full_right : (P_, (("_law_is_full_right" : Str) ++ (".<locals>." : Str)) ++ ("<lambda>" : Str)) ∈ tb) (hu__law_is_full_right : ∀ p ∈ tb, p.1 = P_ → p.2 = (("_law_is_full_right" : Str) ++ (".<locals>." : Str)) ++ ("<lambda>" : Str)) : Def P w K mg base tb "_law_is_full_right" 1 F__law_is_full_right 9 :=
  def_of (k := 8) F hmf sc__law_is_full_right bp__law_is_full_right fun A outer s H E hr => (ss_cons (s_asg (e_tup (a_cons (e_make0 D_Storedd_initdd (hr.mono (by decide)) (takes_of rfl rfl rfl rfl)) (a_cons (e_call D_known_web (hr.mono (by decide)) (takes_of rfl rfl rfl rfl) (a_cons (e_call D__law_some (hr.mono (by decide)) (takes_of rfl rfl rfl rfl) (a_cons (e_var 0) (a_cons (e_new (l_lst (m_cons e_str (m_cons e_str (m_cons e_str m_nil))))) a_nil))) a_nil)) a_nil))) (g_tup rfl (gs_cons (g_name 1 sc__law_is_full_right.nd) (gs_cons (g_name 2 sc__law_is_full_right.nd) gs_nil))))
    (ss_cons (s_if (t_cmp (opl_ne (huk64 hr)) (e_new (l_lc (own := [("n", 3)]) rfl sc__law_is_full_right.nd (i_range1 T.b_range e_int) (show BlkOk ["hand", "store", "web", "n", "names", "letter", "name"] (defScope s__law_is_full_right) _ [("n", 3)] from blk_by (by decide +kernel)) (by decide) (fun _ _ _ _ _ => (g_name 3 sc__law_is_full_right.nd)) (fun _ _ _ _ _ => rfl) (fun _ _ _ _ _ => (e_meth D_Store_put (e_var 1) (hr.mono (by decide)) L2.takes0 (a_cons e_str (a_cons (e_var 2) a_nil)))))) (e_new (l_listRg rfl T.b_list T.b_range e_int))) (ss_one (s_ret e_bl)) ss_nil)
    (ss_cons (s_if (t_w (w_or (t_cmp (opl_ne (huk64 hr)) (e_word (k := 6) T TW mw hcv TB__law_is_full_right hm__law_is_full_right hu__law_is_full_right (hr.mono (by decide)) (show LamX.LamS (defScope s__law_is_full_right) _ from LamX.lamS_by (by decide +kernel)) (fun A outer s H E1 f c hr2 => (e_meth D_Store_put (e_var 1) (hr2.mono (by decide)) (takes_of rfl rfl rfl rfl) (a_cons e_str (a_cons (e_var 2) a_nil))))) e_str) (w_one (t_cmp (opl_ne (huk64 hr)) (e_meth D_Store_take (e_var 1) (hr.mono (by decide)) (takes_of rfl rfl rfl rfl) (a_cons e_str a_nil)) (e_var 2)) (.inr rfl)))) (ss_one (s_ret e_bl)) ss_nil)
    (ss_cons (s_setLc 4 (own := [("letter", 5)]) rfl sc__law_is_full_right.nd (i_seq e_str) (show BlkOk ["hand", "store", "web", "n", "names", "letter", "name"] (defScope s__law_is_full_right) _ [("letter", 5)] from blk_by (by decide +kernel)) (by decide) (fun _ _ _ _ _ => (g_name 5 sc__law_is_full_right.nd)) (fun _ _ _ _ _ => rfl) (fun _ _ _ _ _ => (e_op opl_add e_str (e_var 5))))
    (ss_cons (s_set 4 sc__law_is_full_right.nd (e_new (l_cat (e_var 4) (e_new (l_lc (own := [("letter", 5)]) rfl sc__law_is_full_right.nd (i_seq e_str) (show BlkOk ["hand", "store", "web", "n", "names", "letter", "name"] (defScope s__law_is_full_right) _ [("letter", 5)] from blk_by (by decide +kernel)) (by decide) (fun _ _ _ _ _ => (g_name 5 sc__law_is_full_right.nd)) (fun _ _ _ _ _ => rfl) (fun _ _ _ _ _ => (e_op opl_add e_str (e_var 5))))))))
    (ss_cons (s_for (passes_of rfl) rfl (i_seq (e_var 4)) (g_name 6 sc__law_is_full_right.nd) (ss_one (s_if (t_cmp (opl_ne (huk64 hr)) (e_meth D_Store_put (e_var 1) (hr.mono (by decide)) (takes_of rfl rfl rfl rfl) (a_cons (e_var 6) (a_cons (e_var 2) a_nil))) e_int) (ss_one (s_ret e_bl)) ss_nil)))
    (ss_one (s_ret (e_and (e_cmp (opl_eq (huk64 hr)) (e_callB cl_len T.b_len (a_cons (e_var 4) a_nil)) e_int) (e_and (e_cmp (opl_eq (huk64 hr)) (e_word (k := 6) T TW mw hcv TB__law_is_full_right hm__law_is_full_right hu__law_is_full_right (hr.mono (by decide)) (show LamX.LamS (defScope s__law_is_full_right) _ from LamX.lamS_by (by decide +kernel)) (fun A outer s H E1 f c hr2 => (e_meth D_Store_put (e_var 1) (hr2.mono (by decide)) (takes_of rfl rfl rfl rfl) (a_cons e_str (a_cons (e_var 2) a_nil))))) e_str) (e_one (e_cmp (opl_eq (huk64 hr)) (e_callB cl_len T.b_len (a_cons (e_meth0 D_Store_names (e_var 1) (hr.mono (by decide)) (takes_of rfl rfl rfl rfl)) a_nil)) e_int))))))))))))
theorem ok_Store_drop {f : Addr} {cdv : Value} {Ca : Addr} (F : FD K "drop" "Store.drop" s_Store_drop f cdv) (hmf : mg "Store" = some (.ref Ca)) (cl : Cls K Ca) (mt : Meth K Ca "drop" f) (T : TX w K mg) (D_Store_check_there : MDef P w K mg base tb "Store" "check_there" 2 F_Store_check_there 2) (D_Store_now : MDef P w K mg base tb "Store" "now" 1 F_Store_now 1) : MDef P w K mg base tb "Store" "drop" 2 F_Store_drop 3 :=
  meth_of (k := 2) F hmf cl mt sc_Store_drop bp_Store_drop fun A outer s H E hr => (ss_cons (s_expr (e_meth D_Store_check_there (e_var 0) (hr.mono (by decide)) (takes_of rfl rfl rfl rfl) (a_cons (e_var 1) a_nil)))
    (ss_one (s_expr (e_lm ml_append PySem.F.slot_list_append PySem.F.type_list_append (e_fld T.f_Store_store_stages (e_var 0)) (a_cons (e_items (own := [("one", 2), ("webs", 3)]) rfl sc_Store_drop.nd (e_meth0 D_Store_now (e_var 0) (hr.mono (by decide)) (takes_of rfl rfl rfl rfl)) (show BlkOk ["self", "name", "one", "webs"] (defScope s_Store_drop) _ [("one", 2), ("webs", 3)] from blk_by (by decide +kernel)) (by decide) (fun _ _ _ _ _ => (g_tup rfl (gs_cons (g_name 2 sc_Store_drop.nd) (gs_cons (g_name 3 sc_Store_drop.nd) gs_nil)))) (fun _ _ _ _ _ => ⟨_, rfl, (t_cmp (opl_ne (huk64 hr)) (e_var 2) (e_var 1))⟩) (fun _ _ _ _ _ => (e_var 2)) (fun _ _ _ _ _ => (e_var 3))) a_nil)))))
theorem ok_Store_version {f : Addr} {cdv : Value} {Ca : Addr} (F : FD K "version" "Store.version" s_Store_version f cdv) (hmf : mg "Store" = some (.ref Ca)) (cl : Cls K Ca) (mt : Meth K Ca "version" f) (T : TX w K mg) (D_Store_check_there : MDef P w K mg base tb "Store" "check_there" 2 F_Store_check_there 2) (D_Store_now : MDef P w K mg base tb "Store" "now" 1 F_Store_now 1) (D_is_within : Def P w K mg base tb "is_within" 3 F_is_within 2) : MDef P w K mg base tb "Store" "version" 3 F_Store_version 3 :=
  meth_of (k := 2) F hmf cl mt sc_Store_version bp_Store_version fun A outer s H E hr => (ss_cons (s_expr (e_meth D_Store_check_there (e_var 0) (hr.mono (by decide)) (takes_of rfl rfl rfl rfl) (a_cons (e_var 1) a_nil)))
    (ss_cons (s_if (t_not (t_val (e_call D_is_within (hr.mono (by decide)) (takes_of rfl rfl rfl rfl) (a_cons (e_var 2) (a_cons e_int (a_cons (e_op opl_sub (e_callB cl_len T.b_len (a_cons (e_ix (ixlD (huk1 hr)) (e_meth0 D_Store_now (e_var 0) (hr.mono (by decide)) (takes_of rfl rfl rfl rfl)) (e_var 1)) a_nil)) e_int) a_nil)))))) (ss_one (s_raise0 T.x_NoNumber rfl (takes_of rfl rfl rfl rfl))) ss_nil)
    (ss_one (s_ret (e_ix (ixlD (huk1 hr)) (e_ix (ixlD (huk1 hr)) (e_meth0 D_Store_now (e_var 0) (hr.mono (by decide)) (takes_of rfl rfl rfl rfl)) (e_var 1)) (e_var 2))))))
theorem ok__law_is_as {f : Addr} {cdv : Value} (F : FD K "_law_is_as" "_law_is_as" s__law_is_as f cdv) (hmf : mg "_law_is_as" = some (.ref f)) (T : TX w K mg) (D_Store_names : MDef P w K mg base tb "Store" "names" 1 F_Store_names 2) (D_Store_take : MDef P w K mg base tb "Store" "take" 2 F_Store_take 3) (D_Store_version : MDef P w K mg base tb "Store" "version" 3 F_Store_version 3) {c P_ : Addr} {gw : Addr} {cw : Value} (hcv : cdv = .ref c) (TW : FD K "_law_word" "_law_word" s__law_word gw cw) (mw : mg "_law_word" = some (.ref gw)) (TB__law_is_as : LamX.TabB base mg c P_) (hm__law_is_as : (P_, (("_law_is_as" : Str) ++ (".<locals>." : Str)) ++ ("<lambda>" : Str)) ∈ tb) (hu__law_is_as : ∀ p ∈ tb, p.1 = P_ → p.2 = (("_law_is_as" : Str) ++ (".<locals>." : Str)) ++ ("<lambda>" : Str)) : Def P w K mg base tb "_law_is_as" 2 F__law_is_as 6 :=
  def_of (k := 5) F hmf sc__law_is_as bp__law_is_as fun A outer s H E hr => (ss_cons (s_if (t_cmp (opl_ne (huk64 hr)) (e_meth0 D_Store_names (e_var 0) (hr.mono (by decide)) (takes_of rfl rfl rfl rfl)) (e_callQT cq_tuple T.b_tuple (q_ofL (l_sortD rfl T.b_sorted (e_var 1))))) (ss_one (s_ret e_bl)) ss_nil)
    (ss_cons (s_for (passes_of rfl) rfl (i_lst (l_sortD rfl T.b_sorted (e_var 1))) (g_name 2 sc__law_is_as.nd) (ss_cons (s_set 3 sc__law_is_as.nd (e_ix (ixlD (huk1 hr)) (e_var 1) (e_var 2)))
    (ss_cons (s_if (t_cmp (opl_ne (huk64 hr)) (e_meth D_Store_take (e_var 0) (hr.mono (by decide)) (takes_of rfl rfl rfl rfl) (a_cons (e_var 2) a_nil)) (e_ix (ixlD (huk1 hr)) (e_var 3) (e_neg e_int))) (ss_one (s_ret e_bl)) ss_nil)
    (ss_cons (s_if (t_cmp (opl_ne (huk64 hr)) (e_new (l_lc (own := [("n", 4)]) rfl sc__law_is_as.nd (i_range1 T.b_range (e_callB cl_len T.b_len (a_cons (e_var 3) a_nil))) (show BlkOk ["store", "account", "name", "webs", "n"] (defScope s__law_is_as) _ [("n", 4)] from blk_by (by decide +kernel)) (by decide) (fun _ _ _ _ _ => (g_name 4 sc__law_is_as.nd)) (fun _ _ _ _ _ => rfl) (fun _ _ _ _ _ => (e_meth D_Store_version (e_var 0) (hr.mono (by decide)) L2.takes0 (a_cons (e_var 2) (a_cons (e_var 4) a_nil)))))) (e_var 3)) (ss_one (s_ret e_bl)) ss_nil)
    (ss_one (s_if (t_cmp (opl_ne (huk64 hr)) (e_word (k := 3) T TW mw hcv TB__law_is_as hm__law_is_as hu__law_is_as (hr.mono (by decide)) (show LamX.LamS (defScope s__law_is_as) _ from LamX.lamS_by (by decide +kernel)) (fun A outer s H E1 f c hr2 => (e_meth D_Store_version (e_var 0) (hr2.mono (by decide)) (takes_of rfl rfl rfl rfl) (a_cons (e_var 2) (a_cons (e_callB cl_len T.b_len (a_cons (e_var 3) a_nil)) a_nil))))) e_str) (ss_one (s_ret e_bl)) ss_nil))))))
    (ss_one (s_ret e_bl))))
theorem ok__law_is_refused {f : Addr} {cdv : Value} (F : FD K "_law_is_refused" "_law_is_refused" s__law_is_refused f cdv) (hmf : mg "_law_is_refused" = some (.ref f)) (T : TX w K mg) (D_Store_drop : MDef P w K mg base tb "Store" "drop" 2 F_Store_drop 3) (D_Store_put : MDef P w K mg base tb "Store" "put" 3 F_Store_put 6) (D_Store_take : MDef P w K mg base tb "Store" "take" 2 F_Store_take 3) (D_Store_version : MDef P w K mg base tb "Store" "version" 3 F_Store_version 3) (D__law_is_as : Def P w K mg base tb "_law_is_as" 2 F__law_is_as 6) (D__law_some : Def P w K mg base tb "_law_some" 2 F__law_some 2) {c P_ : Addr} {gw : Addr} {cw : Value} (hcv : cdv = .ref c) (TW : FD K "_law_word" "_law_word" s__law_word gw cw) (mw : mg "_law_word" = some (.ref gw)) (TB__law_is_refused : LamX.TabB base mg c P_) (hm__law_is_refused : (P_, (("_law_is_refused" : Str) ++ (".<locals>." : Str)) ++ ("<lambda>" : Str)) ∈ tb) (hu__law_is_refused : ∀ p ∈ tb, p.1 = P_ → p.2 = (("_law_is_refused" : Str) ++ (".<locals>." : Str)) ++ ("<lambda>" : Str)) : Def P w K mg base tb "_law_is_refused" 3 F__law_is_refused 9 :=
  def_of (k := 8) F hmf sc__law_is_refused bp__law_is_refused fun A outer s H E hr => (ss_cons (s_set 3 sc__law_is_refused.nd (e_call D__law_some (hr.mono (by decide)) (takes_of rfl rfl rfl rfl) (a_cons (e_var 0) (a_cons (e_new (l_lst (m_cons e_non (m_cons e_str (m_cons e_str (m_cons e_str (m_cons e_str (m_cons e_int (m_cons (e_tup (a_cons e_str a_nil)) (m_cons e_bl (m_cons e_str m_nil))))))))))) a_nil))))
    (ss_cons (s_asg (e_tup (a_cons e_int (a_cons (e_tup (a_cons (e_tup (a_cons e_int (a_cons e_int a_nil))) (a_cons (e_tup (a_cons e_int (a_cons e_int a_nil))) a_nil))) a_nil))) (g_tup rfl (gs_cons (g_name 4 sc__law_is_refused.nd) (gs_cons (g_name 5 sc__law_is_refused.nd) gs_nil))))
    (ss_cons (s_set 6 sc__law_is_refused.nd (e_new (l_lst (m_cons e_non (m_cons (e_tup (a_cons (e_var 4) a_nil)) (m_cons (e_new (l_lst (m_cons (e_var 4) (m_cons (e_var 5) m_nil)))) (m_cons (e_tup (a_cons e_int (a_cons (e_tup a_nil) a_nil))) (m_cons (e_tup (a_cons e_int (a_cons (e_var 5) a_nil))) (m_cons (e_tup (a_cons (e_var 4) (a_cons (e_new (l_callQT cq_list T.b_list (q_ofE (e_var 5)))) a_nil))) (m_cons e_str (m_cons (e_tup (a_cons (e_var 4) (a_cons (e_tup (a_cons (e_tup (a_cons e_int (a_cons e_int a_nil))) a_nil)) a_nil))) m_nil)))))))))))
    (ss_cons (s_set 6 sc__law_is_refused.nd (e_call D__law_some (hr.mono (by decide)) (takes_of rfl rfl rfl rfl) (a_cons (e_var 0) (a_cons (e_var 6) a_nil))))
    (ss_cons (s_set 7 sc__law_is_refused.nd (e_call D__law_some (hr.mono (by decide)) (takes_of rfl rfl rfl rfl) (a_cons (e_var 0) (a_cons (e_new (l_lst (m_cons e_non (m_cons (e_op opl_sub e_int e_int) (m_cons e_bl (m_cons e_str (m_cons (e_tup (a_cons e_int a_nil)) (m_cons (e_op opl_pow e_int e_int) m_nil)))))))) a_nil))))
    (ss_cons (s_set 8 sc__law_is_refused.nd (e_new (l_lst (m_cons (e_word (k := 6) T TW mw hcv TB__law_is_refused hm__law_is_refused hu__law_is_refused (hr.mono (by decide)) (show LamX.LamS (defScope s__law_is_refused) _ from LamX.lamS_by (by decide +kernel)) (fun A outer s H E1 f c hr2 => (e_meth D_Store_put (e_var 1) (hr2.mono (by decide)) (takes_of rfl rfl rfl rfl) (a_cons (e_var 3) (a_cons (e_call D__law_some (hr2.mono (by decide)) (takes_of rfl rfl rfl rfl) (a_cons (e_var 0) (a_cons (e_new (l_lst (m_cons (e_tup (a_cons (e_var 4) (a_cons (e_var 5) a_nil))) (m_cons (e_var 6) m_nil)))) a_nil))) a_nil))))) m_nil))))
    (ss_cons (s_expr (e_lm ml_append PySem.F.slot_list_append PySem.F.type_list_append (e_var 8) (a_cons (e_word (k := 6) T TW mw hcv TB__law_is_refused hm__law_is_refused hu__law_is_refused (hr.mono (by decide)) (show LamX.LamS (defScope s__law_is_refused) _ from LamX.lamS_by (by decide +kernel)) (fun A outer s H E1 f c hr2 => (e_meth D_Store_put (e_var 1) (hr2.mono (by decide)) (takes_of rfl rfl rfl rfl) (a_cons e_str (a_cons (e_var 6) a_nil))))) a_nil)))
    (ss_cons (s_expr (e_lm ml_append PySem.F.slot_list_append PySem.F.type_list_append (e_var 8) (a_cons (e_word (k := 6) T TW mw hcv TB__law_is_refused hm__law_is_refused hu__law_is_refused (hr.mono (by decide)) (show LamX.LamS (defScope s__law_is_refused) _ from LamX.lamS_by (by decide +kernel)) (fun A outer s H E1 f c hr2 => (e_meth D_Store_take (e_var 1) (hr2.mono (by decide)) (takes_of rfl rfl rfl rfl) (a_cons (e_var 3) a_nil)))) a_nil)))
    (ss_cons (s_expr (e_lm ml_append PySem.F.slot_list_append PySem.F.type_list_append (e_var 8) (a_cons (e_word (k := 6) T TW mw hcv TB__law_is_refused hm__law_is_refused hu__law_is_refused (hr.mono (by decide)) (show LamX.LamS (defScope s__law_is_refused) _ from LamX.lamS_by (by decide +kernel)) (fun A outer s H E1 f c hr2 => (e_meth D_Store_drop (e_var 1) (hr2.mono (by decide)) (takes_of rfl rfl rfl rfl) (a_cons (e_var 3) a_nil)))) a_nil)))
    (ss_cons (s_expr (e_lm ml_append PySem.F.slot_list_append PySem.F.type_list_append (e_var 8) (a_cons (e_word (k := 6) T TW mw hcv TB__law_is_refused hm__law_is_refused hu__law_is_refused (hr.mono (by decide)) (show LamX.LamS (defScope s__law_is_refused) _ from LamX.lamS_by (by decide +kernel)) (fun A outer s H E1 f c hr2 => (e_meth D_Store_version (e_var 1) (hr2.mono (by decide)) (takes_of rfl rfl rfl rfl) (a_cons (e_var 3) (a_cons (e_var 7) a_nil))))) a_nil)))
    (ss_cons (s_expr (e_lm ml_append PySem.F.slot_list_append PySem.F.type_list_append (e_var 8) (a_cons (e_word (k := 6) T TW mw hcv TB__law_is_refused hm__law_is_refused hu__law_is_refused (hr.mono (by decide)) (show LamX.LamS (defScope s__law_is_refused) _ from LamX.lamS_by (by decide +kernel)) (fun A outer s H E1 f c hr2 => (e_meth D_Store_version (e_var 1) (hr2.mono (by decide)) (takes_of rfl rfl rfl rfl) (a_cons e_str (a_cons e_int a_nil))))) a_nil)))
    (ss_cons (s_if (t_w (w_or (t_cmp (opl_ne (huk64 hr)) (e_var 8) (e_new (l_lst (m_cons e_str (m_cons e_str (m_cons e_str (m_cons e_str (m_cons e_str (m_cons e_str m_nil))))))))) (w_one (t_not (t_val (e_call D__law_is_as (hr.mono (by decide)) (takes_of rfl rfl rfl rfl) (a_cons (e_var 1) (a_cons (e_var 2) a_nil))))) (.inr rfl)))) (ss_one (s_ret e_bl)) ss_nil)
    (ss_cons (s_for (passes_of rfl) rfl (i_lst (l_sortD rfl T.b_sorted (e_var 2))) (g_name 9 sc__law_is_refused.nd) (ss_one (s_if (t_cmp (opl_ne (huk64 hr)) (e_word (k := 6) T TW mw hcv TB__law_is_refused hm__law_is_refused hu__law_is_refused (hr.mono (by decide)) (show LamX.LamS (defScope s__law_is_refused) _ from LamX.lamS_by (by decide +kernel)) (fun A outer s H E1 f c hr2 => (e_meth D_Store_version (e_var 1) (hr2.mono (by decide)) (takes_of rfl rfl rfl rfl) (a_cons (e_var 9) (a_cons (e_var 7) a_nil))))) e_str) (ss_one (s_ret e_bl)) ss_nil)))
    (ss_one (s_ret (e_call D__law_is_as (hr.mono (by decide)) (takes_of rfl rfl rfl rfl) (a_cons (e_var 1) (a_cons (e_var 2) a_nil))))))))))))))))))
theorem ok__law_web {f : Addr} {cdv : Value} (F : FD K "_law_web" "_law_web" s__law_web f cdv) (hmf : mg "_law_web" = some (.ref f)) (T : TX w K mg) (D__law_draw : Def P w K mg base tb "_law_draw" 2 F__law_draw 1) : Def P w K mg base tb "_law_web" 3 F__law_web 2 :=
  def_of (k := 1) F hmf sc__law_web bp__law_web fun A outer s H E hr => (ss_cons (s_set 3 sc__law_web.nd (e_op opl_add e_int (e_call D__law_draw (hr.mono (by decide)) (takes_of rfl rfl rfl rfl) (a_cons (e_var 0) (a_cons (e_op opl_sub (e_var 1) e_int) a_nil)))))
    (ss_cons (s_set 4 sc__law_web.nd (e_new (l_lst m_nil)))
    (ss_cons (s_for (passes_of rfl) rfl (i_range1 T.b_range (e_call D__law_draw (hr.mono (by decide)) (takes_of rfl rfl rfl rfl) (a_cons (e_var 0) (a_cons (e_op opl_add (e_var 2) e_int) a_nil)))) (g_name 5 sc__law_web.nd) (ss_cons (s_set 6 sc__law_web.nd (e_call D__law_draw (hr.mono (by decide)) (takes_of rfl rfl rfl rfl) (a_cons (e_var 0) (a_cons (e_op opl_sub (e_var 3) e_int) a_nil))))
    (ss_one (s_expr (e_lm ml_append PySem.F.slot_list_append PySem.F.type_list_append (e_var 4) (a_cons (e_tup (a_cons (e_var 6) (a_cons (e_op opl_add (e_op opl_add (e_var 6) e_int) (e_call D__law_draw (hr.mono (by decide)) (takes_of rfl rfl rfl rfl) (a_cons (e_var 0) (a_cons (e_op opl_sub (e_op opl_sub (e_var 3) e_int) (e_var 6)) a_nil)))) a_nil))) a_nil))))))
    (ss_one (s_ret (e_tup (a_cons (e_var 3) (a_cons (e_callQT cq_tuple T.b_tuple (q_ofE (e_var 4))) a_nil))))))))
theorem ok__law_is_led_right {f : Addr} {cdv : Value} (F : FD K "_law_is_led_right" "_law_is_led_right" s__law_is_led_right f cdv) (hmf : mg "_law_is_led_right" = some (.ref f)) (T : TX w K mg) (D_Storedd_initdd : CDef P w K mg base tb "Store" 1 F_Storedd_initdd 1) (D_Store_drop : MDef P w K mg base tb "Store" "drop" 2 F_Store_drop 3) (D_Store_put : MDef P w K mg base tb "Store" "put" 3 F_Store_put 6) (D_Store_take : MDef P w K mg base tb "Store" "take" 2 F_Store_take 3) (D__law_draw : Def P w K mg base tb "_law_draw" 2 F__law_draw 1) (D__law_is_as : Def P w K mg base tb "_law_is_as" 2 F__law_is_as 6) (D__law_is_refused : Def P w K mg base tb "_law_is_refused" 3 F__law_is_refused 9) (D__law_some : Def P w K mg base tb "_law_some" 2 F__law_some 2) (D__law_web : Def P w K mg base tb "_law_web" 3 F__law_web 2) {c P_ : Addr} {gw : Addr} {cw : Value} (hcv : cdv = .ref c) (TW : FD K "_law_word" "_law_word" s__law_word gw cw) (mw : mg "_law_word" = some (.ref gw)) (TB__law_is_led_right : LamX.TabB base mg c P_) (hm__law_is_led_right : (P_, (("_law_is_led_right" : Str) ++ (".<locals>." : Str)) ++ ("<lambda>" : Str)) ∈ tb) (hu__law_is_led_right : ∀ p ∈ tb, p.1 = P_ → p.2 = (("_law_is_led_right" : Str) ++ (".<locals>." : Str)) ++ ("<lambda>" : Str)) : Def P w K mg base tb "_law_is_led_right" 2 F__law_is_led_right 12 :=
  def_of (k := 11) F hmf sc__law_is_led_right bp__law_is_led_right fun A outer s H E hr => (ss_cons (s_asg (e_tup (a_cons (e_make0 D_Storedd_initdd (hr.mono (by decide)) (takes_of rfl rfl rfl rfl)) (a_cons e_dnew a_nil))) (g_tup rfl (gs_cons (g_name 2 sc__law_is_led_right.nd) (gs_cons (g_name 3 sc__law_is_led_right.nd) gs_nil))))
    (ss_cons (s_for (passes_of rfl) rfl (i_range1 T.b_range (e_op opl_add e_int (e_call D__law_draw (hr.mono (by decide)) (takes_of rfl rfl rfl rfl) (a_cons (e_var 0) (a_cons e_int a_nil))))) (g_name 4 sc__law_is_led_right.nd) (ss_cons (s_asg (e_tup (a_cons (e_call D__law_draw (hr.mono (by decide)) (takes_of rfl rfl rfl rfl) (a_cons (e_var 0) (a_cons e_int a_nil))) (a_cons (e_call D__law_some (hr.mono (by decide)) (takes_of rfl rfl rfl rfl) (a_cons (e_var 0) (a_cons (e_var 1) a_nil))) (a_cons (e_call D__law_web (hr.mono (by decide)) (takes_of rfl rfl rfl rfl) (a_cons (e_var 0) (a_cons e_int (a_cons e_int a_nil)))) a_nil)))) (g_tup rfl (gs_cons (g_name 5 sc__law_is_led_right.nd) (gs_cons (g_name 6 sc__law_is_led_right.nd) (gs_cons (g_name 7 sc__law_is_led_right.nd) gs_nil)))))
    (ss_cons (s_if (t_w (w_and (t_cmp (opl_eq (huk64 hr)) (e_var 5) e_int) (w_one (t_cmp (opl_notInD (huk65 hr)) (e_var 6) (e_var 3)) (.inl rfl)))) (ss_cons (s_if (t_cmp (opl_ne (huk64 hr)) (e_word (k := 9) T TW mw hcv TB__law_is_led_right hm__law_is_led_right hu__law_is_led_right (hr.mono (by decide)) (show LamX.LamS (defScope s__law_is_led_right) _ from LamX.lamS_by (by decide +kernel)) (fun A outer s H E1 f c hr2 => (e_meth D_Store_drop (e_var 2) (hr2.mono (by decide)) (takes_of rfl rfl rfl rfl) (a_cons (e_var 6) a_nil)))) e_str) (ss_one (s_ret e_bl)) ss_nil)
    (ss_one (s_if (t_cmp (opl_ne (huk64 hr)) (e_word (k := 9) T TW mw hcv TB__law_is_led_right hm__law_is_led_right hu__law_is_led_right (hr.mono (by decide)) (show LamX.LamS (defScope s__law_is_led_right) _ from LamX.lamS_by (by decide +kernel)) (fun A outer s H E1 f c hr2 => (e_meth D_Store_take (e_var 2) (hr2.mono (by decide)) (takes_of rfl rfl rfl rfl) (a_cons (e_var 6) a_nil)))) e_str) (ss_one (s_ret e_bl)) ss_nil))) (ss_one (s_if (t_cmp (opl_eq (huk64 hr)) (e_var 5) e_int) (ss_cons (s_expr (e_meth D_Store_drop (e_var 2) (hr.mono (by decide)) (takes_of rfl rfl rfl rfl) (a_cons (e_var 6) a_nil)))
    (ss_one (s_set 3 sc__law_is_led_right.nd (e_callQT (cq_dict rfl) T.b_dict (ql_ofL (l_lc (own := [("one", 8)]) rfl sc__law_is_led_right.nd (i_lst (l_sortD rfl T.b_sorted (e_var 3))) (show BlkOk ["hand", "names", "store", "account", "turn", "way", "name", "web", "one"] (defScope s__law_is_led_right) _ [("one", 8)] from blk_by (by decide +kernel)) (by decide) (fun _ _ _ _ _ => (g_name 8 sc__law_is_led_right.nd)) (fun _ _ _ _ _ => ⟨_, rfl, (t_cmp (opl_ne (huk64 hr)) (e_var 8) (e_var 6))⟩) (fun _ _ _ _ _ => (e_tup (a_cons (e_var 8) (a_cons (e_ix (ixlD (huk1 hr)) (e_var 3) (e_var 8)) a_nil)))))))))) (ss_cons (s_if (t_cmp (opl_ne (huk64 hr)) (e_meth D_Store_put (e_var 2) (hr.mono (by decide)) (takes_of rfl rfl rfl rfl) (a_cons (e_var 6) (a_cons (e_var 7) a_nil))) (e_callB cl_len T.b_len (a_cons (e_get2 (huk1 hr) (e_var 3) (e_var 6) (e_new (l_lst m_nil))) a_nil))) (ss_one (s_ret e_bl)) ss_nil)
    (ss_one (s_sub (huk1 hr) (e_var 3) (e_var 6) (e_new (l_cat (e_get2 (huk1 hr) (e_var 3) (e_var 6) (e_new (l_lst m_nil))) (e_new (l_lst (m_cons (e_var 7) m_nil)))))))))))
    (ss_one (s_if (t_not (t_val (e_call D__law_is_as (hr.mono (by decide)) (takes_of rfl rfl rfl rfl) (a_cons (e_var 2) (a_cons (e_var 3) a_nil))))) (ss_one (s_ret e_bl)) ss_nil)))))
    (ss_one (s_ret (e_call D__law_is_refused (hr.mono (by decide)) (takes_of rfl rfl rfl rfl) (a_cons (e_var 0) (a_cons (e_var 2) (a_cons (e_var 3) a_nil))))))))
theorem ok_law {f : Addr} {cdv : Value} (F : FD K "law" "law" s_law f cdv) (hmf : mg "law" = some (.ref f)) (T : TX w K mg) (D__law_hand : Def P w K mg base tb "_law_hand" 1 F__law_hand 1) (D__law_is_full_right : Def P w K mg base tb "_law_is_full_right" 1 F__law_is_full_right 9) (D__law_is_led_right : Def P w K mg base tb "_law_is_led_right" 2 F__law_is_led_right 12) : Def P w K mg base tb "law" 1 F_law 13 :=
  def_of (k := 12) F hmf sc_law bp_law fun A outer s H E hr => (ss_cons (s_par 1 2 rfl sc_law.nd (e_call D__law_hand (hr.mono (by decide)) (takes_of rfl rfl rfl rfl) (a_cons (e_var 0) a_nil)) (e_new (l_lst (m_cons e_str (m_cons e_str (m_cons e_str (m_cons e_str m_nil)))))))
    (ss_cons (s_for (passes_of rfl) rfl (i_range1 T.b_range e_int) (g_name 3 sc_law.nd) (ss_one (s_if (t_not (t_val (e_call D__law_is_led_right (hr.mono (by decide)) (takes_of rfl rfl rfl rfl) (a_cons (e_var 1) (a_cons (e_var 2) a_nil))))) (ss_one (s_ret e_bl)) ss_nil)))
    (ss_one (s_ret (e_call D__law_is_full_right (hr.mono (by decide)) (takes_of rfl rfl rfl rfl) (a_cons (e_var 1) a_nil))))))
end K78
set_option Elab.async false
set_option linter.all false
set_option maxRecDepth 100000
set_option maxHeartbeats 4000000
namespace K78
open PySem PySem.Spec PyProof.Rows L2 TL
abbrev s_TooManyddi : Stmt := inClass (top 3) 0
/-- a code object's table -/
def _root_.PySem.W.tabOf (K : PySem.W.Frag) (c : Addr) : Option Addr := match K.lookup c with
  | some ⟨.type "code", _, .fields vs, _⟩ => (match (vs[11]? : Option Value) with | some (.ref P) => some P | _ => none)
  | _ => none
theorem all_mk {l : PySem.W.OpenLaw} {w : World} {K : PySem.W.Frag} {h : Heap} {mg : Str → Option Value} {fa : Addr} (X : K.In h) (G : h.Ns mainGlobals mg) (hfa : mg "law" = some (.ref fa))
    {Te C_Store f__law_hand f_Storedd_initdd f_Store_now f_Store_names f_check_most f_is_sized f_is_int f_is_within f_is_pair_of f_is_web f_check_web f_is_name f_Store_put f_Store_check_there f_Store_take f__law_draw f__law_some f__law_word f_check_known f_known_web f__law_is_full_right co__law_is_full_right P__law_is_full_right f_Store_drop f_Store_version f__law_is_as co__law_is_as P__law_is_as f__law_is_refused co__law_is_refused P__law_is_refused f__law_web f__law_is_led_right co__law_is_led_right P__law_is_led_right f_law E_NoName E_NoNumber E_NoWeb E_TooMany d_WEBS f_TooManyddi co_TooManyddi cc_TooManyddi : Addr} {cd__law_hand oc__law_hand kV__law_hand dc__law_hand pm__law_hand ct__law_hand cd_Storedd_initdd oc_Storedd_initdd kV_Storedd_initdd dc_Storedd_initdd pm_Storedd_initdd ct_Storedd_initdd cd_Store_now oc_Store_now kV_Store_now dc_Store_now pm_Store_now ct_Store_now cd_Store_names oc_Store_names kV_Store_names dc_Store_names pm_Store_names ct_Store_names cd_check_most oc_check_most kV_check_most dc_check_most pm_check_most ct_check_most cd_is_sized oc_is_sized kV_is_sized dc_is_sized pm_is_sized ct_is_sized cd_is_int oc_is_int kV_is_int dc_is_int pm_is_int ct_is_int cd_is_within oc_is_within kV_is_within dc_is_within pm_is_within ct_is_within cd_is_pair_of oc_is_pair_of kV_is_pair_of dc_is_pair_of pm_is_pair_of ct_is_pair_of cd_is_web oc_is_web kV_is_web dc_is_web pm_is_web ct_is_web cd_check_web oc_check_web kV_check_web dc_check_web pm_check_web ct_check_web cd_is_name oc_is_name kV_is_name dc_is_name pm_is_name ct_is_name cd_Store_put oc_Store_put kV_Store_put dc_Store_put pm_Store_put ct_Store_put cd_Store_check_there oc_Store_check_there kV_Store_check_there dc_Store_check_there pm_Store_check_there ct_Store_check_there cd_Store_take oc_Store_take kV_Store_take dc_Store_take pm_Store_take ct_Store_take cd__law_draw oc__law_draw kV__law_draw dc__law_draw pm__law_draw ct__law_draw cd__law_some oc__law_some kV__law_some dc__law_some pm__law_some ct__law_some cd__law_word oc__law_word kV__law_word dc__law_word pm__law_word ct__law_word cd_check_known oc_check_known kV_check_known dc_check_known pm_check_known ct_check_known cd_known_web oc_known_web kV_known_web dc_known_web pm_known_web ct_known_web oc__law_is_full_right kV__law_is_full_right dc__law_is_full_right pm__law_is_full_right ct__law_is_full_right cd_Store_drop oc_Store_drop kV_Store_drop dc_Store_drop pm_Store_drop ct_Store_drop cd_Store_version oc_Store_version kV_Store_version dc_Store_version pm_Store_version ct_Store_version oc__law_is_as kV__law_is_as dc__law_is_as pm__law_is_as ct__law_is_as oc__law_is_refused kV__law_is_refused dc__law_is_refused pm__law_is_refused ct__law_is_refused cd__law_web oc__law_web kV__law_web dc__law_web pm__law_web ct__law_web oc__law_is_led_right kV__law_is_led_right dc__law_is_led_right pm__law_is_led_right ct__law_is_led_right cd_law oc_law kV_law dc_law pm_law ct_law u_WEBS_bow u_WEBS_ring u_WEBS_wheel oc_TooManyddi kV_TooManyddi dc_TooManyddi pm_TooManyddi ct_TooManyddi cl_TooManyddi : Value} {od__law_hand an__law_hand od_Storedd_initdd an_Storedd_initdd od_Store_now an_Store_now od_Store_names an_Store_names od_check_most an_check_most od_is_sized an_is_sized od_is_int an_is_int od_is_within an_is_within od_is_pair_of an_is_pair_of od_is_web an_is_web od_check_web an_check_web od_is_name an_is_name od_Store_put an_Store_put od_Store_check_there an_Store_check_there od_Store_take an_Store_take od__law_draw an__law_draw od__law_some an__law_some od__law_word an__law_word od_check_known an_check_known od_known_web an_known_web od__law_is_full_right an__law_is_full_right od_Store_drop an_Store_drop od_Store_version an_Store_version od__law_is_as an__law_is_as od__law_is_refused an__law_is_refused od__law_web an__law_web od__law_is_led_right an__law_is_led_right od_law an_law od_TooManyddi an_TooManyddi cld_TooManyddi : Option Addr} {sl__law_hand sl_Storedd_initdd sl_Store_now sl_Store_names sl_check_most sl_is_sized sl_is_int sl_is_within sl_is_pair_of sl_is_web sl_check_web sl_is_name sl_Store_put sl_Store_check_there sl_Store_take sl__law_draw sl__law_some sl__law_word sl_check_known sl_known_web sl__law_is_full_right sl_Store_drop sl_Store_version sl__law_is_as sl__law_is_refused sl__law_web sl__law_is_led_right sl_law sl_TooManyddi csl_TooManyddi : Array (Option Value)} {tk_LETTERS tk_MOST_NAME tk_MOST_NAMES tk_MOST_PLACES tk_MOST_TIES tk_MOST_VERSIONS : Tok} {es_WEBS : Array DictEntry} {n_WEBS : Nat}
    (aC_Store : PySem.W.nsIn K mainGlobals "Store" = some (some (.ref C_Store)))
    (pg_Store : PySem.W.plainGet K C_Store Str.empty = true)
    (hd_Store : PySem.W.hasDictIn K C_Store = true)
    (po_Store : PySem.W.plainOver K C_Store = true)
    (sa_Store : PySem.W.findIn K (.ref C_Store) "__setattr__" = some (some (.builtin "object.__setattr__")))
    (mk_Store : PySem.W.makesIn K C_Store = true)
    (kc_Store : PySem.W.keepIn K (.ref C_Store) = true)
    (a__law_hand : PySem.W.nsIn K mainGlobals "_law_hand" = some (some (.ref f__law_hand)))
    (l__law_hand : K.lookup f__law_hand = some ⟨oc__law_hand, od__law_hand, .func (PySem.W.fnOf "_law_hand" "_law_hand" (defArgs s__law_hand) (defBody s__law_hand) (defScope s__law_hand) .none kV__law_hand dc__law_hand pm__law_hand an__law_hand cd__law_hand ct__law_hand), sl__law_hand⟩)
    (c__law_hand : PySem.W.codeIn K cd__law_hand "_law_hand" = true)
    (k__law_hand : PySem.W.keepIn K (.ref f__law_hand) = true)
    (a_Storedd_initdd : PySem.W.findIn K (.ref C_Store) "__init__" = some (some (.ref f_Storedd_initdd)))
    (i_Storedd_initdd : PySem.W.isFn K (.ref f_Storedd_initdd) = true)
    (l_Storedd_initdd : K.lookup f_Storedd_initdd = some ⟨oc_Storedd_initdd, od_Storedd_initdd, .func (PySem.W.fnOf "__init__" "Store.__init__" (defArgs s_Storedd_initdd) (defBody s_Storedd_initdd) (defScope s_Storedd_initdd) .none kV_Storedd_initdd dc_Storedd_initdd pm_Storedd_initdd an_Storedd_initdd cd_Storedd_initdd ct_Storedd_initdd), sl_Storedd_initdd⟩)
    (c_Storedd_initdd : PySem.W.codeIn K cd_Storedd_initdd "Store.__init__" = true)
    (k_Storedd_initdd : PySem.W.keepIn K (.ref f_Storedd_initdd) = true)
    (a_Store_now : PySem.W.findIn K (.ref C_Store) "now" = some (some (.ref f_Store_now)))
    (i_Store_now : PySem.W.isFn K (.ref f_Store_now) = true)
    (l_Store_now : K.lookup f_Store_now = some ⟨oc_Store_now, od_Store_now, .func (PySem.W.fnOf "now" "Store.now" (defArgs s_Store_now) (defBody s_Store_now) (defScope s_Store_now) .none kV_Store_now dc_Store_now pm_Store_now an_Store_now cd_Store_now ct_Store_now), sl_Store_now⟩)
    (c_Store_now : PySem.W.codeIn K cd_Store_now "Store.now" = true)
    (k_Store_now : PySem.W.keepIn K (.ref f_Store_now) = true)
    (a_Store_names : PySem.W.findIn K (.ref C_Store) "names" = some (some (.ref f_Store_names)))
    (i_Store_names : PySem.W.isFn K (.ref f_Store_names) = true)
    (l_Store_names : K.lookup f_Store_names = some ⟨oc_Store_names, od_Store_names, .func (PySem.W.fnOf "names" "Store.names" (defArgs s_Store_names) (defBody s_Store_names) (defScope s_Store_names) .none kV_Store_names dc_Store_names pm_Store_names an_Store_names cd_Store_names ct_Store_names), sl_Store_names⟩)
    (c_Store_names : PySem.W.codeIn K cd_Store_names "Store.names" = true)
    (k_Store_names : PySem.W.keepIn K (.ref f_Store_names) = true)
    (a_check_most : PySem.W.nsIn K mainGlobals "check_most" = some (some (.ref f_check_most)))
    (l_check_most : K.lookup f_check_most = some ⟨oc_check_most, od_check_most, .func (PySem.W.fnOf "check_most" "check_most" (defArgs s_check_most) (defBody s_check_most) (defScope s_check_most) .none kV_check_most dc_check_most pm_check_most an_check_most cd_check_most ct_check_most), sl_check_most⟩)
    (c_check_most : PySem.W.codeIn K cd_check_most "check_most" = true)
    (k_check_most : PySem.W.keepIn K (.ref f_check_most) = true)
    (a_is_sized : PySem.W.nsIn K mainGlobals "is_sized" = some (some (.ref f_is_sized)))
    (l_is_sized : K.lookup f_is_sized = some ⟨oc_is_sized, od_is_sized, .func (PySem.W.fnOf "is_sized" "is_sized" (defArgs s_is_sized) (defBody s_is_sized) (defScope s_is_sized) .none kV_is_sized dc_is_sized pm_is_sized an_is_sized cd_is_sized ct_is_sized), sl_is_sized⟩)
    (c_is_sized : PySem.W.codeIn K cd_is_sized "is_sized" = true)
    (k_is_sized : PySem.W.keepIn K (.ref f_is_sized) = true)
    (a_is_int : PySem.W.nsIn K mainGlobals "is_int" = some (some (.ref f_is_int)))
    (l_is_int : K.lookup f_is_int = some ⟨oc_is_int, od_is_int, .func (PySem.W.fnOf "is_int" "is_int" (defArgs s_is_int) (defBody s_is_int) (defScope s_is_int) .none kV_is_int dc_is_int pm_is_int an_is_int cd_is_int ct_is_int), sl_is_int⟩)
    (c_is_int : PySem.W.codeIn K cd_is_int "is_int" = true)
    (k_is_int : PySem.W.keepIn K (.ref f_is_int) = true)
    (a_is_within : PySem.W.nsIn K mainGlobals "is_within" = some (some (.ref f_is_within)))
    (l_is_within : K.lookup f_is_within = some ⟨oc_is_within, od_is_within, .func (PySem.W.fnOf "is_within" "is_within" (defArgs s_is_within) (defBody s_is_within) (defScope s_is_within) .none kV_is_within dc_is_within pm_is_within an_is_within cd_is_within ct_is_within), sl_is_within⟩)
    (c_is_within : PySem.W.codeIn K cd_is_within "is_within" = true)
    (k_is_within : PySem.W.keepIn K (.ref f_is_within) = true)
    (a_is_pair_of : PySem.W.nsIn K mainGlobals "is_pair_of" = some (some (.ref f_is_pair_of)))
    (l_is_pair_of : K.lookup f_is_pair_of = some ⟨oc_is_pair_of, od_is_pair_of, .func (PySem.W.fnOf "is_pair_of" "is_pair_of" (defArgs s_is_pair_of) (defBody s_is_pair_of) (defScope s_is_pair_of) .none kV_is_pair_of dc_is_pair_of pm_is_pair_of an_is_pair_of cd_is_pair_of ct_is_pair_of), sl_is_pair_of⟩)
    (c_is_pair_of : PySem.W.codeIn K cd_is_pair_of "is_pair_of" = true)
    (k_is_pair_of : PySem.W.keepIn K (.ref f_is_pair_of) = true)
    (a_is_web : PySem.W.nsIn K mainGlobals "is_web" = some (some (.ref f_is_web)))
    (l_is_web : K.lookup f_is_web = some ⟨oc_is_web, od_is_web, .func (PySem.W.fnOf "is_web" "is_web" (defArgs s_is_web) (defBody s_is_web) (defScope s_is_web) .none kV_is_web dc_is_web pm_is_web an_is_web cd_is_web ct_is_web), sl_is_web⟩)
    (c_is_web : PySem.W.codeIn K cd_is_web "is_web" = true)
    (k_is_web : PySem.W.keepIn K (.ref f_is_web) = true)
    (a_check_web : PySem.W.nsIn K mainGlobals "check_web" = some (some (.ref f_check_web)))
    (l_check_web : K.lookup f_check_web = some ⟨oc_check_web, od_check_web, .func (PySem.W.fnOf "check_web" "check_web" (defArgs s_check_web) (defBody s_check_web) (defScope s_check_web) .none kV_check_web dc_check_web pm_check_web an_check_web cd_check_web ct_check_web), sl_check_web⟩)
    (c_check_web : PySem.W.codeIn K cd_check_web "check_web" = true)
    (k_check_web : PySem.W.keepIn K (.ref f_check_web) = true)
    (a_is_name : PySem.W.nsIn K mainGlobals "is_name" = some (some (.ref f_is_name)))
    (l_is_name : K.lookup f_is_name = some ⟨oc_is_name, od_is_name, .func (PySem.W.fnOf "is_name" "is_name" (defArgs s_is_name) (defBody s_is_name) (defScope s_is_name) .none kV_is_name dc_is_name pm_is_name an_is_name cd_is_name ct_is_name), sl_is_name⟩)
    (c_is_name : PySem.W.codeIn K cd_is_name "is_name" = true)
    (k_is_name : PySem.W.keepIn K (.ref f_is_name) = true)
    (a_Store_put : PySem.W.findIn K (.ref C_Store) "put" = some (some (.ref f_Store_put)))
    (i_Store_put : PySem.W.isFn K (.ref f_Store_put) = true)
    (l_Store_put : K.lookup f_Store_put = some ⟨oc_Store_put, od_Store_put, .func (PySem.W.fnOf "put" "Store.put" (defArgs s_Store_put) (defBody s_Store_put) (defScope s_Store_put) .none kV_Store_put dc_Store_put pm_Store_put an_Store_put cd_Store_put ct_Store_put), sl_Store_put⟩)
    (c_Store_put : PySem.W.codeIn K cd_Store_put "Store.put" = true)
    (k_Store_put : PySem.W.keepIn K (.ref f_Store_put) = true)
    (a_Store_check_there : PySem.W.findIn K (.ref C_Store) "check_there" = some (some (.ref f_Store_check_there)))
    (i_Store_check_there : PySem.W.isFn K (.ref f_Store_check_there) = true)
    (l_Store_check_there : K.lookup f_Store_check_there = some ⟨oc_Store_check_there, od_Store_check_there, .func (PySem.W.fnOf "check_there" "Store.check_there" (defArgs s_Store_check_there) (defBody s_Store_check_there) (defScope s_Store_check_there) .none kV_Store_check_there dc_Store_check_there pm_Store_check_there an_Store_check_there cd_Store_check_there ct_Store_check_there), sl_Store_check_there⟩)
    (c_Store_check_there : PySem.W.codeIn K cd_Store_check_there "Store.check_there" = true)
    (k_Store_check_there : PySem.W.keepIn K (.ref f_Store_check_there) = true)
    (a_Store_take : PySem.W.findIn K (.ref C_Store) "take" = some (some (.ref f_Store_take)))
    (i_Store_take : PySem.W.isFn K (.ref f_Store_take) = true)
    (l_Store_take : K.lookup f_Store_take = some ⟨oc_Store_take, od_Store_take, .func (PySem.W.fnOf "take" "Store.take" (defArgs s_Store_take) (defBody s_Store_take) (defScope s_Store_take) .none kV_Store_take dc_Store_take pm_Store_take an_Store_take cd_Store_take ct_Store_take), sl_Store_take⟩)
    (c_Store_take : PySem.W.codeIn K cd_Store_take "Store.take" = true)
    (k_Store_take : PySem.W.keepIn K (.ref f_Store_take) = true)
    (a__law_draw : PySem.W.nsIn K mainGlobals "_law_draw" = some (some (.ref f__law_draw)))
    (l__law_draw : K.lookup f__law_draw = some ⟨oc__law_draw, od__law_draw, .func (PySem.W.fnOf "_law_draw" "_law_draw" (defArgs s__law_draw) (defBody s__law_draw) (defScope s__law_draw) .none kV__law_draw dc__law_draw pm__law_draw an__law_draw cd__law_draw ct__law_draw), sl__law_draw⟩)
    (c__law_draw : PySem.W.codeIn K cd__law_draw "_law_draw" = true)
    (k__law_draw : PySem.W.keepIn K (.ref f__law_draw) = true)
    (a__law_some : PySem.W.nsIn K mainGlobals "_law_some" = some (some (.ref f__law_some)))
    (l__law_some : K.lookup f__law_some = some ⟨oc__law_some, od__law_some, .func (PySem.W.fnOf "_law_some" "_law_some" (defArgs s__law_some) (defBody s__law_some) (defScope s__law_some) .none kV__law_some dc__law_some pm__law_some an__law_some cd__law_some ct__law_some), sl__law_some⟩)
    (c__law_some : PySem.W.codeIn K cd__law_some "_law_some" = true)
    (k__law_some : PySem.W.keepIn K (.ref f__law_some) = true)
    (a__law_word : PySem.W.nsIn K mainGlobals "_law_word" = some (some (.ref f__law_word)))
    (l__law_word : K.lookup f__law_word = some ⟨oc__law_word, od__law_word, .func (PySem.W.fnOf "_law_word" "_law_word" (defArgs s__law_word) (defBody s__law_word) (defScope s__law_word) .none kV__law_word dc__law_word pm__law_word an__law_word cd__law_word ct__law_word), sl__law_word⟩)
    (c__law_word : PySem.W.codeIn K cd__law_word "_law_word" = true)
    (k__law_word : PySem.W.keepIn K (.ref f__law_word) = true)
    (a_check_known : PySem.W.nsIn K mainGlobals "check_known" = some (some (.ref f_check_known)))
    (l_check_known : K.lookup f_check_known = some ⟨oc_check_known, od_check_known, .func (PySem.W.fnOf "check_known" "check_known" (defArgs s_check_known) (defBody s_check_known) (defScope s_check_known) .none kV_check_known dc_check_known pm_check_known an_check_known cd_check_known ct_check_known), sl_check_known⟩)
    (c_check_known : PySem.W.codeIn K cd_check_known "check_known" = true)
    (k_check_known : PySem.W.keepIn K (.ref f_check_known) = true)
    (a_known_web : PySem.W.nsIn K mainGlobals "known_web" = some (some (.ref f_known_web)))
    (l_known_web : K.lookup f_known_web = some ⟨oc_known_web, od_known_web, .func (PySem.W.fnOf "known_web" "known_web" (defArgs s_known_web) (defBody s_known_web) (defScope s_known_web) .none kV_known_web dc_known_web pm_known_web an_known_web cd_known_web ct_known_web), sl_known_web⟩)
    (c_known_web : PySem.W.codeIn K cd_known_web "known_web" = true)
    (k_known_web : PySem.W.keepIn K (.ref f_known_web) = true)
    (a__law_is_full_right : PySem.W.nsIn K mainGlobals "_law_is_full_right" = some (some (.ref f__law_is_full_right)))
    (l__law_is_full_right : K.lookup f__law_is_full_right = some ⟨oc__law_is_full_right, od__law_is_full_right, .func (PySem.W.fnOf "_law_is_full_right" "_law_is_full_right" (defArgs s__law_is_full_right) (defBody s__law_is_full_right) (defScope s__law_is_full_right) .none kV__law_is_full_right dc__law_is_full_right pm__law_is_full_right an__law_is_full_right (.ref co__law_is_full_right) ct__law_is_full_right), sl__law_is_full_right⟩)
    (c__law_is_full_right : PySem.W.codeIn K (.ref co__law_is_full_right) "_law_is_full_right" = true)
    (k__law_is_full_right : PySem.W.keepIn K (.ref f__law_is_full_right) = true)
    (tp__law_is_full_right : PySem.W.tabOf K co__law_is_full_right = some P__law_is_full_right)
    (th__law_is_full_right : PySem.W.codeHdIn K co__law_is_full_right P__law_is_full_right = true)
    (tn__law_is_full_right : K.lookup P__law_is_full_right = none)
    (tt__law_is_full_right : h.get? P__law_is_full_right = some (PySem.W.tabObj #[]))
    (a_Store_drop : PySem.W.findIn K (.ref C_Store) "drop" = some (some (.ref f_Store_drop)))
    (i_Store_drop : PySem.W.isFn K (.ref f_Store_drop) = true)
    (l_Store_drop : K.lookup f_Store_drop = some ⟨oc_Store_drop, od_Store_drop, .func (PySem.W.fnOf "drop" "Store.drop" (defArgs s_Store_drop) (defBody s_Store_drop) (defScope s_Store_drop) .none kV_Store_drop dc_Store_drop pm_Store_drop an_Store_drop cd_Store_drop ct_Store_drop), sl_Store_drop⟩)
    (c_Store_drop : PySem.W.codeIn K cd_Store_drop "Store.drop" = true)
    (k_Store_drop : PySem.W.keepIn K (.ref f_Store_drop) = true)
    (a_Store_version : PySem.W.findIn K (.ref C_Store) "version" = some (some (.ref f_Store_version)))
    (i_Store_version : PySem.W.isFn K (.ref f_Store_version) = true)
    (l_Store_version : K.lookup f_Store_version = some ⟨oc_Store_version, od_Store_version, .func (PySem.W.fnOf "version" "Store.version" (defArgs s_Store_version) (defBody s_Store_version) (defScope s_Store_version) .none kV_Store_version dc_Store_version pm_Store_version an_Store_version cd_Store_version ct_Store_version), sl_Store_version⟩)
    (c_Store_version : PySem.W.codeIn K cd_Store_version "Store.version" = true)
    (k_Store_version : PySem.W.keepIn K (.ref f_Store_version) = true)
    (a__law_is_as : PySem.W.nsIn K mainGlobals "_law_is_as" = some (some (.ref f__law_is_as)))
    (l__law_is_as : K.lookup f__law_is_as = some ⟨oc__law_is_as, od__law_is_as, .func (PySem.W.fnOf "_law_is_as" "_law_is_as" (defArgs s__law_is_as) (defBody s__law_is_as) (defScope s__law_is_as) .none kV__law_is_as dc__law_is_as pm__law_is_as an__law_is_as (.ref co__law_is_as) ct__law_is_as), sl__law_is_as⟩)
    (c__law_is_as : PySem.W.codeIn K (.ref co__law_is_as) "_law_is_as" = true)
    (k__law_is_as : PySem.W.keepIn K (.ref f__law_is_as) = true)
    (tp__law_is_as : PySem.W.tabOf K co__law_is_as = some P__law_is_as)
    (th__law_is_as : PySem.W.codeHdIn K co__law_is_as P__law_is_as = true)
    (tn__law_is_as : K.lookup P__law_is_as = none)
    (tt__law_is_as : h.get? P__law_is_as = some (PySem.W.tabObj #[]))
    (a__law_is_refused : PySem.W.nsIn K mainGlobals "_law_is_refused" = some (some (.ref f__law_is_refused)))
    (l__law_is_refused : K.lookup f__law_is_refused = some ⟨oc__law_is_refused, od__law_is_refused, .func (PySem.W.fnOf "_law_is_refused" "_law_is_refused" (defArgs s__law_is_refused) (defBody s__law_is_refused) (defScope s__law_is_refused) .none kV__law_is_refused dc__law_is_refused pm__law_is_refused an__law_is_refused (.ref co__law_is_refused) ct__law_is_refused), sl__law_is_refused⟩)
    (c__law_is_refused : PySem.W.codeIn K (.ref co__law_is_refused) "_law_is_refused" = true)
    (k__law_is_refused : PySem.W.keepIn K (.ref f__law_is_refused) = true)
    (tp__law_is_refused : PySem.W.tabOf K co__law_is_refused = some P__law_is_refused)
    (th__law_is_refused : PySem.W.codeHdIn K co__law_is_refused P__law_is_refused = true)
    (tn__law_is_refused : K.lookup P__law_is_refused = none)
    (tt__law_is_refused : h.get? P__law_is_refused = some (PySem.W.tabObj #[]))
    (a__law_web : PySem.W.nsIn K mainGlobals "_law_web" = some (some (.ref f__law_web)))
    (l__law_web : K.lookup f__law_web = some ⟨oc__law_web, od__law_web, .func (PySem.W.fnOf "_law_web" "_law_web" (defArgs s__law_web) (defBody s__law_web) (defScope s__law_web) .none kV__law_web dc__law_web pm__law_web an__law_web cd__law_web ct__law_web), sl__law_web⟩)
    (c__law_web : PySem.W.codeIn K cd__law_web "_law_web" = true)
    (k__law_web : PySem.W.keepIn K (.ref f__law_web) = true)
    (a__law_is_led_right : PySem.W.nsIn K mainGlobals "_law_is_led_right" = some (some (.ref f__law_is_led_right)))
    (l__law_is_led_right : K.lookup f__law_is_led_right = some ⟨oc__law_is_led_right, od__law_is_led_right, .func (PySem.W.fnOf "_law_is_led_right" "_law_is_led_right" (defArgs s__law_is_led_right) (defBody s__law_is_led_right) (defScope s__law_is_led_right) .none kV__law_is_led_right dc__law_is_led_right pm__law_is_led_right an__law_is_led_right (.ref co__law_is_led_right) ct__law_is_led_right), sl__law_is_led_right⟩)
    (c__law_is_led_right : PySem.W.codeIn K (.ref co__law_is_led_right) "_law_is_led_right" = true)
    (k__law_is_led_right : PySem.W.keepIn K (.ref f__law_is_led_right) = true)
    (tp__law_is_led_right : PySem.W.tabOf K co__law_is_led_right = some P__law_is_led_right)
    (th__law_is_led_right : PySem.W.codeHdIn K co__law_is_led_right P__law_is_led_right = true)
    (tn__law_is_led_right : K.lookup P__law_is_led_right = none)
    (tt__law_is_led_right : h.get? P__law_is_led_right = some (PySem.W.tabObj #[]))
    (a_law : PySem.W.nsIn K mainGlobals "law" = some (some (.ref f_law)))
    (l_law : K.lookup f_law = some ⟨oc_law, od_law, .func (PySem.W.fnOf "law" "law" (defArgs s_law) (defBody s_law) (defScope s_law) .none kV_law dc_law pm_law an_law cd_law ct_law), sl_law⟩)
    (c_law : PySem.W.codeIn K cd_law "law" = true)
    (k_law : PySem.W.keepIn K (.ref f_law) = true)
    (z_abs : PySem.W.nsIn K mainGlobals "abs" = some none)
    (z_all : PySem.W.nsIn K mainGlobals "all" = some none)
    (z_bool : PySem.W.nsIn K mainGlobals "bool" = some none)
    (z_dict : PySem.W.nsIn K mainGlobals "dict" = some none)
    (z_int : PySem.W.nsIn K mainGlobals "int" = some none)
    (z_isinstance : PySem.W.nsIn K mainGlobals "isinstance" = some none)
    (z_len : PySem.W.nsIn K mainGlobals "len" = some none)
    (z_list : PySem.W.nsIn K mainGlobals "list" = some none)
    (z_range : PySem.W.nsIn K mainGlobals "range" = some none)
    (z_sorted : PySem.W.nsIn K mainGlobals "sorted" = some none)
    (z_str : PySem.W.nsIn K mainGlobals "str" = some none)
    (z_tuple : PySem.W.nsIn K mainGlobals "tuple" = some none)
    (g_LETTERS : PySem.W.nsIn K mainGlobals "LETTERS" = some (some (.str "abcdefghijklmnopqrstuvwxyz" tk_LETTERS)))
    (g_MOST_NAME : PySem.W.nsIn K mainGlobals "MOST_NAME" = some (some (.int 8 tk_MOST_NAME)))
    (g_MOST_NAMES : PySem.W.nsIn K mainGlobals "MOST_NAMES" = some (some (.int 50 tk_MOST_NAMES)))
    (g_MOST_PLACES : PySem.W.nsIn K mainGlobals "MOST_PLACES" = some (some (.int 12 tk_MOST_PLACES)))
    (g_MOST_TIES : PySem.W.nsIn K mainGlobals "MOST_TIES" = some (some (.int 40 tk_MOST_TIES)))
    (g_MOST_VERSIONS : PySem.W.nsIn K mainGlobals "MOST_VERSIONS" = some (some (.int 20 tk_MOST_VERSIONS)))
    (nf_Store_store_stages : PySem.W.findIn K (.ref C_Store) "store_stages" = some none)
    (aTe : PySem.W.nsIn K mainGlobals "TreeError" = some (some (.ref Te)))
    (e0_NoName : PySem.W.nsIn K mainGlobals "NoName" = some (some (.ref E_NoName)))
    (e0_NoNumber : PySem.W.nsIn K mainGlobals "NoNumber" = some (some (.ref E_NoNumber)))
    (e0_NoWeb : PySem.W.nsIn K mainGlobals "NoWeb" = some (some (.ref E_NoWeb)))
    (e0_TooMany : PySem.W.nsIn K mainGlobals "TooMany" = some (some (.ref E_TooMany)))
    (e2_NoName : PySem.W.keepIn K (.ref E_NoName) = true)
    (e3_NoName : PySem.W.subIn K (.ref E_NoName) (.type "BaseException") = some true)
    (e4_NoName : PySem.W.typeIn K (.ref E_NoName) = some (.type "type"))
    (e5_NoName : (PySem.W.clsIn K E_NoName).isSome = true)
    (e6_NoName : PySem.W.findIn K (.ref E_NoName) "__getattribute__" = some (some (.builtin "BaseException.__getattribute__")))
    (e7_NoName : PySem.W.findIn K (.ref E_NoName) "__getattr__" = some none)
    (e8_NoName : PySem.W.findIn K (.ref E_NoName) "__class__" = some (some (.builtin "object.__class__")))
    (e9_NoName : PySem.W.mroIn K E_NoName (.type "object") = some true)
    (ex_NoName : PySem.W.exmOne K (.ref E_NoName) (.ref Te) = some true)
    (kt_NoName_NoName : PySem.W.kitOne K (.ref E_NoName) (.ref E_NoName) = some true)
    (kt_NoName_NoNumber : PySem.W.kitOne K (.ref E_NoName) (.ref E_NoNumber) = some false)
    (kt_NoName_NoWeb : PySem.W.kitOne K (.ref E_NoName) (.ref E_NoWeb) = some false)
    (kt_NoName_TooMany : PySem.W.kitOne K (.ref E_NoName) (.ref E_TooMany) = some false)
    (e2_NoNumber : PySem.W.keepIn K (.ref E_NoNumber) = true)
    (e3_NoNumber : PySem.W.subIn K (.ref E_NoNumber) (.type "BaseException") = some true)
    (e4_NoNumber : PySem.W.typeIn K (.ref E_NoNumber) = some (.type "type"))
    (e5_NoNumber : (PySem.W.clsIn K E_NoNumber).isSome = true)
    (e6_NoNumber : PySem.W.findIn K (.ref E_NoNumber) "__getattribute__" = some (some (.builtin "BaseException.__getattribute__")))
    (e7_NoNumber : PySem.W.findIn K (.ref E_NoNumber) "__getattr__" = some none)
    (e8_NoNumber : PySem.W.findIn K (.ref E_NoNumber) "__class__" = some (some (.builtin "object.__class__")))
    (e9_NoNumber : PySem.W.mroIn K E_NoNumber (.type "object") = some true)
    (ex_NoNumber : PySem.W.exmOne K (.ref E_NoNumber) (.ref Te) = some true)
    (kt_NoNumber_NoName : PySem.W.kitOne K (.ref E_NoNumber) (.ref E_NoName) = some false)
    (kt_NoNumber_NoNumber : PySem.W.kitOne K (.ref E_NoNumber) (.ref E_NoNumber) = some true)
    (kt_NoNumber_NoWeb : PySem.W.kitOne K (.ref E_NoNumber) (.ref E_NoWeb) = some false)
    (kt_NoNumber_TooMany : PySem.W.kitOne K (.ref E_NoNumber) (.ref E_TooMany) = some false)
    (e2_NoWeb : PySem.W.keepIn K (.ref E_NoWeb) = true)
    (e3_NoWeb : PySem.W.subIn K (.ref E_NoWeb) (.type "BaseException") = some true)
    (e4_NoWeb : PySem.W.typeIn K (.ref E_NoWeb) = some (.type "type"))
    (e5_NoWeb : (PySem.W.clsIn K E_NoWeb).isSome = true)
    (e6_NoWeb : PySem.W.findIn K (.ref E_NoWeb) "__getattribute__" = some (some (.builtin "BaseException.__getattribute__")))
    (e7_NoWeb : PySem.W.findIn K (.ref E_NoWeb) "__getattr__" = some none)
    (e8_NoWeb : PySem.W.findIn K (.ref E_NoWeb) "__class__" = some (some (.builtin "object.__class__")))
    (e9_NoWeb : PySem.W.mroIn K E_NoWeb (.type "object") = some true)
    (ex_NoWeb : PySem.W.exmOne K (.ref E_NoWeb) (.ref Te) = some true)
    (kt_NoWeb_NoName : PySem.W.kitOne K (.ref E_NoWeb) (.ref E_NoName) = some false)
    (kt_NoWeb_NoNumber : PySem.W.kitOne K (.ref E_NoWeb) (.ref E_NoNumber) = some false)
    (kt_NoWeb_NoWeb : PySem.W.kitOne K (.ref E_NoWeb) (.ref E_NoWeb) = some true)
    (kt_NoWeb_TooMany : PySem.W.kitOne K (.ref E_NoWeb) (.ref E_TooMany) = some false)
    (e2_TooMany : PySem.W.keepIn K (.ref E_TooMany) = true)
    (e3_TooMany : PySem.W.subIn K (.ref E_TooMany) (.type "BaseException") = some true)
    (e4_TooMany : PySem.W.typeIn K (.ref E_TooMany) = some (.type "type"))
    (e5_TooMany : (PySem.W.clsIn K E_TooMany).isSome = true)
    (e6_TooMany : PySem.W.findIn K (.ref E_TooMany) "__getattribute__" = some (some (.builtin "BaseException.__getattribute__")))
    (e7_TooMany : PySem.W.findIn K (.ref E_TooMany) "__getattr__" = some none)
    (e8_TooMany : PySem.W.findIn K (.ref E_TooMany) "__class__" = some (some (.builtin "object.__class__")))
    (e9_TooMany : PySem.W.mroIn K E_TooMany (.type "object") = some true)
    (ex_TooMany : PySem.W.exmOne K (.ref E_TooMany) (.ref Te) = some true)
    (kt_TooMany_NoName : PySem.W.kitOne K (.ref E_TooMany) (.ref E_NoName) = some false)
    (kt_TooMany_NoNumber : PySem.W.kitOne K (.ref E_TooMany) (.ref E_NoNumber) = some false)
    (kt_TooMany_NoWeb : PySem.W.kitOne K (.ref E_TooMany) (.ref E_NoWeb) = some false)
    (kt_TooMany_TooMany : PySem.W.kitOne K (.ref E_TooMany) (.ref E_TooMany) = some true)
    (sp1 : PySem.W.specialIn K (.builtin "object.__class__") "__get__" = some (some (.builtin "getset_descriptor.__get__")))
    (sp2 : PySem.W.takesIn K (.builtin "object.__class__") = some true)
    (e1_NoName : PySem.W.excIn K E_NoName [.type "ValueError", .type "Exception", .type "BaseException", .type "object"] "ValueError.__new__" = true)
    (e1_NoNumber : PySem.W.excIn K E_NoNumber [.type "ValueError", .type "Exception", .type "BaseException", .type "object"] "ValueError.__new__" = true)
    (e1_NoWeb : PySem.W.excIn K E_NoWeb [.type "ValueError", .type "Exception", .type "BaseException", .type "object"] "ValueError.__new__" = true)
    (wa_WEBS : PySem.W.nsIn K mainGlobals "WEBS" = some (some (.ref d_WEBS)))
    (wl_WEBS : K.lookup d_WEBS = some ⟨.type "dict", none, .dict es_WEBS n_WEBS, #[]⟩)
    (wk_WEBS : PySem.W.KeysLit w.params es_WEBS.toList)
    (ws_WEBS : (d_WEBS == sysModules) = false)
    (wv_WEBS_bow : PySem.W.nsIn K d_WEBS "bow" = some (some u_WEBS_bow))
    (wr_WEBS_bow : readK K 4 u_WEBS_bow = some (.tup [.int 5, .tup [.tup [.int 0, .int 1], .tup [.int 0, .int 2], .tup [.int 1, .int 2], .tup [.int 2, .int 3], .tup [.int 2, .int 4], .tup [.int 3, .int 4]]]))
    (wv_WEBS_ring : PySem.W.nsIn K d_WEBS "ring" = some (some u_WEBS_ring))
    (wr_WEBS_ring : readK K 4 u_WEBS_ring = some (.tup [.int 5, .tup [.tup [.int 0, .int 1], .tup [.int 1, .int 2], .tup [.int 2, .int 3], .tup [.int 3, .int 4], .tup [.int 0, .int 4]]]))
    (wv_WEBS_wheel : PySem.W.nsIn K d_WEBS "wheel" = some (some u_WEBS_wheel))
    (wr_WEBS_wheel : readK K 4 u_WEBS_wheel = some (.tup [.int 5, .tup [.tup [.int 0, .int 1], .tup [.int 1, .int 2], .tup [.int 2, .int 3], .tup [.int 0, .int 3], .tup [.int 0, .int 4], .tup [.int 1, .int 4], .tup [.int 2, .int 4], .tup [.int 3, .int 4]]]))
    (x1_TooMany : oexIn K E_TooMany = true)
    (x2_TooMany : PySem.W.findIn K (.ref E_TooMany) "__setattr__" = some (some (.builtin "object.__setattr__")))
    (x6_TooMany : PySem.W.findIn K (.ref E_TooMany) "__init__" = some (some (.ref f_TooManyddi)))
    (x7_TooMany : PySem.W.typeIn K (.ref f_TooManyddi) = some (.type "function"))
    (xl_TooMany : K.lookup f_TooManyddi = some ⟨oc_TooManyddi, od_TooManyddi, .func (PySem.W.ksFn "__init__" "TooMany.__init__" (defArgs s_TooManyddi) (defBody s_TooManyddi) (defScope s_TooManyddi) .none kV_TooManyddi dc_TooManyddi pm_TooManyddi an_TooManyddi (.ref co_TooManyddi) ct_TooManyddi cc_TooManyddi), sl_TooManyddi⟩)
    (xc_TooMany : K.lookup cc_TooManyddi = some ⟨cl_TooManyddi, cld_TooManyddi, .cell (some (.ref E_TooMany)), csl_TooManyddi⟩)
    (xf_TooMany : codeFileIn K co_TooManyddi l.prog.main.file = true)
    (xt_TooMany : (l.prog.main.scope.names.lookup ("super" : Str)).isSome = false)
    (xs_TooMany : PySem.W.nsIn K mainGlobals "super" = some none)
    (x8_TooMany : PySem.W.mroIn K E_TooMany (.ref E_TooMany) = some true)
    (x9_TooMany : PySem.W.subIn K (.ref E_TooMany) (.type "ValueError") = some true)
    (x10_TooMany : PySem.W.ks_superIn K E_TooMany E_TooMany "__init__" = some (some (.builtin "ValueError.__init__")))
    (x11_TooMany : PySem.W.nsIn K PySem.cStatics "thirdparty.any" = some none)
    (xd_TooMany : PySem.W.codeIn K (.ref co_TooManyddi) "TooMany.__init__" = true)
    (xn_TooMany : PySem.W.findIn K (.ref E_TooMany) "most" = some none)
    (ne__law_is_as__law_is_full_right : P__law_is_as ≠ P__law_is_full_right)
    (ne__law_is_refused__law_is_full_right : P__law_is_refused ≠ P__law_is_full_right)
    (ne__law_is_led_right__law_is_full_right : P__law_is_led_right ≠ P__law_is_full_right)
    (ne__law_is_full_right__law_is_as : P__law_is_full_right ≠ P__law_is_as)
    (ne__law_is_refused__law_is_as : P__law_is_refused ≠ P__law_is_as)
    (ne__law_is_led_right__law_is_as : P__law_is_led_right ≠ P__law_is_as)
    (ne__law_is_full_right__law_is_refused : P__law_is_full_right ≠ P__law_is_refused)
    (ne__law_is_as__law_is_refused : P__law_is_as ≠ P__law_is_refused)
    (ne__law_is_led_right__law_is_refused : P__law_is_led_right ≠ P__law_is_refused)
    (ne__law_is_full_right__law_is_led_right : P__law_is_full_right ≠ P__law_is_led_right)
    (ne__law_is_as__law_is_led_right : P__law_is_as ≠ P__law_is_led_right)
    (ne__law_is_refused__law_is_led_right : P__law_is_refused ≠ P__law_is_led_right)
    (math : ∀ ns : List Int, ns.length ≤ 63 → (∃ μ, F_law [.fl ns] [] = .ok (.bl true) μ) ∧ ∃ μ, F_law [.ref 0] [.lst (ns.map T.int)] = .ok (.bl true) μ) :
    LamX.LawAtS l w K (L2.CX l.prog w) 13 63 "script" mg fa h := by
  have e := hfa.symm.trans (PySem.W.mg_of X G a_law)
  cases e
  have m_NoName : mg "NoName" = some (.ref E_NoName) := PySem.W.mg_of X G e0_NoName
  have K_NoName : ErK K E_NoName := ⟨e5_NoName, e6_NoName, e7_NoName, e3_NoName, e8_NoName, sp1, sp2, e9_NoName⟩
  have m_NoNumber : mg "NoNumber" = some (.ref E_NoNumber) := PySem.W.mg_of X G e0_NoNumber
  have K_NoNumber : ErK K E_NoNumber := ⟨e5_NoNumber, e6_NoNumber, e7_NoNumber, e3_NoNumber, e8_NoNumber, sp1, sp2, e9_NoNumber⟩
  have m_NoWeb : mg "NoWeb" = some (.ref E_NoWeb) := PySem.W.mg_of X G e0_NoWeb
  have K_NoWeb : ErK K E_NoWeb := ⟨e5_NoWeb, e6_NoWeb, e7_NoWeb, e3_NoWeb, e8_NoWeb, sp1, sp2, e9_NoWeb⟩
  have m_TooMany : mg "TooMany" = some (.ref E_TooMany) := PySem.W.mg_of X G e0_TooMany
  have K_TooMany : ErK K E_TooMany := ⟨e5_TooMany, e6_TooMany, e7_TooMany, e3_TooMany, e8_TooMany, sp1, sp2, e9_TooMany⟩
  have T : TX w K mg := {
    b_abs := PySem.W.mg_none_of X G z_abs
    b_all := PySem.W.mg_none_of X G z_all
    b_bool := PySem.W.mg_none_of X G z_bool
    b_dict := PySem.W.mg_none_of X G z_dict
    b_int := PySem.W.mg_none_of X G z_int
    b_isinstance := PySem.W.mg_none_of X G z_isinstance
    b_len := PySem.W.mg_none_of X G z_len
    b_list := PySem.W.mg_none_of X G z_list
    b_range := PySem.W.mg_none_of X G z_range
    b_sorted := PySem.W.mg_none_of X G z_sorted
    b_str := PySem.W.mg_none_of X G z_str
    b_tuple := PySem.W.mg_none_of X G z_tuple
    g_LETTERS := ⟨_, .str "abcdefghijklmnopqrstuvwxyz", PySem.W.mg_of X G g_LETTERS, ⟨_, rfl⟩, fun _ _ _ => rfl⟩
    g_MOST_NAME := ⟨_, .int 8, PySem.W.mg_of X G g_MOST_NAME, ⟨_, rfl⟩, fun _ _ _ => rfl⟩
    g_MOST_NAMES := ⟨_, .int 50, PySem.W.mg_of X G g_MOST_NAMES, ⟨_, rfl⟩, fun _ _ _ => rfl⟩
    g_MOST_PLACES := ⟨_, .int 12, PySem.W.mg_of X G g_MOST_PLACES, ⟨_, rfl⟩, fun _ _ _ => rfl⟩
    g_MOST_TIES := ⟨_, .int 40, PySem.W.mg_of X G g_MOST_TIES, ⟨_, rfl⟩, fun _ _ _ => rfl⟩
    g_MOST_VERSIONS := ⟨_, .int 20, PySem.W.mg_of X G g_MOST_VERSIONS, ⟨_, rfl⟩, fun _ _ _ => rfl⟩
    x_NoName := ⟨_, _, _, _, _, m_NoName, F.excBase_ValueError, e1_NoName, e2_NoName, e3_NoName, e4_NoName⟩
    x_NoNumber := ⟨_, _, _, _, _, m_NoNumber, F.excBase_ValueError, e1_NoNumber, e2_NoNumber, e3_NoNumber, e4_NoNumber⟩
    x_NoWeb := ⟨_, _, _, _, _, m_NoWeb, F.excBase_ValueError, e1_NoWeb, e2_NoWeb, e3_NoWeb, e4_NoWeb⟩
    f_Store_store_stages := ⟨_, PySem.W.mg_of X G aC_Store, ⟨pg_Store, hd_Store, po_Store, sa_Store⟩, nf_Store_store_stages⟩
    w_WEBS := ⟨_, _, _, PySem.W.mg_of X G wa_WEBS, wl_WEBS, wk_WEBS, ws_WEBS, fun q hq => by
      simp only [tab_WEBS, List.mem_cons, List.not_mem_nil, or_false] at hq
      rcases hq with rfl | rfl | rfl
      · obtain ⟨v, h1, h2⟩ := readK_ok 4 _ _ wr_WEBS_bow; exact ⟨v, _, wv_WEBS_bow, h1, h2⟩
      · obtain ⟨v, h1, h2⟩ := readK_ok 4 _ _ wr_WEBS_ring; exact ⟨v, _, wv_WEBS_ring, h1, h2⟩
      · obtain ⟨v, h1, h2⟩ := readK_ok 4 _ _ wr_WEBS_wheel; exact ⟨v, _, wv_WEBS_wheel, h1, h2⟩⟩
    er := fun cn hcn C hC => by
      simp only [errs, List.mem_cons, List.not_mem_nil, or_false] at hcn
      rcases hcn with rfl | rfl | rfl | rfl
      · rw [m_NoName] at hC; cases hC
        refine ⟨K_NoName, fun x hx D hD => ?_⟩
        simp only [errs, List.mem_cons, List.not_mem_nil, or_false] at hx
        rcases hx with rfl | rfl | rfl | rfl
        · rw [m_NoName] at hD; cases hD; exact kt_NoName_NoName
        · rw [m_NoNumber] at hD; cases hD; exact kt_NoName_NoNumber
        · rw [m_NoWeb] at hD; cases hD; exact kt_NoName_NoWeb
        · rw [m_TooMany] at hD; cases hD; exact kt_NoName_TooMany
      · rw [m_NoNumber] at hC; cases hC
        refine ⟨K_NoNumber, fun x hx D hD => ?_⟩
        simp only [errs, List.mem_cons, List.not_mem_nil, or_false] at hx
        rcases hx with rfl | rfl | rfl | rfl
        · rw [m_NoName] at hD; cases hD; exact kt_NoNumber_NoName
        · rw [m_NoNumber] at hD; cases hD; exact kt_NoNumber_NoNumber
        · rw [m_NoWeb] at hD; cases hD; exact kt_NoNumber_NoWeb
        · rw [m_TooMany] at hD; cases hD; exact kt_NoNumber_TooMany
      · rw [m_NoWeb] at hC; cases hC
        refine ⟨K_NoWeb, fun x hx D hD => ?_⟩
        simp only [errs, List.mem_cons, List.not_mem_nil, or_false] at hx
        rcases hx with rfl | rfl | rfl | rfl
        · rw [m_NoName] at hD; cases hD; exact kt_NoWeb_NoName
        · rw [m_NoNumber] at hD; cases hD; exact kt_NoWeb_NoNumber
        · rw [m_NoWeb] at hD; cases hD; exact kt_NoWeb_NoWeb
        · rw [m_TooMany] at hD; cases hD; exact kt_NoWeb_TooMany
      · rw [m_TooMany] at hC; cases hC
        refine ⟨K_TooMany, fun x hx D hD => ?_⟩
        simp only [errs, List.mem_cons, List.not_mem_nil, or_false] at hx
        rcases hx with rfl | rfl | rfl | rfl
        · rw [m_NoName] at hD; cases hD; exact kt_TooMany_NoName
        · rw [m_NoNumber] at hD; cases hD; exact kt_TooMany_NoNumber
        · rw [m_NoWeb] at hD; cases hD; exact kt_TooMany_NoWeb
        · rw [m_TooMany] at hD; cases hD; exact kt_TooMany_TooMany
    te := ⟨Te, PySem.W.mg_of X G aTe, fun cn hcn C hC => by
      simp only [errs, List.mem_cons, List.not_mem_nil, or_false] at hcn
      rcases hcn with rfl | rfl | rfl | rfl
      · rw [m_NoName] at hC; cases hC; exact ex_NoName
      · rw [m_NoNumber] at hC; cases hC; exact ex_NoNumber
      · rw [m_NoWeb] at hC; cases hC; exact ex_NoWeb
      · rw [m_TooMany] at hC; cases hC; exact ex_TooMany⟩
    es := fun cn hcn => by
      simp only [errs, List.mem_cons, List.not_mem_nil, or_false] at hcn
      rcases hcn with rfl | rfl | rfl | rfl
      · exact ⟨_, m_NoName⟩
      · exact ⟨_, m_NoNumber⟩
      · exact ⟨_, m_NoWeb⟩
      · exact ⟨_, m_TooMany⟩ }
  let tb : List (Addr × Str) := [(P__law_is_full_right, (("_law_is_full_right" : Str) ++ (".<locals>." : Str)) ++ ("<lambda>" : Str)), (P__law_is_as, (("_law_is_as" : Str) ++ (".<locals>." : Str)) ++ ("<lambda>" : Str)), (P__law_is_refused, (("_law_is_refused" : Str) ++ (".<locals>." : Str)) ++ ("<lambda>" : Str)), (P__law_is_led_right, (("_law_is_led_right" : Str) ++ (".<locals>." : Str)) ++ ("<lambda>" : Str))]
  have hm__law_is_full_right : (P__law_is_full_right, (("_law_is_full_right" : Str) ++ (".<locals>." : Str)) ++ ("<lambda>" : Str)) ∈ tb := by simp [tb]
  have hu__law_is_full_right : ∀ p ∈ tb, p.1 = P__law_is_full_right → p.2 = (("_law_is_full_right" : Str) ++ (".<locals>." : Str)) ++ ("<lambda>" : Str) := fun p hp e => by
    simp only [tb, List.mem_cons, List.not_mem_nil, or_false] at hp
    rcases hp with rfl | rfl | rfl | rfl
    · rfl
    · exact absurd e ne__law_is_as__law_is_full_right
    · exact absurd e ne__law_is_refused__law_is_full_right
    · exact absurd e ne__law_is_led_right__law_is_full_right
  have hm__law_is_as : (P__law_is_as, (("_law_is_as" : Str) ++ (".<locals>." : Str)) ++ ("<lambda>" : Str)) ∈ tb := by simp [tb]
  have hu__law_is_as : ∀ p ∈ tb, p.1 = P__law_is_as → p.2 = (("_law_is_as" : Str) ++ (".<locals>." : Str)) ++ ("<lambda>" : Str) := fun p hp e => by
    simp only [tb, List.mem_cons, List.not_mem_nil, or_false] at hp
    rcases hp with rfl | rfl | rfl | rfl
    · exact absurd e ne__law_is_full_right__law_is_as
    · rfl
    · exact absurd e ne__law_is_refused__law_is_as
    · exact absurd e ne__law_is_led_right__law_is_as
  have hm__law_is_refused : (P__law_is_refused, (("_law_is_refused" : Str) ++ (".<locals>." : Str)) ++ ("<lambda>" : Str)) ∈ tb := by simp [tb]
  have hu__law_is_refused : ∀ p ∈ tb, p.1 = P__law_is_refused → p.2 = (("_law_is_refused" : Str) ++ (".<locals>." : Str)) ++ ("<lambda>" : Str) := fun p hp e => by
    simp only [tb, List.mem_cons, List.not_mem_nil, or_false] at hp
    rcases hp with rfl | rfl | rfl | rfl
    · exact absurd e ne__law_is_full_right__law_is_refused
    · exact absurd e ne__law_is_as__law_is_refused
    · rfl
    · exact absurd e ne__law_is_led_right__law_is_refused
  have hm__law_is_led_right : (P__law_is_led_right, (("_law_is_led_right" : Str) ++ (".<locals>." : Str)) ++ ("<lambda>" : Str)) ∈ tb := by simp [tb]
  have hu__law_is_led_right : ∀ p ∈ tb, p.1 = P__law_is_led_right → p.2 = (("_law_is_led_right" : Str) ++ (".<locals>." : Str)) ++ ("<lambda>" : Str) := fun p hp e => by
    simp only [tb, List.mem_cons, List.not_mem_nil, or_false] at hp
    rcases hp with rfl | rfl | rfl | rfl
    · exact absurd e ne__law_is_full_right__law_is_led_right
    · exact absurd e ne__law_is_as__law_is_led_right
    · exact absurd e ne__law_is_refused__law_is_led_right
    · rfl
  refine ⟨PySem.W.fnOf "law" "law" (defArgs s_law) (defBody s_law) (defScope s_law) .none kV_law dc_law pm_law an_law cd_law ct_law, [(co__law_is_full_right, P__law_is_full_right), (co__law_is_as, P__law_is_as), (co__law_is_refused, P__law_is_refused), (co__law_is_led_right, P__law_is_led_right)], spT ⟨K, mg, tb⟩ 1 F_law, fun p hp => ?_, fun p hp => ?_, fun p hp => ?_, fun s v => .of_eq rfl, fun H a ns hl _ hT hS => law_start (fun q hq => ?_) hS (math ns hl).1 (math ns hl).2, fun base KB GB TBs => ?_⟩
  · simp only [List.mem_cons, List.not_mem_nil, or_false] at hp
    rcases hp with rfl | rfl | rfl | rfl
    · exact tt__law_is_full_right
    · exact tt__law_is_as
    · exact tt__law_is_refused
    · exact tt__law_is_led_right
  · simp only [List.mem_cons, List.not_mem_nil, or_false] at hp
    rcases hp with rfl | rfl | rfl | rfl
    · exact tn__law_is_full_right
    · exact tn__law_is_as
    · exact tn__law_is_refused
    · exact tn__law_is_led_right
  · simp only [List.mem_cons, List.not_mem_nil, or_false] at hp
    rcases hp with rfl | rfl | rfl | rfl
    · exact PySem.W.codeHd_of_K X th__law_is_full_right
    · exact PySem.W.codeHd_of_K X th__law_is_as
    · exact PySem.W.codeHd_of_K X th__law_is_refused
    · exact PySem.W.codeHd_of_K X th__law_is_led_right
  · simp only [tb, List.mem_cons, List.not_mem_nil, or_false] at hq
    rcases hq with rfl | rfl | rfl | rfl
    · exact hT (co__law_is_full_right, P__law_is_full_right) (by simp)
    · exact hT (co__law_is_as, P__law_is_as) (by simp)
    · exact hT (co__law_is_refused, P__law_is_refused) (by simp)
    · exact hT (co__law_is_led_right, P__law_is_led_right) (by simp)
  · have xdummy : True := trivial
    have X_TooMany : Exc1 l.prog w K mg base "TooMany" "most" 1 := exc1_of m_TooMany x1_TooMany x2_TooMany e3_TooMany e4_TooMany e2_TooMany x6_TooMany x7_TooMany xl_TooMany xc_TooMany xf_TooMany xt_TooMany (PySem.W.mg_none_of X G xs_TooMany) x8_TooMany x9_TooMany x10_TooMany x11_TooMany xd_TooMany xn_TooMany ⟨_, rfl, rfl⟩ rfl rfl rfl rfl rfl (by decide) (by decide) (by decide) (by decide +kernel) rfl rfl (fun _ => rfl) (fun _ => rfl) (fun _ _ => rfl)
    have TB__law_is_full_right := TBs (co__law_is_full_right, P__law_is_full_right) (by simp)
    have TB__law_is_as := TBs (co__law_is_as, P__law_is_as) (by simp)
    have TB__law_is_refused := TBs (co__law_is_refused, P__law_is_refused) (by simp)
    have TB__law_is_led_right := TBs (co__law_is_led_right, P__law_is_led_right) (by simp)
    have TW := fd_mk (st := s__law_word) l__law_word c__law_word k__law_word
    have mw := PySem.W.mg_of X G a__law_word
    have D__law_hand := ok__law_hand (P := l.prog) (base := base) (tb := tb) (fd_mk (st := s__law_hand) l__law_hand c__law_hand k__law_hand) (PySem.W.mg_of X G a__law_hand) T
    have D_Storedd_initdd := ok_Storedd_initdd (P := l.prog) (base := base) (tb := tb) (fd_mk (st := s_Storedd_initdd) l_Storedd_initdd c_Storedd_initdd k_Storedd_initdd) (PySem.W.mg_of X G aC_Store) ⟨mk_Store, a_Storedd_initdd, i_Storedd_initdd, kc_Store⟩ T
    have D_Store_now := ok_Store_now (P := l.prog) (base := base) (tb := tb) (fd_mk (st := s_Store_now) l_Store_now c_Store_now k_Store_now) (PySem.W.mg_of X G aC_Store) ⟨pg_Store, hd_Store, po_Store, sa_Store⟩ ⟨a_Store_now, i_Store_now, k_Store_now⟩ T
    have D_Store_names := ok_Store_names (P := l.prog) (base := base) (tb := tb) (fd_mk (st := s_Store_names) l_Store_names c_Store_names k_Store_names) (PySem.W.mg_of X G aC_Store) ⟨pg_Store, hd_Store, po_Store, sa_Store⟩ ⟨a_Store_names, i_Store_names, k_Store_names⟩ T D_Store_now
    have D_check_most := ok_check_most (P := l.prog) (base := base) (tb := tb) (fd_mk (st := s_check_most) l_check_most c_check_most k_check_most) (PySem.W.mg_of X G a_check_most) T X_TooMany
    have D_is_sized := ok_is_sized (P := l.prog) (base := base) (tb := tb) (fd_mk (st := s_is_sized) l_is_sized c_is_sized k_is_sized) (PySem.W.mg_of X G a_is_sized) T
    have D_is_int := ok_is_int (P := l.prog) (base := base) (tb := tb) (fd_mk (st := s_is_int) l_is_int c_is_int k_is_int) (PySem.W.mg_of X G a_is_int) T
    have D_is_within := ok_is_within (P := l.prog) (base := base) (tb := tb) (fd_mk (st := s_is_within) l_is_within c_is_within k_is_within) (PySem.W.mg_of X G a_is_within) T D_is_int
    have D_is_pair_of := ok_is_pair_of (P := l.prog) (base := base) (tb := tb) (fd_mk (st := s_is_pair_of) l_is_pair_of c_is_pair_of k_is_pair_of) (PySem.W.mg_of X G a_is_pair_of) T D_is_sized D_is_within
    have D_is_web := ok_is_web (P := l.prog) (base := base) (tb := tb) (fd_mk (st := s_is_web) l_is_web c_is_web k_is_web) (PySem.W.mg_of X G a_is_web) T D_is_pair_of D_is_sized D_is_within
    have D_check_web := ok_check_web (P := l.prog) (base := base) (tb := tb) (fd_mk (st := s_check_web) l_check_web c_check_web k_check_web) (PySem.W.mg_of X G a_check_web) T D_is_web
    have D_is_name := ok_is_name (P := l.prog) (base := base) (tb := tb) (fd_mk (st := s_is_name) l_is_name c_is_name k_is_name) (PySem.W.mg_of X G a_is_name) T
    have D_Store_put := ok_Store_put (P := l.prog) (base := base) (tb := tb) (fd_mk (st := s_Store_put) l_Store_put c_Store_put k_Store_put) (PySem.W.mg_of X G aC_Store) ⟨pg_Store, hd_Store, po_Store, sa_Store⟩ ⟨a_Store_put, i_Store_put, k_Store_put⟩ T D_Store_now D_check_most D_check_web D_is_name
    have D_Store_check_there := ok_Store_check_there (P := l.prog) (base := base) (tb := tb) (fd_mk (st := s_Store_check_there) l_Store_check_there c_Store_check_there k_Store_check_there) (PySem.W.mg_of X G aC_Store) ⟨pg_Store, hd_Store, po_Store, sa_Store⟩ ⟨a_Store_check_there, i_Store_check_there, k_Store_check_there⟩ T D_Store_now D_is_name
    have D_Store_take := ok_Store_take (P := l.prog) (base := base) (tb := tb) (fd_mk (st := s_Store_take) l_Store_take c_Store_take k_Store_take) (PySem.W.mg_of X G aC_Store) ⟨pg_Store, hd_Store, po_Store, sa_Store⟩ ⟨a_Store_take, i_Store_take, k_Store_take⟩ T D_Store_check_there D_Store_now
    have D__law_draw := ok__law_draw (P := l.prog) (base := base) (tb := tb) (fd_mk (st := s__law_draw) l__law_draw c__law_draw k__law_draw) (PySem.W.mg_of X G a__law_draw) T
    have D__law_some := ok__law_some (P := l.prog) (base := base) (tb := tb) (fd_mk (st := s__law_some) l__law_some c__law_some k__law_some) (PySem.W.mg_of X G a__law_some) T D__law_draw
    have D_check_known := ok_check_known (P := l.prog) (base := base) (tb := tb) (fd_mk (st := s_check_known) l_check_known c_check_known k_check_known) (PySem.W.mg_of X G a_check_known) T
    have D_known_web := ok_known_web (P := l.prog) (base := base) (tb := tb) (fd_mk (st := s_known_web) l_known_web c_known_web k_known_web) (PySem.W.mg_of X G a_known_web) T D_check_known
    have D__law_is_full_right := ok__law_is_full_right (P := l.prog) (base := base) (tb := tb) (fd_mk (st := s__law_is_full_right) l__law_is_full_right c__law_is_full_right k__law_is_full_right) (PySem.W.mg_of X G a__law_is_full_right) T D_Storedd_initdd D_Store_names D_Store_put D_Store_take D__law_some D_known_web rfl TW mw TB__law_is_full_right hm__law_is_full_right hu__law_is_full_right
    have D_Store_drop := ok_Store_drop (P := l.prog) (base := base) (tb := tb) (fd_mk (st := s_Store_drop) l_Store_drop c_Store_drop k_Store_drop) (PySem.W.mg_of X G aC_Store) ⟨pg_Store, hd_Store, po_Store, sa_Store⟩ ⟨a_Store_drop, i_Store_drop, k_Store_drop⟩ T D_Store_check_there D_Store_now
    have D_Store_version := ok_Store_version (P := l.prog) (base := base) (tb := tb) (fd_mk (st := s_Store_version) l_Store_version c_Store_version k_Store_version) (PySem.W.mg_of X G aC_Store) ⟨pg_Store, hd_Store, po_Store, sa_Store⟩ ⟨a_Store_version, i_Store_version, k_Store_version⟩ T D_Store_check_there D_Store_now D_is_within
    have D__law_is_as := ok__law_is_as (P := l.prog) (base := base) (tb := tb) (fd_mk (st := s__law_is_as) l__law_is_as c__law_is_as k__law_is_as) (PySem.W.mg_of X G a__law_is_as) T D_Store_names D_Store_take D_Store_version rfl TW mw TB__law_is_as hm__law_is_as hu__law_is_as
    have D__law_is_refused := ok__law_is_refused (P := l.prog) (base := base) (tb := tb) (fd_mk (st := s__law_is_refused) l__law_is_refused c__law_is_refused k__law_is_refused) (PySem.W.mg_of X G a__law_is_refused) T D_Store_drop D_Store_put D_Store_take D_Store_version D__law_is_as D__law_some rfl TW mw TB__law_is_refused hm__law_is_refused hu__law_is_refused
    have D__law_web := ok__law_web (P := l.prog) (base := base) (tb := tb) (fd_mk (st := s__law_web) l__law_web c__law_web k__law_web) (PySem.W.mg_of X G a__law_web) T D__law_draw
    have D__law_is_led_right := ok__law_is_led_right (P := l.prog) (base := base) (tb := tb) (fd_mk (st := s__law_is_led_right) l__law_is_led_right c__law_is_led_right k__law_is_led_right) (PySem.W.mg_of X G a__law_is_led_right) T D_Storedd_initdd D_Store_drop D_Store_put D_Store_take D__law_draw D__law_is_as D__law_is_refused D__law_some D__law_web rfl TW mw TB__law_is_led_right hm__law_is_led_right hu__law_is_led_right
    exact fd_okE (k := 12) l_law c_law sc_law (d := d_law) fun A outer s H E hr => (ss_cons (s_par 1 2 rfl sc_law.nd (e_call D__law_hand (hr.mono (by decide)) (takes_of rfl rfl rfl rfl) (a_cons (e_var 0) a_nil)) (e_new (l_lst (m_cons e_str (m_cons e_str (m_cons e_str (m_cons e_str m_nil)))))))
    (ss_cons (s_for (passes_of rfl) rfl (i_range1 T.b_range e_int) (g_name 3 sc_law.nd) (ss_one (s_if (t_not (t_val (e_call D__law_is_led_right (hr.mono (by decide)) (takes_of rfl rfl rfl rfl) (a_cons (e_var 1) (a_cons (e_var 2) a_nil))))) (ss_one (s_ret e_bl)) ss_nil)))
    (ss_one (s_ret (e_call D__law_is_full_right (hr.mono (by decide)) (takes_of rfl rfl rfl rfl) (a_cons (e_var 1) a_nil))))))
end K78
set_option linter.all false
set_option maxRecDepth 100000
set_option maxHeartbeats 1000000
namespace K78
open PySem PySem.Spec PyProof.Rows L2 TL
/-! ### webs as data -/
abbrev Web := Int × List (Int × Int)
def pairT (p : Int × Int) : T := .tup [.int p.1, .int p.2]
def webT (w : Web) : T := .tup [.int w.1, .tup (w.2.map pairT)]
def pairD (p : Int × Int) : PyData := .tuple [.int p.1, .int p.2]
def webD (w : Web) : PyData := .tuple [.int w.1, .tuple (w.2.map pairD)]
theorem toDWs_map {α : Type} {f : Nat → Option PyData} {g : α → T} {d : α → PyData} (h : ∀ a, toDW f (g a) = some (d a)) : ∀ l : List α, toDWs f (l.map g) = some (l.map d)
  | [] => rfl
  | a :: r => by simp [toDWs, h a, toDWs_map h r]
theorem toDW_pair {f : Nat → Option PyData} (p : Int × Int) : toDW f (pairT p) = some (pairD p) := by simp [pairT, pairD, toDW, toDWs]
theorem toDW_web {f : Nat → Option PyData} (w : Web) : toDW f (webT w) = some (webD w) := by
  simp [webT, webD, toDW, toDWs, toDWs_map (f := f) toDW_pair]
theorem canAll_map {α : Type} {d : α → PyData} : ∀ l : List α, (∀ a ∈ l, (d a).canLay0 = true) → PyData.canLayAll0 (l.map d) = true
  | [], _ => by simp [PyData.canLayAll0]
  | a :: r, h => by simp [PyData.canLayAll0, h a (by simp), canAll_map r fun b hb => h b (by simp [hb])]
theorem depthAll_map {α : Type} {d : α → PyData} {k : Nat} (h : ∀ a, (d a).depth ≤ k) : ∀ l : List α, PyData.depthAll (l.map d) ≤ k
  | [] => by simp [PyData.depthAll]
  | a :: r => by simp only [List.map_cons, PyData.depthAll]; exact Nat.max_le.mpr ⟨h a, depthAll_map h r⟩
theorem can_web (w : Web) : (webD w).canLay0 = true := by
  have := canAll_map (d := pairD) w.2 fun p _ => by simp [pairD, PyData.canLay0, PyData.canLayAll0]
  simp [webD, PyData.canLay0, PyData.canLayAll0, this]
theorem depth_pair (p : Int × Int) : (pairD p).depth ≤ 1 := by simp [pairD, PyData.depth, PyData.depthAll]
theorem depth_web (w : Web) : (webD w).depth ≤ 3 := by
  have := depthAll_map (k := 1) depth_pair w.2
  simp only [webD, PyData.depth, PyData.depthAll]
  omega
theorem shaped_of {d : PyData} (h : d.canLay0 = true) (h2 : d.depth ≤ 64) : SeqAt.shaped d = true := by unfold SeqAt.shaped; simp [h, h2]
/-- the same data compare as the same -/
theorem eqT_same {x y : T} {μ : Mem} {d : PyData} (hx : toD μ x = some d) (hy : toD μ y = some d) (h : d.canLay0 = true) (h2 : d.depth ≤ 64) (hn : (∃ ts, x = .tup ts) ∨ ∃ k, x = .ref k) : eqT x y μ = .ok (.bl true) μ := by
  have e : eqT x y μ = (match toD μ x, toD μ y with
    | some d, some e => if SeqAt.shaped d = true ∧ SeqAt.shaped e = true then Res.ok (.bl (PyData.eqv d e)) μ else .bad
    | _, _ => .bad) := by
    rcases hn with ⟨ts, rfl⟩ | ⟨k, rfl⟩ <;> (unfold TL.eqT; rfl)
  rw [e, hx, hy]
  dsimp only
  rw [if_pos ⟨shaped_of h h2, shaped_of h h2⟩, PySem.SeqAt.eqv_refl d h]
theorem neT_same {x y : T} {μ : Mem} {d : PyData} (hx : toD μ x = some d) (hy : toD μ y = some d) (h : d.canLay0 = true) (h2 : d.depth ≤ 64) (hn : (∃ ts, x = .tup ts) ∨ ∃ k, x = .ref k) : neT x y μ = .ok (.bl false) μ := by
  rw [neT_e, eqT_same hx hy h h2 hn]; rfl
theorem neT_web (w : Web) (μ : Mem) : neT (webT w) (webT w) μ = .ok (.bl false) μ := neT_same (toDW_web w) (toDW_web w) (can_web w) (Nat.le_trans (depth_web w) (by decide)) (.inl ⟨_, rfl⟩)
theorem neT_webs {i j : Nat} {ws : List Web} {μ : Mem} (hi : μ[i]? = some (.lst (ws.map webT))) (hj : μ[j]? = some (.lst (ws.map webT))) : neT (.ref i) (.ref j) μ = .ok (.bl false) μ := by
  have q : ∀ k, μ[k]? = some (.lst (ws.map webT)) → toD μ (.ref k) = some (.list (ws.map webD)) := fun k hk => by
    unfold toD toDW refD
    rw [hk]
    dsimp only
    rw [toDWs_map (d := webD) toDW_web]
    rfl
  refine neT_same (q i hi) (q j hj) ?_ ?_ (.inr ⟨_, rfl⟩)
  · simp only [PyData.canLay0]
    exact canAll_map ws fun w _ => can_web w
  · have := depthAll_map (k := 3) depth_web ws
    simp only [PyData.depth]; omega
def strD (x : Str) : PyData := .str x
theorem neT_strs {xs : List Str} {μ : Mem} (h : ∀ x ∈ xs, PyData.strOk x = true) : neT (.tup (xs.map T.str)) (.tup (xs.map T.str)) μ = .ok (.bl false) μ := by
  have q : toD μ (.tup (xs.map T.str)) = some (.tuple (xs.map PyData.str)) := by
    unfold toD toDW
    rw [toDWs_map (d := PyData.str) fun x => rfl]
    rfl
  refine neT_same q q ?_ ?_ (.inl ⟨_, rfl⟩)
  · simp only [PyData.canLay0]
    exact canAll_map xs fun x hx => by simpa [PyData.canLay0] using h x hx
  · have := depthAll_map (k := 0) (d := PyData.str) (fun x => by simp [PyData.depth]) xs
    simp only [PyData.depth]; omega
/-! ### what stays -/
/-- every object but those of S is as it was -/
def Keep (S : List Nat) (μ μ' : Mem) : Prop := μ.length ≤ μ'.length ∧ ∀ i, i < μ.length → i ∉ S → μ'[i]? = μ[i]?
theorem Keep.refl (S : List Nat) (μ : Mem) : Keep S μ μ := ⟨Nat.le_refl _, fun _ _ _ => rfl⟩
theorem Keep.trans {S S' : List Nat} {μ μ1 μ2 : Mem} (a : Keep S μ μ1) (b : Keep S' μ1 μ2) (h : ∀ i ∈ S', i < μ.length → i ∈ S) : Keep S μ μ2 :=
  ⟨Nat.le_trans a.1 b.1, fun i hi hn => (b.2 i (Nat.lt_of_lt_of_le hi a.1) fun z => hn (h i z hi)).trans (a.2 i hi hn)⟩
theorem Keep.at {S : List Nat} {μ μ' : Mem} (k : Keep S μ μ') {i : Nat} {o : MO} (h : μ[i]? = some o) (hn : i ∉ S) : μ'[i]? = some o := by
  rw [k.2 i (List.getElem?_eq_some_iff.mp h).1 hn]; exact h
theorem Keep.mono {S S' : List Nat} {μ μ' : Mem} (k : Keep S μ μ') (h : ∀ i ∈ S, i ∈ S') : Keep S' μ μ' := ⟨k.1, fun i hi hn => k.2 i hi fun z => hn (h i z)⟩
theorem keep_app (S : List Nat) (μ g : Mem) : Keep S μ (μ ++ g) := ⟨by simp, fun i hi _ => List.getElem?_append_left hi⟩
theorem keep_set {μ : Mem} {k : Nat} {o : MO} {S : List Nat} (h : k ∈ S) : Keep S μ (μ.set k o) := ⟨by simp, fun i hi hn => List.getElem?_set_ne (fun z => hn (by rw [← z]; exact h))⟩
/-! ### the hand -/
/-- the hand at h: its cells, its numbers -/
def Hand (μ : Mem) (h hc : Nat) : Prop := ∃ (cs : List Int) (j v s c : Int), hc ≠ h ∧ μ[h]? = some (.lst [.ref hc, .int j, .int v, .int s, .int c]) ∧ μ[hc]? = some (.lst (cs.map T.int)) ∧ 0 ≤ j ∧ 0 ≤ v ∧ ∀ x ∈ cs, 0 ≤ x
theorem Hand.keep {μ μ' : Mem} {h hc : Nat} {S : List Nat} (H : Hand μ h hc) (k : Keep S μ μ') (hn : h ∉ S) (hl : hc ∉ S) : Hand μ' h hc := by
  obtain ⟨cs, j, v, s, c, n, h1, h2, r⟩ := H
  exact ⟨cs, j, v, s, c, n, k.at h1 hn, k.at h2 hl, r⟩
theorem Hand.lt {μ : Mem} {h hc : Nat} (H : Hand μ h hc) : h < μ.length ∧ hc < μ.length := by
  obtain ⟨cs, j, v, s, c, n, h1, h2, r⟩ := H
  exact ⟨(List.getElem?_eq_some_iff.mp h1).1, (List.getElem?_eq_some_iff.mp h2).1⟩
theorem set_at {μ : Mem} {k : Nat} {o o' : MO} (h : μ[k]? = some o) : (μ.set k o')[k]? = some o' := List.getElem?_set_self (List.getElem?_eq_some_iff.mp h).1
theorem set_ne {μ : Mem} {k i : Nat} {o' : MO} (h : k ≠ i) : (μ.set k o')[i]? = μ[i]? := List.getElem?_set_ne h
theorem cmul_r {i j : Int} (h : -(2 ^ 64) < j ∧ j < 2 ^ 64) : CMul i j := .inr h
theorem cmul_l {i j : Int} (h : -(2 ^ 64) < i ∧ i < 2 ^ 64) : CMul i j := .inl h
theorem draw_spec {μ : Mem} {h hc : Nat} {many : Int} (H : Hand μ h hc) (hm : 0 < many) (hm2 : many < 1073741824) : ∃ r μ', F__law_draw [.ref h, .int many] μ = .ok (.int r) μ' ∧ 0 ≤ r ∧ r < many ∧ Keep [h] μ μ' ∧ Hand μ' h hc ∧ μ'.length = μ.length := by
  obtain ⟨cs, j, v, s, c, n, h1, h2, h3, h4, h5⟩ := H
  -- behind the first if
  have hl := (List.getElem?_eq_some_iff.mp h1).1
  have step1 : ∃ (j' v' s' : Int) (o : Option T), 0 ≤ j' ∧ 0 ≤ v' ∧ (sIf (dAnd (d2 TL.eqT (d2 subT' (dVar 0) (dC (.int 2))) (dC (.int 0))) (d2 ltT (d2 subT' (dVar 0) (dC (.int 1))) (dCall lenC (aCons (d2 subT' (dVar 0) (dC (.int 0))) aNil)))) (sSeq (sSet 2 (d2 subT' (d2 subT' (dVar 0) (dC (.int 0))) (d2 subT' (dVar 0) (dC (.int 1)))))
    (sSeq (sSub (dVar 0) (dC (.int 1)) (d2 addT (d2 subT' (dVar 0) (dC (.int 1))) (dC (.int 1))))
    (sSeq (sSub (dVar 0) (dC (.int 3)) (d2 modT (dCall intC (aCons (d2 addT (d2 addT (d2 mulT (d2 subT' (dVar 0) (dC (.int 3))) (dC (.int 69621))) (d2 mulT (dVar 2) (dC (.int 40692)))) (dC (.int 41))) aNil)) (dC (.int 2147483629))))
    (sSub (dVar 0) (dC (.int 2)) (dIfE (d2 geT (dVar 2) (d2 powT (dC (.int 10)) (dC (.int 18)))) (dVar 2) (dC (.int 0))))))) sNil) [some (.ref h), some (.int many), none, none, none] μ
      = .nx [some (.ref h), some (.int many), o, none, none] (μ.set h (.lst [.ref hc, .int j', .int v', .int s', .int c])) := by
    have a0 : subT' (.ref h) (.int 0) μ = .ok (.ref hc) μ := subL h1 rfl
    have a1 : subT' (.ref h) (.int 1) μ = .ok (.int j) μ := subL h1 rfl
    have a2 : subT' (.ref h) (.int 2) μ = .ok (.int v) μ := subL h1 rfl
    have a3 : lenC [.ref hc] μ = .ok (.int cs.length) μ := by rw [lenC_l h2, List.length_map]
    have self : μ.set h (.lst [.ref hc, .int j, .int v, .int s, .int c]) = μ := by
      apply List.ext_getElem?
      intro i
      by_cases q : h = i
      · subst q; rw [set_at h1, h1]
      · rw [set_ne q]
    by_cases q : v = 0 ∧ j < cs.length
    · obtain ⟨rfl, q⟩ := q
      have hj : j.toNat < cs.length := by omega
      have e1 : L2.atI (cs.map T.int) j = some (.int cs[j.toNat]) := by
        unfold L2.atI ixN
        rw [if_pos h3, List.length_map, if_pos q]
        simp [hj]
      have a4 : subT' (.ref hc) (.int j) μ = .ok (.int cs[j.toNat]) μ := subL h2 e1
      have hnn := h5 cs[j.toNat] (List.getElem_mem hj)
      refine ⟨j + 1, if cs[j.toNat] ≥ 10 ^ 18 then cs[j.toNat] else 0, (s * 69621 + cs[j.toNat] * 40692 + 41) % 2147483629, some (.int cs[j.toNat]), by omega, by split <;> omega, ?_⟩
      have b1 : ∀ (y : T), setT (.ref h) (.int 1) y μ = some (μ.set h (.lst [.ref hc, y, .int 0, .int s, .int c])) := fun y => setL (n := 1) h1 rfl
      have k1 : ∀ y, (μ.set h (.lst [.ref hc, .int y, .int 0, .int s, .int c]))[h]? = some (.lst [.ref hc, .int y, .int 0, .int s, .int c]) := fun y => set_at h1
      simp only [sIf_e, dAnd_e, d2_e, dVar_0, dVar_s, dC_e, bind_ok, a2, eqT_i, andK_e, decide_true, if_true, a1, dCall_e, aCons_e, aNil_e, a0, a3, ltT_i, q, toS_ok, sIfK_e, sSeq_e, sSet_e, a4, seq_nx, List.set_cons_zero, List.set_cons_succ, sSub_e, addT_i, b1]
      simp only [subL (k1 _) (i := 3) (t := .int s) rfl, bind_ok, mulT_i (cmul_r (j := 69621) (by decide)), mulT_i (cmul_r (j := 40692) (by decide)), addT_i, intC_i, modT_i (show (0 : Int) < 2147483629 by decide), toS_ok, setL (k1 _) (i := 3) (n := 3) rfl, seq_nx, dVar_s, dVar_0, List.set_cons_zero, List.set_cons_succ, dIfE_e, d2_e, dC_e, powT_i (show CPow 10 18 by decide), geT_i, ifK_e, aCons_e, aNil_e, dCall_e, List.set_set]
      have k2 : ∀ y z, (μ.set h (.lst [.ref hc, .int y, .int 0, .int z, .int c]))[h]? = some (.lst [.ref hc, .int y, .int 0, .int z, .int c]) := fun y z => set_at h1
      by_cases g : cs[j.toNat] ≥ 10 ^ 18
      · have g' : cs[j.toNat] ≥ 10 ^ (18 : Int).toNat := g
        simp only [sSub_e, dIfE_e, d2_e, dC_e, powT_i (show CPow 10 18 by decide), geT_i, ifK_e, g', decide_true, if_true, dVar_s, dVar_0, toS_ok, setL (k2 _ _) (i := 2) (n := 2) rfl, List.set_cons_zero, List.set_cons_succ, List.set_set, bind_ok]
        rw [if_pos g]
      · have g' : ¬ cs[j.toNat] ≥ 10 ^ (18 : Int).toNat := g
        simp only [sSub_e, dIfE_e, d2_e, powT_i (show CPow 10 18 by decide), geT_i, ifK_e, g', decide_false, Bool.false_eq_true, if_false, dVar_s, dVar_0, dC_e, toS_ok, setL (k2 _ _) (i := 2) (n := 2) rfl, List.set_cons_zero, List.set_cons_succ, List.set_set, bind_ok]
        rw [if_neg g]
    · refine ⟨j, v, s, none, h3, h4, ?_⟩
      rw [self]
      simp only [sIf_e, dAnd_e, d2_e, dVar_0, dC_e, bind_ok, a2, eqT_i, andK_e]
      by_cases q1 : v = 0
      · have q2 : ¬ j < cs.length := fun z => q ⟨q1, z⟩
        simp only [q1, decide_true, if_true, d2_e, dVar_0, dC_e, bind_ok, a1, dCall_e, aCons_e, aNil_e, a0, a3, ltT_i, q2, decide_false, toS_ok, sIfK_e, Bool.false_eq_true, if_false, sNil_e]
      · simp only [q1, decide_false, Bool.false_eq_true, if_false, toS_ok, sIfK_e, sNil_e]
  obtain ⟨j', v', s', o, g1, g2, g3⟩ := step1
  have hc2 : (μ.set h (.lst [.ref hc, .int j', .int v', .int s', .int c]))[hc]? = some (.lst (cs.map T.int)) := by rw [set_ne n.symm]; exact h2
  have kk : ∀ x y z w, (μ.set h (.lst [.ref hc, .int x, .int y, .int z, .int w]))[h]? = some (.lst [.ref hc, .int x, .int y, .int z, .int w]) := fun x y z w => set_at h1
  have fin : ∀ x y z w, 0 ≤ x → 0 ≤ y → Keep [h] μ (μ.set h (.lst [.ref hc, .int x, .int y, .int z, .int w])) ∧ Hand (μ.set h (.lst [.ref hc, .int x, .int y, .int z, .int w])) h hc ∧ (μ.set h (.lst [.ref hc, .int x, .int y, .int z, .int w])).length = μ.length := fun x y z w hx hy =>
    ⟨keep_set (by simp), ⟨cs, x, y, z, w, n, kk x y z w, by rw [set_ne n.symm]; exact h2, hx, hy, h5⟩, by simp⟩
  have m0 := Int.ne_of_gt hm
  by_cases q : 0 < v'
  · refine ⟨v' % many, μ.set h (.lst [.ref hc, .int j', .int (v' / many), .int s', .int c]), ?_, Int.emod_nonneg _ m0, Int.emod_lt_of_pos _ hm, fin _ _ _ _ g1 (Int.ediv_nonneg g2 (Int.le_of_lt hm))⟩
    unfold F__law_draw runF d__law_draw
    show (sSeq _ _ [some (.ref h), some (.int many), none, none, none] μ).toR = _
    rw [sSeq_e, g3, seq_nx]
    have q' : v' > 0 := q
    simp only [sSeq_e, sIf_e, d2_e, dVar_0, dVar_s, dC_e, bind_ok, subL (kk j' v' s' c) (i := 2) (t := .int v') rfl, gtT_i, q', decide_true, toS_ok, sIfK_e, if_true, sSet_e, dCall_e, aCons_e, aNil_e, intC_i, modT_i hm, List.set_cons_zero, List.set_cons_succ, seq_nx, sSub_e, fdivT_i (show CDiv v' many from ⟨hm, hm2⟩), setL (kk j' v' s' c) (i := 2) (n := 2) rfl, List.set_set, sRet_e, seq_rt, toR_rt]
  · have q' : ¬ v' > 0 := q
    have e0 : v' = 0 := by omega
    subst e0
    generalize hN1 : (s' + 7927 * (c + 1)) * 48271 % 2147483647 = N1
    have r1 : 0 ≤ N1 ∧ N1 < 2147483647 := by rw [← hN1]; exact ⟨Int.emod_nonneg _ (by decide), Int.emod_lt_of_pos _ (by decide)⟩
    generalize hN2 : N1 * (N1 / 1013 + 69621) % 2147483647 = N2
    have r2 : 0 ≤ N2 ∧ N2 < 2147483647 := by rw [← hN2]; exact ⟨Int.emod_nonneg _ (by decide), Int.emod_lt_of_pos _ (by decide)⟩
    generalize hN3 : N2 * (N2 / 2017 + 40014) % 2147483563 = N3
    refine ⟨N3 / 16 % many, μ.set h (.lst [.ref hc, .int j', .int 0, .int s', .int (c + 1)]), ?_, Int.emod_nonneg _ m0, Int.emod_lt_of_pos _ hm, fin _ _ _ _ g1 (Int.le_refl 0)⟩
    unfold F__law_draw runF d__law_draw
    show (sSeq _ _ [some (.ref h), some (.int many), none, none, none] μ).toR = _
    rw [sSeq_e, g3, seq_nx]
    have c1 : ∀ X : Int, 0 ≤ N1 → CMul N1 X := fun X _ => .inl ⟨by omega, by omega⟩
    have c2 : ∀ X : Int, CMul N2 X := fun X => .inl ⟨by omega, by omega⟩
    simp only [sSeq_e, sIf_e, d2_e, dVar_0, dVar_s, dC_e, bind_ok, subL (kk j' 0 s' c) (i := 2) (t := .int 0) rfl, gtT_i, q', decide_false, toS_ok, sIfK_e, Bool.false_eq_true, if_false, sNil_e, seq_nx, sSub_e, subL (kk j' 0 s' c) (i := 4) (t := .int c) rfl, addT_i, setL (kk j' 0 s' c) (i := 4) (n := 4) rfl, List.set_cons_zero, List.set_cons_succ, List.set_set]
    simp only [sSeq_e, sSet_e, d2_e, dCall_e, aCons_e, aNil_e, dVar_0, dVar_s, dC_e, bind_ok, subL (kk j' 0 s' (c + 1)) (i := 3) (t := .int s') rfl, subL (kk j' 0 s' (c + 1)) (i := 4) (t := .int (c + 1)) rfl, mulT_i (cmul_l (i := 7927) (by decide)), addT_i, intC_i, mulT_i (cmul_r (j := 48271) (by decide)), modT_i (show (0 : Int) < 2147483647 by decide), hN1, toS_ok, List.set_cons_zero, List.set_cons_succ, seq_nx, fdivT_i (show CDiv N1 1013 from ⟨by decide, by decide⟩), mulT_i (c1 _ r1.1), hN2, fdivT_i (show CDiv N2 2017 from ⟨by decide, by decide⟩), mulT_i (c2 _), modT_i (show (0 : Int) < 2147483563 by decide), hN3, sRet_e, fdivT_i (show CDiv N3 16 from ⟨by decide, by decide⟩), modT_i hm, toR_rt]
end K78
set_option linter.all false
set_option maxRecDepth 100000
set_option maxHeartbeats 1000000
namespace K78
open PySem PySem.Spec PyProof.Rows L2 TL
theorem chain_e {k k' : T → T → Mem → Res} {da db dc : EM} {σ : List (Option T)} {μ : Mem} {x y z : T} (ha : da σ μ = .ok x μ) (hb : db σ μ = .ok y μ) (hc : dc σ μ = .ok z μ) (h : k x y μ = .ok (.bl true) μ) (h' : k' y z μ = .ok (.bl true) μ) : dChain k k' da db dc σ μ = .ok (.bl true) μ := by
  unfold dChain; rw [ha, bind_ok, hb, bind_ok, h, bind_ok]; dsimp only; rw [hc, bind_ok, h']
theorem within_t {i a b : Int} {μ : Mem} (h : a ≤ i) (h' : i ≤ b) : F_is_within [.int i, .int a, .int b] μ = .ok (.bl true) μ := by
  have e : F_is_int [.int i] μ = .ok (.bl true) μ := rfl
  have c := chain_e (k := leT) (k' := leT) (da := dVar 1) (db := dVar 0) (dc := dVar 2) (σ := [some (.int i), some (.int a), some (.int b)]) (μ := μ) (x := .int a) (y := .int i) (z := .int b) rfl rfl rfl (by simp [h]) (by simp [h'])
  show (d_is_within [some (.int i), some (.int a), some (.int b)] μ).toR = _
  simp [d_is_within, e, c]
theorem sized_t {ts : List T} {a b : Int} {μ : Mem} (h : a ≤ ts.length) (h' : (ts.length : Int) ≤ b) : F_is_sized [.tup ts, .int a, .int b] μ = .ok (.bl true) μ := by
  have c := chain_e (k := leT) (k' := leT) (da := dVar 1) (db := dCall lenC (aCons (dVar 0) aNil)) (dc := dVar 2) (σ := [some (.tup ts), some (.int a), some (.int b)]) (μ := μ) (x := .int a) (y := .int ts.length) (z := .int b) rfl rfl rfl (by simp [h]) (by simp [h'])
  have e : isiT "tuple" (.tup ts) μ = .ok (.bl true) μ := rfl
  show (d_is_sized [some (.tup ts), some (.int a), some (.int b)] μ).toR = _
  simp [d_is_sized, e, c]
theorem pair_t {m : Int} {p : Int × Int} {μ : Mem} (h : 0 ≤ p.1 ∧ p.1 < p.2 ∧ p.2 < m) : F_is_pair_of [.int m, pairT p] μ = .ok (.bl true) μ := by
  obtain ⟨h1, h2, h3⟩ := h
  have e1 : F_is_sized [pairT p, .int 2, .int 2] μ = .ok (.bl true) μ := sized_t (by simp) (by simp)
  have e2 : F_is_within [.int p.1, .int 0, .int (m - 1)] μ = .ok (.bl true) μ := within_t h1 (by omega)
  have e3 : F_is_within [.int p.2, .int 0, .int (m - 1)] μ = .ok (.bl true) μ := within_t (by omega) (by omega)
  have a0 : subT' (pairT p) (.int 0) μ = .ok (.int p.1) μ := subTp rfl
  have a1 : subT' (pairT p) (.int 1) μ = .ok (.int p.2) μ := subTp rfl
  show (d_is_pair_of [some (.int m), some (pairT p)] μ).toR = _
  simp [d_is_pair_of, e1, e2, e3, a0, a1, h2]
/-- a web -/
def WebOk (w : Web) : Prop := 1 ≤ w.1 ∧ w.1 ≤ 12 ∧ w.2.length ≤ 40 ∧ ∀ p ∈ w.2, 0 ≤ p.1 ∧ p.1 < p.2 ∧ p.2 < w.1
theorem lc_all {ws : List (Nat × List T)} {i : Nat} {el : EM} {σ : List (Option T)} {μ : Mem} {f : T → T} (hw : watched ws μ = true) : ∀ (xs acc : List T), (∀ x ∈ xs, el (σ.set i (some x)) μ = .ok (f x) μ) → acc.length + xs.length ≤ 1000 → lcGo ws (.nm i) none el σ xs acc μ = .ok (acc ++ xs.map f) μ
  | [], acc, _, _ => by unfold lcGo; rw [if_pos hw]; simp
  | x :: r, acc, h, hz => by
    unfold lcGo
    rw [if_pos hw]
    show ((el (σ.set i (some x)) μ).toL _) = _
    rw [h x (by simp), toL_ok]
    rw [if_pos (szl (by simp at hz; omega))]
    rw [lc_all hw r (acc ++ [f x]) (fun y hy => h y (by simp [hy])) (by simp at hz ⊢; omega)]
    simp
theorem unB_true : ∀ n : Nat, unB (List.replicate n (T.bl true)) = some (List.replicate n true)
  | 0 => rfl
  | n + 1 => by simp [List.replicate_succ, unB, unB_true n]
theorem web_t {w : Web} {μ : Mem} (h : WebOk w) : F_is_web [webT w] μ = .ok (.bl true) μ := by
  obtain ⟨h1, h2, h3, h4⟩ := h
  have e1 : F_is_sized [webT w, .int 2, .int 2] μ = .ok (.bl true) μ := sized_t (by simp) (by simp)
  have e2 : F_is_within [.int w.1, .int 1, .int 12] μ = .ok (.bl true) μ := within_t h1 h2
  have e3 : F_is_sized [.tup (w.2.map pairT), .int 0, .int 40] μ = .ok (.bl true) μ := sized_t (by omega) (by simp; omega)
  have a0 : subT' (webT w) (.int 0) μ = .ok (.int w.1) μ := subTp rfl
  have a1 : subT' (webT w) (.int 1) μ = .ok (.tup (w.2.map pairT)) μ := subTp rfl
  have lc : dLc (dIter (d2 subT' (dVar 0) (dC (.int 1)))) (.nm 1) [1] none (dFn 2 F_is_pair_of (aCons (d2 subT' (dVar 0) (dC (.int 0))) (aCons (dVar 1) aNil))) [some (webT w), none] μ = .ok (List.replicate w.2.length (T.bl true)) μ := by
    have er : ([] : List T) ++ (w.2.map pairT).map (fun _ => T.bl true) = List.replicate w.2.length (T.bl true) := by
      rw [List.nil_append, List.map_const', List.length_map]
    unfold dLc dIter
    simp only [d2_e, dVar_0, dC_e, bind_ok, a1]
    have q := lc_all (ws := []) (i := 1) (el := dFn 2 F_is_pair_of (aCons (d2 subT' (dVar 0) (dC (.int 0))) (aCons (dVar 1) aNil))) (σ := [some (webT w), none]) (μ := μ) (f := fun _ => T.bl true) rfl (w.2.map pairT) [] (fun x hx => by
      obtain ⟨p, hp, rfl⟩ := List.mem_map.mp hx
      have e := pair_t (m := w.1) (μ := μ) (h4 p hp)
      simp [a0, e]) (by simp; omega)
    rw [er] at q
    exact q
  have all : allQ (List.replicate w.2.length (T.bl true)) μ = .ok (.bl true) μ := by
    unfold allQ
    rw [unB_true]
    simp
  show (d_is_web [some (webT w), none] μ).toR = _
  simp [d_is_web, e1, e2, e3, a0, a1, lc, all]
theorem check_web_t {w : Web} {μ : Mem} (h : WebOk w) : F_check_web [webT w] μ = .ok .non μ := by
  show (d_check_web [some (webT w)] μ).toR = _
  simp [d_check_web, web_t h]
/-! ### loops -/
theorem for_inv {i : Nat} {body : SM} (Inv : List (Option T) → Mem → Prop) : ∀ (xs : List T), (∀ x ∈ xs, ∀ σ μ, Inv σ μ → ∃ σ' μ', body (σ.set i (some x)) μ = .nx σ' μ' ∧ Inv σ' μ') → ∀ σ μ, Inv σ μ → ∃ σ' μ', forL [] (.nm i) body xs σ μ = .nx σ' μ' ∧ Inv σ' μ'
  | [], _, σ, μ, h => ⟨σ, μ, rfl, h⟩
  | x :: r, hs, σ, μ, h => by
    obtain ⟨σ1, μ1, e1, h1⟩ := hs x (by simp) σ μ h
    obtain ⟨σ2, μ2, e2, h2⟩ := for_inv Inv r (fun y hy => hs y (by simp [hy])) σ1 μ1 h1
    refine ⟨σ2, μ2, ?_, h2⟩
    show ((body (σ.set i (some x)) μ).loop (forL [] (.nm i) body r)) = _
    rw [e1, loop_nx, e2]
theorem for_invN {i : Nat} {body : SM} (Inv : Nat → List (Option T) → Mem → Prop) : ∀ (xs : List T) (n : Nat), (∀ x ∈ xs, ∀ m σ μ, m < n + xs.length → Inv m σ μ → ∃ σ' μ', body (σ.set i (some x)) μ = .nx σ' μ' ∧ Inv (m + 1) σ' μ') → ∀ σ μ, Inv n σ μ → ∃ σ' μ', forL [] (.nm i) body xs σ μ = .nx σ' μ' ∧ Inv (n + xs.length) σ' μ'
  | [], n, _, σ, μ, h => ⟨σ, μ, rfl, h⟩
  | x :: r, n, hs, σ, μ, h => by
    obtain ⟨σ1, μ1, e1, h1⟩ := hs x (by simp) n σ μ (by simp) h
    obtain ⟨σ2, μ2, e2, h2⟩ := for_invN Inv r (n + 1) (fun y hy m σ μ hm => hs y (by simp [hy]) m σ μ (by simp; omega)) σ1 μ1 h1
    refine ⟨σ2, μ2, ?_, by rw [show n + (x :: r).length = n + 1 + r.length by simp; omega]; exact h2⟩
    show ((body (σ.set i (some x)) μ).loop (forL [] (.nm i) body r)) = _
    rw [e1, loop_nx, e2]
theorem rngL_len (q : Int) : (rngL 0 q).length = q.toNat := by unfold rngL; simp
theorem seqT_l {μ : Mem} {k : Nat} {xs : List T} (h : μ[k]? = some (.lst xs)) : seqT μ (.ref k) = some xs := by unfold seqT; dsimp only; rw [h]
theorem dSeq_l {μ : Mem} {k : Nat} {xs : List T} {d : EM} {σ : List (Option T)} {μ0 : Mem} (e : d σ μ0 = .ok (.ref k) μ) (h : μ[k]? = some (.lst xs)) : dSeq d σ μ0 = .ok xs μ := by
  unfold dSeq; rw [e, bindL_ok, seqT_l h]
theorem lm_l {k : T → List T → Mem → Res} {dd : EM} {d : AM} {σ : List (Option T)} {μ μ1 : Mem} {n : Nat} {xs : List T} (e : dd σ μ = .ok (.ref n) μ1) (h : μ1[n]? = some (.lst xs)) : dLM k dd d σ μ = d σ μ1 fun ts μ2 => k (.ref n) ts μ2 := by
  unfold dLM
  rw [e, bind_ok]
  have q : isLst μ1 (.ref n) = true := by unfold isLst; dsimp only; rw [h]
  rw [if_pos q]
theorem app_l {k : Nat} {xs : List T} {y : T} {μ : Mem} (h : μ[k]? = some (.lst xs)) (hz : xs.length < 1000) : appendT (.ref k) [y] μ = .ok .non (μ.set k (.lst (xs ++ [y]))) := by
  unfold appendT; dsimp only; rw [h]; show (if _ then _ else _) = _; rw [if_pos (szl (by omega))]
/-! ### the draws -/
theorem some_spec {μ : Mem} {h hc t : Nat} {xs : List T} (H : Hand μ h hc) (ht : μ[t]? = some (.lst xs)) (hth : t ≠ h) (hn : 0 < xs.length) (hz : xs.length < 1000) : ∃ x μ', F__law_some [.ref h, .ref t] μ = .ok x μ' ∧ x ∈ xs ∧ Keep [h] μ μ' ∧ Hand μ' h hc ∧ μ'.length = μ.length := by
  obtain ⟨r, μ', e, h1, h2, k, H', hl⟩ := draw_spec (many := xs.length) H (by omega) (by omega)
  have ht' : μ'[t]? = some (.lst xs) := k.at ht (by simp [hth])
  have hr : r.toNat < xs.length := by omega
  refine ⟨xs[r.toNat], μ', ?_, List.getElem_mem hr, k, H', hl⟩
  have e1 : L2.atI xs r = some xs[r.toNat] := by
    unfold L2.atI ixN
    rw [if_pos h1, if_pos h2]
    simp [hr]
  show (d__law_some [some (.ref h), some (.ref t)] μ).toR = _
  simp [d__law_some, lenC_l ht, e, subL ht' e1]
theorem web_spec {μ : Mem} {h hc : Nat} (H : Hand μ h hc) : ∃ w μ', F__law_web [.ref h, .int 6, .int 9] μ = .ok (webT w) μ' ∧ WebOk w ∧ Keep [h] μ μ' ∧ Hand μ' h hc := by
  obtain ⟨r, μ1, e1, r1, r2, k1, H1, l1⟩ := draw_spec (many := 5) H (by decide) (by decide)
  have e0 : subT (.int 6) (.int 1) μ = .ok (.int 5) μ := rfl
  -- found = []
  have H2 : Hand (μ1 ++ [.lst []]) h hc := H1.keep (keep_app [] _ _) (by simp) (by simp)
  obtain ⟨q, μ3, e3, q1, q2, k3, H3, l3⟩ := draw_spec (many := 10) H2 (by decide) (by decide)
  obtain ⟨hh1, hh2⟩ := H1.lt
  have nf : μ1.length ≠ h := by omega
  have nf2 : μ1.length ≠ hc := by omega
  have f3 : μ3[μ1.length]? = some (.lst []) := k3.at (by simp) (by simp [nf])
  have k13 : Keep [h] μ1 μ3 := (keep_app [h] μ1 [.lst []]).trans k3 (fun i hi _ => hi)
  let Inv : Nat → List (Option T) → Mem → Prop := fun m σ μ' => ∃ (o1 o2 : Option T) (ps : List (Int × Int)), σ = [some (.ref h), some (.int 6), some (.int 9), some (.int (2 + r)), some (.ref μ1.length), o1, o2] ∧ Hand μ' h hc ∧ μ'[μ1.length]? = some (.lst (ps.map pairT)) ∧ Keep [h] μ1 μ' ∧ (∀ p ∈ ps, 0 ≤ p.1 ∧ p.1 < p.2 ∧ p.2 < 2 + r) ∧ ps.length = m
  have loop := for_invN (i := 5) (body := sSeq (sSet 6 (dFn 2 F__law_draw (aCons (dVar 0) (aCons (d2 subT (dVar 3) (dC (.int 1))) aNil))))
    (sExpr (dLM appendT (dVar 4) (aCons (dTup (aCons (dVar 6) (aCons (d2 addT (d2 addT (dVar 6) (dC (.int 1))) (dFn 2 F__law_draw (aCons (dVar 0) (aCons (d2 subT (d2 subT (dVar 3) (dC (.int 1))) (dVar 6)) aNil)))) aNil))) aNil)))) Inv (rngL 0 q) 0 (fun x _ m σ μ' hm hI => by
      obtain ⟨o1, o2, ps, rfl, HH, hf, kk, hp, hl⟩ := hI
      rw [rngL_len] at hm
      obtain ⟨a, μa, ea, a1, a2, ka, Ha, la⟩ := draw_spec (many := 2 + r - 1) HH (by omega) (by omega)
      have fa : μa[μ1.length]? = some (.lst (ps.map pairT)) := ka.at hf (by simp [nf])
      obtain ⟨b, μb, eb, b1, b2, kb, Hb, lb⟩ := draw_spec (many := 2 + r - 1 - a) Ha (by omega) (by omega)
      have fb : μb[μ1.length]? = some (.lst (ps.map pairT)) := kb.at fa (by simp [nf])
      have z2 : (2 : Nat) ≤ sizeLine := sz (by omega)
      have L4 : ∀ (d : AM), dLM appendT (dVar 4) d [some (.ref h), some (.int 6), some (.int 9), some (.int (2 + r)), some (.ref μ1.length), some x, some (.int a)] μa = d [some (.ref h), some (.int 6), some (.int 9), some (.int (2 + r)), some (.ref μ1.length), some x, some (.int a)] μa fun ts μ2 => appendT (.ref μ1.length) ts μ2 := fun d => lm_l (μ := μa) (n := μ1.length) rfl fa
      have ap := app_l (y := .tup [.int a, .int (a + 1 + b)]) fb (by simp; omega)
      refine ⟨[some (.ref h), some (.int 6), some (.int 9), some (.int (2 + r)), some (.ref μ1.length), some x, some (.int a)], μb.set μ1.length (.lst (ps.map pairT ++ [.tup [.int a, .int (a + 1 + b)]])), ?_, some x, some (.int a), ps ++ [(a, a + 1 + b)], rfl, ?_, ?_, ?_, ?_, by simp [hl]⟩
      · simp only [List.set_cons_zero, List.set_cons_succ, sSeq_e, sSet_e, dFn_e, aCons_e, aNil_e, dVar_0, dVar_s, d2_e, dC_e, bind_ok, subT_i, List.length_cons, List.length_nil, Nat.zero_add, Nat.reduceAdd, if_true, ea, toS_ok, seq_nx, sExpr_e, L4, dTup_e, addT_i, eb, if_pos z2, ap]
      · exact Hb.keep (keep_set (S := [μ1.length]) (by simp)) (by simp; omega) (by simp; omega)
      · rw [set_at fb]; simp [pairT]
      · refine (kk.trans (ka.trans kb (fun i hi _ => hi)) (fun i hi _ => hi)).trans (keep_set (S := [μ1.length]) (by simp)) ?_
        intro i hi hlt
        simp at hi; omega
      · intro p hp'
        rcases List.mem_append.mp hp' with hp' | hp'
        · exact hp p hp'
        · simp at hp'; subst hp'
          exact ⟨a1, by show a < a + 1 + b; omega, by show a + 1 + b < 2 + r; omega⟩)
    [some (.ref h), some (.int 6), some (.int 9), some (.int (2 + r)), some (.ref μ1.length), none, none] μ3 ⟨none, none, [], rfl, H3, f3, k13, by simp, rfl⟩
  obtain ⟨σ4, μ4, e4, o1, o2, ps, rfl, H4, f4, k4, p4, l4⟩ := loop
  rw [rngL_len] at l4
  refine ⟨(2 + r, ps), μ4, ?_, ⟨by show 1 ≤ 2 + r; omega, by show 2 + r ≤ 12; omega, by show ps.length ≤ 40; omega, p4⟩, k1.trans k4 (fun i hi _ => hi), H4⟩
  have z2 : (2 : Nat) ≤ sizeLine := sz (by omega)
  have z0 : (0 : Nat) ≤ sizeLine := Nat.zero_le _
  have rq : rngOk q = true := by unfold rngOk; simp; omega
  have rg : dRng1 (dFn 2 F__law_draw (aCons (dVar 0) (aCons (d2 addT (dVar 2) (dC (.int 1))) aNil))) [some (.ref h), some (.int 6), some (.int 9), some (.int (2 + r)), some (.ref μ1.length), none, none] (μ1 ++ [.lst []]) = .its (rngL 0 q) [] μ3 := by
    unfold dRng1
    have e9 : (9 : Int) + 1 = 10 := rfl
    simp only [dFn_e, aCons_e, aNil_e, dVar_0, dVar_s, d2_e, dC_e, bind_ok, addT_i, e9, List.length_cons, List.length_nil, Nat.zero_add, Nat.reduceAdd, if_true, e3]
    rw [if_pos rq]
  have S4 : dSeq (dVar 4) [some (.ref h), some (.int 6), some (.int 9), some (.int (2 + r)), some (.ref μ1.length), o1, o2] μ4 = .ok (ps.map pairT) μ4 := dSeq_l (k := μ1.length) rfl f4
  show (d__law_web [some (.ref h), some (.int 6), some (.int 9), none, none, none, none] μ).toR = _
  unfold d__law_web
  simp only [sSeq_e, sSet_e, d2_e, dC_e, bind_ok, dFn_e, aCons_e, aNil_e, dVar_0, dVar_s, e0, List.length_cons, List.length_nil, Nat.zero_add, Nat.reduceAdd, if_true, e1, addT_i, toS_ok, seq_nx, List.set_cons_zero, List.set_cons_succ, dNew_e, dLstL_e, lNil_e, if_pos z0, lbind_ok]
  unfold sFor
  rw [rg]
  dsimp only
  rw [e4]
  simp only [seq_nx, sRet_e, dTup_e, aCons_e, aNil_e, dVar_0, dVar_s, bind_ok, dQ_e, S4, lbind_ok, tupQ_e, List.length_cons, List.length_nil, Nat.zero_add, Nat.reduceAdd, if_pos z2, toS_ok, toR_rt, webT]
end K78
set_option linter.all false
set_option maxRecDepth 100000
set_option maxHeartbeats 1000000
namespace K78
open PySem PySem.Spec PyProof.Rows L2 TL
/-! ### the store -/
abbrev Model := List (Str × List Web)
def wsT (ws : List Web) : T := .tup (ws.map webT)
def rep (m : Model) : List (Key × T) := m.map fun p => (Sum.inr p.1, wsT p.2)
def putM (m : Model) (n : Str) (ws : List Web) : Model := if (m.any fun p => decide (p.1 = n)) = true then m.map (fun p => if p.1 = n then (p.1, ws) else p) else m ++ [(n, ws)]
def NameOk (n : Str) : Prop := ∀ μ : Mem, F_is_name [.str n] μ = .ok (.bl true) μ
theorem val_rep {n : Str} : ∀ m : Model, valT (rep m) (Sum.inr n) = (m.lookup n).map wsT
  | [] => rfl
  | (k, ws) :: r => by
    have ih := val_rep (n := n) r
    unfold valT rep at ih ⊢
    by_cases h : k = n
    · subst h; simp [List.lookup]
    · have h2 : (n == k) = false := by simpa using fun z : n = k => h z.symm
      simp only [List.map_cons, List.find?_cons, List.lookup, h2]
      have h3 : decide ((Sum.inr k : Key) = Sum.inr n) = false := by simpa using h
      rw [h3]
      exact ih
theorem any_rep {n : Str} : ∀ m : Model, ((rep m).any fun kv => decide (kv.1 = (Sum.inr n : Key))) = m.any fun p => decide (p.1 = n)
  | [] => rfl
  | (k, ws) :: r => by
    have ih := any_rep (n := n) r
    unfold rep at ih ⊢
    simp only [List.map_cons, List.any_cons]
    rw [ih]
    congr 1
    simp
theorem put_rep {n : Str} {ws : List Web} (m : Model) : putKT (rep m) (Sum.inr n) (wsT ws) = rep (putM m n ws) := by
  unfold putKT putM
  rw [any_rep]
  split
  · unfold rep
    rw [List.map_map, List.map_map]
    apply List.map_congr_left
    intro p _
    by_cases h : p.1 = n
    · simp [h]
    · simp [h]
  · unfold rep; simp
theorem keys_rep : ∀ m : Model, keyS (rep m) = some (m.map (·.1))
  | [] => rfl
  | (k, ws) :: r => by
    have ih := keys_rep r
    unfold rep at ih ⊢
    simp only [List.map_cons, keyS, ih, Option.map_some]
/-- the store s, its stages st, at most n of them ahead of the newest; m its names and versions -/
def St (μ : Mem) (s st : Nat) (m : Model) (n : Nat) : Prop := ∃ (pre : List T) (d : Nat), μ[s]? = some (.ins "Store" [("store_stages", .ref st)]) ∧ μ[st]? = some (.lst (pre ++ [.ref d])) ∧ μ[d]? = some (.dct (rep m)) ∧ pre.length ≤ n
theorem St.keep {μ μ' : Mem} {s st : Nat} {m : Model} {n : Nat} {S : List Nat} (h : St μ s st m n) (k : Keep S μ μ') (hs : ∀ i ∈ S, ∀ o, μ[i]? = some o → (∃ xs, o = .lst xs) ∧ i ≠ st) : St μ' s st m n := by
  obtain ⟨pre, d, h1, h2, h3, h4⟩ := h
  refine ⟨pre, d, k.at h1 fun z => ?_, k.at h2 fun z => (hs _ z _ h2).2 rfl, k.at h3 fun z => ?_, h4⟩
  · obtain ⟨⟨xs, e⟩, _⟩ := hs _ z _ h1; cases e
  · obtain ⟨⟨xs, e⟩, _⟩ := hs _ z _ h3; cases e
theorem atI_last {α : Type} {pre : List α} {x : α} : L2.atI (pre ++ [x]) (-1) = some x := by
  unfold L2.atI ixN
  have h1 : ¬ (0 : Int) ≤ -1 := by decide
  have h2 : -((pre ++ [x]).length : Int) ≤ -1 := by simp; omega
  rw [if_neg h1, if_pos h2]
  have h3 : (-1 + ((pre ++ [x]).length : Int)).toNat = pre.length := by simp; omega
  simp only [Option.bind_some]
  rw [h3]
  simp
theorem fld_s {μ : Mem} {s st : Nat} (h : μ[s]? = some (.ins "Store" [("store_stages", .ref st)])) : fldT "Store" "store_stages" (.ref s) μ = .ok (.ref st) μ := by
  unfold fldT; dsimp only; rw [h]; rfl
theorem now_e {μ : Mem} {s st d : Nat} {pre : List T} (h1 : μ[s]? = some (.ins "Store" [("store_stages", .ref st)])) (h2 : μ[st]? = some (.lst (pre ++ [.ref d]))) : F_Store_now [.ref s] μ = .ok (.ref d) μ := by
  have e : subT' (.ref st) (.int (-1)) μ = .ok (.ref d) μ := subL h2 atI_last
  show (d_Store_now [some (.ref s)] μ).toR = _
  simp [d_Store_now, fld_s h1, e]
theorem meth_now {μ : Mem} {s st d : Nat} {pre : List T} {dd : EM} {σ : List (Option T)} (h1 : μ[s]? = some (.ins "Store" [("store_stages", .ref st)])) (h2 : μ[st]? = some (.lst (pre ++ [.ref d]))) (e : dd σ μ = .ok (.ref s) μ) : dMeth "Store" "now" 1 F_Store_now dd aNil σ μ = .ok (.ref d) μ := by
  rw [methK e h1 (by rfl), aNil_e]
  simp [now_e h1 h2]
theorem notIn_d {μ : Mem} {d : Nat} {m : Model} {n : Str} (h : μ[d]? = some (.dct (rep m))) : notInDT (.str n) (.ref d) μ = .ok (.bl (!(m.lookup n).isSome)) μ := by
  unfold notInDT
  have e : dctT μ (.ref d) = some (rep m) := by unfold dctT; dsimp only; rw [h]
  rw [e]
  dsimp only [keyT]
  rw [val_rep]
  simp
theorem in_d {μ : Mem} {d : Nat} {m : Model} {n : Str} (h : μ[d]? = some (.dct (rep m))) : inDT (.str n) (.ref d) μ = .ok (.bl (m.lookup n).isSome) μ := by
  unfold inDT
  have e : dctT μ (.ref d) = some (rep m) := by unfold dctT; dsimp only; rw [h]
  rw [e]
  dsimp only [keyT]
  rw [val_rep]
  simp
theorem there_ok {μ : Mem} {s st : Nat} {m : Model} {n : Nat} {x : Str} {ws : List Web} (h : St μ s st m n) (hx : NameOk x) (hl : m.lookup x = some ws) : F_Store_check_there [.ref s, .str x] μ = .ok .non μ := by
  obtain ⟨pre, d, h1, h2, h3, h4⟩ := h
  show (d_Store_check_there [some (.ref s), some (.str x)] μ).toR = _
  simp [d_Store_check_there, hx μ, meth_now (dd := dVar 0) (σ := [some (.ref s), some (.str x)]) h1 h2 rfl, notIn_d h3, hl]
theorem there_no {μ : Mem} {s st : Nat} {m : Model} {n : Nat} {x : Str} (h : St μ s st m n) (hx : NameOk x) (hl : m.lookup x = none) : F_Store_check_there [.ref s, .str x] μ = .exc "NoName" [] μ := by
  obtain ⟨pre, d, h1, h2, h3, h4⟩ := h
  show (d_Store_check_there [some (.ref s), some (.str x)] μ).toR = _
  simp [d_Store_check_there, hx μ, meth_now (dd := dVar 0) (σ := [some (.ref s), some (.str x)]) h1 h2 rfl, notIn_d h3, hl]
theorem there_bad {μ : Mem} {s : Nat} {x : T} (hx : F_is_name [x] μ = .ok (.bl false) μ) : F_Store_check_there [.ref s, x] μ = .exc "NoName" [] μ := by
  show (d_Store_check_there [some (.ref s), some x] μ).toR = _
  simp [d_Store_check_there, hx]
theorem meth_there {μ : Mem} {s st : Nat} {x : T} {dd dx : EM} {σ : List (Option T)} {r : Res} (h1 : μ[s]? = some (.ins "Store" [("store_stages", .ref st)])) (e : dd σ μ = .ok (.ref s) μ) (ex : dx σ μ = .ok x μ) (hr : F_Store_check_there [.ref s, x] μ = r) : dMeth "Store" "check_there" 2 F_Store_check_there dd (aCons dx aNil) σ μ = r := by
  rw [methK e h1 (by rfl), aCons_e, ex]
  simp [hr]
theorem sub_d {μ : Mem} {d : Nat} {m : Model} {x : Str} {ws : List Web} (h : μ[d]? = some (.dct (rep m))) (hl : m.lookup x = some ws) : subT' (.ref d) (.str x) μ = .ok (wsT ws) μ := subD h rfl (by rw [val_rep, hl]; rfl)
theorem take_ok {μ : Mem} {s st : Nat} {m : Model} {n : Nat} {x : Str} {ws : List Web} {w : Web} (h : St μ s st m n) (hx : NameOk x) (hl : m.lookup x = some (ws ++ [w])) : F_Store_take [.ref s, .str x] μ = .ok (webT w) μ := by
  have ht := there_ok h hx hl
  obtain ⟨pre, d, h1, h2, h3, h4⟩ := h
  have e : subT' (wsT (ws ++ [w])) (.int (-1)) μ = .ok (webT w) μ := by
    unfold wsT; rw [List.map_append]; exact subTp atI_last
  show (d_Store_take [some (.ref s), some (.str x)] μ).toR = _
  simp [d_Store_take, meth_there (dd := dVar 0) (dx := dVar 1) (σ := [some (.ref s), some (.str x)]) h1 rfl rfl ht, meth_now (dd := dVar 0) (σ := [some (.ref s), some (.str x)]) h1 h2 rfl, sub_d h3 hl, e]
theorem take_exc {μ : Mem} {s st : Nat} {m : Model} {n : Nat} {x : T} (h : St μ s st m n) (hx : F_Store_check_there [.ref s, x] μ = .exc "NoName" [] μ) : F_Store_take [.ref s, x] μ = .exc "NoName" [] μ := by
  obtain ⟨pre, d, h1, h2, h3, h4⟩ := h
  show (d_Store_take [some (.ref s), some x] μ).toR = _
  simp [d_Store_take, meth_there (dd := dVar 0) (dx := dVar 1) (σ := [some (.ref s), some x]) h1 rfl rfl hx]
theorem drop_exc {μ : Mem} {s st : Nat} {m : Model} {n : Nat} {x : T} (h : St μ s st m n) (hx : F_Store_check_there [.ref s, x] μ = .exc "NoName" [] μ) : F_Store_drop [.ref s, x] μ = .exc "NoName" [] μ := by
  obtain ⟨pre, d, h1, h2, h3, h4⟩ := h
  show (d_Store_drop [some (.ref s), some x, none, none] μ).toR = _
  simp [d_Store_drop, meth_there (dd := dVar 0) (dx := dVar 1) (σ := [some (.ref s), some x, none, none]) h1 rfl rfl hx]
theorem version_exc {μ : Mem} {s st : Nat} {m : Model} {n : Nat} {x y : T} (h : St μ s st m n) (hx : F_Store_check_there [.ref s, x] μ = .exc "NoName" [] μ) : F_Store_version [.ref s, x, y] μ = .exc "NoName" [] μ := by
  obtain ⟨pre, d, h1, h2, h3, h4⟩ := h
  show (d_Store_version [some (.ref s), some x, some y] μ).toR = _
  simp [d_Store_version, meth_there (dd := dVar 0) (dx := dVar 1) (σ := [some (.ref s), some x, some y]) h1 rfl rfl hx]
theorem atI_nn {α : Type} {xs : List α} {i : Nat} (h : i < xs.length) : L2.atI xs (i : Int) = some xs[i] := by
  unfold L2.atI ixN
  rw [if_pos (Int.natCast_nonneg i), if_pos (by omega)]
  simp [h]
theorem version_ok {μ : Mem} {s st : Nat} {m : Model} {n : Nat} {x : Str} {ws : List Web} {i : Nat} (h : St μ s st m n) (hx : NameOk x) (hl : m.lookup x = some ws) (hi : i < ws.length) : F_Store_version [.ref s, .str x, .int i] μ = .ok (webT ws[i]) μ := by
  have ht := there_ok h hx hl
  obtain ⟨pre, d, h1, h2, h3, h4⟩ := h
  have e : subT' (wsT ws) (.int i) μ = .ok (webT ws[i]) μ := by
    refine subTp ?_
    rw [atI_nn (by simpa using hi)]
    simp
  have ew : F_is_within [.int i, .int 0, .int ((ws.length : Int) - 1)] μ = .ok (.bl true) μ := within_t (by omega) (by omega)
  have el : lenC [wsT ws] μ = .ok (.int ws.length) μ := by unfold wsT; rw [lenC_t, List.length_map]
  show (d_Store_version [some (.ref s), some (.str x), some (.int i)] μ).toR = _
  simp [d_Store_version, meth_there (dd := dVar 0) (dx := dVar 1) (σ := [some (.ref s), some (.str x), some (.int i)]) h1 rfl rfl ht, meth_now (dd := dVar 0) (σ := [some (.ref s), some (.str x), some (.int i)]) h1 h2 rfl, sub_d h3 hl, e, el, ew]
theorem version_no {μ : Mem} {s st : Nat} {m : Model} {n : Nat} {x : Str} {ws : List Web} {y : T} (h : St μ s st m n) (hx : NameOk x) (hl : m.lookup x = some ws) (hy : F_is_within [y, .int 0, .int ((ws.length : Int) - 1)] μ = .ok (.bl false) μ) : F_Store_version [.ref s, .str x, y] μ = .exc "NoNumber" [] μ := by
  have ht := there_ok h hx hl
  obtain ⟨pre, d, h1, h2, h3, h4⟩ := h
  have el : lenC [wsT ws] μ = .ok (.int ws.length) μ := by unfold wsT; rw [lenC_t, List.length_map]
  show (d_Store_version [some (.ref s), some (.str x), some y] μ).toR = _
  simp [d_Store_version, meth_there (dd := dVar 0) (dx := dVar 1) (σ := [some (.ref s), some (.str x), some y]) h1 rfl rfl ht, meth_now (dd := dVar 0) (σ := [some (.ref s), some (.str x), some y]) h1 h2 rfl, sub_d h3 hl, el, hy]
theorem unS_map : ∀ xs : List Str, unS (xs.map T.str) = some xs
  | [] => rfl
  | x :: r => by simp [unS, unS_map r]
theorem unI_strs {x : Str} {r : List T} : unI (T.str x :: r) = none := rfl
theorem sort_strs {xs : List Str} {μ : Mem} (h : xs.length < 64) : sortQ (xs.map T.str) μ = .ok ((sortS xs).map T.str) μ := by
  cases xs with
  | nil => simp [sortQ, TL.unI, sortI, sortS]
  | cons x r =>
    unfold sortQ
    rw [show unI ((x :: r).map T.str) = none from rfl]
    dsimp only
    rw [unS_map]
    dsimp only
    rw [if_pos h]
theorem names_ok {μ : Mem} {s st : Nat} {m : Model} {n : Nat} (h : St μ s st m n) (hl : m.length < 64) : F_Store_names [.ref s] μ = .ok (.tup ((sortS (m.map (·.1))).map T.str)) μ := by
  obtain ⟨pre, d, h1, h2, h3, h4⟩ := h
  have ek : dKeys (dMeth "Store" "now" 1 F_Store_now (dVar 0) aNil) [some (.ref s)] μ = .ok ((m.map (·.1)).map T.str) μ := by
    unfold dKeys
    rw [meth_now (dd := dVar 0) (σ := [some (.ref s)]) h1 h2 rfl, bindL_ok]
    have e : dctT μ (.ref d) = some (rep m) := by unfold dctT; dsimp only; rw [h3]
    rw [e]
    simp [rep, ktT]
  show (d_Store_names [some (.ref s)] μ).toR = _
  simp only [d_Store_names, sRet_e, dQ_e, dQL_e, ek, lbindL_ok, sort_strs (xs := m.map (·.1)) (μ := μ) (by simpa using hl), lbind_ok, tupQ_e, toS_ok, toR_rt]
end K78
set_option linter.all false
set_option maxRecDepth 100000
set_option maxHeartbeats 1000000
namespace K78
open PySem PySem.Spec PyProof.Rows L2 TL
theorem most_ok {a b : Int} {μ : Mem} (h : a ≤ b) : F_check_most [.int a, .int b] μ = .ok .non μ := by
  have h' : ¬ a > b := by omega
  show (d_check_most [some (.int a), some (.int b)] μ).toR = _
  simp only [d_check_most, sIf_e, d2_e, dVar_0, dVar_s, bind_ok, gtT_i, h', decide_false, toS_ok, sIfK_e, Bool.false_eq_true, if_false, sNil_e, toR_nx]
theorem most_no {a b : Int} {μ : Mem} (h : b < a) : F_check_most [.int a, .int b] μ = .exc "TooMany" [("most", .int b)] μ := by
  have h' : a > b := h
  show (d_check_most [some (.int a), some (.int b)] μ).toR = _
  simp only [d_check_most, sIf_e, d2_e, dVar_0, dVar_s, bind_ok, gtT_i, h', decide_true, toS_ok, sIfK_e, if_true, sRaise1_e, toR_exc]
/-- the versions of a name -/
def vers (m : Model) (n : Str) : List Web := (m.lookup n).getD []
/-- put up to its two counts -/
theorem put_noName {μ : Mem} {s : Nat} {x y : T} (hx : F_is_name [x] μ = .ok (.bl false) μ) : F_Store_put [.ref s, x, y] μ = .exc "NoName" [] μ := by
  show (d_Store_put [some (.ref s), some x, some y, none] μ).toR = _
  simp [d_Store_put, hx]
theorem put_noWeb {μ : Mem} {s : Nat} {x y : T} (hx : F_is_name [x] μ = .ok (.bl true) μ) (hy : F_is_web [y] μ = .ok (.bl false) μ) : F_Store_put [.ref s, x, y] μ = .exc "NoWeb" [] μ := by
  have e : F_check_web [y] μ = .exc "NoWeb" [] μ := by
    show (d_check_web [some y] μ).toR = _
    simp [d_check_web, hy]
  show (d_Store_put [some (.ref s), some x, some y, none] μ).toR = _
  simp [d_Store_put, hx, e]
theorem dict_d {μ : Mem} {d : Nat} {m : Model} (h : μ[d]? = some (.dct (rep m))) : dictC [.ref d] μ = .ok (.ref μ.length) (μ ++ [.dct (rep m)]) := by
  unfold dictC
  have e : dctT μ (.ref d) = some (rep m) := by unfold dctT; dsimp only; rw [h]
  dsimp only
  rw [e]
theorem get_d {μ : Mem} {k : Nat} {m : Model} {x : Str} (h : μ[k]? = some (.dct (rep m))) : get2T (.ref k) (.str x) (.tup []) μ = .ok (wsT (vers m x)) μ := by
  unfold get2T
  have e : dctT μ (.ref k) = some (rep m) := by unfold dctT; dsimp only; rw [h]
  rw [e]
  dsimp only [keyT]
  rw [val_rep]
  unfold vers
  cases m.lookup x <;> rfl
theorem dget_d {μ : Mem} {k : Nat} {m : Model} {x : Str} {dd dk dx : EM} {σ : List (Option T)} (h : μ[k]? = some (.dct (rep m))) (e1 : dd σ μ = .ok (.ref k) μ) (e2 : dk σ μ = .ok (.str x) μ) (e3 : dx σ μ = .ok (.tup []) μ) : dGet2 dd dk dx σ μ = .ok (wsT (vers m x)) μ := by
  unfold dGet2
  rw [e1, bind_ok]
  have e : (dctT μ (.ref k)).isSome = true := by unfold dctT; dsimp only; rw [h]; rfl
  rw [if_pos e, e2, bind_ok, e3, bind_ok, get_d h]
theorem len_ws {ws : List Web} {μ : Mem} : lenC [wsT ws] μ = .ok (.int ws.length) μ := by unfold wsT; rw [lenC_t, List.length_map]
theorem put_front {μ : Mem} {s st : Nat} {m : Model} {n : Nat} {x : Str} {w : Web} (h : St μ s st m n) (hx : NameOk x) (hw : WebOk w) :
    ∃ d, d_Store_put [some (.ref s), some (.str x), some (webT w), none] μ = (sSeq (sExpr (dFn 2 F_check_most (aCons (d2 addT (dCall lenC (aCons (dVar 3) aNil)) (dIfE (d2 inDT (dVar 1) (dVar 3)) (dC (.int 0)) (dC (.int 1)))) (aCons (dC (.int 50)) aNil))))
    (sSeq (sExpr (dFn 2 F_check_most (aCons (d2 addT (dCall lenC (aCons (dGet2 (dVar 3) (dVar 1) (dTup aNil)) aNil)) (dC (.int 1))) (aCons (dC (.int 20)) aNil))))
    (sSeq (sSub (dVar 3) (dVar 1) (d2 addT (dGet2 (dVar 3) (dVar 1) (dTup aNil)) (dTup (aCons (dVar 2) aNil))))
    (sSeq (sExpr (dLM appendT (d1 (fldT "Store" "store_stages") (dVar 0)) (aCons (dVar 3) aNil)))
    (sRet (d2 subT (dCall lenC (aCons (d2 subT' (dVar 3) (dVar 1)) aNil)) (dC (.int 1)))))))) [some (.ref s), some (.str x), some (webT w), some (.ref μ.length)] (μ ++ [.dct (rep m)]) ∧ d = μ.length := by
  obtain ⟨pre, d, h1, h2, h3, h4⟩ := h
  refine ⟨_, ?_, rfl⟩
  unfold d_Store_put
  have e1 := meth_now (dd := dVar 0) (σ := [some (.ref s), some (.str x), some (webT w), none]) h1 h2 rfl
  rw [sSeq_e]
  simp only [sIf_e, dNot_e, dFn_e, aCons_e, aNil_e, dVar_0, dVar_s, bind_ok, List.length_cons, List.length_nil, Nat.zero_add, if_true, hx μ, notT_e, Bool.not_true, toS_ok, sIfK_e, Bool.false_eq_true, if_false, sNil_e, seq_nx]
  rw [sSeq_e]
  simp only [sExpr_e, dFn_e, aCons_e, aNil_e, dVar_0, dVar_s, bind_ok, List.length_cons, List.length_nil, Nat.zero_add, if_true, check_web_t hw, toS_ok, seq_nx]
  rw [sSeq_e]
  simp only [sSet_e, dCall_e, aCons_e, aNil_e, e1, bind_ok, dict_d h3, toS_ok, List.set_cons_succ, List.set_cons_zero, seq_nx]
end K78
set_option linter.all false
set_option maxRecDepth 100000
set_option maxHeartbeats 1000000
namespace K78
open PySem PySem.Spec PyProof.Rows L2 TL
theorem look_put_self {n : Str} {ws : List Web} : ∀ m : Model, (putM m n ws).lookup n = some ws := by
  intro m
  unfold putM
  split
  · rename_i h
    induction m with
    | nil => simp at h
    | cons p r ih =>
      by_cases hp : p.1 = n
      · simp [hp, List.lookup]
      · have h2 : (n == p.1) = false := by simpa using fun z : n = p.1 => hp z.symm
        simp only [List.map_cons, if_neg hp, List.lookup, h2]
        simp [hp] at h
        exact ih (by simpa using h)
  · rename_i h
    induction m with
    | nil => simp [List.lookup]
    | cons p r ih =>
      simp at h
      have h2 : (n == p.1) = false := by simpa using fun z : n = p.1 => h.1 z.symm
      simp only [List.cons_append, List.lookup, h2]
      exact ih (by simpa using h.2)
theorem look_put_ne {n k : Str} {ws : List Web} (hk : k ≠ n) : ∀ m : Model, (putM m n ws).lookup k = m.lookup k := by
  intro m
  unfold putM
  split
  · rename_i h
    clear h
    induction m with
    | nil => rfl
    | cons p r ih =>
      by_cases hp : p.1 = n
      · have h2 : (k == p.1) = false := by simpa [hp] using hk
        have h3 : (k == n) = false := by simpa using hk
        simp only [List.map_cons, if_pos hp, List.lookup, h2]
        exact ih
      · simp only [List.map_cons, if_neg hp, List.lookup]
        rw [ih]
  · induction m with
    | nil =>
      have h3 : (k == n) = false := by simpa using hk
      simp [List.lookup, h3]
    | cons p r ih =>
      simp only [List.cons_append, List.lookup]
      rw [ih]
      rename_i h
      intro z
      exact h (by simp [z])
theorem keys_put {n : Str} {ws : List Web} (m : Model) : (putM m n ws).map (·.1) = if (m.any fun p => decide (p.1 = n)) = true then m.map (·.1) else m.map (·.1) ++ [n] := by
  unfold putM
  split
  · rw [List.map_map]
    apply List.map_congr_left
    intro p _
    by_cases h : p.1 = n <;> simp [h]
  · simp
theorem rep_len (m : Model) : (rep m).length = m.length := by unfold rep; simp
theorem any_look {n : Str} : ∀ m : Model, (m.any fun p => decide (p.1 = n)) = (m.lookup n).isSome
  | [] => rfl
  | (k, ws) :: r => by
    have ih := any_look (n := n) r
    by_cases h : k = n
    · subst h; simp [List.lookup]
    · have h2 : (n == k) = false := by simpa using fun z : n = k => h z.symm
      simp only [List.any_cons, h, decide_false, Bool.false_or, ih, List.lookup, h2]
theorem put_ok {μ : Mem} {s st : Nat} {m : Model} {n : Nat} {x : Str} {w : Web} (h : St μ s st m n) (hn : n ≤ 500) (hx : NameOk x) (hw : WebOk w) (hl : m.length + (if (m.lookup x).isSome = true then 0 else 1) ≤ 50) (hv : (vers m x).length + 1 ≤ 20) :
    ∃ μ', F_Store_put [.ref s, .str x, webT w] μ = .ok (.int (vers m x).length) μ' ∧ St μ' s st (putM m x (vers m x ++ [w])) (n + 1) ∧ Keep [st] μ μ' := by
  obtain ⟨_, e0, _⟩ := put_front h hx hw
  obtain ⟨pre, d, h1, h2, h3, h4⟩ := h
  have l1 := (List.getElem?_eq_some_iff.mp h1).1
  have l2 := (List.getElem?_eq_some_iff.mp h2).1
  have nst : μ.length ≠ st := by omega
  have ns : μ.length ≠ s := by omega
  have nss : st ≠ s := fun z => by rw [z, h1] at h2; cases h2
  have m1 : (μ ++ [MO.dct (rep m)])[μ.length]? = some (.dct (rep m)) := by simp
  have e1 : lenC [.ref μ.length] (μ ++ [.dct (rep m)]) = .ok (.int m.length) (μ ++ [.dct (rep m)]) := by rw [lenC_d m1, rep_len]
  have c1 : F_check_most [.int ((m.length : Int) + (if (m.lookup x).isSome = true then 0 else 1)), .int 50] (μ ++ [.dct (rep m)]) = .ok .non (μ ++ [.dct (rep m)]) := most_ok (by split <;> rename_i z <;> simp [z] at hl ⊢ <;> omega)
  have c2 : F_check_most [.int (((vers m x).length : Int) + 1), .int 20] (μ ++ [.dct (rep m)]) = .ok .non (μ ++ [.dct (rep m)]) := most_ok (by omega)
  have z0 : (0 : Nat) ≤ sizeLine := Nat.zero_le _
  have z1 : (1 : Nat) ≤ sizeLine := sz (by omega)
  let m' := putM m x (vers m x ++ [w])
  let μ2 := (μ ++ [MO.dct (rep m)]).set μ.length (.dct (rep m'))
  have f2 : μ2[μ.length]? = some (.dct (rep m')) := set_at m1
  have f2s : μ2[s]? = some (.ins "Store" [("store_stages", .ref st)]) := by
    show ((μ ++ [MO.dct (rep m)]).set μ.length _)[s]? = _
    rw [set_ne ns, List.getElem?_append_left l1]; exact h1
  have f2t : μ2[st]? = some (.lst (pre ++ [.ref d])) := by
    show ((μ ++ [MO.dct (rep m)]).set μ.length _)[st]? = _
    rw [set_ne nst, List.getElem?_append_left l2]; exact h2
  let μ3 := μ2.set st (.lst (pre ++ [.ref d] ++ [.ref μ.length]))
  have f3 : μ3[μ.length]? = some (.dct (rep m')) := by show (μ2.set st _)[μ.length]? = _; rw [set_ne nst.symm]; exact f2
  have gd : ∀ σ : List (Option T), dGet2 (dVar 3) (dVar 1) (dTup aNil) [some (.ref s), some (.str x), some (webT w), some (.ref μ.length)] (μ ++ [.dct (rep m)]) = .ok (wsT (vers m x)) (μ ++ [.dct (rep m)]) := fun _ => dget_d m1 rfl rfl (by simp [z0])
  have gd := gd []
  have ad : addT (wsT (vers m x)) (.tup [webT w]) (μ ++ [.dct (rep m)]) = .ok (wsT (vers m x ++ [w])) (μ ++ [.dct (rep m)]) := by
    unfold wsT addT
    dsimp only
    rw [if_pos (sz (by simp; omega))]
    simp
  have sd : setT (.ref μ.length) (.str x) (wsT (vers m x ++ [w])) (μ ++ [.dct (rep m)]) = some μ2 := by
    rw [setD m1 rfl (szl (by rw [rep_len]; split at hl <;> omega)), put_rep]
  have ap : appendT (.ref st) [.ref μ.length] μ2 = .ok .non μ3 := app_l f2t (by simp; omega)
  have L4 : ∀ (d' : AM), dLM appendT (d1 (fldT "Store" "store_stages") (dVar 0)) d' [some (.ref s), some (.str x), some (webT w), some (.ref μ.length)] μ2 = d' [some (.ref s), some (.str x), some (webT w), some (.ref μ.length)] μ2 fun ts μ4 => appendT (.ref st) ts μ4 := fun d' => lm_l (by simp [fld_s f2s]) f2t
  have sb : subT' (.ref μ.length) (.str x) μ3 = .ok (wsT (vers m x ++ [w])) μ3 := sub_d f3 (look_put_self m)
  refine ⟨μ3, ?_, ⟨pre ++ [.ref d], μ.length, ?_, set_at f2t, f3, by simp; omega⟩, ?_⟩
  · show (d_Store_put [some (.ref s), some (.str x), some (webT w), none] μ).toR = _
    rw [e0]
    rw [sSeq_e]
    simp only [sExpr_e, dFn_e, aCons_e, aNil_e, d2_e, dCall_e, dVar_0, dVar_s, bind_ok, e1, dIfE_e, in_d m1, ifK_e, dC_e]
    have ite : ∀ b : Bool, (if b = true then Res.ok (T.int 0) (μ ++ [.dct (rep m)]) else Res.ok (T.int 1) (μ ++ [.dct (rep m)])) = Res.ok (T.int (if b = true then 0 else 1)) (μ ++ [.dct (rep m)]) := fun b => by cases b <;> rfl
    simp only [ite, bind_ok, addT_i, List.length_cons, List.length_nil, Nat.zero_add, Nat.reduceAdd, if_true, c1, toS_ok, seq_nx]
    rw [sSeq_e]
    simp only [sExpr_e, dFn_e, aCons_e, aNil_e, d2_e, dCall_e, dVar_0, dVar_s, bind_ok, gd, len_ws, dC_e, addT_i, List.length_cons, List.length_nil, Nat.zero_add, Nat.reduceAdd, if_true, c2, toS_ok, seq_nx]
    rw [sSeq_e]
    simp only [sSub_e, d2_e, gd, bind_ok, dTup_e, aCons_e, aNil_e, dVar_0, dVar_s, List.length_cons, List.length_nil, Nat.zero_add, if_pos z1, ad, toS_ok, sd, seq_nx]
    rw [sSeq_e]
    simp only [sExpr_e, L4, aCons_e, aNil_e, dVar_0, dVar_s, bind_ok, ap, toS_ok, seq_nx, sRet_e, d2_e, dCall_e, sb, len_ws, dC_e, subT_i, toR_rt]
    congr 2
    simp
  · show (μ2.set st _)[s]? = _
    rw [set_ne nss]; exact f2s
  · refine ((keep_app [st] μ [.dct (rep m)]).trans (keep_set (S := [μ.length]) (by simp)) ?_).trans (keep_set (S := [st]) (by simp)) fun i hi _ => hi
    intro i hi hlt
    simp at hi; omega
end K78
set_option linter.all false
set_option maxRecDepth 100000
set_option maxHeartbeats 1000000
namespace K78
open PySem PySem.Spec PyProof.Rows L2 TL
theorem put_many {μ : Mem} {s st : Nat} {m : Model} {n : Nat} {x : Str} {w : Web} (h : St μ s st m n) (hx : NameOk x) (hw : WebOk w) (hl : 50 < m.length + (if (m.lookup x).isSome = true then 0 else 1) ∨ (m.length + (if (m.lookup x).isSome = true then 0 else 1) ≤ 50 ∧ 20 < (vers m x).length + 1)) :
    ∃ fs, F_Store_put [.ref s, .str x, webT w] μ = .exc "TooMany" fs (μ ++ [.dct (rep m)]) := by
  obtain ⟨_, e0, _⟩ := put_front h hx hw
  obtain ⟨pre, d, h1, h2, h3, h4⟩ := h
  have m1 : (μ ++ [MO.dct (rep m)])[μ.length]? = some (.dct (rep m)) := by simp
  have e1 : lenC [.ref μ.length] (μ ++ [.dct (rep m)]) = .ok (.int m.length) (μ ++ [.dct (rep m)]) := by rw [lenC_d m1, rep_len]
  have z0 : (0 : Nat) ≤ sizeLine := Nat.zero_le _
  have gd : dGet2 (dVar 3) (dVar 1) (dTup aNil) [some (.ref s), some (.str x), some (webT w), some (.ref μ.length)] (μ ++ [.dct (rep m)]) = .ok (wsT (vers m x)) (μ ++ [.dct (rep m)]) := dget_d m1 rfl rfl (by simp [z0])
  have ite : ∀ b : Bool, (if b = true then Res.ok (T.int 0) (μ ++ [.dct (rep m)]) else Res.ok (T.int 1) (μ ++ [.dct (rep m)])) = Res.ok (T.int (if b = true then 0 else 1)) (μ ++ [.dct (rep m)]) := fun b => by cases b <;> rfl
  refine ⟨[("most", .int (if 50 < m.length + (if (m.lookup x).isSome = true then 0 else 1) then 50 else 20))], ?_⟩
  show (d_Store_put [some (.ref s), some (.str x), some (webT w), none] μ).toR = _
  rw [e0]
  rw [sSeq_e]
  simp only [sExpr_e, dFn_e, aCons_e, aNil_e, d2_e, dCall_e, dVar_0, dVar_s, bind_ok, e1, dIfE_e, in_d m1, ifK_e, dC_e]
  simp only [ite, bind_ok, addT_i, List.length_cons, List.length_nil, Nat.zero_add, Nat.reduceAdd, if_true]
  by_cases g : 50 < m.length + (if (m.lookup x).isSome = true then 0 else 1)
  · have c1 : F_check_most [.int ((m.length : Int) + (if (m.lookup x).isSome = true then 0 else 1)), .int 50] (μ ++ [.dct (rep m)]) = .exc "TooMany" [("most", .int 50)] (μ ++ [.dct (rep m)]) := most_no (by split <;> rename_i z <;> simp [z] at g ⊢ <;> omega)
    rw [c1, if_pos g]
    rfl
  · have hl := (hl.resolve_left g)
    have c1 : F_check_most [.int ((m.length : Int) + (if (m.lookup x).isSome = true then 0 else 1)), .int 50] (μ ++ [.dct (rep m)]) = .ok .non (μ ++ [.dct (rep m)]) := most_ok (by have := hl.1; split <;> rename_i z <;> simp [z] at this ⊢ <;> omega)
    have c2 : F_check_most [.int (((vers m x).length : Int) + 1), .int 20] (μ ++ [.dct (rep m)]) = .exc "TooMany" [("most", .int 20)] (μ ++ [.dct (rep m)]) := most_no (by have := hl.2; omega)
    rw [c1, if_neg g, toS_ok, seq_nx]
    rw [sSeq_e]
    simp only [sExpr_e, dFn_e, aCons_e, aNil_e, d2_e, dCall_e, dVar_0, dVar_s, bind_ok, gd, len_ws, dC_e, addT_i, List.length_cons, List.length_nil, Nat.zero_add, Nat.reduceAdd, if_true, c2, toS_exc, seq_exc, toR_exc]
/-! ### drop -/
def dropM (m : Model) (x : Str) : Model := m.filter fun p => decide (p.1 ≠ x)
theorem putKT_new {k : Key} {t : T} {l : List (Key × T)} (h : ∀ q ∈ l, q.1 ≠ k) : putKT l k t = l ++ [(k, t)] := by
  unfold putKT
  rw [if_neg]
  intro z
  obtain ⟨q, hq, e⟩ := List.any_eq_true.mp z
  exact h q hq (by simpa using e)
theorem ditGo_drop {s : Nat} {x : Str} {μ : Mem} : ∀ (r acc : Model), (∀ p ∈ acc, ∀ q ∈ r, p.1 ≠ q.1) → (r.map (·.1)).Nodup → acc.length + r.length ≤ 1000 →
    ditGo (.tp [(.nm 2), (.nm 3)]) (d2 neT (dVar 2) (dVar 1)) (dVar 2) (dVar 3) [some (.ref s), some (.str x), none, none] (rep r) (rep acc) μ = some (rep (acc ++ dropM r x), μ)
  | [], acc, _, _, _ => by simp [rep, ditGo, dropM]
  | (k, ws) :: r, acc, hd, nd, hz => by
    have e : ditGo (.tp [(.nm 2), (.nm 3)]) (d2 neT (dVar 2) (dVar 1)) (dVar 2) (dVar 3) [some (.ref s), some (.str x), none, none] (rep ((k, ws) :: r)) (rep acc) μ =
        (if k = x then ditGo (.tp [(.nm 2), (.nm 3)]) (d2 neT (dVar 2) (dVar 1)) (dVar 2) (dVar 3) [some (.ref s), some (.str x), none, none] (rep r) (rep acc) μ
         else if (rep acc).length < sizeLine then ditGo (.tp [(.nm 2), (.nm 3)]) (d2 neT (dVar 2) (dVar 1)) (dVar 2) (dVar 3) [some (.ref s), some (.str x), none, none] (rep r) (putKT (rep acc) (Sum.inr k) (wsT ws)) μ else none) := by
      show ditGo _ _ _ _ _ ((Sum.inr k, wsT ws) :: rep r) (rep acc) μ = _
      conv => lhs; unfold ditGo
      show (match (d2 neT (dVar 2) (dVar 1)) [some (.ref s), some (.str x), some (.str k), some (wsT ws)] μ with
        | .ok (.bl true) μ1 => _
        | .ok (.bl false) μ1 => _
        | _ => none) = _
      simp only [d2_e, dVar_0, dVar_s, bind_ok, neT_e, eqT_s, notT_e]
      by_cases h : k = x
      · simp [h]
      · simp [h, keyT]
        rfl
    rw [e]
    simp at nd
    by_cases h : k = x
    · rw [if_pos h, ditGo_drop r acc (fun p hp q hq => hd p hp q (by simp [hq])) nd.2 (by simp at hz; omega)]
      simp [dropM, h]
    · rw [if_neg h, if_pos (szl (by rw [rep_len]; simp at hz; omega))]
      have e2 : putKT (rep acc) (Sum.inr k) (wsT ws) = rep (acc ++ [(k, ws)]) := by
        rw [putKT_new]
        · simp [rep]
        · intro q hq
          obtain ⟨p, hp, rfl⟩ := List.mem_map.mp hq
          have := hd p hp (k, ws) (by simp)
          simpa using this
      rw [e2, ditGo_drop r (acc ++ [(k, ws)]) ?_ nd.2 (by simp at hz ⊢; omega)]
      · simp [dropM, h]
      · intro p hp q hq
        rcases List.mem_append.mp hp with hp | hp
        · exact hd p hp q (by simp [hq])
        · simp at hp; subst hp
          intro z
          have z : k = q.1 := z
          exact nd.1 q.2 (by rw [z]; exact hq)
theorem set_same {μ : Mem} {k : Nat} {o : MO} (h : μ[k]? = some o) : μ.set k o = μ := by
  apply List.ext_getElem?
  intro i
  by_cases q : k = i
  · subst q; rw [set_at h, h]
  · rw [set_ne q]
theorem drop_ok {μ : Mem} {s st : Nat} {m : Model} {n : Nat} {x : Str} {ws : List Web} (h : St μ s st m n) (hn : n ≤ 500) (hx : NameOk x) (hl : m.lookup x = some ws) (nd : (m.map (·.1)).Nodup) (hz : m.length ≤ 100) :
    ∃ μ', F_Store_drop [.ref s, .str x] μ = .ok .non μ' ∧ St μ' s st (dropM m x) (n + 1) ∧ Keep [st] μ μ' := by
  have ht := there_ok h hx hl
  obtain ⟨pre, d, h1, h2, h3, h4⟩ := h
  have l1 := (List.getElem?_eq_some_iff.mp h1).1
  have l2 := (List.getElem?_eq_some_iff.mp h2).1
  have nst : μ.length ≠ st := by omega
  have nss : st ≠ s := fun z => by rw [z, h1] at h2; cases h2
  have nds : d ≠ s := fun z => by rw [z, h1] at h3; cases h3
  have ndt : d ≠ st := fun z => by rw [z, h2] at h3; cases h3
  have it : dItems (dMeth "Store" "now" 1 F_Store_now (dVar 0) aNil) (.tp [(.nm 2), (.nm 3)]) [2, 3] (d2 neT (dVar 2) (dVar 1)) (dVar 2) (dVar 3) [some (.ref s), some (.str x), none, none] μ = .ok (.ref μ.length) (μ ++ [.dct (rep (dropM m x))]) := by
    unfold dItems
    rw [meth_now (dd := dVar 0) (σ := [some (.ref s), some (.str x), none, none]) h1 h2 rfl]
    dsimp only
    rw [h3]
    dsimp only
    have n1 : (μ.set d (.lck (rep m)))[s]? = some (.ins "Store" [("store_stages", .ref st)]) := by rw [set_ne nds]; exact h1
    have n2 : (μ.set d (.lck (rep m)))[st]? = some (.lst (pre ++ [.ref d])) := by rw [set_ne ndt]; exact h2
    rw [meth_now (dd := dVar 0) (σ := [some (.ref s), some (.str x), none, none]) n1 n2 rfl]
    dsimp only
    rw [if_pos rfl]
    have g := ditGo_drop (s := s) (x := x) (μ := μ.set d (.lck (rep m))) m [] (by simp) nd (by simp; omega)
    have e0 : wipeT [some (.ref s), some (.str x), none, none] [2, 3] = [some (.ref s), some (.str x), none, none] := rfl
    rw [e0]
    have e1 : rep ([] : Model) = [] := rfl
    rw [e1] at g
    rw [g]
    dsimp only
    rw [List.set_set, set_same h3]
    simp
  have f2s : (μ ++ [MO.dct (rep (dropM m x))])[s]? = some (.ins "Store" [("store_stages", .ref st)]) := by rw [List.getElem?_append_left l1]; exact h1
  have f2t : (μ ++ [MO.dct (rep (dropM m x))])[st]? = some (.lst (pre ++ [.ref d])) := by rw [List.getElem?_append_left l2]; exact h2
  have ap : appendT (.ref st) [.ref μ.length] (μ ++ [MO.dct (rep (dropM m x))]) = .ok .non ((μ ++ [MO.dct (rep (dropM m x))]).set st (.lst (pre ++ [.ref d] ++ [.ref μ.length]))) := app_l f2t (by simp; omega)
  have L4 : ∀ (d' : AM), dLM appendT (d1 (fldT "Store" "store_stages") (dVar 0)) d' [some (.ref s), some (.str x), none, none] μ = d' [some (.ref s), some (.str x), none, none] μ fun ts μ4 => appendT (.ref st) ts μ4 := fun d' => lm_l (by simp [fld_s h1]) h2
  refine ⟨(μ ++ [MO.dct (rep (dropM m x))]).set st (.lst (pre ++ [.ref d] ++ [.ref μ.length])), ?_, ⟨pre ++ [.ref d], μ.length, ?_, set_at f2t, ?_, by simp; omega⟩, ?_⟩
  · show (d_Store_drop [some (.ref s), some (.str x), none, none] μ).toR = _
    unfold d_Store_drop
    simp only [sSeq_e, sExpr_e, meth_there (dd := dVar 0) (dx := dVar 1) (σ := [some (.ref s), some (.str x), none, none]) h1 rfl rfl ht, toS_ok, seq_nx, L4, aCons_e, aNil_e, it, bind_ok, ap, toR_nx]
  · rw [set_ne nss]; exact f2s
  · rw [set_ne nst.symm]; simp
  · exact (keep_app [st] μ [.dct (rep (dropM m x))]).trans (keep_set (S := [st]) (by simp)) fun i hi _ => hi
end K78
set_option linter.all false
set_option maxRecDepth 100000
set_option maxHeartbeats 1000000
namespace K78
open PySem PySem.Spec PyProof.Rows L2 TL
/-! ### the account -/
def repA (A : List (Str × Nat)) : List (Key × T) := A.map fun p => (Sum.inr p.1, .ref p.2)
theorem val_repA {n : Str} : ∀ A : List (Str × Nat), valT (repA A) (Sum.inr n) = (A.lookup n).map T.ref
  | [] => rfl
  | (k, l) :: r => by
    have ih := val_repA (n := n) r
    unfold valT repA at ih ⊢
    by_cases h : k = n
    · subst h; simp [List.lookup]
    · have h2 : (n == k) = false := by simpa using fun z : n = k => h z.symm
      simp only [List.map_cons, List.find?_cons, List.lookup, h2]
      have h3 : decide ((Sum.inr k : Key) = Sum.inr n) = false := by simpa using h
      rw [h3]
      exact ih
theorem keys_repA : ∀ A : List (Str × Nat), keyS (repA A) = some (A.map (·.1))
  | [] => rfl
  | (k, ws) :: r => by
    have ih := keys_repA r
    unfold repA at ih ⊢
    simp only [List.map_cons, keyS, ih, Option.map_some]
theorem lookup_some {α : Type} {x : Str} : ∀ {l : List (Str × α)}, x ∈ l.map (·.1) → ∃ v, l.lookup x = some v ∧ (x, v) ∈ l
  | [], h => by simp at h
  | (k, v) :: r, h => by
    by_cases e : x = k
    · subst e; exact ⟨v, by simp [List.lookup], by simp⟩
    · have h2 : (x == k) = false := by simpa using e
      obtain ⟨v', h3, h4⟩ := lookup_some (l := r) (x := x) (by simp at h; rcases h with h | h; exact absurd h e; simpa using h)
      exact ⟨v', by simp only [List.lookup, h2]; exact h3, by simp [h4]⟩
theorem lookup_none {α : Type} {x : Str} : ∀ {l : List (Str × α)}, x ∉ l.map (·.1) → l.lookup x = none
  | [], _ => rfl
  | (k, v) :: r, h => by
    simp at h
    have h2 : (x == k) = false := by simpa using h.1
    simp only [List.lookup, h2]
    exact lookup_none (l := r) (by simpa using h.2)
def GoodName (x : Str) : Prop := NameOk x ∧ PyData.strOk x = true
structure Linked (μ : Mem) (A : List (Str × Nat)) (m : Model) : Prop where
  nA : (A.map (·.1)).Nodup
  nM : (m.map (·.1)).Nodup
  same : ∀ x, x ∈ A.map (·.1) ↔ x ∈ m.map (·.1)
  nm : ∀ x ∈ A.map (·.1), GoodName x
  at_ : ∀ p ∈ A, ∃ ws w, m.lookup p.1 = some (ws ++ [w]) ∧ μ[p.2]? = some (.lst ((ws ++ [w]).map webT)) ∧ ws.length ≤ 40 ∧ ∀ v ∈ ws ++ [w], WebOk v
  len : A.length < 64
theorem Linked.sorted {μ : Mem} {A : List (Str × Nat)} {m : Model} (L : Linked μ A m) : sortS (m.map (·.1)) = sortS (A.map (·.1)) := by
  have p : (m.map (·.1)).Perm (A.map (·.1)) := (List.perm_ext_iff_of_nodup L.nM L.nA).mpr fun x => (L.same x).symm
  refine List.Perm.eq_of_pairwise (le := fun a b => leS a b = true) (fun a b _ _ h1 h2 => leS_anti h1 h2) (List.pairwise_mergeSort leS_trans leS_total _) (List.pairwise_mergeSort leS_trans leS_total _) ?_
  exact ((List.mergeSort_perm _ leS).trans p).trans (List.mergeSort_perm _ leS).symm
theorem mem_sort {x : Str} {l : List Str} : x ∈ sortS l ↔ x ∈ l := (List.mergeSort_perm l leS).mem_iff
theorem Linked.mlen {μ : Mem} {A : List (Str × Nat)} {m : Model} (L : Linked μ A m) : m.length = A.length := by
  have p : (m.map (·.1)).Perm (A.map (·.1)) := (List.perm_ext_iff_of_nodup L.nM L.nA).mpr fun x => (L.same x).symm
  simpa using p.length_eq
theorem sortD_e {μ : Mem} {a : Nat} {A : List (Str × Nat)} {dd : EM} {σ : List (Option T)} (e : dd σ μ = .ok (.ref a) μ) (h : μ[a]? = some (.dct (repA A))) (hl : A.length < 64) : dSortD dd σ μ = .ok ((sortS (A.map (·.1))).map T.str) μ := by
  unfold dSortD
  rw [e, bindL_ok]
  have e1 : dctT μ (.ref a) = some (repA A) := by unfold dctT; dsimp only; rw [h]
  rw [e1]
  dsimp only
  rw [keys_repA]
  dsimp only
  rw [if_pos (by simpa using hl)]
theorem word_exc {c : Str} {fs : List (Str × T)} {μ : Mem} (h : c ∈ errs) : wordF (.exc c fs μ) = .ok (.str (wordOf c)) (μ ++ wordG c) := by
  have w0 : wordF (.exc c fs μ) = if c ∈ errs then .ok (.str (wordOf c)) (μ ++ wordG c) else .bad := rfl
  rw [w0, if_pos h]
theorem version_len {μ : Mem} {s st : Nat} {m : Model} {n : Nat} {x : Str} {ws : List Web} (h : St μ s st m n) (hx : NameOk x) (hl : m.lookup x = some ws) : F_Store_version [.ref s, .str x, .int ws.length] μ = .exc "NoNumber" [] μ := by
  refine version_no h hx hl ?_
  have e : F_is_int [.int ws.length] μ = .ok (.bl true) μ := rfl
  have c : dChain leT leT (dVar 1) (dVar 0) (dVar 2) [some (.int ws.length), some (.int 0), some (.int ((ws.length : Int) - 1))] μ = .ok (.bl false) μ := by
    unfold dChain
    have h1 : (0 : Int) ≤ ws.length := by omega
    have h2 : ¬ (ws.length : Int) ≤ ws.length - 1 := by omega
    simp only [dVar_0, dVar_s, bind_ok, leT_i, h1, decide_true, h2, decide_false]
  show (d_is_within [some (.int ws.length), some (.int 0), some (.int ((ws.length : Int) - 1))] μ).toR = _
  simp [d_is_within, e, c]
theorem meth_version {μ : Mem} {s st : Nat} {x y : T} {dd dx dy : EM} {σ : List (Option T)} {r : Res} (h1 : μ[s]? = some (.ins "Store" [("store_stages", .ref st)])) (e : dd σ μ = .ok (.ref s) μ) (ex : dx σ μ = .ok x μ) (ey : dy σ μ = .ok y μ) (hr : F_Store_version [.ref s, x, y] μ = r) : dMeth "Store" "version" 3 F_Store_version dd (aCons dx (aCons dy aNil)) σ μ = r := by
  rw [methK e h1 (by rfl), aCons_e, ex, bind_ok, aCons_e, ey, bind_ok, aNil_e]
  simp [hr]
theorem meth_take {μ : Mem} {s st : Nat} {x : T} {dd dx : EM} {σ : List (Option T)} {r : Res} (h1 : μ[s]? = some (.ins "Store" [("store_stages", .ref st)])) (e : dd σ μ = .ok (.ref s) μ) (ex : dx σ μ = .ok x μ) (hr : F_Store_take [.ref s, x] μ = r) : dMeth "Store" "take" 2 F_Store_take dd (aCons dx aNil) σ μ = r := by
  rw [methK e h1 (by rfl), aCons_e, ex, bind_ok, aNil_e]
  simp [hr]
theorem rng_webs (ws : List Web) : (rngL 0 (ws.length : Int)).map (fun t => match t with | .int i => webT (ws.getD i.toNat (0, [])) | _ => .non) = ws.map webT := by
  unfold rngL
  rw [List.map_map]
  apply List.ext_getElem
  · simp
  · intro i h1 h2
    simp at h1 h2
    simp [h1]
def webAt (ws : List Web) : T → T
  | .int i => webT (ws.getD i.toNat (0, []))
  | _ => .non
theorem webAt_i {ws : List Web} {i : Nat} (hi : i < ws.length) : webAt ws (.int i) = webT ws[i] := by simp [webAt, hi]
theorem rng_webs' (ws : List Web) : (rngL 0 (ws.length : Int)).map (webAt ws) = ws.map webT := by
  unfold rngL
  rw [List.map_map]
  apply List.ext_getElem
  · simp
  · intro i h1 h2
    simp at h1 h2
    simp [h1, webAt]
theorem as_el {μ : Mem} {s st st' : Nat} {m : Model} {n a l i : Nat} {x : Str} {ws : List Web} (h' : St μ s st m n) (h1' : μ[s]? = some (.ins "Store" [("store_stages", .ref st')])) (hxn : NameOk x) (q1 : m.lookup x = some ws) (hi : i < ws.length) :
    dMeth "Store" "version" 3 F_Store_version (dVar 0) (aCons (dVar 2) (aCons (dVar 4) aNil)) [some (.ref s), some (.ref a), some (.str x), some (.ref l), some (.int i)] μ = .ok (webAt ws (.int i)) μ := by
  rw [webAt_i hi]
  exact meth_version h1' rfl rfl rfl (version_ok h' hxn q1 hi)
theorem as_lc {μ : Mem} {s st st' : Nat} {m : Model} {n a l : Nat} {x : Str} {ws : List Web} {o4 : Option T} (h' : St μ s st m n) (h1' : μ[s]? = some (.ins "Store" [("store_stages", .ref st')])) (hxn : NameOk x) (q1 : m.lookup x = some ws) (hl' : μ[l]? = some (.lst (ws.map webT))) (hlen : ws.length ≤ 41) :
    dLc (dRng1 (dCall lenC (aCons (dVar 3) aNil))) (.nm 4) [4] none (dMeth "Store" "version" 3 F_Store_version (dVar 0) (aCons (dVar 2) (aCons (dVar 4) aNil))) [some (.ref s), some (.ref a), some (.str x), some (.ref l), o4] μ = .ok (ws.map webT) μ := by
  have e4 : lenC [.ref l] μ = .ok (.int ws.length) μ := by rw [lenC_l hl', List.length_map]
  have rq : rngOk (ws.length : Int) = true := by unfold rngOk; simp; omega
  have rg : dRng1 (dCall lenC (aCons (dVar 3) aNil)) [some (.ref s), some (.ref a), some (.str x), some (.ref l), o4] μ = .its (rngL 0 ws.length) [] μ := by
    unfold dRng1
    simp only [dCall_e, aCons_e, aNil_e, dVar_0, dVar_s, bind_ok, e4]
    rw [if_pos rq]
  have wp : wipeT [some (.ref s), some (.ref a), some (.str x), some (.ref l), o4] [4] = [some (.ref s), some (.ref a), some (.str x), some (.ref l), none] := rfl
  unfold dLc
  rw [rg]
  dsimp only
  rw [wp, ← rng_webs' ws]
  have q := lc_all (ws := []) (i := 4) (el := dMeth "Store" "version" 3 F_Store_version (dVar 0) (aCons (dVar 2) (aCons (dVar 4) aNil))) (σ := [some (.ref s), some (.ref a), some (.str x), some (.ref l), none]) (μ := μ) (f := webAt ws) (watched_nil μ) (rngL 0 ws.length) [] (fun y hy => by
    unfold rngL at hy
    obtain ⟨i, hi, rfl⟩ := List.mem_map.mp hy
    simp at hi
    have z : (0 : Int) + (i : Nat) = i := by omega
    rw [z]
    simp only [List.set_cons_succ, List.set_cons_zero]
    exact as_el h' h1' hxn q1 hi) (by rw [rngL_len]; simp; omega)
  rw [List.nil_append] at q
  exact q
theorem is_as_ok {μ : Mem} {s st : Nat} {m : Model} {n a : Nat} {A : List (Str × Nat)} (h : St μ s st m n) (ha : μ[a]? = some (.dct (repA A))) (L : Linked μ A m) : ∃ g, F__law_is_as [.ref s, .ref a] μ = .ok (.bl true) (μ ++ g) := by
  have hs : ∀ μ' g, μ' = μ ++ g → ∃ st, μ'[s]? = some (.ins "Store" [("store_stages", .ref st)]) := fun μ' g e => by
    obtain ⟨pre, d, h1, _⟩ := h
    subst e
    exact ⟨st, by rw [List.getElem?_append_left (List.getElem?_eq_some_iff.mp h1).1]; exact h1⟩
  let Inv : List (Option T) → Mem → Prop := fun σ μ' => ∃ (o2 o3 o4 : Option T) (g : Mem), σ = [some (.ref s), some (.ref a), o2, o3, o4] ∧ μ' = μ ++ g
  have step : ∀ t ∈ (sortS (A.map (·.1))).map T.str, ∀ σ μ', Inv σ μ' → ∃ σ2 μ2, (sSeq (sSet 3 (d2 subT' (dVar 1) (dVar 2)))
    (sSeq (sIf (d2 neT (dMeth "Store" "take" 2 F_Store_take (dVar 0) (aCons (dVar 2) aNil)) (d2 subT' (dVar 3) (d1 negT (dC (.int 1))))) (sRet (dC (.bl false))) sNil)
    (sSeq (sIf (d2 neT (dNew (dLc (dRng1 (dCall lenC (aCons (dVar 3) aNil))) (.nm 4) [4] none (dMeth "Store" "version" 3 F_Store_version (dVar 0) (aCons (dVar 2) (aCons (dVar 4) aNil))))) (dVar 3)) (sRet (dC (.bl false))) sNil)
    (sIf (d2 neT (fun σ μ => wordF ((dMeth "Store" "version" 3 F_Store_version (dVar 0) (aCons (dVar 2) (aCons (dCall lenC (aCons (dVar 3) aNil)) aNil))) σ μ)) (dC (.str "number"))) (sRet (dC (.bl false))) sNil)))) (σ.set 2 (some t)) μ' = .nx σ2 μ2 ∧ Inv σ2 μ2 := by
    intro t ht σ μ' hI
    obtain ⟨x, hx, rfl⟩ := List.mem_map.mp ht
    rw [mem_sort] at hx
    obtain ⟨o2, o3, o4, g, rfl, rfl⟩ := hI
    obtain ⟨l, hl, hmem⟩ := lookup_some hx
    obtain ⟨ws0, w, q1, q2, q3, _⟩ := L.at_ _ hmem
    generalize hws : ws0 ++ [w] = ws at q1 q2
    have hxn := (L.nm x hx).1
    have kg := keep_app [] μ g
    have h' : St (μ ++ g) s st m n := h.keep kg (by simp)
    obtain ⟨st', h1'⟩ := hs (μ ++ g) g rfl
    have ha' : (μ ++ g)[a]? = some (.dct (repA A)) := kg.at ha (by simp)
    have hl' : (μ ++ g)[l]? = some (.lst (ws.map webT)) := kg.at q2 (by simp)
    have e1 : subT' (.ref a) (.str x) (μ ++ g) = .ok (.ref l) (μ ++ g) := subD ha' rfl (by rw [val_repA, hl]; rfl)
    have e2 := take_ok (x := x) (ws := ws0) (w := w) h' hxn (by rw [hws]; exact q1)
    have e3 : subT' (.ref l) (.int (-1)) (μ ++ g) = .ok (webT w) (μ ++ g) := subL hl' (by rw [← hws, List.map_append]; exact atI_last)
    have hlen : ws.length ≤ 41 := by rw [← hws]; simp; omega
    have e4 : lenC [.ref l] (μ ++ g) = .ok (.int ws.length) (μ ++ g) := by rw [lenC_l hl', List.length_map]
    have rq : rngOk (ws.length : Int) = true := by unfold rngOk; simp; omega
    have e5 := as_lc (a := a) (o4 := o4) h' h1' hxn q1 hl' hlen
    have k2 := keep_app [] (μ ++ g) [MO.lst (ws.map webT)]
    have n1 : ((μ ++ g) ++ [MO.lst (ws.map webT)])[(μ ++ g).length]? = some (.lst (ws.map webT)) := by simp
    have n2 : ((μ ++ g) ++ [MO.lst (ws.map webT)])[l]? = some (.lst (ws.map webT)) := k2.at hl' (by simp)
    have e6 := neT_webs n1 n2
    have h'' : St ((μ ++ g) ++ [MO.lst (ws.map webT)]) s st m n := h'.keep k2 (by simp)
    have e7 := version_len (x := x) h'' hxn q1
    have h1'' := k2.at h1' (by simp)
    have e8 : lenC [.ref l] ((μ ++ g) ++ [MO.lst (ws.map webT)]) = .ok (.int ws.length) ((μ ++ g) ++ [MO.lst (ws.map webT)]) := by rw [lenC_l n2, List.length_map]
    have e9 := meth_version (dd := dVar 0) (dx := dVar 2) (dy := dCall lenC (aCons (dVar 3) aNil)) (σ := [some (.ref s), some (.ref a), some (.str x), some (.ref l), o4]) (x := .str x) (y := .int ws.length) h1'' rfl rfl (by simp only [dCall_e, aCons_e, aNil_e, dVar_s, dVar_0, bind_ok, e8]) e7
    have et := meth_take (dd := dVar 0) (dx := dVar 2) (σ := [some (.ref s), some (.ref a), some (.str x), some (.ref l), o4]) (x := .str x) h1' rfl rfl e2
    refine ⟨[some (.ref s), some (.ref a), some (.str x), some (.ref l), o4], _, ?_, some (.str x), some (.ref l), o4, g ++ ([MO.lst (ws.map webT)] ++ wordG "NoNumber"), rfl, rfl⟩
    simp only [List.set_cons_zero, List.set_cons_succ, sSeq_e, sSet_e, d2_e, dVar_0, dVar_s, bind_ok, e1, toS_ok, seq_nx, sIf_e, et, d1_e, dC_e, negT_i, e3, neT_web, sIfK_e, Bool.false_eq_true, if_false, sNil_e, dNew_e, e5, lbind_ok, e6, e9, word_exc (c := "NoNumber") (by decide)]
    have w : wordOf "NoNumber" = "number" := rfl
    simp only [w, neT_e, eqT_s, decide_true, bind_ok, notT_e, Bool.not_true, toS_ok, sIfK_e, Bool.false_eq_true, if_false, sNil_e, List.append_assoc]
  obtain ⟨σ2, μ2, e2, o2, o3, o4, g, rfl, rfl⟩ := for_inv (i := 2) Inv _ step [some (.ref s), some (.ref a), none, none, none] μ ⟨none, none, none, [], rfl, by simp⟩
  refine ⟨g, ?_⟩
  obtain ⟨st', h1'⟩ := hs μ [] (by simp)
  have en := names_ok h (by rw [L.mlen]; exact L.len)
  have em : dMeth "Store" "names" 1 F_Store_names (dVar 0) aNil [some (.ref s), some (.ref a), none, none, none] μ = .ok (.tup ((sortS (m.map (·.1))).map T.str)) μ := by
    rw [methK (by rfl) h1' (by rfl), aNil_e]
    simp [en]
  have sd := sortD_e (dd := dVar 1) (σ := [some (.ref s), some (.ref a), none, none, none]) rfl ha L.len
  have ne := neT_strs (xs := sortS (A.map (·.1))) (μ := μ) (fun x hx => (L.nm x (mem_sort.mp hx)).2)
  show (d__law_is_as [some (.ref s), some (.ref a), none, none, none] μ).toR = _
  unfold d__law_is_as
  rw [sSeq_e]
  simp only [sIf_e, d2_e, em, bind_ok, dQ_e, sd, lbind_ok, tupQ_e, L.sorted, ne, toS_ok, sIfK_e, Bool.false_eq_true, if_false, sNil_e, seq_nx]
  rw [sSeq_e]
  unfold sFor dIterL
  rw [sd]
  dsimp only
  rw [e2, seq_nx]
  simp
end K78
set_option linter.all false
set_option maxRecDepth 100000
set_option maxHeartbeats 1000000
namespace K78
open PySem PySem.Spec PyProof.Rows L2 TL
def names4 : List Str := ["a", "b", "eight", "longname"]
theorem good4 : ∀ x ∈ names4, GoodName x := by
  intro x hx
  simp only [names4, List.mem_cons, List.not_mem_nil, or_false] at hx
  rcases hx with rfl | rfl | rfl | rfl <;> exact ⟨fun μ => rfl, by decide +kernel⟩
structure Led (μ : Mem) (h hc nm s st a : Nat) (A : List (Str × Nat)) (m : Model) (t : Nat) : Prop where
  H : Hand μ h hc
  N : μ[nm]? = some (.lst (names4.map T.str))
  S : St μ s st m t
  a_ : μ[a]? = some (.dct (repA A))
  L : Linked μ A m
  d1 : ∀ p ∈ A, p.2 ≠ h ∧ p.2 ≠ st
  d2 : h ≠ st
  d3 : nm ≠ h
  d4 : nm ≠ st
  d5 : hc ≠ st
  ks : ∀ x ∈ A.map (·.1), x ∈ names4
  vs : ∀ x, (vers m x).length ≤ t
theorem Linked.keep {μ μ' : Mem} {A : List (Str × Nat)} {m : Model} {S : List Nat} (L : Linked μ A m) (k : Keep S μ μ') (h : ∀ p ∈ A, p.2 ∉ S) : Linked μ' A m :=
  ⟨L.nA, L.nM, L.same, L.nm, fun p hp => by
    obtain ⟨ws, w, q1, q2, q3⟩ := L.at_ p hp
    exact ⟨ws, w, q1, k.at q2 (h p hp), q3⟩, L.len⟩
theorem hand_lst {μ : Mem} {h hc : Nat} (H : Hand μ h hc) : ∃ xs, μ[h]? = some (.lst xs) := by
  obtain ⟨cs, j, v, s, c, n, h1, r⟩ := H
  exact ⟨_, h1⟩
theorem dct_ne {μ : Mem} {i a : Nat} {xs : List T} {kvs : List (Key × T)} (h1 : μ[i]? = some (.lst xs)) (h2 : μ[a]? = some (.dct kvs)) : a ≠ i := fun z => by rw [z, h1] at h2; cases h2
theorem Led.keepH {μ μ' : Mem} {h hc nm s st a t : Nat} {A : List (Str × Nat)} {m : Model} (X : Led μ h hc nm s st a A m t) (k : Keep [h] μ μ') (H' : Hand μ' h hc) : Led μ' h hc nm s st a A m t := by
  obtain ⟨xs, hx⟩ := hand_lst X.H
  have na := dct_ne hx X.a_
  exact ⟨H', k.at X.N (by simp [X.d3]), X.S.keep k (fun i hi o ho => by simp at hi; subst hi; rw [hx] at ho; cases ho; exact ⟨⟨_, rfl⟩, X.d2⟩), k.at X.a_ (by simp [na]), X.L.keep k (fun p hp => by simp [(X.d1 p hp).1]), X.d1, X.d2, X.d3, X.d4, X.d5, X.ks, X.vs⟩
theorem Led.keepN {μ μ' : Mem} {h hc nm s st a t : Nat} {A : List (Str × Nat)} {m : Model} (X : Led μ h hc nm s st a A m t) (k : Keep [] μ μ') : Led μ' h hc nm s st a A m t :=
  ⟨X.H.keep k (by simp) (by simp), k.at X.N (by simp), X.S.keep k (by simp), k.at X.a_ (by simp), X.L.keep k (by simp), X.d1, X.d2, X.d3, X.d4, X.d5, X.ks, X.vs⟩
theorem St.mono {μ : Mem} {s st n n' : Nat} {m : Model} (h : St μ s st m n) (hn : n ≤ n') : St μ s st m n' := by
  obtain ⟨pre, d, h1, h2, h3, h4⟩ := h
  exact ⟨pre, d, h1, h2, h3, by omega⟩
theorem Led.mono {μ : Mem} {h hc nm s st a t t' : Nat} {A : List (Str × Nat)} {m : Model} (X : Led μ h hc nm s st a A m t) (ht : t ≤ t') : Led μ h hc nm s st a A m t' :=
  ⟨X.H, X.N, X.S.mono ht, X.a_, X.L, X.d1, X.d2, X.d3, X.d4, X.d5, X.ks, fun x => Nat.le_trans (X.vs x) ht⟩
/-! ### the account anew -/
theorem lc_filter {i : Nat} {c el : EM} {σ : List (Option T)} {μ : Mem} {P : T → Bool} {f : T → T} : ∀ (xs acc : List T), (∀ x ∈ xs, c (σ.set i (some x)) μ = .ok (.bl (P x)) μ) → (∀ x ∈ xs, P x = true → el (σ.set i (some x)) μ = .ok (f x) μ) → acc.length + xs.length ≤ 1000 → lcGo [] (.nm i) (some c) el σ xs acc μ = .ok (acc ++ (xs.filter P).map f) μ
  | [], acc, _, _, _ => by unfold lcGo; rw [if_pos (watched_nil μ)]; simp
  | x :: r, acc, h1, h2, hz => by
    unfold lcGo
    rw [if_pos (watched_nil μ)]
    show ((c (σ.set i (some x)) μ).toL _) = _
    rw [h1 x (by simp), toL_ok]
    cases hP : P x with
    | true =>
      show ((el (σ.set i (some x)) μ).toL _) = _
      rw [h2 x (by simp) hP, toL_ok, if_pos (szl (by simp at hz; omega))]
      rw [lc_filter r (acc ++ [f x]) (fun y hy => h1 y (by simp [hy])) (fun y hy => h2 y (by simp [hy])) (by simp at hz ⊢; omega)]
      simp [hP]
    | false =>
      show lcGo [] (.nm i) (some c) el σ r acc μ = _
      rw [lc_filter r acc (fun y hy => h1 y (by simp [hy])) (fun y hy => h2 y (by simp [hy])) (by simp at hz ⊢; omega)]
      simp [hP]
theorem unPairs_repA : ∀ A : List (Str × Nat), unPairs (A.map fun p => T.tup [.str p.1, .ref p.2]) = some (repA A)
  | [] => rfl
  | p :: r => by
    have ih := unPairs_repA r
    simp only [List.map_cons, unPairs, ih, unPair, keyT, Option.map_some, Option.bind_some, repA]
theorem merge_repA : ∀ (A acc : List (Str × Nat)), (∀ p ∈ acc, ∀ q ∈ A, p.1 ≠ q.1) → (A.map (·.1)).Nodup → mergeKT (repA acc) (repA A) = repA (acc ++ A)
  | [], acc, _, _ => by simp [mergeKT, repA]
  | p :: r, acc, h, nd => by
    simp at nd
    have e : mergeKT (repA acc) (repA (p :: r)) = mergeKT (putKT (repA acc) (Sum.inr p.1) (.ref p.2)) (repA r) := rfl
    have e2 : putKT (repA acc) (Sum.inr p.1) (.ref p.2) = repA (acc ++ [p]) := by
      rw [putKT_new]
      · simp [repA]
      · intro q hq
        obtain ⟨z, hz, rfl⟩ := List.mem_map.mp hq
        have := h z hz p (by simp)
        simpa using this
    rw [e, e2, merge_repA r (acc ++ [p]) ?_ nd.2]
    · simp
    · intro z hz q hq
      rcases List.mem_append.mp hz with hz | hz
      · exact h z hz q (by simp [hq])
      · simp at hz; subst hz
        intro y
        exact nd.1 q.2 (by rw [y]; exact hq)
theorem dict_repA {A : List (Str × Nat)} {μ : Mem} (nd : (A.map (·.1)).Nodup) : dictQ (A.map fun p => T.tup [.str p.1, .ref p.2]) μ = .ok (.ref μ.length) (μ ++ [.dct (repA A)]) := by
  unfold dictQ
  rw [unPairs_repA]
  dsimp only
  have e := merge_repA A [] (by simp) nd
  rw [show repA [] = [] from rfl] at e
  rw [e]
  simp
/-- what stands behind a name was dropped -/
def dropA (A : List (Str × Nat)) (x : Str) : List (Str × Nat) := ((sortS (A.map (·.1))).filter fun y => decide (y ≠ x)).map fun y => (y, (A.lookup y).getD 0)
theorem lookup_of_nodup {α : Type} {x : Str} {v : α} : ∀ {l : List (Str × α)}, (l.map (·.1)).Nodup → (x, v) ∈ l → l.lookup x = some v
  | [], _, h => by simp at h
  | (k, w) :: r, nd, h => by
    simp at nd
    rcases List.mem_cons.mp h with h | h
    · cases h; simp [List.lookup]
    · have hk : x ≠ k := fun z => nd.1 v (by rw [← z]; exact h)
      have h2 : (x == k) = false := by simpa using hk
      simp only [List.lookup, h2]
      exact lookup_of_nodup nd.2 h
theorem dropA_keys (A : List (Str × Nat)) (x : Str) : (dropA A x).map (·.1) = (sortS (A.map (·.1))).filter fun y => decide (y ≠ x) := by
  unfold dropA; rw [List.map_map]
  exact List.map_id' _
theorem sort_nodup {l : List Str} (h : l.Nodup) : (sortS l).Nodup := (List.mergeSort_perm l leS).nodup_iff.mpr h
theorem mem_dropA {A : List (Str × Nat)} {x : Str} {p : Str × Nat} (nd : (A.map (·.1)).Nodup) : p ∈ dropA A x ↔ p ∈ A ∧ p.1 ≠ x := by
  unfold dropA
  rw [List.mem_map]
  constructor
  · rintro ⟨y, hy, rfl⟩
    rw [List.mem_filter, mem_sort] at hy
    obtain ⟨v, h1, h2⟩ := lookup_some hy.1
    rw [h1]
    exact ⟨h2, by simpa using hy.2⟩
  · rintro ⟨h1, h2⟩
    refine ⟨p.1, List.mem_filter.mpr ⟨mem_sort.mpr (List.mem_map_of_mem h1), by simpa using h2⟩, ?_⟩
    rw [lookup_of_nodup nd (show (p.1, p.2) ∈ A from h1)]
    rfl
theorem rebuild {μ : Mem} {h nm s a : Nat} {A : List (Str × Nat)} {x : Str} {o4 o5 o7 o8 : Option T} (ha : μ[a]? = some (.dct (repA A))) (nd : (A.map (·.1)).Nodup) (hl : A.length < 64) :
    dQ dictQ (dLc (dIterL (dSortD (dVar 3))) (.nm 8) [8] (some (d2 neT (dVar 8) (dVar 6))) (dTup (aCons (dVar 8) (aCons (d2 subT' (dVar 3) (dVar 8)) aNil)))) [some (.ref h), some (.ref nm), some (.ref s), some (.ref a), o4, o5, some (.str x), o7, o8] μ = .ok (.ref μ.length) (μ ++ [.dct (repA (dropA A x))]) := by
  have sd := sortD_e (dd := dVar 3) (σ := [some (.ref h), some (.ref nm), some (.ref s), some (.ref a), o4, o5, some (.str x), o7, o8]) rfl ha hl
  have z2 : (2 : Nat) ≤ sizeLine := sz (by omega)
  have wp : wipeT [some (.ref h), some (.ref nm), some (.ref s), some (.ref a), o4, o5, some (.str x), o7, o8] [8] = [some (.ref h), some (.ref nm), some (.ref s), some (.ref a), o4, o5, some (.str x), o7, none] := rfl
  have slen : (sortS (A.map (·.1))).length = A.length := (show (sortS (A.map (·.1))).length = (A.map (·.1)).length from (List.mergeSort_perm _ leS).length_eq).trans (by simp)
  have lc : dLc (dIterL (dSortD (dVar 3))) (.nm 8) [8] (some (d2 neT (dVar 8) (dVar 6))) (dTup (aCons (dVar 8) (aCons (d2 subT' (dVar 3) (dVar 8)) aNil))) [some (.ref h), some (.ref nm), some (.ref s), some (.ref a), o4, o5, some (.str x), o7, o8] μ = .ok ((dropA A x).map fun p => T.tup [.str p.1, .ref p.2]) μ := by
    unfold dLc dIterL
    rw [sd]
    dsimp only
    rw [wp]
    have q := lc_filter (i := 8) (c := d2 neT (dVar 8) (dVar 6)) (el := dTup (aCons (dVar 8) (aCons (d2 subT' (dVar 3) (dVar 8)) aNil))) (σ := [some (.ref h), some (.ref nm), some (.ref s), some (.ref a), o4, o5, some (.str x), o7, none]) (μ := μ) (P := fun t => match t with | .str y => decide (y ≠ x) | _ => false) (f := fun t => match t with | .str y => T.tup [.str y, .ref ((A.lookup y).getD 0)] | _ => .non) ((sortS (A.map (·.1))).map T.str) [] (fun t ht => by
      obtain ⟨y, hy, rfl⟩ := List.mem_map.mp ht
      simp only [List.set_cons_succ, List.set_cons_zero, d2_e, dVar_s, dVar_0, bind_ok, neT_e, eqT_s, notT_e]
      simp) (fun t ht _ => by
      obtain ⟨y, hy, rfl⟩ := List.mem_map.mp ht
      rw [mem_sort] at hy
      obtain ⟨l, hl, hm⟩ := lookup_some hy
      have e1 : subT' (.ref a) (.str y) μ = .ok (.ref l) μ := subD ha rfl (by rw [val_repA, hl]; rfl)
      simp only [List.set_cons_succ, List.set_cons_zero, dTup_e, aCons_e, aNil_e, d2_e, dVar_s, dVar_0, bind_ok, e1, List.length_cons, List.length_nil, Nat.zero_add, Nat.reduceAdd, if_pos z2, hl, Option.getD_some]) (by simp [slen]; omega)
    rw [q, List.nil_append]
    unfold dropA
    congr 1
    rw [List.filter_map, List.map_map, List.map_map]
    rfl
  rw [dQ_e, lc, lbind_ok]
  exact dict_repA (by rw [dropA_keys]; exact (sort_nodup nd).filter _)
end K78
set_option linter.all false
set_option maxRecDepth 100000
set_option maxHeartbeats 1000000
namespace K78
open PySem PySem.Spec PyProof.Rows L2 TL
/-! ### a name's list in the account -/
def putA (A : List (Str × Nat)) (n : Str) (l : Nat) : List (Str × Nat) := if (A.any fun p => decide (p.1 = n)) = true then A.map (fun p => if p.1 = n then (p.1, l) else p) else A ++ [(n, l)]
theorem any_repA {n : Str} : ∀ A : List (Str × Nat), ((repA A).any fun kv => decide (kv.1 = (Sum.inr n : Key))) = A.any fun p => decide (p.1 = n)
  | [] => rfl
  | (k, ws) :: r => by
    have ih := any_repA (n := n) r
    unfold repA at ih ⊢
    simp only [List.map_cons, List.any_cons]
    rw [ih]
    congr 1
    simp
theorem put_repA {n : Str} {l : Nat} (A : List (Str × Nat)) : putKT (repA A) (Sum.inr n) (.ref l) = repA (putA A n l) := by
  unfold putKT putA
  rw [any_repA]
  split
  · unfold repA
    rw [List.map_map, List.map_map]
    apply List.map_congr_left
    intro p _
    by_cases h : p.1 = n
    · simp [h]
    · simp [h]
  · unfold repA; simp
theorem keys_putA {n : Str} {l : Nat} (A : List (Str × Nat)) : (putA A n l).map (·.1) = if (A.any fun p => decide (p.1 = n)) = true then A.map (·.1) else A.map (·.1) ++ [n] := by
  unfold putA
  split
  · rw [List.map_map]
    apply List.map_congr_left
    intro p _
    by_cases h : p.1 = n <;> simp [h]
  · simp
theorem mem_putA {n : Str} {l : Nat} {A : List (Str × Nat)} {p : Str × Nat} (h : p ∈ putA A n l) : (p.1 = n ∧ p.2 = l) ∨ (p ∈ A ∧ p.1 ≠ n) := by
  unfold putA at h
  split at h
  · obtain ⟨q, hq, rfl⟩ := List.mem_map.mp h
    by_cases e : q.1 = n
    · rw [if_pos e]; exact .inl ⟨e, rfl⟩
    · rw [if_neg e]; exact .inr ⟨hq, e⟩
  · rename_i hn
    rcases List.mem_append.mp h with h | h
    · refine .inr ⟨h, fun e => hn ?_⟩
      exact List.any_eq_true.mpr ⟨p, h, by simp [e]⟩
    · simp at h; subst h; exact .inl ⟨rfl, rfl⟩
theorem any_mem {α : Type} {n : Str} {A : List (Str × α)} : (A.any fun p => decide (p.1 = n)) = true ↔ n ∈ A.map (·.1) := by
  rw [List.any_eq_true, List.mem_map]
  constructor
  · rintro ⟨p, hp, e⟩; exact ⟨p, hp, by simpa using e⟩
  · rintro ⟨p, hp, e⟩; exact ⟨p, hp, by simp [e]⟩
theorem nodup_put {α : Type} {n : Str} {A : List (Str × α)} (nd : (A.map (·.1)).Nodup) : (if (A.any fun p => decide (p.1 = n)) = true then A.map (·.1) else A.map (·.1) ++ [n]).Nodup := by
  split
  · exact nd
  · rename_i h
    rw [any_mem] at h
    rw [List.nodup_append]
    exact ⟨nd, by simp, fun a ha b hb => by simp at hb; subst hb; exact fun e => h (e ▸ ha)⟩
theorem mem_put {α : Type} {n x : Str} {A : List (Str × α)} : x ∈ (if (A.any fun p => decide (p.1 = n)) = true then A.map (·.1) else A.map (·.1) ++ [n]) ↔ x ∈ A.map (·.1) ∨ x = n := by
  split
  · rename_i h
    rw [any_mem] at h
    constructor
    · exact .inl
    · rintro (q | rfl)
      · exact q
      · exact h
  · simp
theorem nd_len : ∀ (l bs : List Str), l.Nodup → (∀ x ∈ l, x ∈ bs) → l.length ≤ bs.length
  | [], _, _, _ => Nat.zero_le _
  | x :: r, bs, nd, h => by
    simp only [List.nodup_cons] at nd
    have hx := h x (by simp)
    have ih := nd_len r (bs.erase x) nd.2 fun y hy => (List.mem_erase_of_ne (fun z => nd.1 (by rw [← z]; exact hy))).mpr (h y (by simp [hy]))
    rw [List.length_erase_of_mem hx] at ih
    have : 0 < bs.length := List.length_pos_of_mem hx
    simp; omega
theorem mem4_len {A : List (Str × Nat)} (nd : (A.map (·.1)).Nodup) (h : ∀ x ∈ A.map (·.1), x ∈ names4) : A.length ≤ 4 := by
  have := nd_len _ names4 nd h
  simpa [names4] using this
theorem vers_none {m : Model} {x : Str} (h : m.lookup x = none) : vers m x = [] := by unfold vers; rw [h]; rfl
theorem vers_some {m : Model} {x : Str} {ws : List Web} (h : m.lookup x = some ws) : vers m x = ws := by unfold vers; rw [h]; rfl
/-- behind a put -/
theorem Led.put {μ μ' : Mem} {h hc nm s st a t k : Nat} {A : List (Str × Nat)} {m : Model} {x : Str} {w : Web} (X : Led μ h hc nm s st a A m t) (hx : x ∈ names4) (hw : WebOk w) (ht : t ≤ 40) (S' : St μ' s st (putM m x (vers m x ++ [w])) (t + 1)) (H' : Hand μ' h hc) (kp : Keep [st, a] μ μ') (ha : μ'[a]? = some (.dct (repA (putA A x k)))) (hk : μ'[k]? = some (.lst ((vers m x ++ [w]).map webT))) (hkn : μ.length ≤ k) (nh : nm ≠ a) :
    Led μ' h hc nm s st a (putA A x k) (putM m x (vers m x ++ [w])) (t + 1) := by
  have lth := X.H.lt
  have ltst : st < μ.length := by obtain ⟨pre, d, h1, h2, _⟩ := X.S; exact (List.getElem?_eq_some_iff.mp h2).1
  have keysA := keys_putA (n := x) (l := k) A
  have keysM := keys_put (n := x) (ws := vers m x ++ [w]) m
  refine ⟨H', kp.at X.N (by simp [X.d4, nh]), S', ha, ⟨by rw [keysA]; exact nodup_put X.L.nA, by rw [keysM]; exact nodup_put X.L.nM, fun y => by rw [keysA, keysM, mem_put, mem_put, X.L.same y], fun y hy => ?_, fun p hp => ?_, ?_⟩, fun p hp => ?_, X.d2, X.d3, X.d4, X.d5, fun y hy => ?_, fun y => ?_⟩
  · rw [keysA, mem_put] at hy
    rcases hy with hy | rfl
    · exact X.L.nm y hy
    · exact good4 _ hx
  · rcases mem_putA hp with ⟨e1, e2⟩ | ⟨e1, e2⟩
    · rw [e1, e2]
      refine ⟨vers m x, w, look_put_self m, hk, Nat.le_trans (X.vs x) ht, fun v hv => ?_⟩
      rcases List.mem_append.mp hv with hv | hv
      · by_cases hm : x ∈ A.map (·.1)
        · obtain ⟨l, q1, q2⟩ := lookup_some hm
          obtain ⟨ws, w', q3, _, _, q4⟩ := X.L.at_ _ q2
          rw [vers_some q3] at hv
          exact q4 v hv
        · rw [vers_none (lookup_none (fun z => hm ((X.L.same x).mpr z)))] at hv
          simp at hv
      · simp at hv; subst hv; exact hw
    · obtain ⟨ws, w', q1, q2, q3⟩ := X.L.at_ p e1
      refine ⟨ws, w', by rw [look_put_ne e2]; exact q1, kp.at q2 ?_, q3⟩
      simp only [List.mem_cons, List.not_mem_nil, or_false, not_or]
      exact ⟨(X.d1 p e1).2, fun z => by rw [z, X.a_] at q2; cases q2⟩
  · have := mem4_len (A := putA A x k) (by rw [keysA]; exact nodup_put X.L.nA) (fun y hy => by
      rw [keysA, mem_put] at hy
      rcases hy with hy | rfl
      · exact X.ks y hy
      · exact hx)
    omega
  · rcases mem_putA hp with ⟨e1, e2⟩ | ⟨e1, e2⟩
    · rw [e2]; exact ⟨by omega, by omega⟩
    · exact X.d1 p e1
  · rw [keysA, mem_put] at hy
    rcases hy with hy | rfl
    · exact X.ks y hy
    · exact hx
  · by_cases e : y = x
    · subst e
      rw [vers_some (look_put_self m)]
      simp; exact X.vs y
    · unfold vers
      rw [look_put_ne e]
      exact Nat.le_succ_of_le (X.vs y)
end K78
set_option linter.all false
set_option maxRecDepth 100000
set_option maxHeartbeats 1000000
namespace K78
open PySem PySem.Spec PyProof.Rows L2 TL
theorem look_drop_ne {y x : Str} (h : y ≠ x) : ∀ m : Model, (dropM m x).lookup y = m.lookup y
  | [] => rfl
  | (k, ws) :: r => by
    have ih := look_drop_ne h r
    unfold dropM at ih ⊢
    by_cases e : k = x
    · have h2 : (y == k) = false := by simpa [e] using h
      simp only [e, ne_eq, not_true_eq_false, decide_false, Bool.false_eq_true, not_false_eq_true, List.filter_cons_of_neg]
      rw [← e]
      simp only [List.lookup, h2]
      rw [e]
      exact ih
    · rw [List.filter_cons_of_pos (by simp [e])]
      simp only [List.lookup]
      rw [ih]
theorem keys_drop (m : Model) (x : Str) : (dropM m x).map (·.1) = (m.map (·.1)).filter fun y => decide (y ≠ x) := by
  unfold dropM; rw [List.filter_map]; rfl
theorem Led.drop {μ μ' : Mem} {h hc nm s st a t : Nat} {A : List (Str × Nat)} {m : Model} {x : Str} (X : Led μ h hc nm s st a A m t) (S' : St μ' s st (dropM m x) (t + 1)) (kp : Keep [st] μ μ') :
    Led (μ' ++ [.dct (repA (dropA A x))]) h hc nm s st μ'.length (dropA A x) (dropM m x) (t + 1) := by
  have lth := X.H.lt
  have k2 := keep_app [] μ' [MO.dct (repA (dropA A x))]
  have kk : Keep [st] μ (μ' ++ [MO.dct (repA (dropA A x))]) := kp.trans k2 (by simp)
  have kA := dropA_keys A x
  have kM := keys_drop m x
  have inA : ∀ y, y ∈ (dropA A x).map (·.1) ↔ y ∈ A.map (·.1) ∧ y ≠ x := fun y => by rw [kA, List.mem_filter, mem_sort]; simp
  have inM : ∀ y, y ∈ (dropM m x).map (·.1) ↔ y ∈ m.map (·.1) ∧ y ≠ x := fun y => by rw [kM, List.mem_filter]; simp
  have ndA : ((dropA A x).map (·.1)).Nodup := by rw [kA]; exact (sort_nodup X.L.nA).filter _
  refine ⟨X.H.keep kk (by simp [X.d2]) (by simp [X.d5]), kk.at X.N (by simp [X.d4]), S'.keep k2 (by simp), by simp, ⟨ndA, by rw [kM]; exact X.L.nM.filter _, fun y => by rw [inA, inM, X.L.same y], fun y hy => X.L.nm y ((inA y).mp hy).1, fun p hp => ?_, ?_⟩, fun p hp => X.d1 p ((mem_dropA X.L.nA).mp hp).1, X.d2, X.d3, X.d4, X.d5, fun y hy => X.ks y ((inA y).mp hy).1, fun y => ?_⟩
  · obtain ⟨hp1, hp2⟩ := (mem_dropA X.L.nA).mp hp
    obtain ⟨ws, w, q1, q2, q3⟩ := X.L.at_ p hp1
    exact ⟨ws, w, by rw [look_drop_ne hp2]; exact q1, kk.at q2 (by simp [(X.d1 p hp1).2]), q3⟩
  · have := mem4_len ndA fun y hy => X.ks y ((inA y).mp hy).1
    omega
  · by_cases e : y = x
    · subst e
      rw [vers_none (lookup_none fun z => ((inM y).mp z).2 rfl)]
      simp
    · unfold vers
      rw [look_drop_ne e]
      exact Nat.le_succ_of_le (X.vs y)
theorem meth_drop {μ : Mem} {s st : Nat} {x : T} {dd dx : EM} {σ : List (Option T)} {r : Res} (h1 : μ[s]? = some (.ins "Store" [("store_stages", .ref st)])) (e : dd σ μ = .ok (.ref s) μ) (ex : dx σ μ = .ok x μ) (hr : F_Store_drop [.ref s, x] μ = r) : dMeth "Store" "drop" 2 F_Store_drop dd (aCons dx aNil) σ μ = r := by
  rw [methK e h1 (by rfl), aCons_e, ex, bind_ok, aNil_e]
  simp [hr]
theorem meth_put {μ : Mem} {s st : Nat} {x y : T} {dd dx dy : EM} {σ : List (Option T)} {r : Res} (h1 : μ[s]? = some (.ins "Store" [("store_stages", .ref st)])) (e : dd σ μ = .ok (.ref s) μ) (ex : dx σ μ = .ok x μ) (ey : dy σ μ = .ok y μ) (hr : F_Store_put [.ref s, x, y] μ = r) : dMeth "Store" "put" 3 F_Store_put dd (aCons dx (aCons dy aNil)) σ μ = r := by
  rw [methK e h1 (by rfl), aCons_e, ex, bind_ok, aCons_e, ey, bind_ok, aNil_e]
  simp [hr]
theorem St.ins {μ : Mem} {s st n : Nat} {m : Model} (h : St μ s st m n) : μ[s]? = some (.ins "Store" [("store_stages", .ref st)]) := by obtain ⟨pre, d, h1, _⟩ := h; exact h1
theorem notIn_a {μ : Mem} {d : Nat} {A : List (Str × Nat)} {n : Str} (h : μ[d]? = some (.dct (repA A))) : notInDT (.str n) (.ref d) μ = .ok (.bl (!(A.lookup n).isSome)) μ := by
  unfold notInDT
  have e : dctT μ (.ref d) = some (repA A) := by unfold dctT; dsimp only; rw [h]
  rw [e]
  dsimp only [keyT]
  rw [val_repA]
  simp
/-- account.get(name, []) -/
def oldT (A : List (Str × Nat)) (x : Str) (j : Nat) : T := match A.lookup x with
  | some l => .ref l
  | none => .ref j
theorem oldT_some {A : List (Str × Nat)} {x : Str} {j l : Nat} (h : A.lookup x = some l) : oldT A x j = .ref l := by unfold oldT; rw [h]
theorem oldT_none {A : List (Str × Nat)} {x : Str} {j : Nat} (h : A.lookup x = none) : oldT A x j = .ref j := by unfold oldT; rw [h]
theorem get_a {μ : Mem} {a : Nat} {A : List (Str × Nat)} {x : Str} {dd dk : EM} {σ : List (Option T)} (h : μ[a]? = some (.dct (repA A))) (e1 : dd σ μ = .ok (.ref a) μ) (e2 : dk σ μ = .ok (.str x) μ) : dGet2 dd dk (dNew (dLstL lNil)) σ μ = .ok (oldT A x μ.length) (μ ++ [.lst []]) := by
  unfold dGet2
  rw [e1, bind_ok]
  have e : (dctT μ (.ref a)).isSome = true := by unfold dctT; dsimp only; rw [h]; rfl
  rw [if_pos e, e2, bind_ok]
  have z0 : (0 : Nat) ≤ sizeLine := Nat.zero_le _
  simp only [dNew_e, dLstL_e, lNil_e, List.length_nil, if_pos z0, lbind_ok, bind_ok]
  unfold get2T
  have h' : (μ ++ [MO.lst []])[a]? = some (.dct (repA A)) := by rw [List.getElem?_append_left (List.getElem?_eq_some_iff.mp h).1]; exact h
  have e' : dctT (μ ++ [MO.lst []]) (.ref a) = some (repA A) := by unfold dctT; dsimp only; rw [h']
  rw [e']
  dsimp only [keyT]
  rw [val_repA]
  unfold oldT
  cases A.lookup x <;> rfl
end K78
set_option linter.all false
set_option maxRecDepth 100000
set_option maxHeartbeats 1000000
namespace K78
open PySem PySem.Spec PyProof.Rows L2 TL
def ledBig : SM := (sIf (dAnd (d2 TL.eqT (dVar 5) (dC (.int 0))) (d2 notInDT (dVar 6) (dVar 3))) (sSeq (sIf (d2 TL.neT (fun σ μ => wordF ((dMeth "Store" "drop" 2 F_Store_drop (dVar 2) (aCons (dVar 6) aNil)) σ μ)) (dC (.str "name"))) (sRet (dC (.bl false))) sNil)
    (sIf (d2 TL.neT (fun σ μ => wordF ((dMeth "Store" "take" 2 F_Store_take (dVar 2) (aCons (dVar 6) aNil)) σ μ)) (dC (.str "name"))) (sRet (dC (.bl false))) sNil)) (sIf (d2 TL.eqT (dVar 5) (dC (.int 0))) (sSeq (sExpr (dMeth "Store" "drop" 2 F_Store_drop (dVar 2) (aCons (dVar 6) aNil)))
    (sSet 3 (dQ dictQ (dLc (dIterL (dSortD (dVar 3))) (.nm 8) [8] (some (d2 TL.neT (dVar 8) (dVar 6))) (dTup (aCons (dVar 8) (aCons (d2 subT' (dVar 3) (dVar 8)) aNil))))))) (sSeq (sIf (d2 TL.neT (dMeth "Store" "put" 3 F_Store_put (dVar 2) (aCons (dVar 6) (aCons (dVar 7) aNil))) (dCall lenC (aCons (dGet2 (dVar 3) (dVar 6) (dNew (dLstL lNil))) aNil))) (sRet (dC (.bl false))) sNil)
    (sSub (dVar 3) (dVar 6) (dNew (dCat (dGet2 (dVar 3) (dVar 6) (dNew (dLstL lNil))) (dNew (dLstL (lCons (dVar 7) lNil)))))))))
def ledAsg : SM := (sAsg (.tp [(.nm 5), (.nm 6), (.nm 7)]) (dTup (aCons (dFn 2 F__law_draw (aCons (dVar 0) (aCons (dC (.int 5)) aNil))) (aCons (dFn 2 F__law_some (aCons (dVar 0) (aCons (dVar 1) aNil))) (aCons (dFn 3 F__law_web (aCons (dVar 0) (aCons (dC (.int 6)) (aCons (dC (.int 9)) aNil)))) aNil)))))
def ledLast : SM := (sIf (dNot (dFn 2 F__law_is_as (aCons (dVar 2) (aCons (dVar 3) aNil)))) (sRet (dC (.bl false))) sNil)
abbrev ledσ (h nm s a : Nat) (o4 : Option T) (way : Int) (x : Str) (w : Web) (o8 : Option T) : List (Option T) := [some (.ref h), some (.ref nm), some (.ref s), some (.ref a), o4, some (.int way), some (.str x), some (webT w), o8]
theorem name_in {A : List (Str × Nat)} {x : Str} : (A.lookup x = none ∧ x ∉ A.map (·.1)) ∨ ∃ l, A.lookup x = some l ∧ (x, l) ∈ A := by
  by_cases h : x ∈ A.map (·.1)
  · obtain ⟨l, h1, h2⟩ := lookup_some h; exact .inr ⟨l, h1, h2⟩
  · exact .inl ⟨lookup_none h, h⟩
theorem word_name {fs : List (Str × T)} {μ : Mem} : wordF (.exc "NoName" fs μ) = .ok (.str "name") (μ ++ wordG "NoName") := word_exc (by decide)
theorem big_none {μ : Mem} {h hc nm s st a t : Nat} {A : List (Str × Nat)} {m : Model} {x : Str} {w : Web} {o4 o8 : Option T} (X : Led μ h hc nm s st a A m t) (hx : x ∈ names4) (hn : A.lookup x = none) (hm : m.lookup x = none) : ∃ g, ledBig (ledσ h nm s a o4 0 x w o8) μ = .nx (ledσ h nm s a o4 0 x w o8) (μ ++ g) := by
  have hok := (good4 x hx).1
  have e1 := meth_drop (dd := dVar 2) (dx := dVar 6) (σ := ledσ h nm s a o4 0 x w o8) (x := .str x) X.S.ins rfl rfl (drop_exc X.S (there_no X.S hok hm))
  have X2 := X.keepN (keep_app [] μ (wordG "NoName"))
  have e2 := meth_take (dd := dVar 2) (dx := dVar 6) (σ := ledσ h nm s a o4 0 x w o8) (x := .str x) X2.S.ins rfl rfl (take_exc X2.S (there_no X2.S hok hm))
  refine ⟨wordG "NoName" ++ wordG "NoName", ?_⟩
  unfold ledBig
  have e3 : notInDT (.str x) (.ref a) μ = .ok (.bl true) μ := by rw [notIn_a X.a_, hn]; rfl
  simp only [sIf_e, dAnd_e, d2_e, dVar_s, dVar_0, dC_e, bind_ok, eqT_i, decide_true, andK_e, if_true, e3, toS_ok, sIfK_e, sSeq_e]
  rw [e1]
  simp only [word_name, bind_ok, neT_e, eqT_s, decide_true, notT_e, Bool.not_true, toS_ok, sIfK_e, Bool.false_eq_true, if_false, sNil_e, seq_nx, sIf_e, d2_e, dC_e]
  rw [e2]
  simp only [word_name, bind_ok, neT_e, eqT_s, decide_true, notT_e, Bool.not_true, toS_ok, sIfK_e, Bool.false_eq_true, if_false, sNil_e, seq_nx, List.append_assoc]
theorem big_drop {μ : Mem} {h hc nm s st a t l : Nat} {A : List (Str × Nat)} {m : Model} {x : Str} {w : Web} {o4 o8 : Option T} (X : Led μ h hc nm s st a A m t) (ht : t ≤ 40) (hx : x ∈ names4) (hn : A.lookup x = some l) (hmem : (x, l) ∈ A) : ∃ a' μ', ledBig (ledσ h nm s a o4 0 x w o8) μ = .nx (ledσ h nm s a' o4 0 x w o8) μ' ∧ Led μ' h hc nm s st a' (dropA A x) (dropM m x) (t + 1) := by
  have hok := (good4 x hx).1
  obtain ⟨ws, w0, q1, q2, q3⟩ := X.L.at_ _ hmem
  obtain ⟨μ', e1, S', k⟩ := drop_ok X.S (by omega) hok q1 X.L.nM (by rw [X.L.mlen]; have := X.L.len; omega)
  have em := meth_drop (dd := dVar 2) (dx := dVar 6) (σ := ledσ h nm s a o4 0 x w o8) (x := .str x) X.S.ins rfl rfl e1
  have ha' : μ'[a]? = some (.dct (repA A)) := k.at X.a_ (by
    obtain ⟨pre, d, h1, h2, _⟩ := X.S
    simp [dct_ne h2 X.a_])
  have rb := rebuild (h := h) (nm := nm) (s := s) (x := x) (o4 := o4) (o5 := some (.int 0)) (o7 := some (webT w)) (o8 := o8) ha' X.L.nA X.L.len
  refine ⟨μ'.length, μ' ++ [.dct (repA (dropA A x))], ?_, X.drop S' k⟩
  unfold ledBig
  have e3 : notInDT (.str x) (.ref a) μ = .ok (.bl false) μ := by rw [notIn_a X.a_, hn]; rfl
  simp only [sIf_e, dAnd_e, d2_e, dVar_s, dVar_0, dC_e, bind_ok, eqT_i, decide_true, andK_e, if_true, e3, toS_ok, sIfK_e, Bool.false_eq_true, if_false, sSeq_e, sExpr_e, sSet_e]
  rw [em]
  simp only [toS_ok, seq_nx, sSet_e]
  rw [show ledσ h nm s a o4 0 x w o8 = [some (.ref h), some (.ref nm), some (.ref s), some (.ref a), o4, some (.int 0), some (.str x), some (webT w), o8] from rfl, rb]
  simp only [toS_ok, List.set_cons_succ, List.set_cons_zero]
theorem big_put {μ : Mem} {h hc nm s st a t : Nat} {A : List (Str × Nat)} {m : Model} {x : Str} {w : Web} {o4 o8 : Option T} {way : Int} (X : Led μ h hc nm s st a A m t) (ht : t ≤ 18) (hx : x ∈ names4) (hw : WebOk w) (hway : way ≠ 0) : ∃ A' μ', ledBig (ledσ h nm s a o4 way x w o8) μ = .nx (ledσ h nm s a o4 way x w o8) μ' ∧ Led μ' h hc nm s st a A' (putM m x (vers m x ++ [w])) (t + 1) := by
  have hok := (good4 x hx).1
  have l4 := mem4_len X.L.nA X.ks
  obtain ⟨μ1, e1, S1, k1⟩ := put_ok (x := x) (w := w) X.S (by omega) hok hw (by rw [X.L.mlen]; split <;> omega) (by have := X.vs x; omega)
  have em := meth_put (dd := dVar 2) (dx := dVar 6) (dy := dVar 7) (σ := ledσ h nm s a o4 way x w o8) (x := .str x) (y := webT w) X.S.ins rfl rfl rfl e1
  have nast : a ≠ st := by
    obtain ⟨pre, d, h1, h2, _⟩ := X.S
    exact dct_ne h2 X.a_
  have na : nm ≠ a := fun z => by have := X.N; rw [z, X.a_] at this; cases this
  have a1 : μ1[a]? = some (.dct (repA A)) := k1.at X.a_ (by simp [nast])
  -- the list that stood there, or a new one
  have g1 := get_a (x := x) (dd := dVar 3) (dk := dVar 6) (σ := ledσ h nm s a o4 way x w o8) a1 rfl rfl
  have kA := keep_app [] μ1 [MO.lst []]
  have a2 := kA.at a1 (by simp)
  have g2 := get_a (x := x) (dd := dVar 3) (dk := dVar 6) (σ := ledσ h nm s a o4 way x w o8) a2 rfl rfl
  have kB := keep_app [] (μ1 ++ [MO.lst []]) [MO.lst []]
  have a3 := kB.at a2 (by simp)
  have old : ∀ μ2, Keep [] μ1 μ2 → ∀ j, μ2[j]? = some (.lst []) → ∃ i, oldT A x j = .ref i ∧ μ2[i]? = some (.lst ((vers m x).map webT)) := fun μ2 k2 j hj => by
    rcases name_in (A := A) (x := x) with ⟨q1, q2⟩ | ⟨l, q1, q2⟩
    · rw [oldT_none q1]
      refine ⟨j, rfl, ?_⟩
      rw [vers_none (lookup_none fun z => q2 ((X.L.same x).mpr z))]
      exact hj
    · rw [oldT_some q1]
      obtain ⟨ws, w0, q3, q4, _⟩ := X.L.at_ _ q2
      refine ⟨l, rfl, ?_⟩
      rw [vers_some q3]
      exact k2.at (k1.at q4 (by simp [(X.d1 _ q2).2])) (by simp)
  obtain ⟨i1, r1, m1⟩ := old (μ1 ++ [.lst []]) kA μ1.length (by simp)
  obtain ⟨i2, r2, m2⟩ := old (μ1 ++ [.lst []] ++ [.lst []]) (kA.trans kB (by simp)) (μ1 ++ [MO.lst []]).length (by simp)
  rw [r1] at g1
  rw [r2] at g2
  have e2 : lenC [.ref i1] (μ1 ++ [.lst []]) = .ok (.int (vers m x).length) (μ1 ++ [.lst []]) := by rw [lenC_l m1, List.length_map]
  -- the new list
  have z1 : (1 : Nat) ≤ sizeLine := sz (by omega)
  have kC := keep_app [] (μ1 ++ [MO.lst []] ++ [MO.lst []]) [MO.lst [webT w]]
  have m3 := kC.at m2 (by simp)
  have m4 : (μ1 ++ [MO.lst []] ++ [MO.lst []] ++ [MO.lst [webT w]])[(μ1 ++ [MO.lst []] ++ [MO.lst []]).length]? = some (.lst [webT w]) := by simp
  have zc : ((vers m x).map webT).length + [webT w].length ≤ sizeLine := sz (by have := X.vs x; simp; omega)
  have cat : dCat (dGet2 (dVar 3) (dVar 6) (dNew (dLstL lNil))) (dNew (dLstL (lCons (dVar 7) lNil))) (ledσ h nm s a o4 way x w o8) (μ1 ++ [.lst []]) = .ok ((vers m x ++ [w]).map webT) (μ1 ++ [MO.lst []] ++ [MO.lst []] ++ [MO.lst [webT w]]) := by
    unfold dCat
    rw [g2, bindL_ok]
    simp only [dNew_e, dLstL_e, lCons_e, lNil_e, dVar_s, dVar_0, bindL_ok, List.length_cons, List.length_nil, Nat.zero_add, if_pos z1, lbind_ok]
    simp only [List.append_assoc] at m3 m4 ⊢
    simp only [List.length_append, List.length_cons, List.length_nil] at m3 m4 ⊢
    rw [m3, m4]
    dsimp only
    rw [if_pos zc]
    simp
  let μ3 := μ1 ++ [MO.lst []] ++ [MO.lst []] ++ [MO.lst [webT w]]
  let k := μ3.length
  let μ4 := μ3 ++ [MO.lst ((vers m x ++ [w]).map webT)]
  have k13 : Keep [] μ1 μ3 := (kA.trans kB (by simp)).trans kC (by simp)
  have k14 : Keep [] μ1 μ4 := k13.trans (keep_app [] μ3 _) (by simp)
  have a4 := k14.at a1 (by simp)
  have nk : a ≠ k := by
    have := (List.getElem?_eq_some_iff.mp a1).1
    have := k13.1
    show a ≠ μ3.length
    omega
  have hsz : A.length < sizeLine := szl (by omega)
  have sd : setT (.ref a) (.str x) (.ref k) μ4 = some (μ4.set a (.dct (repA (putA A x k)))) := by
    rw [setD a4 rfl (by unfold repA; rw [List.length_map]; exact hsz), put_repA]
  have S4 := S1.keep k14 (by simp)
  have kset : Keep [a] μ4 (μ4.set a (.dct (repA (putA A x k)))) := keep_set (by simp)
  have hk : (μ4.set a (.dct (repA (putA A x k))))[k]? = some (.lst ((vers m x ++ [w]).map webT)) := by
    rw [set_ne nk]
    show (μ3 ++ _)[μ3.length]? = _
    simp
  have S5 : St (μ4.set a (.dct (repA (putA A x k)))) s st (putM m x (vers m x ++ [w])) (t + 1) := by
    obtain ⟨pre, d, h1, h2, h3, h4⟩ := S4
    have nd : a ≠ d := fun z => by
      rw [← z, a4] at h3
      have e : repA A = rep (putM m x (vers m x ++ [w])) := by simpa using h3
      have q := look_put_self (n := x) (ws := vers m x ++ [w]) m
      have hmem : (Sum.inr x, wsT (vers m x ++ [w])) ∈ repA A := by
        rw [e]
        exact List.mem_map.mpr ⟨_, lookup_mem q, rfl⟩
      obtain ⟨p, _, hp⟩ := List.mem_map.mp hmem
      have := (Prod.mk.inj hp).2
      cases this
    have as : a ≠ s := fun z => by rw [z, h1] at a4; cases a4
    have at' : a ≠ st := nast
    exact ⟨pre, d, by rw [set_ne as]; exact h1, by rw [set_ne at']; exact h2, by rw [set_ne nd]; exact h3, h4⟩
  refine ⟨putA A x k, μ4.set a (.dct (repA (putA A x k))), ?_, X.put hx hw (by omega) S5 ?_ ?_ (set_at a4) hk ?_ na⟩
  · unfold ledBig
    simp only [sIf_e, dAnd_e, d2_e, dVar_s, dVar_0, dC_e, bind_ok, eqT_i, hway, decide_false, andK_e, Bool.false_eq_true, if_false, toS_ok, sIfK_e, sSeq_e]
    rw [em]
    simp only [bind_ok, dCall_e, aCons_e, aNil_e, g1, e2, neT_e, eqT_i, decide_true, notT_e, Bool.not_true, toS_ok, sIfK_e, Bool.false_eq_true, if_false, sNil_e, seq_nx, sSub_e, dNew_e, cat, lbind_ok, dVar_s, dVar_0]
    show (match setT (.ref a) (.str x) (.ref k) μ4 with | some μ5 => SRes.nx _ μ5 | none => .bad) = _
    rw [sd]
  · have H1 := (X.H.keep k1 (by simp [X.d2]) (by simp [X.d5])).keep k14 (by simp) (by simp)
    refine H1.keep kset ?_ ?_
    · obtain ⟨xs, hxs⟩ := hand_lst H1
      simp [(dct_ne hxs a4).symm]
    · obtain ⟨cs, j, v, s', c, n', h1', h2', _⟩ := H1
      simp [(dct_ne h2' a4).symm]
  · exact ((k1.trans k14 (by simp)).mono (S' := [st, a]) (by simp)).trans kset (fun i hi _ => by simp at hi; simp [hi])
  · show μ.length ≤ μ3.length
    exact Nat.le_trans k1.1 k13.1
end K78
set_option linter.all false
set_option maxRecDepth 100000
set_option maxHeartbeats 1000000
namespace K78
open PySem PySem.Spec PyProof.Rows L2 TL
theorem draws3 {μ : Mem} {h hc nm s st a t : Nat} {A : List (Str × Nat)} {m : Model} {o4 o5 o6 o7 o8 : Option T} (X : Led μ h hc nm s st a A m t) : ∃ (r : Int) (x : Str) (w : Web) (μ' : Mem), ledAsg [some (.ref h), some (.ref nm), some (.ref s), some (.ref a), o4, o5, o6, o7, o8] μ = .nx (ledσ h nm s a o4 r x w o8) μ' ∧ x ∈ names4 ∧ WebOk w ∧ Led μ' h hc nm s st a A m t := by
  obtain ⟨r, μ1, e1, r1, r2, k1, H1, l1⟩ := draw_spec (many := 5) X.H (by decide) (by decide)
  have X1 := X.keepH k1 H1
  obtain ⟨y, μ2, e2, y2, k2, H2, l2⟩ := some_spec X1.H X1.N X.d3 (by simp [names4]) (by simp [names4])
  obtain ⟨x, hx, rfl⟩ := List.mem_map.mp y2
  have X2 := X1.keepH k2 H2
  obtain ⟨w, μ3, e3, w3, k3, H3⟩ := web_spec X2.H
  refine ⟨r, x, w, μ3, ?_, hx, w3, X2.keepH k3 H3⟩
  have z3 : (3 : Nat) ≤ sizeLine := sz (by omega)
  unfold ledAsg
  simp only [sAsg_e, dTup_e, aCons_e, aNil_e, dFn_e, dVar_s, dVar_0, dC_e, bind_ok, List.length_cons, List.length_nil, Nat.zero_add, Nat.reduceAdd, if_true, e1, e2, e3, if_pos z3, toS_ok]
  rfl
theorem led_step {μ : Mem} {h hc nm s st a t : Nat} {A : List (Str × Nat)} {m : Model} {o4 o5 o6 o7 o8 : Option T} (X : Led μ h hc nm s st a A m t) (ht : t ≤ 18) :
    ∃ (a' : Nat) (A' : List (Str × Nat)) (m' : Model) (p4 p5 p6 p7 p8 : Option T) (μ' : Mem), sSeq ledAsg (sSeq ledBig ledLast) [some (.ref h), some (.ref nm), some (.ref s), some (.ref a), o4, o5, o6, o7, o8] μ = .nx [some (.ref h), some (.ref nm), some (.ref s), some (.ref a'), p4, p5, p6, p7, p8] μ' ∧ Led μ' h hc nm s st a' A' m' (t + 1) := by
  obtain ⟨r, x, w, μ1, e1, hx, hw, X1⟩ := draws3 (o4 := o4) (o5 := o5) (o6 := o6) (o7 := o7) (o8 := o8) X
  have mid : ∃ a' A' m' μ', ledBig (ledσ h nm s a o4 r x w o8) μ1 = .nx (ledσ h nm s a' o4 r x w o8) μ' ∧ Led μ' h hc nm s st a' A' m' (t + 1) := by
    by_cases hr : r = 0
    · subst hr
      rcases name_in (A := A) (x := x) with ⟨q1, q2⟩ | ⟨l, q1, q2⟩
      · obtain ⟨g, e⟩ := big_none (o4 := o4) (o8 := o8) (w := w) X1 hx q1 (lookup_none fun z => q2 ((X1.L.same x).mpr z))
        exact ⟨a, A, m, _, e, (X1.keepN (keep_app [] μ1 g)).mono (Nat.le_succ t)⟩
      · obtain ⟨a', μ', e, X'⟩ := big_drop (o4 := o4) (o8 := o8) (w := w) X1 (by omega) hx q1 q2
        exact ⟨a', _, _, μ', e, X'⟩
    · obtain ⟨A', μ', e, X'⟩ := big_put (o4 := o4) (o8 := o8) (way := r) X1 ht hx hw hr
      exact ⟨a, A', _, μ', e, X'⟩
  obtain ⟨a', A', m', μ2, e2, X2⟩ := mid
  obtain ⟨g, e3⟩ := is_as_ok X2.S X2.a_ X2.L
  refine ⟨a', A', m', o4, some (.int r), some (.str x), some (webT w), o8, μ2 ++ g, ?_, X2.keepN (keep_app [] μ2 g)⟩
  rw [sSeq_e, e1, seq_nx, sSeq_e, e2, seq_nx]
  unfold ledLast
  simp only [sIf_e, dNot_e, dFn_e, aCons_e, aNil_e, dVar_s, dVar_0, bind_ok, List.length_cons, List.length_nil, Nat.zero_add, Nat.reduceAdd, if_true, e3, notT_e, Bool.not_true, toS_ok, sIfK_e, Bool.false_eq_true, if_false, sNil_e]
theorem make_store (μ : Mem) (σ : List (Option T)) : ∃ μ', dMake "Store" 1 F_Storedd_initdd aNil σ μ = .ok (.ref μ.length) μ' ∧ St μ' μ.length (μ.length + 2) [] 0 ∧ Keep [] μ μ' ∧ μ'.length = μ.length + 3 := by
  let μ' : Mem := (μ ++ [MO.ins "Store" []] ++ [MO.dct []] ++ [MO.lst [.ref (μ.length + 1)]]).set μ.length (.ins "Store" [("store_stages", .ref (μ.length + 2))])
  have b0 : (μ ++ [MO.ins "Store" []] ++ [MO.dct []] ++ [MO.lst [.ref (μ.length + 1)]])[μ.length]? = some (.ins "Store" []) := by simp
  have z1 : (1 : Nat) ≤ sizeLine := sz (by omega)
  have e : F_Storedd_initdd [.ref μ.length] (μ ++ [.ins "Store" []]) = .ok .non μ' := by
    show (d_Storedd_initdd [some (.ref μ.length)] (μ ++ [.ins "Store" []])).toR = _
    unfold d_Storedd_initdd sFldT
    simp only [dNew_e, dLstL_e, lCons_e, lNil_e, bindL_ok, List.length_cons, List.length_nil, Nat.zero_add, if_pos z1, lbind_ok, toS_ok, dVar_0, List.length_append]
    rw [b0]
    dsimp only
    rw [if_pos ⟨rfl, by decide⟩]
    rfl
  refine ⟨μ', ?_, ⟨[], μ.length + 1, set_at b0, ?_, ?_, Nat.le_refl _⟩, ⟨by simp [μ'], fun i hi _ => ?_⟩, by simp [μ']⟩
  · unfold dMake
    simp only [aNil_e, List.length_nil, Nat.zero_add, if_true, e, bind_ok]
  · show (List.set _ μ.length _)[μ.length + 2]? = _
    rw [set_ne (by omega)]; simp
  · show (List.set _ μ.length _)[μ.length + 1]? = _
    rw [set_ne (by omega)]; simp [rep]
  · show (List.set _ μ.length _)[i]? = _
    rw [set_ne (by omega)]
    simp [List.getElem?_append, hi, show i < μ.length + 1 by omega, show i < μ.length + 2 by omega]
end K78
set_option linter.all false
set_option maxRecDepth 100000
set_option maxHeartbeats 1000000
namespace K78
open PySem PySem.Spec PyProof.Rows L2 TL
theorem isWeb_lst {μ : Mem} {k : Nat} {xs : List T} (h : μ[k]? = some (.lst xs)) : F_is_web [.ref k] μ = .ok (.bl false) μ := by
  have e1 : isiT "tuple" (.ref k) μ = .ok (.bl false) μ := by unfold isiT tyName; dsimp only; rw [h]; rfl
  have e2 : F_is_sized [.ref k, .int 2, .int 2] μ = .ok (.bl false) μ := by
    show (d_is_sized [some (.ref k), some (.int 2), some (.int 2)] μ).toR = _
    simp [d_is_sized, e1]
  show (d_is_web [some (.ref k), none] μ).toR = _
  simp [d_is_web, e2]
theorem isWeb_tl {μ : Mem} {k : Nat} {xs : List T} (h : μ[k]? = some (.lst xs)) : F_is_web [.tup [.int 3, .ref k]] μ = .ok (.bl false) μ := by
  have e1 : isiT "tuple" (.ref k) μ = .ok (.bl false) μ := by unfold isiT tyName; dsimp only; rw [h]; rfl
  have e2 : F_is_sized [.ref k, .int 0, .int 40] μ = .ok (.bl false) μ := by
    show (d_is_sized [some (.ref k), some (.int 0), some (.int 40)] μ).toR = _
    simp [d_is_sized, e1]
  have e3 : F_is_sized [.tup [.int 3, .ref k], .int 2, .int 2] μ = .ok (.bl true) μ := rfl
  have e4 : F_is_within [.int 3, .int 1, .int 12] μ = .ok (.bl true) μ := rfl
  have a0 : subT' (.tup [.int 3, .ref k]) (.int 0) μ = .ok (.int 3) μ := rfl
  have a1 : subT' (.tup [.int 3, .ref k]) (.int 1) μ = .ok (.ref k) μ := rfl
  show (d_is_web [some (.tup [.int 3, .ref k]), none] μ).toR = _
  simp [d_is_web, e2, e3, e4, a0, a1]
def tiesT : T := .tup [.tup [.int 0, .int 1], .tup [.int 1, .int 2]]
def L9 : List T := [.non, .str "", .str "A", .str "a1", .str "toolongnow", .int 0, .tup [.str "a"], .bl true, .str "a b"]
theorem bad9 : ∀ x ∈ L9, ∀ μ : Mem, F_is_name [x] μ = .ok (.bl false) μ := by
  intro x hx μ
  simp only [L9, List.mem_cons, List.not_mem_nil, or_false] at hx
  rcases hx with rfl | rfl | rfl | rfl | rfl | rfl | rfl | rfl | rfl <;> rfl
def L6 : List T := [.non, .int (-1), .bl true, .str "0", .tup [.int 0], .int (10 ^ 12)]
theorem bad6 : ∀ x ∈ L6, ∀ (μ : Mem) (n : Int), n ≤ 1000 → F_is_within [x, .int 0, .int n] μ = .ok (.bl false) μ := by
  intro x hx μ n hn
  simp only [L6, List.mem_cons, List.not_mem_nil, or_false] at hx
  rcases hx with rfl | rfl | rfl | rfl | rfl | rfl
  · rfl
  · rfl
  · rfl
  · rfl
  · rfl
  · have e : F_is_int [.int (10 ^ 12)] μ = .ok (.bl true) μ := rfl
    have c : dChain leT leT (dVar 1) (dVar 0) (dVar 2) [some (.int (10 ^ 12)), some (.int 0), some (.int n)] μ = .ok (.bl false) μ := by
      unfold dChain
      have h1 : (0 : Int) ≤ 10 ^ 12 := by decide
      have h2 : ¬ (10 ^ 12 : Int) ≤ n := by omega
      simp only [dVar_0, dVar_s, bind_ok, leT_i, h1, decide_true, h2, decide_false]
    show (d_is_within [some (.int (10 ^ 12)), some (.int 0), some (.int n)] μ).toR = _
    simp only [d_is_within, sRet_e, dAnd_e, dFn_e, aCons_e, aNil_e, dVar_0, bind_ok, List.length_cons, List.length_nil, Nat.zero_add, if_true, e, andK_e, c, toS_ok, toR_rt]
theorem some_new {dl : LM} {σ : List (Option T)} {μ μ1 : Mem} {xs : List T} {h hc nm s st a t : Nat} {A : List (Str × Nat)} {m : Model} (X : Led μ1 h hc nm s st a A m t) (e : dl σ μ = .ok xs μ1) (h0 : dVar 0 σ μ = .ok (.ref h) μ) (hn : 0 < xs.length) (hz : xs.length < 1000) :
    ∃ x μ2, dFn 2 F__law_some (aCons (dVar 0) (aCons (dNew dl) aNil)) σ μ = .ok x μ2 ∧ x ∈ xs ∧ Led μ2 h hc nm s st a A m t ∧ Keep [h] μ1 μ2 := by
  have k := keep_app [] μ1 [MO.lst xs]
  have X2 := X.keepN k
  have nh : μ1.length ≠ h := by have := X.H.lt; omega
  obtain ⟨x, μ2, e2, hx, k2, H2, _⟩ := some_spec (t := μ1.length) (xs := xs) X2.H (by simp) nh hn hz
  refine ⟨x, μ2, ?_, hx, X2.keepH k2 H2, (k.mono (S' := [h]) (by simp)).trans k2 (fun i hi _ => hi)⟩
  simp only [dFn_e, aCons_e, aNil_e, h0, bind_ok, dNew_e, e, lbind_ok, List.length_cons, List.length_nil, Nat.zero_add, Nat.reduceAdd, if_true, e2]
theorem neT_strl {i j : Nat} {ws : List Str} {μ : Mem} (hi : μ[i]? = some (.lst (ws.map T.str))) (hj : μ[j]? = some (.lst (ws.map T.str))) (h : ∀ x ∈ ws, PyData.strOk x = true) : neT (.ref i) (.ref j) μ = .ok (.bl false) μ := by
  have q : ∀ k, μ[k]? = some (.lst (ws.map T.str)) → toD μ (.ref k) = some (.list (ws.map PyData.str)) := fun k hk => by
    unfold toD toDW refD
    rw [hk]
    dsimp only
    rw [toDWs_map (d := PyData.str) fun x => rfl]
    rfl
  refine neT_same (q i hi) (q j hj) ?_ ?_ (.inr ⟨_, rfl⟩)
  · simp only [PyData.canLay0]
    exact canAll_map ws fun x hx => by simpa [PyData.canLay0] using h x hx
  · have := depthAll_map (k := 0) (d := PyData.str) (fun x => by simp [PyData.depth]) ws
    simp only [PyData.depth]; omega
/-- words.append(_law_word(..)) -/
theorem app_word {B μ : Mem} {k : Nat} {ws : List Str} {v : Str} {g : Mem} {dw : EM} {σ : List (Option T)} (hk : B.length ≤ k) (hv : dVar 8 σ μ = .ok (.ref k) μ) (K : Keep [] B μ) (hl : μ[k]? = some (.lst (ws.map T.str))) (e : dw σ μ = .ok (.str v) (μ ++ g)) (hz : ws.length ≤ 20) :
    ∃ μ', sExpr (dLM appendT (dVar 8) (aCons dw aNil)) σ μ = .nx σ μ' ∧ Keep [] B μ' ∧ μ'[k]? = some (.lst ((ws ++ [v]).map T.str)) := by
  have kg := keep_app [] μ g
  have h2 := kg.at hl (by simp)
  refine ⟨(μ ++ g).set k (.lst (ws.map T.str ++ [.str v])), ?_, ?_, by rw [set_at h2]; simp⟩
  · simp only [sExpr_e, lm_l hv hl, aCons_e, aNil_e, e, bind_ok, app_l h2 (by simp; omega), toS_ok]
  · have k1 := K.trans kg (by simp)
    refine ⟨by simpa using k1.1, fun i hi hn => ?_⟩
    rw [set_ne (by omega)]
    exact k1.2 i hi hn
end K78
set_option linter.all false
set_option maxRecDepth 100000
set_option maxHeartbeats 2000000
namespace K78
open PySem PySem.Spec PyProof.Rows L2 TL
theorem lcr {d : EM} {r} {σ : List (Option T)} {μ μ1 : Mem} {t : T} {k} (h : d σ μ = .ok t μ1) : lCons d r σ μ k = r σ μ1 (fun xs μ2 => k (t :: xs) μ2) := by
  rw [lCons_e, h, bindL_ok]
theorem strOks : ∀ x ∈ ([("name" : Str), "web", "name", "name", "name", "name"] : List Str), PyData.strOk x = true := by
  intro x hx
  simp only [List.mem_cons, List.not_mem_nil, or_false] at hx
  rcases hx with rfl | rfl | rfl | rfl | rfl | rfl <;> decide +kernel
theorem nosuch_ok : NameOk "nosuch" := fun μ => rfl
theorem nosuch_no : ("nosuch" : Str) ∉ names4 := by decide
theorem refused_ok {μ : Mem} {h hc nm s st a t : Nat} {A : List (Str × Nat)} {m : Model} (X : Led μ h hc nm s st a A m t) (ht : t ≤ 40) : ∃ μ', F__law_is_refused [.ref h, .ref s, .ref a] μ = .ok (.bl true) μ' ∧ Led μ' h hc nm s st a A m t := by
  have z : ∀ n : Nat, n ≤ 1000 → n ≤ sizeLine := fun n hn => sz hn
  -- name
  obtain ⟨x, μ1, e1, hx, X1, k1⟩ := some_new (dl := dLstL (lCons (dC .non) (lCons (dC (.str "")) (lCons (dC (.str "A")) (lCons (dC (.str "a1")) (lCons (dC (.str "toolongnow")) (lCons (dC (.int 0)) (lCons (dTup (aCons (dC (.str "a")) aNil)) (lCons (dC (.bl true)) (lCons (dC (.str "a b")) lNil)))))))))) (xs := L9) (σ := [some (.ref h), some (.ref s), some (.ref a), none, none, none, none, none, none, none]) (μ := μ) X
    (by simp only [dLstL_e, lCons_e, lNil_e, dC_e, dTup_e, aCons_e, aNil_e, bind_ok, bindL_ok, List.length_cons, List.length_nil, Nat.zero_add, Nat.reduceAdd, if_pos (z 1 (by omega)), if_pos (z 9 (by omega))]; rfl) rfl (by simp [L9]) (by simp [L9])
  have bx := bad9 x hx
  -- odd
  let μa : Mem := μ1 ++ [MO.lst [.int 3, tiesT]]
  let μb : Mem := μa ++ [MO.lst [.tup [.int 0, .int 1], .tup [.int 1, .int 2]]]
  let L8 : List T := [.non, .tup [.int 3], .ref μ1.length, .tup [.int 0, .tup []], .tup [.int 2, tiesT], .tup [.int 3, .ref μa.length], .str "web", .tup [.int 3, .tup [.tup [.int 1, .int 0]]]]
  have Xb : Led μb h hc nm s st a A m t := (X1.keepN (keep_app [] μ1 _)).keepN (keep_app [] μa _)
  have nb1 : μb[μ1.length]? = some (.lst [.int 3, tiesT]) := by simp [μb, μa]
  have nb2 : μb[μa.length]? = some (.lst [.tup [.int 0, .int 1], .tup [.int 1, .int 2]]) := by simp [μb]
  have hlt := X1.H.lt
  let μc : Mem := μb ++ [MO.lst L8]
  have Xc : Led μc h hc nm s st a A m t := Xb.keepN (keep_app [] μb _)
  have nc1 : μc[μ1.length]? = some (.lst [.int 3, tiesT]) := (keep_app [] μb [MO.lst L8]).at nb1 (by simp)
  have nc2 : μc[μa.length]? = some (.lst [.tup [.int 0, .int 1], .tup [.int 1, .int 2]]) := (keep_app [] μb [MO.lst L8]).at nb2 (by simp)
  have la : μa.length = μ1.length + 1 := by simp [μa]
  have lb : μb.length = μ1.length + 2 := by simp [μb, μa]
  obtain ⟨y, μ3, e3, hy, k3, H3, l3⟩ := some_spec (t := μb.length) (xs := L8) Xc.H (by simp [μc]) (by omega) (by simp [L8]) (by simp [L8])
  have X3 := Xc.keepH k3 H3
  have n31 : μ3[μ1.length]? = some (.lst [.int 3, tiesT]) := k3.at nc1 (by simp; omega)
  have n32 : μ3[μa.length]? = some (.lst [.tup [.int 0, .int 1], .tup [.int 1, .int 2]]) := k3.at nc2 (by simp; omega)
  have notweb : ∀ μ', μ'[μ1.length]? = some (.lst [.int 3, tiesT]) → μ'[μa.length]? = some (.lst [.tup [.int 0, .int 1], .tup [.int 1, .int 2]]) → F_is_web [y] μ' = .ok (.bl false) μ' := fun μ' w1 w2 => by
    simp only [L8, List.mem_cons, List.not_mem_nil, or_false] at hy
    rcases hy with rfl | rfl | rfl | rfl | rfl | rfl | rfl | rfl
    · rfl
    · rfl
    · exact isWeb_lst w1
    · rfl
    · rfl
    · exact isWeb_tl w2
    · rfl
    · rfl
  -- bad
  obtain ⟨b, μ4, e4, hb, X4, k4⟩ := some_new (dl := dLstL (lCons (dC .non) (lCons (d2 subT (dC (.int 0)) (dC (.int 1))) (lCons (dC (.bl true)) (lCons (dC (.str "0")) (lCons (dTup (aCons (dC (.int 0)) aNil)) (lCons (d2 powT (dC (.int 10)) (dC (.int 12))) lNil))))))) (xs := L6) (σ := [some (.ref h), some (.ref s), some (.ref a), some x, some (.int 3), some tiesT, some y, none, none, none]) (μ := μ3) X3
    (by simp only [dLstL_e, lCons_e, lNil_e, dC_e, dTup_e, aCons_e, aNil_e, d2_e, subT_i, powT_i (show CPow 10 12 by decide), bind_ok, bindL_ok, List.length_cons, List.length_nil, Nat.zero_add, Nat.reduceAdd, if_pos (z 1 (by omega)), if_pos (z 6 (by omega))]; rfl) rfl (by simp [L6]) (by simp [L6])
  have bb := bad6 b hb
  have n41 := k4.at n31 (by simp; omega)
  have n42 := k4.at n32 (by simp; omega)
  -- words
  let σ8 : List (Option T) := [some (.ref h), some (.ref s), some (.ref a), some x, some (.int 3), some tiesT, some y, some b, none, none]
  obtain ⟨q, μ5, e5, hq, X5, k5⟩ := some_new (dl := dLstL (lCons (dTup (aCons (dVar 4) (aCons (dVar 5) aNil))) (lCons (dVar 6) lNil))) (xs := [.tup [.int 3, tiesT], y]) (σ := σ8) (μ := μ4) X4
    (by simp only [σ8, dLstL_e, lCons_e, lNil_e, dVar_s, dVar_0, dTup_e, aCons_e, aNil_e, bind_ok, bindL_ok, List.length_cons, List.length_nil, Nat.zero_add, Nat.reduceAdd, if_pos (z 2 (by omega))]) rfl (by simp) (by simp)
  have n51 := k5.at n41 (by simp; omega)
  have n52 := k5.at n42 (by simp; omega)
  have p5 : dMeth "Store" "put" 3 F_Store_put (dVar 1) (aCons (dVar 3) (aCons (dFn 2 F__law_some (aCons (dVar 0) (aCons (dNew (dLstL (lCons (dTup (aCons (dVar 4) (aCons (dVar 5) aNil))) (lCons (dVar 6) lNil)))) aNil))) aNil)) σ8 μ4 = .exc "NoName" [] μ5 := by
    rw [methK (k := s) (by rfl) X4.S.ins (by rfl), aCons_e]
    have v3 : dVar 3 σ8 μ4 = .ok x μ4 := rfl
    rw [v3, bind_ok, aCons_e, e5, bind_ok, aNil_e]
    simp only [List.length_cons, List.length_nil, Nat.zero_add, Nat.reduceAdd, if_true]
    exact put_noName (bx μ5)
  let B : Mem := μ5 ++ wordG "NoName"
  have XB : Led B h hc nm s st a A m t := X5.keepN (keep_app [] μ5 _)
  have nB1 : B[μ1.length]? = some (.lst [.int 3, tiesT]) := (keep_app [] μ5 _).at n51 (by simp)
  have nB2 : B[μa.length]? = some (.lst [.tup [.int 0, .int 1], .tup [.int 1, .int 2]]) := (keep_app [] μ5 _).at n52 (by simp)
  let k := B.length
  let σ : List (Option T) := [some (.ref h), some (.ref s), some (.ref a), some x, some (.int 3), some tiesT, some y, some b, some (.ref k), none]
  have K6 : Keep [] B (B ++ [MO.lst [.str "name"]]) := keep_app [] B _
  have W6 : (B ++ [MO.lst [.str "name"]])[k]? = some (.lst ((["name"] : List Str).map T.str)) := by simp [k]
  -- the word of a refused call
  have wexc : ∀ (μ' : Mem) (d : EM) (c : Str), c ∈ errs → d σ μ' = .exc c [] μ' → (fun σ μ => wordF (d σ μ)) σ μ' = .ok (.str (wordOf c)) (μ' ++ wordG c) := fun μ' d c hc e => by
    show wordF (d σ μ') = _
    rw [e, word_exc hc]
  have led : ∀ {μ'}, Keep [] B μ' → Led μ' h hc nm s st a A m t := fun kk => XB.keepN kk
  obtain ⟨μ7, a7, K7, W7⟩ := app_word (B := B) (k := k) (v := "web") (dw := fun σ μ => wordF ((dMeth "Store" "put" 3 F_Store_put (dVar 1) (aCons (dC (.str "a")) (aCons (dVar 6) aNil))) σ μ)) (σ := σ) (Nat.le_refl _) rfl K6 W6
    (wexc _ _ "NoWeb" (by decide) (meth_put (σ := σ) (dd := dVar 1) (dx := dC (.str "a")) (dy := dVar 6) (led K6).S.ins rfl rfl rfl (put_noWeb (by rfl) (notweb _ (K6.at nB1 (by simp)) (K6.at nB2 (by simp)))))) (by simp)
  obtain ⟨μ8, a8, K8, W8⟩ := app_word (B := B) (k := k) (v := "name") (dw := fun σ μ => wordF ((dMeth "Store" "take" 2 F_Store_take (dVar 1) (aCons (dVar 3) aNil)) σ μ)) (σ := σ) (Nat.le_refl _) rfl K7 W7
    (wexc _ _ "NoName" (by decide) (meth_take (σ := σ) (dd := dVar 1) (dx := dVar 3) (led K7).S.ins rfl rfl (take_exc (led K7).S (there_bad (bx _))))) (by simp)
  obtain ⟨μ9, a9, K9, W9⟩ := app_word (B := B) (k := k) (v := "name") (dw := fun σ μ => wordF ((dMeth "Store" "drop" 2 F_Store_drop (dVar 1) (aCons (dVar 3) aNil)) σ μ)) (σ := σ) (Nat.le_refl _) rfl K8 W8
    (wexc _ _ "NoName" (by decide) (meth_drop (σ := σ) (dd := dVar 1) (dx := dVar 3) (led K8).S.ins rfl rfl (drop_exc (led K8).S (there_bad (bx _))))) (by simp)
  obtain ⟨μ10, a10, K10, W10⟩ := app_word (B := B) (k := k) (v := "name") (dw := fun σ μ => wordF ((dMeth "Store" "version" 3 F_Store_version (dVar 1) (aCons (dVar 3) (aCons (dVar 7) aNil))) σ μ)) (σ := σ) (Nat.le_refl _) rfl K9 W9
    (wexc _ _ "NoName" (by decide) (meth_version (σ := σ) (dd := dVar 1) (dx := dVar 3) (dy := dVar 7) (led K9).S.ins rfl rfl rfl (version_exc (led K9).S (there_bad (bx _))))) (by simp)
  have ns : m.lookup ("nosuch" : Str) = none := lookup_none fun w => nosuch_no (X.ks _ ((X.L.same _).mpr w))
  obtain ⟨μ11, a11, K11, W11⟩ := app_word (B := B) (k := k) (v := "name") (dw := fun σ μ => wordF ((dMeth "Store" "version" 3 F_Store_version (dVar 1) (aCons (dC (.str "nosuch")) (aCons (dC (.int 0)) aNil))) σ μ)) (σ := σ) (Nat.le_refl _) rfl K10 W10
    (wexc _ _ "NoName" (by decide) (meth_version (σ := σ) (dd := dVar 1) (dx := dC (.str "nosuch")) (dy := dC (.int 0)) (led K10).S.ins rfl rfl rfl (version_exc (led K10).S (there_no (led K10).S nosuch_ok ns)))) (by simp)
  -- the words compared; the account once more
  let μ12 : Mem := μ11 ++ [MO.lst ((["name", "web", "name", "name", "name", "name"] : List Str).map T.str)]
  have k12 : Keep [] μ11 μ12 := keep_app [] μ11 _
  have cmp := neT_strl (i := k) (j := μ11.length) (μ := μ12) (ws := ["name", "web", "name", "name", "name", "name"]) (k12.at W11 (by simp)) (by simp [μ12]) strOks
  have X12 := (led K11).keepN k12
  obtain ⟨g, e13⟩ := is_as_ok X12.S X12.a_ X12.L
  have X13 := X12.keepN (keep_app [] μ12 g)
  -- each name asked for a bad number
  let Inv : List (Option T) → Mem → Prop := fun σ' μ' => ∃ o9, σ' = [some (.ref h), some (.ref s), some (.ref a), some x, some (.int 3), some tiesT, some y, some b, some (.ref k), o9] ∧ Led μ' h hc nm s st a A m t
  obtain ⟨σ14, μ14, e14, o9, rfl, X14⟩ := for_inv (i := 9) (body := sIf (d2 neT (fun σ μ => wordF ((dMeth "Store" "version" 3 F_Store_version (dVar 1) (aCons (dVar 9) (aCons (dVar 7) aNil))) σ μ)) (dC (.str "number"))) (sRet (dC (.bl false))) sNil) Inv ((sortS (A.map (·.1))).map T.str) (fun u hu σ' μ' hI => by
    obtain ⟨v, hv, rfl⟩ := List.mem_map.mp hu
    rw [mem_sort] at hv
    obtain ⟨o9, rfl, XX⟩ := hI
    obtain ⟨l, q1, q2⟩ := lookup_some hv
    obtain ⟨ws, w0, q3, q4, q5, _⟩ := XX.L.at_ _ q2
    have vn := version_no (x := v) (ws := ws ++ [w0]) (y := b) XX.S (XX.L.nm v hv).1 q3 (bb _ _ (by simp; omega))
    have mv := meth_version (σ := [some (.ref h), some (.ref s), some (.ref a), some x, some (.int 3), some tiesT, some y, some b, some (.ref k), some (.str v)]) (dd := dVar 1) (dx := dVar 9) (dy := dVar 7) XX.S.ins rfl rfl rfl vn
    refine ⟨[some (.ref h), some (.ref s), some (.ref a), some x, some (.int 3), some tiesT, some y, some b, some (.ref k), some (.str v)], μ' ++ wordG "NoNumber", ?_, some (.str v), rfl, XX.keepN (keep_app [] μ' _)⟩
    have w : wordOf "NoNumber" = "number" := rfl
    simp only [List.set_cons_succ, List.set_cons_zero, sIf_e, d2_e, mv, word_exc (c := "NoNumber") (by decide), w, bind_ok, dC_e, neT_e, eqT_s, decide_true, notT_e, Bool.not_true, toS_ok, sIfK_e, Bool.false_eq_true, if_false, sNil_e]) σ (μ12 ++ g) ⟨none, rfl, X13⟩
  obtain ⟨g2, e15⟩ := is_as_ok X14.S X14.a_ X14.L
  refine ⟨μ14 ++ g2, ?_, X14.keepN (keep_app [] μ14 g2)⟩
  have sd := sortD_e (dd := dVar 2) (σ := σ) (μ := μ12 ++ g) rfl X13.a_ X13.L.len
  show (d__law_is_refused [some (.ref h), some (.ref s), some (.ref a), none, none, none, none, none, none, none] μ).toR = _
  unfold d__law_is_refused
  rw [sSeq_e, sSet_e, e1, toS_ok]
  simp only [List.set_cons_succ, List.set_cons_zero, seq_nx]
  rw [sSeq_e]
  have t4 : (sAsg (.tp [(.nm 4), (.nm 5)]) (dTup (aCons (dC (.int 3)) (aCons (dTup (aCons (dTup (aCons (dC (.int 0)) (aCons (dC (.int 1)) aNil))) (aCons (dTup (aCons (dC (.int 1)) (aCons (dC (.int 2)) aNil))) aNil))) aNil)))) [some (.ref h), some (.ref s), some (.ref a), some x, none, none, none, none, none, none] μ1 = .nx [some (.ref h), some (.ref s), some (.ref a), some x, some (.int 3), some tiesT, none, none, none, none] μ1 := by
    simp only [sAsg_e, dTup_e, aCons_e, aNil_e, dC_e, bind_ok, List.length_cons, List.length_nil, Nat.zero_add, Nat.reduceAdd, if_pos (z 2 (by omega)), toS_ok]
    rfl
  rw [t4, seq_nx, sSeq_e]
  let σq : List (Option T) := [some (.ref h), some (.ref s), some (.ref a), some x, some (.int 3), some tiesT, none, none, none, none]
  have t6 : (sSet 6 (dNew (dLstL (lCons (dC .non) (lCons (dTup (aCons (dVar 4) aNil)) (lCons (dNew (dLstL (lCons (dVar 4) (lCons (dVar 5) lNil)))) (lCons (dTup (aCons (dC (.int 0)) (aCons (dTup aNil) aNil))) (lCons (dTup (aCons (dC (.int 2)) (aCons (dVar 5) aNil))) (lCons (dTup (aCons (dVar 4) (aCons (dNew (dQL lstQ (dSeq (dVar 5)))) aNil))) (lCons (dC (.str "web")) (lCons (dTup (aCons (dVar 4) (aCons (dTup (aCons (dTup (aCons (dC (.int 1)) (aCons (dC (.int 0)) aNil))) aNil)) aNil))) lNil))))))))))) [some (.ref h), some (.ref s), some (.ref a), some x, some (.int 3), some tiesT, none, none, none, none] μ1 = .nx [some (.ref h), some (.ref s), some (.ref a), some x, some (.int 3), some tiesT, some (.ref μb.length), none, none, none] μc := by
    have u1 : ∀ μ, dTup (aCons (dVar 4) aNil) σq μ = .ok (.tup [.int 3]) μ := fun μ => by
      simp only [σq, dTup_e, aCons_e, aNil_e, dVar_s, dVar_0, bind_ok, List.length_cons, List.length_nil, Nat.zero_add, if_pos (z 1 (by omega))]
    have u2 : dNew (dLstL (lCons (dVar 4) (lCons (dVar 5) lNil))) σq μ1 = .ok (.ref μ1.length) μa := by
      simp only [σq, dNew_e, dLstL_e, lCons_e, lNil_e, dVar_s, dVar_0, bind_ok, bindL_ok, lbind_ok, List.length_cons, List.length_nil, Nat.zero_add, Nat.reduceAdd, if_pos (z 2 (by omega))]
      rfl
    have u3 : ∀ μ, dTup (aCons (dC (.int 0)) (aCons (dTup aNil) aNil)) σq μ = .ok (.tup [.int 0, .tup []]) μ := fun μ => by
      simp only [σq, dTup_e, aCons_e, aNil_e, dC_e, bind_ok, List.length_cons, List.length_nil, Nat.zero_add, Nat.reduceAdd, if_pos (z 0 (by omega)), if_pos (z 2 (by omega))]
    have u4 : ∀ μ, dTup (aCons (dC (.int 2)) (aCons (dVar 5) aNil)) σq μ = .ok (.tup [.int 2, tiesT]) μ := fun μ => by
      simp only [σq, dTup_e, aCons_e, aNil_e, dC_e, dVar_s, dVar_0, bind_ok, List.length_cons, List.length_nil, Nat.zero_add, Nat.reduceAdd, if_pos (z 2 (by omega))]
    have dq : dQL lstQ (dSeq (dVar 5)) σq μa = .ok [.tup [.int 0, .int 1], .tup [.int 1, .int 2]] μa := rfl
    have u5 : dTup (aCons (dVar 4) (aCons (dNew (dQL lstQ (dSeq (dVar 5)))) aNil)) σq μa = .ok (.tup [.int 3, .ref μa.length]) μb := by
      rw [dTup_e, aCons_e]
      have v : dVar 4 σq μa = .ok (.int 3) μa := rfl
      rw [v, bind_ok, aCons_e, dNew_e, dq, lbind_ok, bind_ok, aNil_e]
      simp only [List.length_cons, List.length_nil, Nat.zero_add, Nat.reduceAdd, if_pos (z 2 (by omega))]
      rfl
    have u6 : ∀ μ, dTup (aCons (dVar 4) (aCons (dTup (aCons (dTup (aCons (dC (.int 1)) (aCons (dC (.int 0)) aNil))) aNil)) aNil)) σq μ = .ok (.tup [.int 3, .tup [.tup [.int 1, .int 0]]]) μ := fun μ => by
      simp only [σq, dTup_e, aCons_e, aNil_e, dC_e, dVar_s, dVar_0, bind_ok, List.length_cons, List.length_nil, Nat.zero_add, Nat.reduceAdd, if_pos (z 1 (by omega)), if_pos (z 2 (by omega))]
    rw [sSet_e, dNew_e, dLstL_e, lcr (t := .non) dC_e, lcr (u1 _), lcr u2, lcr (u3 _), lcr (u4 _), lcr u5, lcr (t := .str "web") dC_e, lcr (u6 _), lNil_e]
    simp only [List.length_cons, List.length_nil, Nat.zero_add, Nat.reduceAdd, if_pos (z 8 (by omega)), lbind_ok, toS_ok]
    rfl
  rw [t6, seq_nx, sSeq_e]
  rw [lb] at e3 t6
  have t7 : sSet 6 (dFn 2 F__law_some (aCons (dVar 0) (aCons (dVar 6) aNil))) [some (.ref h), some (.ref s), some (.ref a), some x, some (.int 3), some tiesT, some (.ref μb.length), none, none, none] μc = .nx [some (.ref h), some (.ref s), some (.ref a), some x, some (.int 3), some tiesT, some y, none, none, none] μ3 := by
    simp only [sSet_e, dFn_e, aCons_e, aNil_e, dVar_s, dVar_0, bind_ok, List.length_cons, List.length_nil, Nat.zero_add, Nat.reduceAdd, if_true, lb, e3, toS_ok]
    rfl
  rw [t7, seq_nx, sSeq_e, sSet_e, e4, toS_ok]
  simp only [List.set_cons_succ, List.set_cons_zero, seq_nx]
  rw [sSeq_e]
  have t8 : sSet 8 (dNew (dLstL (lCons (fun σ μ => wordF ((dMeth "Store" "put" 3 F_Store_put (dVar 1) (aCons (dVar 3) (aCons (dFn 2 F__law_some (aCons (dVar 0) (aCons (dNew (dLstL (lCons (dTup (aCons (dVar 4) (aCons (dVar 5) aNil))) (lCons (dVar 6) lNil)))) aNil))) aNil))) σ μ)) lNil))) σ8 μ4 = .nx σ (B ++ [MO.lst [.str "name"]]) := by
    have w : wordF (dMeth "Store" "put" 3 F_Store_put (dVar 1) (aCons (dVar 3) (aCons (dFn 2 F__law_some (aCons (dVar 0) (aCons (dNew (dLstL (lCons (dTup (aCons (dVar 4) (aCons (dVar 5) aNil))) (lCons (dVar 6) lNil)))) aNil))) aNil)) σ8 μ4) = .ok (.str (wordOf "NoName")) B := by
      rw [p5, word_exc (by decide)]
    rw [sSet_e, dNew_e, dLstL_e, lcr w, lNil_e]
    simp only [List.length_cons, List.length_nil, Nat.zero_add, if_pos (z 1 (by omega)), lbind_ok, toS_ok]
    rfl
  rw [t8, seq_nx, sSeq_e, a7, seq_nx, sSeq_e, a8, seq_nx, sSeq_e, a9, seq_nx, sSeq_e, a10, seq_nx, sSeq_e, a11, seq_nx, sSeq_e]
  have t12 : sIf (dOr (d2 neT (dVar 8) (dNew (dLstL (lCons (dC (.str "name")) (lCons (dC (.str "web")) (lCons (dC (.str "name")) (lCons (dC (.str "name")) (lCons (dC (.str "name")) (lCons (dC (.str "name")) lNil))))))))) (dNot (dFn 2 F__law_is_as (aCons (dVar 1) (aCons (dVar 2) aNil))))) (sRet (dC (.bl false))) sNil σ μ11 = .nx σ (μ12 ++ g) := by
    have v8 : dVar 8 σ μ11 = .ok (.ref k) μ11 := rfl
    have nw : dNew (dLstL (lCons (dC (.str "name")) (lCons (dC (.str "web")) (lCons (dC (.str "name")) (lCons (dC (.str "name")) (lCons (dC (.str "name")) (lCons (dC (.str "name")) lNil))))))) σ μ11 = .ok (.ref μ11.length) μ12 := by
      simp only [dNew_e, dLstL_e, lCons_e, lNil_e, dC_e, bindL_ok, lbind_ok, List.length_cons, List.length_nil, Nat.zero_add, Nat.reduceAdd, if_pos (z 6 (by omega))]
      rfl
    have ia : dFn 2 F__law_is_as (aCons (dVar 1) (aCons (dVar 2) aNil)) σ μ12 = .ok (.bl true) (μ12 ++ g) := by
      rw [dFn_e, aCons_e]
      have v1 : dVar 1 σ μ12 = .ok (.ref s) μ12 := rfl
      have v2 : dVar 2 σ μ12 = .ok (.ref a) μ12 := rfl
      rw [v1, bind_ok, aCons_e, v2, bind_ok, aNil_e]
      exact e13
    have or1 : d2 neT (dVar 8) (dNew (dLstL (lCons (dC (.str "name")) (lCons (dC (.str "web")) (lCons (dC (.str "name")) (lCons (dC (.str "name")) (lCons (dC (.str "name")) (lCons (dC (.str "name")) lNil)))))))) σ μ11 = .ok (.bl false) μ12 := by
      rw [d2_e, v8, bind_ok, nw, bind_ok, cmp]
    rw [sIf_e, dOr_e, or1, bind_ok]
    show ((dNot (dFn 2 F__law_is_as (aCons (dVar 1) (aCons (dVar 2) aNil))) σ μ12).toS _) = _
    rw [dNot_e, ia, bind_ok]
    rfl
  rw [t12, seq_nx, sSeq_e]
  have t13 : sFor (dIterL (dSortD (dVar 2))) (.nm 9) (sIf (d2 neT (fun σ μ => wordF ((dMeth "Store" "version" 3 F_Store_version (dVar 1) (aCons (dVar 9) (aCons (dVar 7) aNil))) σ μ)) (dC (.str "number"))) (sRet (dC (.bl false))) sNil) σ (μ12 ++ g) = .nx [some (.ref h), some (.ref s), some (.ref a), some x, some (.int 3), some tiesT, some y, some b, some (.ref k), o9] μ14 := by
    unfold sFor dIterL
    rw [sd]
    exact e14
  rw [t13, seq_nx]
  rw [sRet_e, dFn_e, aCons_e]
  have v1 : dVar 1 [some (.ref h), some (.ref s), some (.ref a), some x, some (.int 3), some tiesT, some y, some b, some (.ref k), o9] μ14 = .ok (.ref s) μ14 := rfl
  have v2 : dVar 2 [some (.ref h), some (.ref s), some (.ref a), some x, some (.int 3), some tiesT, some y, some b, some (.ref k), o9] μ14 = .ok (.ref a) μ14 := rfl
  rw [v1, bind_ok, aCons_e, v2, bind_ok, aNil_e]
  simp only [List.length_cons, List.length_nil, Nat.zero_add, Nat.reduceAdd, if_true, e15, toS_ok]
  rfl
end K78
set_option linter.all false
set_option maxRecDepth 100000
set_option maxHeartbeats 2000000
namespace K78
open PySem PySem.Spec PyProof.Rows L2 TL
theorem linked_nil (μ : Mem) : Linked μ [] [] := ⟨by simp, by simp, by simp, by simp, by simp, by simp⟩
theorem led_right_ok {μ : Mem} {h hc nm : Nat} (H : Hand μ h hc) (N : μ[nm]? = some (.lst (names4.map T.str))) (d3 : nm ≠ h) : ∃ μ', F__law_is_led_right [.ref h, .ref nm] μ = .ok (.bl true) μ' ∧ Hand μ' h hc ∧ μ'[nm]? = some (.lst (names4.map T.str)) := by
  have z2 : (2 : Nat) ≤ sizeLine := sz (by omega)
  let σ0 : List (Option T) := [some (.ref h), some (.ref nm), none, none, none, none, none, none, none]
  obtain ⟨μ1, e1, S1, k1, l1⟩ := make_store μ σ0
  have k2 := keep_app [] μ1 [MO.dct []]
  have k12 := k1.trans k2 (by simp)
  obtain ⟨hl, hlc⟩ := H.lt
  have nl := (List.getElem?_eq_some_iff.mp N).1
  have X0 : Led (μ1 ++ [MO.dct []]) h hc nm μ.length (μ.length + 2) μ1.length [] [] 0 :=
    { H := H.keep k12 (by simp) (by simp)
      N := k12.at N (by simp)
      S := S1.keep k2 (by simp)
      a_ := by simp [repA]
      L := linked_nil _
      d1 := by simp
      d2 := by omega
      d3 := d3
      d4 := by omega
      d5 := by omega
      ks := by simp
      vs := by intro x; simp [vers] }
  have ta : sAsg (.tp [(.nm 2), (.nm 3)]) (dTup (aCons (dMake "Store" 1 F_Storedd_initdd aNil) (aCons (fun _ μ => .ok (.ref μ.length) (μ ++ [.dct []])) aNil))) σ0 μ = .nx [some (.ref h), some (.ref nm), some (.ref μ.length), some (.ref μ1.length), none, none, none, none, none] (μ1 ++ [MO.dct []]) := by
    simp only [sAsg_e, dTup_e, aCons_e, aNil_e, e1, bind_ok, List.length_cons, List.length_nil, Nat.zero_add, Nat.reduceAdd, if_pos z2, toS_ok]
    rfl
  obtain ⟨r, μ3, e3, r1, r2, k3, H3, l3⟩ := draw_spec (many := 11) X0.H (by decide) (by decide)
  have X3 := X0.keepH k3 H3
  let Inv : Nat → List (Option T) → Mem → Prop := fun t σ μ' => ∃ (a : Nat) (A : List (Str × Nat)) (m : Model) (p4 p5 p6 p7 p8 : Option T), σ = [some (.ref h), some (.ref nm), some (.ref μ.length), some (.ref a), p4, p5, p6, p7, p8] ∧ Led μ' h hc nm μ.length (μ.length + 2) a A m t
  have loop := for_invN (i := 4) (body := sSeq ledAsg (sSeq ledBig ledLast)) Inv (rngL 0 (4 + r)) 0 (fun x _ t σ μ' ht hI => by
    obtain ⟨a, A, m, p4, p5, p6, p7, p8, rfl, X⟩ := hI
    rw [rngL_len] at ht
    obtain ⟨a', A', m', q4, q5, q6, q7, q8, μ'', e, X'⟩ := led_step (o4 := some x) (o5 := p5) (o6 := p6) (o7 := p7) (o8 := p8) X (by omega)
    exact ⟨_, μ'', e, a', A', m', q4, q5, q6, q7, q8, rfl, X'⟩)
    [some (.ref h), some (.ref nm), some (.ref μ.length), some (.ref μ1.length), none, none, none, none, none] μ3 ⟨_, [], [], none, none, none, none, none, rfl, X3⟩
  obtain ⟨σ4, μ4, e4, a, A, m, p4, p5, p6, p7, p8, rfl, X4⟩ := loop
  rw [rngL_len] at X4
  have rg : dRng1 (d2 addT (dC (.int 4)) (dFn 2 F__law_draw (aCons (dVar 0) (aCons (dC (.int 11)) aNil)))) [some (.ref h), some (.ref nm), some (.ref μ.length), some (.ref μ1.length), none, none, none, none, none] (μ1 ++ [MO.dct []]) = .its (rngL 0 (4 + r)) [] μ3 := by
    have rq : rngOk (4 + r) = true := by unfold rngOk; simp; omega
    unfold dRng1
    simp only [d2_e, dC_e, dFn_e, aCons_e, aNil_e, dVar_0, bind_ok, List.length_cons, List.length_nil, Nat.zero_add, Nat.reduceAdd, if_true, e3, addT_i]
    rw [if_pos rq]
  have tf : sFor (dRng1 (d2 addT (dC (.int 4)) (dFn 2 F__law_draw (aCons (dVar 0) (aCons (dC (.int 11)) aNil))))) (.nm 4) (sSeq ledAsg (sSeq ledBig ledLast)) [some (.ref h), some (.ref nm), some (.ref μ.length), some (.ref μ1.length), none, none, none, none, none] (μ1 ++ [MO.dct []]) = .nx [some (.ref h), some (.ref nm), some (.ref μ.length), some (.ref a), p4, p5, p6, p7, p8] μ4 := by
    unfold sFor
    rw [rg]
    exact e4
  obtain ⟨μ5, e5, X5⟩ := refused_ok X4 (by omega)
  refine ⟨μ5, ?_, X5.H, X5.N⟩
  show (d__law_is_led_right σ0 μ).toR = _
  show ((sSeq (sAsg (.tp [(.nm 2), (.nm 3)]) (dTup (aCons (dMake "Store" 1 F_Storedd_initdd aNil) (aCons (fun _ μ => .ok (.ref μ.length) (μ ++ [.dct []])) aNil)))) (sSeq (sFor (dRng1 (d2 addT (dC (.int 4)) (dFn 2 F__law_draw (aCons (dVar 0) (aCons (dC (.int 11)) aNil))))) (.nm 4) (sSeq ledAsg (sSeq ledBig ledLast))) (sRet (dFn 3 F__law_is_refused (aCons (dVar 0) (aCons (dVar 2) (aCons (dVar 3) aNil))))))) σ0 μ).toR = _
  rw [sSeq_e, ta, seq_nx, sSeq_e, tf, seq_nx]
  simp only [sRet_e, dFn_e, aCons_e, aNil_e, dVar_0, dVar_s, bind_ok, List.length_cons, List.length_nil, Nat.zero_add, Nat.reduceAdd, if_true, e5, toS_ok]
  rfl
end K78
set_option linter.all false
set_option maxRecDepth 100000
set_option maxHeartbeats 2000000
namespace K78
open PySem PySem.Spec PyProof.Rows L2 TL
def handI (i : Int) : Int := (if i < 0 then -i else i) % (10 ^ (60 : Int).toNat)
def handAt : T → T
  | .int i => .int (handI i)
  | t => t
theorem handI_nn (i : Int) : 0 ≤ handI i := Int.emod_nonneg _ (by decide)
theorem pow60 : CPow 10 60 := by decide
theorem hand_ok {μ : Mem} {v : T} {ns : List Int} (hn : ns.length ≤ 63) (hv : v = .fl ns ∨ ∃ k, v = .ref k ∧ μ[k]? = some (.lst (ns.map T.int))) : ∃ h hc μ', F__law_hand [v] μ = .ok (.ref h) μ' ∧ Hand μ' h hc := by
  have z5 : (5 : Nat) ≤ sizeLine := sz (by omega)
  obtain ⟨ms, em, lm⟩ : ∃ ms : List Int, cutT (ns.map T.int) none (some 63) = ms.map T.int ∧ ms.length ≤ 63 := by
    refine ⟨(ns.drop (HT.sIx (ns.map T.int).length 0 none)).take (HT.sIx (ns.map T.int).length (ns.map T.int).length (some 63) - HT.sIx (ns.map T.int).length 0 none), ?_, ?_⟩
    · unfold cutT
      rw [List.map_take, List.map_drop]
    · simp only [List.length_take, List.length_drop]
      omega
  have sl : dSlL (dVar 0) none (some (dC (.int 63))) [some v, none, none] μ = .ok (ms.map T.int) μ := by
    rw [← em]
    rcases hv with rfl | ⟨k, rfl, hk⟩
    · rfl
    · show (match μ[k]? with | some (.lst xs) => LRes.ok (cutT xs none (some 63)) μ | _ => .bad) = _
      rw [hk]
  have lc : dLc (dIterL (dSlL (dVar 0) none (some (dC (.int 63))))) (.nm 2) [2] none (d2 modT (dCall absC (aCons (dCall intC (aCons (dVar 2) aNil)) aNil)) (d2 powT (dC (.int 10)) (dC (.int 60)))) [some v, none, none] μ = .ok ((ms.map handI).map T.int) μ := by
    have g := lc_all (ws := []) (i := 2) (el := d2 modT (dCall absC (aCons (dCall intC (aCons (dVar 2) aNil)) aNil)) (d2 powT (dC (.int 10)) (dC (.int 60)))) (σ := [some v, none, none]) (μ := μ) (f := handAt) rfl (ms.map T.int) [] (fun x hx => by
      obtain ⟨i, _, rfl⟩ := List.mem_map.mp hx
      have pp : (0 : Int) < 10 ^ (60 : Int).toNat := by decide
      have ab : ∀ μ', absC [.int i] μ' = .ok (.int (if i < 0 then -i else i)) μ' := fun _ => rfl
      have it : ∀ μ', intC [.int i] μ' = .ok (.int i) μ' := fun _ => rfl
      simp only [List.set_cons_succ, List.set_cons_zero, d2_e, dCall_e, aCons_e, aNil_e, dVar_s, dVar_0, dC_e, bind_ok, it, ab, powT_i pow60, modT_i pp]
      rfl) (by simp; omega)
    unfold dLc dIterL
    rw [sl]
    show lcGo [] (.nm 2) none _ [some v, none, none] (ms.map T.int) [] μ = _
    rw [g, List.nil_append, List.map_map, List.map_map]
    rfl
  let μ1 : Mem := μ ++ [MO.lst ((ms.map handI).map T.int)]
  have n1 : μ1[μ.length]? = some (.lst ((ms.map handI).map T.int)) := by simp [μ1]
  let L5 : List T := [.ref μ.length, .int 0, .int 0, .int (7811 + 7 * ((ms.map handI).map T.int).length), .int 0]
  refine ⟨μ1.length, μ.length, μ1 ++ [MO.lst L5], ?_, ?_⟩
  · have e1 : dNew (dLc (dIterL (dSlL (dVar 0) none (some (dC (.int 63))))) (.nm 2) [2] none (d2 modT (dCall absC (aCons (dCall intC (aCons (dVar 2) aNil)) aNil)) (d2 powT (dC (.int 10)) (dC (.int 60))))) [some v, none, none] μ = .ok (.ref μ.length) μ1 := by
      rw [dNew_e, lc, lbind_ok]
    have cm : CMul 7 (((ms.map handI).map T.int).length : Int) := by unfold CMul; simp <;> omega
    show (d__law_hand [some v, none, none] μ).toR = _
    unfold d__law_hand
    rw [sSeq_e, sSet_e, e1, toS_ok]
    simp only [List.set_cons_succ, List.set_cons_zero, seq_nx, sRet_e, dNew_e, dLstL_e, lCons_e, lNil_e, dVar_s, dVar_0, dC_e, bindL_ok, d2_e, bind_ok, dCall_e, aCons_e, aNil_e, lenC_l n1, mulT_i cm, addT_i, List.length_cons, List.length_nil, Nat.zero_add, Nat.reduceAdd, if_pos z5, lbind_ok, toS_ok]
    rfl
  · have k := keep_app [] μ1 [MO.lst L5]
    refine ⟨ms.map handI, 0, 0, 7811 + 7 * ((ms.map handI).map T.int).length, 0, by simp [μ1], by simp [L5], k.at n1 (by simp), by omega, by omega, ?_⟩
    intro x hx
    obtain ⟨i, _, rfl⟩ := List.mem_map.mp hx
    exact handI_nn i
end K78
set_option linter.all false
set_option maxRecDepth 100000
set_option maxHeartbeats 2000000
namespace K78
open PySem PySem.Spec PyProof.Rows L2 TL
def webs3 : List Web := [(5, [(0, 1), (0, 2), (1, 2), (2, 3), (2, 4), (3, 4)]), (5, [(0, 1), (1, 2), (2, 3), (3, 4), (0, 4)]), (5, [(0, 1), (1, 2), (2, 3), (0, 3), (0, 4), (1, 4), (2, 4), (3, 4)])]
theorem known3 {x : T} (h : x ∈ [T.str "bow", .str "ring", .str "wheel"]) : ∃ w, WebOk w ∧ ∀ μ, F_known_web [x] μ = .ok (webT w) μ := by
  simp only [List.mem_cons, List.not_mem_nil, or_false] at h
  rcases h with rfl | rfl | rfl
  · exact ⟨(5, [(0, 1), (0, 2), (1, 2), (2, 3), (2, 4), (3, 4)]), by unfold WebOk; decide, fun μ => rfl⟩
  · exact ⟨(5, [(0, 1), (1, 2), (2, 3), (3, 4), (0, 4)]), by unfold WebOk; decide, fun μ => rfl⟩
  · exact ⟨(5, [(0, 1), (1, 2), (2, 3), (0, 3), (0, 4), (1, 4), (2, 4), (3, 4)]), by unfold WebOk; decide, fun μ => rfl⟩
theorem neT_ints {i j : Nat} {ws : List Int} {μ : Mem} (hi : μ[i]? = some (.lst (ws.map T.int))) (hj : μ[j]? = some (.lst (ws.map T.int))) : neT (.ref i) (.ref j) μ = .ok (.bl false) μ := by
  have q : ∀ k, μ[k]? = some (.lst (ws.map T.int)) → toD μ (.ref k) = some (.list (ws.map PyData.int)) := fun k hk => by
    unfold toD toDW refD
    rw [hk]
    dsimp only
    rw [toDWs_map (d := PyData.int) fun x => rfl]
    rfl
  refine neT_same (q i hi) (q j hj) ?_ ?_ (.inr ⟨_, rfl⟩)
  · simp only [PyData.canLay0]
    exact canAll_map ws fun x hx => by simp [PyData.canLay0]
  · have := depthAll_map (k := 0) (d := PyData.int) (fun x => by simp [PyData.depth]) ws
    simp only [PyData.depth]; omega
/-- a list made by calls that change the memory -/
theorem lc_inv {i : Nat} {el : EM} {σ : List (Option T)} (Inv : Nat → Mem → Prop) (f : Nat → T) : ∀ (xs acc : List T) (μ : Mem), (∀ x ∈ xs, ∀ n μ, n < acc.length + xs.length → Inv n μ → ∃ μ', el (σ.set i (some x)) μ = .ok (f n) μ' ∧ Inv (n + 1) μ') → Inv acc.length μ → acc.length + xs.length ≤ 1000 →
    ∃ μ', lcGo [] (.nm i) none el σ xs acc μ = .ok (acc ++ (List.range' acc.length xs.length).map f) μ' ∧ Inv (acc.length + xs.length) μ'
  | [], acc, μ, _, h, _ => ⟨μ, by unfold lcGo; simp [watched], by simpa using h⟩
  | x :: r, acc, μ, hs, h, hz => by
    obtain ⟨μ1, e1, h1⟩ := hs x (by simp) _ μ (by simp) h
    have ha : (acc ++ [f acc.length]).length = acc.length + 1 := by simp
    obtain ⟨μ2, e2, h2⟩ := lc_inv Inv f r (acc ++ [f acc.length]) μ1 (fun y hy n μ hn => hs y (by simp [hy]) n μ (by rw [ha] at hn; simp; omega)) (by rw [ha]; exact h1) (by rw [ha]; simp at hz; omega)
    refine ⟨μ2, ?_, by rw [ha] at h2; rw [show acc.length + (x :: r).length = acc.length + 1 + r.length by simp; omega]; exact h2⟩
    unfold lcGo
    rw [if_pos (show watched [] μ = true from rfl)]
    show ((el (σ.set i (some x)) μ).toL _) = _
    rw [e1, toL_ok, if_pos (szl (by simp at hz; omega)), e2, ha]
    simp [List.range'_succ]
/-- a loop over a list that stays as it is -/
theorem for_rest {ws : List (Nat × List T)} {i : Nat} {body : SM} (Inv : List T → List (Option T) → Mem → Prop) (hw : ∀ r σ μ, Inv r σ μ → watched ws μ = true) (hs : ∀ x r σ μ, Inv (x :: r) σ μ → ∃ σ' μ', body (σ.set i (some x)) μ = .nx σ' μ' ∧ Inv r σ' μ') : ∀ (xs : List T) σ μ, Inv xs σ μ → ∃ σ' μ', forL ws (.nm i) body xs σ μ = .nx σ' μ' ∧ Inv [] σ' μ'
  | [], σ, μ, h => ⟨σ, μ, by unfold forL; rw [if_pos (hw _ _ _ h)], h⟩
  | x :: r, σ, μ, h => by
    obtain ⟨σ1, μ1, e1, h1⟩ := hs x r σ μ h
    obtain ⟨σ2, μ2, e2, h2⟩ := for_rest Inv hw hs r σ1 μ1 h1
    refine ⟨σ2, μ2, ?_, h2⟩
    unfold forL
    rw [if_pos (hw _ _ _ h)]
    show ((body (σ.set i (some x)) μ).loop (forL ws (.nm i) body r)) = _
    rw [e1, loop_nx, e2]
def L26 : List Str := ["la", "lb", "lc", "ld", "le", "lf", "lg", "lh", "li", "lj", "lk", "ll", "lm", "ln", "lo", "lp", "lq", "lr", "ls", "lt", "lu", "lv", "lw", "lx", "ly", "lz"]
def L23 : List Str := ["ma", "mb", "mc", "md", "me", "mf", "mg", "mh", "mi", "mj", "mk", "ml", "mm", "mn", "mo", "mp", "mq", "mr", "ms", "mt", "mu", "mv", "mw"]
def L49 : List Str := L26 ++ L23
theorem len49 : L49.length = 49 := rfl
theorem nd50 : (("long" : Str) :: L49).Nodup := by decide +kernel
theorem zz50 : ("zz" : Str) ∉ ("long" : Str) :: L49 := by decide +kernel
theorem ok49 : ∀ x ∈ L49, NameOk x := by
  intro x hx
  simp only [L49, L26, L23, List.cons_append, List.nil_append, List.mem_cons, List.not_mem_nil, or_false] at hx
  repeat (rcases hx with rfl | hx; · exact fun μ => rfl)
theorem okLong : NameOk "long" := fun μ => rfl
theorem okZz : NameOk "zz" := fun μ => rfl
def letAt (p : Str) : T → T
  | .str z => .str (p ++ z)
  | t => t
theorem lets_l : (signsT "abcdefghijklmnopqrstuvwxyz").map (letAt "l") = L26.map T.str := by rfl
theorem lets_m : (signsT "abcdefghijklmnopqrstuvw").map (letAt "m") = L23.map T.str := by rfl
theorem sort_len {l : List Str} : (sortS l).length = l.length := (List.mergeSort_perm l leS).length_eq
end K78
set_option linter.all false
set_option maxRecDepth 100000
set_option maxHeartbeats 2000000
namespace K78
open PySem PySem.Spec PyProof.Rows L2 TL
/-- the store's model while "long" is put -/
def LongM (m : Model) (w : Web) (t : Nat) : Prop := m.map (·.1) = (if t = 0 then [] else [("long" : Str)]) ∧ vers m "long" = List.replicate t w
theorem longM_len {m : Model} {w : Web} {t : Nat} (h : LongM m w t) : m.length ≤ 1 := by
  have := congrArg List.length h.1
  rw [List.length_map] at this
  rw [this]
  split <;> simp
theorem longM_put {m : Model} {w : Web} {t : Nat} (h : LongM m w t) : LongM (putM m "long" (vers m "long" ++ [w])) w (t + 1) := by
  refine ⟨?_, ?_⟩
  · rw [keys_put, if_neg (by omega : ¬ t + 1 = 0)]
    by_cases ht : t = 0
    · subst ht
      have m0 : m = [] := by have := h.1; simpa using this
      subst m0
      rfl
    · have h1 := h.1
      rw [if_neg ht] at h1
      have : (m.any fun p => decide (p.1 = "long")) = true := by
        cases m with
        | nil => simp at h1
        | cons p r =>
          have h2 : p.1 = "long" := (List.cons.inj h1).1
          simp [h2]
      rw [if_pos this, h1]
  · rw [vers_some (look_put_self m), h.2, List.replicate_succ']
theorem long_put {μ : Mem} {s st n t : Nat} {m : Model} {w : Web} (S : St μ s st m n) (hn : n ≤ 500) (hw : WebOk w) (h : LongM m w t) (ht : t < 20) :
    ∃ μ', F_Store_put [.ref s, .str "long", webT w] μ = .ok (.int t) μ' ∧ St μ' s st (putM m "long" (vers m "long" ++ [w])) (n + 1) := by
  have lm := longM_len h
  obtain ⟨μ', e, S', _⟩ := put_ok (w := w) S hn okLong hw (by split <;> omega) (by rw [h.2]; simp; omega)
  refine ⟨μ', ?_, S'⟩
  rw [e, h.2]; simp
theorem full20 {μ : Mem} {s st : Nat} {w : Web} {h : T} (S : St μ s st [] 0) (hw : WebOk w) :
    ∃ (μ' : Mem) (m : Model), dLc (dRng1 (dC (.int 20))) (.nm 3) [3] none (dMeth "Store" "put" 3 F_Store_put (dVar 1) (aCons (dC (.str "long")) (aCons (dVar 2) aNil))) [some h, some (.ref s), some (webT w), none, none, none, none] μ = .ok (rngL 0 20) μ' ∧ St μ' s st m 20 ∧ LongM m w 20 := by
  obtain ⟨μ', e, m, S', h'⟩ := lc_inv (i := 3) (el := dMeth "Store" "put" 3 F_Store_put (dVar 1) (aCons (dC (.str "long")) (aCons (dVar 2) aNil))) (σ := [some h, some (.ref s), some (webT w), none, none, none, none])
    (fun t μ => ∃ m, St μ s st m t ∧ LongM m w t) (fun t => .int t) (rngL 0 20) [] μ (fun x _ n μ hn hI => by
      obtain ⟨m, S, hm⟩ := hI
      rw [rngL_len] at hn
      obtain ⟨μ', e, S'⟩ := long_put S (by simp at hn; omega) hw hm (by simpa using hn)
      exact ⟨μ', meth_put S.ins rfl rfl rfl e, _, S', longM_put hm⟩) ⟨[], S, rfl, rfl⟩ (by rw [rngL_len]; simp)
  refine ⟨μ', m, ?_, S', h'⟩
  have rg : ∀ σ, dRng1 (dC (.int 20)) σ μ = .its (rngL 0 20) [] μ := fun σ => by
    have rq : rngOk 20 = true := by unfold rngOk; simp
    unfold dRng1
    simp only [dC_e]
    rw [if_pos rq]
  unfold dLc
  rw [rg]
  exact e
theorem lc_lets {p : Str} {z : Str} {q : T} {σ0 : List (Option T)} {μ : Mem} {a0 a1 a2 a3 a4 a5 a6 : Option T} (hz : (signsT z).length ≤ 500) (hp : ∀ x ∈ signsT z, ∃ y, x = .str y ∧ p.length + y.length ≤ 100) :
    dLc (dIter (dC (.str z))) (.nm 5) [5] none (d2 addT (dC (.str p)) (dVar 5)) [a0, a1, a2, a3, a4, a5, a6] μ = .ok ((signsT z).map (letAt p)) μ := by
  have g := lc_all (ws := []) (i := 5) (el := d2 addT (dC (.str p)) (dVar 5)) (σ := [a0, a1, a2, a3, a4, none, a6]) (μ := μ) (f := letAt p) rfl (signsT z) [] (fun x hx => by
    obtain ⟨y, rfl, hy⟩ := hp x hx
    simp only [List.set_cons_succ, List.set_cons_zero, d2_e, dC_e, dVar_s, dVar_0, bind_ok]
    unfold addT
    dsimp only
    rw [if_pos (sz (by omega))]
    rfl) (by simp; omega)
  unfold dLc dIter
  show lcGo [] (.nm 5) none _ [a0, a1, a2, a3, a4, none, a6] (signsT z) [] μ = _
  rw [g, List.nil_append]
theorem sg_l : (signsT "abcdefghijklmnopqrstuvwxyz").length ≤ 500 := by decide +kernel
theorem sg_m : (signsT "abcdefghijklmnopqrstuvw").length ≤ 500 := by decide +kernel
theorem sgn {z p : Str} (hp : p.length ≤ 10) : ∀ x ∈ signsT z, ∃ y, x = T.str y ∧ p.length + y.length ≤ 100 := by
  intro x hx
  unfold signsT at hx
  obtain ⟨c, _, rfl⟩ := List.mem_map.mp hx
  refine ⟨⟨#[c]⟩, rfl, ?_⟩
  have : (⟨#[c]⟩ : Str).length = 1 := rfl
  omega
end K78
set_option linter.all false
set_option maxRecDepth 100000
set_option maxHeartbeats 2000000
namespace K78
open PySem PySem.Spec PyProof.Rows L2 TL
theorem any_no {m : Model} {x : Str} (h : x ∉ m.map (·.1)) : ¬ (m.any fun p => decide (p.1 = x)) = true := by
  intro w
  obtain ⟨p, hp, e⟩ := List.any_eq_true.mp w
  exact h (List.mem_map.mpr ⟨p, hp, by simpa using e⟩)
theorem full49 {μ : Mem} {s st k : Nat} {m : Model} {w : Web} {h : T} {o3 o5 o6 : Option T} (S : St μ s st m 20) (hw : WebOk w) (hm : m.map (·.1) = [("long" : Str)]) (hk : μ[k]? = some (.lst (L49.map T.str))) (hks : k ≠ st) :
    ∃ (μ' : Mem) (m' : Model) (p6 : Option T), sFor (dIter (dVar 4)) (.nm 6) (sIf (d2 neT (dMeth "Store" "put" 3 F_Store_put (dVar 1) (aCons (dVar 6) (aCons (dVar 2) aNil))) (dC (.int 0))) (sRet (dC (.bl false))) sNil) [some h, some (.ref s), some (webT w), o3, some (.ref k), o5, o6] μ
      = .nx [some h, some (.ref s), some (webT w), o3, some (.ref k), o5, p6] μ' ∧ (∃ n, St μ' s st m' n) ∧ m'.map (·.1) = ("long" : Str) :: L49 ∧ μ'[k]? = some (.lst (L49.map T.str)) := by
  let Inv : List T → List (Option T) → Mem → Prop := fun xs σ μ' => ∃ (done rest : List Str) (m' : Model) (p6 : Option T), xs = rest.map T.str ∧ done ++ rest = L49 ∧ σ = [some h, some (.ref s), some (webT w), o3, some (.ref k), o5, p6] ∧ St μ' s st m' (20 + done.length) ∧ m'.map (·.1) = ("long" : Str) :: done ∧ μ'[k]? = some (.lst (L49.map T.str))
  have loop := for_rest (ws := [(k, L49.map T.str)]) (i := 6) (body := sIf (d2 neT (dMeth "Store" "put" 3 F_Store_put (dVar 1) (aCons (dVar 6) (aCons (dVar 2) aNil))) (dC (.int 0))) (sRet (dC (.bl false))) sNil) Inv
    (fun r σ μ' hI => by
      obtain ⟨done, rest, m', p6, _, _, _, _, _, q⟩ := hI
      have hz : L49.map T.str = L49.map T.str := rfl
      have bb : T.beqs (L49.map T.str) (L49.map T.str) = true := by decide +kernel
      unfold watched
      simp only [List.all_cons, List.all_nil, Bool.and_true]
      rw [q]
      exact bb)
    (fun x r σ μ' hI => by
      obtain ⟨done, rest, m', p6, hx, hd, rfl, S', hm', q⟩ := hI
      match rest, hx with
      | y :: rest, hx =>
        obtain ⟨rfl, rfl⟩ := List.cons.inj hx
        have nd := nd50
        rw [← hd] at nd
        have ln := congrArg List.length hd
        rw [len49] at ln
        simp at ln
        have yn : y ∉ ("long" : Str) :: done := by
          intro z
          have : ("long" : Str) :: (done ++ y :: rest) = (("long" : Str) :: done) ++ y :: rest := rfl
          rw [this] at nd
          exact (List.nodup_append.mp nd).2.2 y z y (by simp) rfl
        have y49 : y ∈ L49 := by rw [← hd]; simp
        have lk : m'.lookup y = none := lookup_none (by rw [hm']; exact yn)
        have ml := congrArg List.length hm'
        rw [List.length_map] at ml
        simp at ml
        obtain ⟨μ2, e2, S2, k2⟩ := put_ok (w := w) S' (by omega) (ok49 y y49) hw (by rw [lk]; simp; omega) (by rw [vers_none lk]; simp)
        rw [vers_none lk] at e2
        have pm := meth_put (σ := [some h, some (.ref s), some (webT w), o3, some (.ref k), o5, some (.str y)]) (dd := dVar 1) (dx := dVar 6) (dy := dVar 2) S'.ins rfl rfl rfl e2
        refine ⟨[some h, some (.ref s), some (webT w), o3, some (.ref k), o5, some (.str y)], μ2, ?_, done ++ [y], rest, putM m' y (vers m' y ++ [w]), some (.str y), rfl, by rw [← hd]; simp, rfl, ?_, ?_, k2.at q (by simp [hks])⟩
        · simp only [List.set_cons_succ, List.set_cons_zero, sIf_e, d2_e, pm, bind_ok, dC_e, neT_e, eqT_i, List.length_nil]
          rfl
        · rw [List.length_append]; exact S2
        · rw [keys_put, if_neg (any_no (by rw [hm']; exact yn)), hm']; rfl)
    (L49.map T.str) [some h, some (.ref s), some (webT w), o3, some (.ref k), o5, o6] μ ⟨[], L49, m, o6, rfl, rfl, rfl, S, hm, hk⟩
  obtain ⟨σ', μ', e, done, rest, m', p6, hx, hd, rfl, S', hm', q⟩ := loop
  have r0 : rest = [] := by cases rest with
    | nil => rfl
    | cons _ _ => simp at hx
  subst r0
  rw [List.append_nil] at hd
  subst hd
  refine ⟨μ', m', p6, ?_, ⟨_, S'⟩, hm', q⟩
  unfold sFor dIter
  have v4 : dVar 4 [some h, some (.ref s), some (webT w), o3, some (.ref k), o5, o6] μ = .ok (.ref k) μ := rfl
  rw [v4]
  dsimp only
  rw [hk]
  exact e
end K78
set_option linter.all false
set_option maxRecDepth 100000
set_option maxHeartbeats 2000000
namespace K78
open PySem PySem.Spec PyProof.Rows L2 TL
theorem full_right_ok {μ : Mem} {h hc : Nat} (H : Hand μ h hc) : ∃ μ', F__law_is_full_right [.ref h] μ = .ok (.bl true) μ' := by
  have z2 : (2 : Nat) ≤ sizeLine := sz (by omega)
  have z3 : (3 : Nat) ≤ sizeLine := sz (by omega)
  let σ0 : List (Option T) := [some (.ref h), none, none, none, none, none, none]
  obtain ⟨μ1, e1, S1, k1, l1⟩ := make_store μ σ0
  obtain ⟨hl, hlc⟩ := H.lt
  have H1 := H.keep k1 (by simp) (by simp)
  let μ2 : Mem := μ1 ++ [MO.lst [.str "bow", .str "ring", .str "wheel"]]
  have k2 := keep_app [] μ1 [MO.lst [.str "bow", .str "ring", .str "wheel"]]
  have H2 : Hand μ2 h hc := H1.keep k2 (by simp) (by simp)
  obtain ⟨x, μ3, e3, hx, k3, H3, l3⟩ := some_spec (t := μ1.length) (xs := [.str "bow", .str "ring", .str "wheel"]) H2 (by simp [μ2]) (by omega) (by simp) (by simp)
  obtain ⟨w, hw, ew⟩ := known3 hx
  have S3 : St μ3 μ.length (μ.length + 2) [] 0 := (S1.keep k2 (by simp)).keep k3 (by
    intro i hi o ho
    simp only [List.mem_singleton] at hi
    subst hi
    obtain ⟨cs, j, v, s, c, _, q1, _⟩ := H2
    refine ⟨⟨[.ref hc, .int j, .int v, .int s, .int c], ?_⟩, by omega⟩
    exact Option.some.inj (ho.symm.trans q1))
  generalize hs : μ.length = s at *
  generalize hst : s + 2 = st at *
  have ta : sAsg (.tp [(.nm 1), (.nm 2)]) (dTup (aCons (dMake "Store" 1 F_Storedd_initdd aNil) (aCons (dFn 1 F_known_web (aCons (dFn 2 F__law_some (aCons (dVar 0) (aCons (dNew (dLstL (lCons (dC (.str "bow")) (lCons (dC (.str "ring")) (lCons (dC (.str "wheel")) lNil))))) aNil))) aNil)) aNil))) σ0 μ = .nx [some (.ref h), some (.ref s), some (webT w), none, none, none, none] μ3 := by
    have e3' : F__law_some [.ref h, .ref μ1.length] (μ1 ++ [MO.lst [.str "bow", .str "ring", .str "wheel"]]) = .ok x μ3 := e3
    have v0 : ∀ μ, dVar 0 σ0 μ = .ok (.ref h) μ := fun _ => rfl
    simp only [sAsg_e, dTup_e, aCons_e, aNil_e, e1, bind_ok, dFn_e, v0, dNew_e, dLstL_e, lCons_e, lNil_e, dC_e, bindL_ok, lbind_ok, List.length_cons, List.length_nil, Nat.zero_add, Nat.reduceAdd, if_pos z2, if_pos z3, if_true, e3', ew, toS_ok]
    rfl
  obtain ⟨μ4, m, e4, S4, M4⟩ := full20 (h := .ref h) S3 hw
  let σ1 : List (Option T) := [some (.ref h), some (.ref s), some (webT w), none, none, none, none]
  let μ5 : Mem := μ4 ++ [MO.lst (rngL 0 20)]
  let μ6 : Mem := μ5 ++ [MO.lst (rngL 0 20)]
  have S6 : St μ6 s st m 20 := (S4.keep (keep_app [] μ4 _) (by simp)).keep (keep_app [] μ5 _) (by simp)
  have rr : rngL 0 20 = (([0,1,2,3,4,5,6,7,8,9,10,11,12,13,14,15,16,17,18,19] : List Int).map T.int) := rfl
  have cmp := neT_ints (i := μ4.length) (j := μ5.length) (μ := μ6) (ws := [0,1,2,3,4,5,6,7,8,9,10,11,12,13,14,15,16,17,18,19]) (by simp [μ6, μ5, rr]) (by simp [μ6, rr])
  have m1 : m.map (·.1) = [("long" : Str)] := by simpa using M4.1
  have ml : m.length = 1 := by have := congrArg List.length m1; simpa using this
  have lk : m.lookup ("long" : Str) = some (List.replicate 19 w ++ [w]) := by
    have v := M4.2
    unfold vers at v
    cases q : m.lookup ("long" : Str) with
    | none => rw [q] at v; simp at v
    | some ws => rw [q] at v; rw [← List.replicate_succ']; exact congrArg some v
  obtain ⟨fs, em⟩ := put_many (w := w) S6 okLong hw (.inr ⟨by rw [lk]; simp; omega, by rw [M4.2]; simp⟩)
  let μ7 : Mem := (μ6 ++ [MO.dct (rep m)]) ++ wordG "TooMany"
  have S7 : St μ7 s st m 20 := (S6.keep (keep_app [] μ6 _) (by simp)).keep (keep_app [] _ _) (by simp)
  have t2 : sIf (d2 neT (dNew (dLc (dRng1 (dC (.int 20))) (.nm 3) [3] none (dMeth "Store" "put" 3 F_Store_put (dVar 1) (aCons (dC (.str "long")) (aCons (dVar 2) aNil))))) (dNew (dListRg (dC (.int 20))))) (sRet (dC (.bl false))) sNil σ1 μ3 = .nx σ1 μ6 := by
    have lr : dListRg (dC (.int 20)) σ1 μ5 = .ok (rngL 0 20) μ5 := rfl
    rw [sIf_e, d2_e, dNew_e, e4, lbind_ok, bind_ok, dNew_e, lr, lbind_ok, bind_ok, cmp]
    rfl
  have t3 : sIf (dOr (d2 neT (fun σ μ => wordF ((dMeth "Store" "put" 3 F_Store_put (dVar 1) (aCons (dC (.str "long")) (aCons (dVar 2) aNil))) σ μ)) (dC (.str "many"))) (d2 neT (dMeth "Store" "take" 2 F_Store_take (dVar 1) (aCons (dC (.str "long")) aNil)) (dVar 2))) (sRet (dC (.bl false))) sNil σ1 μ6 = .nx σ1 μ7 := by
    have p := meth_put (σ := σ1) (dd := dVar 1) (dx := dC (.str "long")) (dy := dVar 2) S6.ins rfl rfl rfl em
    have tk := meth_take (σ := σ1) (dd := dVar 1) (dx := dC (.str "long")) S7.ins rfl rfl (take_ok S7 okLong lk)
    have w1 : wordOf "TooMany" = "many" := rfl
    have o1 : d2 neT (fun σ μ => wordF ((dMeth "Store" "put" 3 F_Store_put (dVar 1) (aCons (dC (.str "long")) (aCons (dVar 2) aNil))) σ μ)) (dC (.str "many")) σ1 μ6 = .ok (.bl false) μ7 := by
      simp only [d2_e, p, word_exc (c := "TooMany") (by decide), w1, bind_ok, dC_e, neT_e, eqT_s, decide_true, notT_e, Bool.not_true]
      rfl
    have v2 : dVar 2 σ1 μ7 = .ok (webT w) μ7 := rfl
    have o2 : d2 neT (dMeth "Store" "take" 2 F_Store_take (dVar 1) (aCons (dC (.str "long")) aNil)) (dVar 2) σ1 μ7 = .ok (.bl false) μ7 := by
      rw [d2_e, tk, bind_ok, v2, bind_ok, neT_web]
    rw [sIf_e, dOr_e, o1, bind_ok, orK_e, if_neg (by decide), o2]
    rfl
  -- the names
  let μ8 : Mem := μ7 ++ [MO.lst (L26.map T.str)]
  let μ9 : Mem := μ8 ++ [MO.lst (L23.map T.str)]
  let μA : Mem := μ9 ++ [MO.lst (L49.map T.str)]
  have SA : St μA s st m 20 := ((S7.keep (keep_app [] μ7 _) (by simp)).keep (keep_app [] μ8 _) (by simp)).keep (keep_app [] μ9 _) (by simp)
  let σ2 : List (Option T) := [some (.ref h), some (.ref s), some (webT w), none, some (.ref μ7.length), none, none]
  let σ3 : List (Option T) := [some (.ref h), some (.ref s), some (webT w), none, some (.ref μ9.length), none, none]
  have t4 : sSet 4 (dNew (dLc (dIter (dC (.str "abcdefghijklmnopqrstuvwxyz"))) (.nm 5) [5] none (d2 addT (dC (.str "l")) (dVar 5)))) σ1 μ7 = .nx σ2 μ8 := by
    rw [sSet_e, dNew_e, lc_lets (σ0 := []) (q := .non) sg_l (sgn (by decide)), lets_l, lbind_ok, toS_ok]
    rfl
  have t5 : sSet 4 (dNew (dCat (dVar 4) (dNew (dLc (dIter (dC (.str "abcdefghijklmnopqrstuvw"))) (.nm 5) [5] none (d2 addT (dC (.str "m")) (dVar 5)))))) σ2 μ8 = .nx σ3 μA := by
    have v4 : dVar 4 σ2 μ8 = .ok (.ref μ7.length) μ8 := rfl
    have n9 : dNew (dLc (dIter (dC (.str "abcdefghijklmnopqrstuvw"))) (.nm 5) [5] none (d2 addT (dC (.str "m")) (dVar 5))) σ2 μ8 = .ok (.ref μ8.length) μ9 := by
      rw [dNew_e, lc_lets (σ0 := []) (q := .non) sg_m (sgn (by decide)), lets_m, lbind_ok]
    have ct : dCat (dVar 4) (dNew (dLc (dIter (dC (.str "abcdefghijklmnopqrstuvw"))) (.nm 5) [5] none (d2 addT (dC (.str "m")) (dVar 5)))) σ2 μ8 = .ok (L49.map T.str) μ9 := by
      unfold dCat
      rw [v4, bindL_ok, n9, bindL_ok]
      dsimp only
      rw [show μ9[μ7.length]? = some (.lst (L26.map T.str)) by simp [μ9, μ8], show μ9[μ8.length]? = some (.lst (L23.map T.str)) by simp [μ9]]
      dsimp only
      rw [if_pos (sz (by decide)), ← List.map_append]
      rfl
    rw [sSet_e, dNew_e, ct, lbind_ok, toS_ok]
    rfl
  have l9 : μ9.length ≠ st := by
    have a : μ9.length = μ7.length + 2 := by simp [μ9, μ8]
    have b := S7
    obtain ⟨pre, d, _, q, _⟩ := b
    have := (List.getElem?_eq_some_iff.mp q).1
    omega
  obtain ⟨μB, m', p6, e6, ⟨n, SB⟩, mB, qB⟩ := full49 (h := .ref h) (o3 := none) (o5 := none) (o6 := none) SA hw m1 (show μA[μ9.length]? = some (.lst (L49.map T.str)) by simp [μA]) l9
  let σ4 : List (Option T) := [some (.ref h), some (.ref s), some (webT w), none, some (.ref μ9.length), none, p6]
  have mlB : m'.length = 50 := by have := congrArg List.length mB; rw [List.length_map] at this; rw [this]; rfl
  have zl : m'.lookup ("zz" : Str) = none := lookup_none (by rw [mB]; exact zz50)
  obtain ⟨fs2, ez⟩ := put_many (w := w) SB okZz hw (.inl (by rw [zl]; simp; omega))
  let μC : Mem := (μB ++ [MO.dct (rep m')]) ++ wordG "TooMany"
  have SC : St μC s st m' n := (SB.keep (keep_app [] μB _) (by simp)).keep (keep_app [] _ _) (by simp)
  refine ⟨μC, ?_⟩
  show (d__law_is_full_right σ0 μ).toR = _
  unfold d__law_is_full_right
  rw [sSeq_e, ta, seq_nx, sSeq_e, t2, seq_nx, sSeq_e, t3, seq_nx, sSeq_e, t4, seq_nx, sSeq_e, t5, seq_nx, sSeq_e, e6, seq_nx]
  have r1 : d2 eqT (dCall lenC (aCons (dVar 4) aNil)) (dC (.int 49)) σ4 μB = .ok (.bl true) μB := by
    have v4 : dVar 4 σ4 μB = .ok (.ref μ9.length) μB := rfl
    rw [d2_e, dCall_e, aCons_e, v4, bind_ok, aNil_e, lenC_l qB, bind_ok, dC_e, bind_ok]
    rfl
  have r2 : d2 eqT (fun σ μ => wordF ((dMeth "Store" "put" 3 F_Store_put (dVar 1) (aCons (dC (.str "zz")) (aCons (dVar 2) aNil))) σ μ)) (dC (.str "many")) σ4 μB = .ok (.bl true) μC := by
    have p := meth_put (σ := σ4) (dd := dVar 1) (dx := dC (.str "zz")) (dy := dVar 2) SB.ins rfl rfl rfl ez
    have w1 : wordOf "TooMany" = "many" := rfl
    simp only [d2_e, p, word_exc (c := "TooMany") (by decide), w1, bind_ok, dC_e, eqT_s, decide_true]
    rfl
  have r3 : d2 eqT (dCall lenC (aCons (dMeth "Store" "names" 1 F_Store_names (dVar 1) aNil) aNil)) (dC (.int 50)) σ4 μC = .ok (.bl true) μC := by
    have nn : dMeth "Store" "names" 1 F_Store_names (dVar 1) aNil σ4 μC = .ok (.tup ((sortS (m'.map (·.1))).map T.str)) μC := by
      rw [methK (k := s) (by rfl) SC.ins (by rfl), aNil_e]
      simp [names_ok SC (by omega)]
    have ln : lenC [.tup ((sortS (m'.map (·.1))).map T.str)] μC = .ok (.int 50) μC := by
      show Res.ok (.int _) μC = _
      rw [List.length_map, sort_len, List.length_map, mlB]
      rfl
    rw [d2_e, dCall_e, aCons_e, nn, bind_ok, aNil_e, ln, bind_ok, dC_e, bind_ok]
    rfl
  rw [sRet_e, dAnd_e, r1, bind_ok, andK_e, if_pos rfl, dAnd_e, r2, bind_ok, andK_e, if_pos rfl, r3]
  rfl
end K78
set_option linter.all false
set_option maxRecDepth 100000
set_option maxHeartbeats 2000000
namespace K78
open PySem PySem.Spec PyProof.Rows L2 TL
theorem law_ok {μ : Mem} {v : T} {ns : List Int} (hn : ns.length ≤ 63) (hv : v = .fl ns ∨ ∃ k, v = .ref k ∧ μ[k]? = some (.lst (ns.map T.int))) : ∃ μ', F_law [v] μ = .ok (.bl true) μ' := by
  obtain ⟨h, hc, μ1, e1, H1⟩ := hand_ok hn hv
  obtain ⟨hl, hlc⟩ := H1.lt
  let μ2 : Mem := μ1 ++ [MO.lst (names4.map T.str)]
  have H2 : Hand μ2 h hc := H1.keep (keep_app [] μ1 _) (by simp) (by simp)
  have N2 : μ2[μ1.length]? = some (.lst (names4.map T.str)) := by simp [μ2]
  have t1 : sPar 1 2 (dFn 1 F__law_hand (aCons (dVar 0) aNil)) (dNew (dLstL (lCons (dC (.str "a")) (lCons (dC (.str "b")) (lCons (dC (.str "eight")) (lCons (dC (.str "longname")) lNil)))))) [some v, none, none, none] μ = .nx [some v, some (.ref h), some (.ref μ1.length), none] μ2 := by
    simp only [sPar_e, dFn_e, aCons_e, aNil_e, dVar_0, bind_ok, List.length_cons, List.length_nil, Nat.zero_add, if_true, e1, toS_ok, dNew_e, dLstL_e, lCons_e, lNil_e, dC_e, bindL_ok, lbind_ok, Nat.reduceAdd, if_pos (sz (show 4 ≤ 1000 by omega))]
    rfl
  let Inv : List (Option T) → Mem → Prop := fun σ μ' => ∃ o3, σ = [some v, some (.ref h), some (.ref μ1.length), o3] ∧ Hand μ' h hc ∧ μ'[μ1.length]? = some (.lst (names4.map T.str))
  obtain ⟨σ3, μ3, e3, o3, rfl, H3, N3⟩ := for_inv (i := 3) (body := sIf (dNot (dFn 2 F__law_is_led_right (aCons (dVar 1) (aCons (dVar 2) aNil)))) (sRet (dC (.bl false))) sNil) Inv (rngL 0 2) (fun x _ σ μ' hI => by
    obtain ⟨o3, rfl, H, N⟩ := hI
    obtain ⟨μ'', e, H', N'⟩ := led_right_ok H N (by omega)
    refine ⟨[some v, some (.ref h), some (.ref μ1.length), some x], μ'', ?_, some x, rfl, H', N'⟩
    simp only [List.set_cons_succ, List.set_cons_zero, sIf_e, dNot_e, dFn_e, aCons_e, aNil_e, dVar_s, dVar_0, bind_ok, List.length_cons, List.length_nil, Nat.zero_add, Nat.reduceAdd, if_true, e]
    rfl) [some v, some (.ref h), some (.ref μ1.length), none] μ2 ⟨none, rfl, H2, N2⟩
  obtain ⟨μ4, e4⟩ := full_right_ok H3
  refine ⟨μ4, ?_⟩
  have tf : sFor (dRng1 (dC (.int 2))) (.nm 3) (sIf (dNot (dFn 2 F__law_is_led_right (aCons (dVar 1) (aCons (dVar 2) aNil)))) (sRet (dC (.bl false))) sNil) [some v, some (.ref h), some (.ref μ1.length), none] μ2 = .nx [some v, some (.ref h), some (.ref μ1.length), o3] μ3 := by
    have rq : rngOk 2 = true := by unfold rngOk; simp
    unfold sFor dRng1
    simp only [dC_e]
    rw [if_pos rq]
    exact e3
  show (d_law [some v, none, none, none] μ).toR = _
  unfold d_law
  rw [sSeq_e, t1, seq_nx, sSeq_e, tf, seq_nx]
  simp only [sRet_e, dFn_e, aCons_e, aNil_e, dVar_s, dVar_0, bind_ok, List.length_cons, List.length_nil, Nat.zero_add, if_true, e4, toS_ok]
  rfl
theorem math (ns : List Int) (h : ns.length ≤ 63) : (∃ μ, F_law [.fl ns] [] = .ok (.bl true) μ) ∧ ∃ μ, F_law [.ref 0] [.lst (ns.map T.int)] = .ok (.bl true) μ :=
  ⟨law_ok h (.inl rfl), law_ok h (.inr ⟨0, rfl, rfl⟩)⟩
end K78
set_option Elab.async false
set_option linter.all false
set_option maxRecDepth 100000
set_option maxHeartbeats 4000000
namespace K78
open PySem PySem.Spec PyProof.Rows L2 TL
end K78
open PySem PySem.W PyProof.Rows
set_option maxRecDepth 100000 in
set_option maxHeartbeats 0 in
theorem PySem.Challenge.cw_treesapartways_k78_whole_stores_of_versi_holds : PySem.Challenge.rw_treesapartways_k78_whole_stores_of_versi.Holds := by
  w_on; o_law; k_head; (case hw => w_witness2)
  k_fill
  refine LamX.walk_ofTs (n := 63) (k := 13) (x := "script") (CX := fun w => L2.CX (PySem.Challenge.rw_treesapartways_k78_whole_stores_of_versi).prog w) rfl (by decide) rfl ⟨rfl, by decide, by decide⟩ (fun w h Y => km_in_of Y) ?F (fun _ _ _ _ _ ⟨_, _, _, _, _, _, _, _, _, _, _, _, z⟩ => z)
  case F =>
    intro w mg fa h Y KX G hmg
    have hT8 := km_tabs_of Y
    refine' K78.all_mk KX G hmg ?aC_Store ?pg_Store ?hd_Store ?po_Store ?sa_Store ?mk_Store ?kc_Store ?a__law_hand ?l__law_hand ?c__law_hand ?k__law_hand ?a_Storedd_initdd ?i_Storedd_initdd ?l_Storedd_initdd ?c_Storedd_initdd ?k_Storedd_initdd ?a_Store_now ?i_Store_now ?l_Store_now ?c_Store_now ?k_Store_now ?a_Store_names ?i_Store_names ?l_Store_names ?c_Store_names ?k_Store_names ?a_check_most ?l_check_most ?c_check_most ?k_check_most ?a_is_sized ?l_is_sized ?c_is_sized ?k_is_sized ?a_is_int ?l_is_int ?c_is_int ?k_is_int ?a_is_within ?l_is_within ?c_is_within ?k_is_within ?a_is_pair_of ?l_is_pair_of ?c_is_pair_of ?k_is_pair_of ?a_is_web ?l_is_web ?c_is_web ?k_is_web ?a_check_web ?l_check_web ?c_check_web ?k_check_web ?a_is_name ?l_is_name ?c_is_name ?k_is_name ?a_Store_put ?i_Store_put ?l_Store_put ?c_Store_put ?k_Store_put ?a_Store_check_there ?i_Store_check_there ?l_Store_check_there ?c_Store_check_there ?k_Store_check_there ?a_Store_take ?i_Store_take ?l_Store_take ?c_Store_take ?k_Store_take ?a__law_draw ?l__law_draw ?c__law_draw ?k__law_draw ?a__law_some ?l__law_some ?c__law_some ?k__law_some ?a__law_word ?l__law_word ?c__law_word ?k__law_word ?a_check_known ?l_check_known ?c_check_known ?k_check_known ?a_known_web ?l_known_web ?c_known_web ?k_known_web ?a__law_is_full_right ?l__law_is_full_right ?c__law_is_full_right ?k__law_is_full_right ?tp__law_is_full_right ?th__law_is_full_right ?tn__law_is_full_right ?tt__law_is_full_right ?a_Store_drop ?i_Store_drop ?l_Store_drop ?c_Store_drop ?k_Store_drop ?a_Store_version ?i_Store_version ?l_Store_version ?c_Store_version ?k_Store_version ?a__law_is_as ?l__law_is_as ?c__law_is_as ?k__law_is_as ?tp__law_is_as ?th__law_is_as ?tn__law_is_as ?tt__law_is_as ?a__law_is_refused ?l__law_is_refused ?c__law_is_refused ?k__law_is_refused ?tp__law_is_refused ?th__law_is_refused ?tn__law_is_refused ?tt__law_is_refused ?a__law_web ?l__law_web ?c__law_web ?k__law_web ?a__law_is_led_right ?l__law_is_led_right ?c__law_is_led_right ?k__law_is_led_right ?tp__law_is_led_right ?th__law_is_led_right ?tn__law_is_led_right ?tt__law_is_led_right ?a_law ?l_law ?c_law ?k_law ?z_abs ?z_all ?z_bool ?z_dict ?z_int ?z_isinstance ?z_len ?z_list ?z_range ?z_sorted ?z_str ?z_tuple ?g_LETTERS ?g_MOST_NAME ?g_MOST_NAMES ?g_MOST_PLACES ?g_MOST_TIES ?g_MOST_VERSIONS ?nf_Store_store_stages ?aTe ?e0_NoName ?e0_NoNumber ?e0_NoWeb ?e0_TooMany ?e2_NoName ?e3_NoName ?e4_NoName ?e5_NoName ?e6_NoName ?e7_NoName ?e8_NoName ?e9_NoName ?ex_NoName ?kt_NoName_NoName ?kt_NoName_NoNumber ?kt_NoName_NoWeb ?kt_NoName_TooMany ?e2_NoNumber ?e3_NoNumber ?e4_NoNumber ?e5_NoNumber ?e6_NoNumber ?e7_NoNumber ?e8_NoNumber ?e9_NoNumber ?ex_NoNumber ?kt_NoNumber_NoName ?kt_NoNumber_NoNumber ?kt_NoNumber_NoWeb ?kt_NoNumber_TooMany ?e2_NoWeb ?e3_NoWeb ?e4_NoWeb ?e5_NoWeb ?e6_NoWeb ?e7_NoWeb ?e8_NoWeb ?e9_NoWeb ?ex_NoWeb ?kt_NoWeb_NoName ?kt_NoWeb_NoNumber ?kt_NoWeb_NoWeb ?kt_NoWeb_TooMany ?e2_TooMany ?e3_TooMany ?e4_TooMany ?e5_TooMany ?e6_TooMany ?e7_TooMany ?e8_TooMany ?e9_TooMany ?ex_TooMany ?kt_TooMany_NoName ?kt_TooMany_NoNumber ?kt_TooMany_NoWeb ?kt_TooMany_TooMany ?sp1 ?sp2 ?e1_NoName ?e1_NoNumber ?e1_NoWeb ?wa_WEBS ?wl_WEBS ?wk_WEBS ?ws_WEBS ?wv_WEBS_bow ?wr_WEBS_bow ?wv_WEBS_ring ?wr_WEBS_ring ?wv_WEBS_wheel ?wr_WEBS_wheel ?x1_TooMany ?x2_TooMany ?x6_TooMany ?x7_TooMany ?xl_TooMany ?xc_TooMany ?xf_TooMany ?xt_TooMany ?xs_TooMany ?x8_TooMany ?x9_TooMany ?x10_TooMany ?x11_TooMany ?xd_TooMany ?xn_TooMany ?ne__law_is_as__law_is_full_right ?ne__law_is_refused__law_is_full_right ?ne__law_is_led_right__law_is_full_right ?ne__law_is_full_right__law_is_as ?ne__law_is_refused__law_is_as ?ne__law_is_led_right__law_is_as ?ne__law_is_full_right__law_is_refused ?ne__law_is_as__law_is_refused ?ne__law_is_led_right__law_is_refused ?ne__law_is_full_right__law_is_led_right ?ne__law_is_as__law_is_led_right ?ne__law_is_refused__law_is_led_right ?math
    (case aC_Store => k_is)
    (case pg_Store => k_is)
    (case hd_Store => k_is)
    (case po_Store => k_is)
    (case sa_Store => k_is)
    (case mk_Store => k_is)
    (case kc_Store => k_is)
    (case a__law_hand => k_is)
    (case l__law_hand => k_is)
    (case c__law_hand => k_is)
    (case k__law_hand => k_is)
    (case a_Storedd_initdd => k_is)
    (case i_Storedd_initdd => k_is)
    (case l_Storedd_initdd => k_is)
    (case c_Storedd_initdd => k_is)
    (case k_Storedd_initdd => k_is)
    (case a_Store_now => k_is)
    (case i_Store_now => k_is)
    (case l_Store_now => k_is)
    (case c_Store_now => k_is)
    (case k_Store_now => k_is)
    (case a_Store_names => k_is)
    (case i_Store_names => k_is)
    (case l_Store_names => k_is)
    (case c_Store_names => k_is)
    (case k_Store_names => k_is)
    (case a_check_most => k_is)
    (case l_check_most => k_is)
    (case c_check_most => k_is)
    (case k_check_most => k_is)
    (case a_is_sized => k_is)
    (case l_is_sized => k_is)
    (case c_is_sized => k_is)
    (case k_is_sized => k_is)
    (case a_is_int => k_is)
    (case l_is_int => k_is)
    (case c_is_int => k_is)
    (case k_is_int => k_is)
    (case a_is_within => k_is)
    (case l_is_within => k_is)
    (case c_is_within => k_is)
    (case k_is_within => k_is)
    (case a_is_pair_of => k_is)
    (case l_is_pair_of => k_is)
    (case c_is_pair_of => k_is)
    (case k_is_pair_of => k_is)
    (case a_is_web => k_is)
    (case l_is_web => k_is)
    (case c_is_web => k_is)
    (case k_is_web => k_is)
    (case a_check_web => k_is)
    (case l_check_web => k_is)
    (case c_check_web => k_is)
    (case k_check_web => k_is)
    (case a_is_name => k_is)
    (case l_is_name => k_is)
    (case c_is_name => k_is)
    (case k_is_name => k_is)
    (case a_Store_put => k_is)
    (case i_Store_put => k_is)
    (case l_Store_put => k_is)
    (case c_Store_put => k_is)
    (case k_Store_put => k_is)
    (case a_Store_check_there => k_is)
    (case i_Store_check_there => k_is)
    (case l_Store_check_there => k_is)
    (case c_Store_check_there => k_is)
    (case k_Store_check_there => k_is)
    (case a_Store_take => k_is)
    (case i_Store_take => k_is)
    (case l_Store_take => k_is)
    (case c_Store_take => k_is)
    (case k_Store_take => k_is)
    (case a__law_draw => k_is)
    (case l__law_draw => k_is)
    (case c__law_draw => k_is)
    (case k__law_draw => k_is)
    (case a__law_some => k_is)
    (case l__law_some => k_is)
    (case c__law_some => k_is)
    (case k__law_some => k_is)
    (case a__law_word => k_is)
    (case l__law_word => k_is)
    (case c__law_word => k_is)
    (case k__law_word => k_is)
    (case a_check_known => k_is)
    (case l_check_known => k_is)
    (case c_check_known => k_is)
    (case k_check_known => k_is)
    (case a_known_web => k_is)
    (case l_known_web => k_is)
    (case c_known_web => k_is)
    (case k_known_web => k_is)
    (case a__law_is_full_right => k_is)
    (case l__law_is_full_right => k_is)
    (case c__law_is_full_right => k_is)
    (case k__law_is_full_right => k_is)
    (case tp__law_is_full_right => exact rfl)
    (case th__law_is_full_right => kernel_rfl)
    (case tn__law_is_full_right => kernel_rfl)
    (case tt__law_is_full_right => exact hT8 _ (by decide))
    (case a_Store_drop => k_is)
    (case i_Store_drop => k_is)
    (case l_Store_drop => k_is)
    (case c_Store_drop => k_is)
    (case k_Store_drop => k_is)
    (case a_Store_version => k_is)
    (case i_Store_version => k_is)
    (case l_Store_version => k_is)
    (case c_Store_version => k_is)
    (case k_Store_version => k_is)
    (case a__law_is_as => k_is)
    (case l__law_is_as => k_is)
    (case c__law_is_as => k_is)
    (case k__law_is_as => k_is)
    (case tp__law_is_as => exact rfl)
    (case th__law_is_as => kernel_rfl)
    (case tn__law_is_as => kernel_rfl)
    (case tt__law_is_as => exact hT8 _ (by decide))
    (case a__law_is_refused => k_is)
    (case l__law_is_refused => k_is)
    (case c__law_is_refused => k_is)
    (case k__law_is_refused => k_is)
    (case tp__law_is_refused => exact rfl)
    (case th__law_is_refused => kernel_rfl)
    (case tn__law_is_refused => kernel_rfl)
    (case tt__law_is_refused => exact hT8 _ (by decide))
    (case a__law_web => k_is)
    (case l__law_web => k_is)
    (case c__law_web => k_is)
    (case k__law_web => k_is)
    (case a__law_is_led_right => k_is)
    (case l__law_is_led_right => k_is)
    (case c__law_is_led_right => k_is)
    (case k__law_is_led_right => k_is)
    (case tp__law_is_led_right => exact rfl)
    (case th__law_is_led_right => kernel_rfl)
    (case tn__law_is_led_right => kernel_rfl)
    (case tt__law_is_led_right => exact hT8 _ (by decide))
    (case a_law => k_is)
    (case l_law => k_is)
    (case c_law => k_is)
    (case k_law => k_is)
    (case z_abs => k_is)
    (case z_all => k_is)
    (case z_bool => k_is)
    (case z_dict => k_is)
    (case z_int => k_is)
    (case z_isinstance => k_is)
    (case z_len => k_is)
    (case z_list => k_is)
    (case z_range => k_is)
    (case z_sorted => k_is)
    (case z_str => k_is)
    (case z_tuple => k_is)
    (case g_LETTERS => k_is)
    (case g_MOST_NAME => k_is)
    (case g_MOST_NAMES => k_is)
    (case g_MOST_PLACES => k_is)
    (case g_MOST_TIES => k_is)
    (case g_MOST_VERSIONS => k_is)
    (case nf_Store_store_stages => k_is)
    (case aTe => k_is)
    (case e0_NoName => k_is)
    (case e0_NoNumber => k_is)
    (case e0_NoWeb => k_is)
    (case e0_TooMany => k_is)
    (case e2_NoName => k_is)
    (case e3_NoName => k_is)
    (case e4_NoName => k_is)
    (case e5_NoName => kernel_rfl)
    (case e6_NoName => k_is)
    (case e7_NoName => k_is)
    (case e8_NoName => k_is)
    (case e9_NoName => k_is)
    (case ex_NoName => kernel_rfl)
    (case kt_NoName_NoName => kernel_rfl)
    (case kt_NoName_NoNumber => kernel_rfl)
    (case kt_NoName_NoWeb => kernel_rfl)
    (case kt_NoName_TooMany => kernel_rfl)
    (case e2_NoNumber => k_is)
    (case e3_NoNumber => k_is)
    (case e4_NoNumber => k_is)
    (case e5_NoNumber => kernel_rfl)
    (case e6_NoNumber => k_is)
    (case e7_NoNumber => k_is)
    (case e8_NoNumber => k_is)
    (case e9_NoNumber => k_is)
    (case ex_NoNumber => kernel_rfl)
    (case kt_NoNumber_NoName => kernel_rfl)
    (case kt_NoNumber_NoNumber => kernel_rfl)
    (case kt_NoNumber_NoWeb => kernel_rfl)
    (case kt_NoNumber_TooMany => kernel_rfl)
    (case e2_NoWeb => k_is)
    (case e3_NoWeb => k_is)
    (case e4_NoWeb => k_is)
    (case e5_NoWeb => kernel_rfl)
    (case e6_NoWeb => k_is)
    (case e7_NoWeb => k_is)
    (case e8_NoWeb => k_is)
    (case e9_NoWeb => k_is)
    (case ex_NoWeb => kernel_rfl)
    (case kt_NoWeb_NoName => kernel_rfl)
    (case kt_NoWeb_NoNumber => kernel_rfl)
    (case kt_NoWeb_NoWeb => kernel_rfl)
    (case kt_NoWeb_TooMany => kernel_rfl)
    (case e2_TooMany => k_is)
    (case e3_TooMany => k_is)
    (case e4_TooMany => k_is)
    (case e5_TooMany => kernel_rfl)
    (case e6_TooMany => k_is)
    (case e7_TooMany => k_is)
    (case e8_TooMany => k_is)
    (case e9_TooMany => k_is)
    (case ex_TooMany => kernel_rfl)
    (case kt_TooMany_NoName => kernel_rfl)
    (case kt_TooMany_NoNumber => kernel_rfl)
    (case kt_TooMany_NoWeb => kernel_rfl)
    (case kt_TooMany_TooMany => kernel_rfl)
    (case sp1 => k_is)
    (case sp2 => k_is)
    (case e1_NoName => kernel_rfl)
    (case e1_NoNumber => kernel_rfl)
    (case e1_NoWeb => kernel_rfl)
    (case wa_WEBS => k_is)
    (case wl_WEBS => k_is)
    (case wk_WEBS => k_keys)
    (case ws_WEBS => decide)
    (case wv_WEBS_bow => k_is)
    (case wr_WEBS_bow => kernel_rfl)
    (case wv_WEBS_ring => k_is)
    (case wr_WEBS_ring => kernel_rfl)
    (case wv_WEBS_wheel => k_is)
    (case wr_WEBS_wheel => kernel_rfl)
    (case x1_TooMany => kernel_rfl)
    (case x2_TooMany => k_is)
    (case x6_TooMany => k_is)
    (case x7_TooMany => k_is)
    (case xl_TooMany => k_is)
    (case xc_TooMany => k_is)
    (case xf_TooMany => kernel_rfl)
    (case xt_TooMany => kernel_rfl)
    (case xs_TooMany => k_is)
    (case x8_TooMany => kernel_rfl)
    (case x9_TooMany => kernel_rfl)
    (case x10_TooMany => kernel_rfl)
    (case x11_TooMany => k_is)
    (case xd_TooMany => k_is)
    (case xn_TooMany => k_is)
    (case ne__law_is_as__law_is_full_right => decide)
    (case ne__law_is_refused__law_is_full_right => decide)
    (case ne__law_is_led_right__law_is_full_right => decide)
    (case ne__law_is_full_right__law_is_as => decide)
    (case ne__law_is_refused__law_is_as => decide)
    (case ne__law_is_led_right__law_is_as => decide)
    (case ne__law_is_full_right__law_is_refused => decide)
    (case ne__law_is_as__law_is_refused => decide)
    (case ne__law_is_led_right__law_is_refused => decide)
    (case ne__law_is_full_right__law_is_led_right => decide)
    (case ne__law_is_as__law_is_led_right => decide)
    (case ne__law_is_refused__law_is_led_right => decide)
    (case math => exact K78.math)
