import PyProof.Rows.All
import Wide.All
import OpenK.AllK
import Wide.FinOn
import HandS.ForMost
import HandS.ForExc
import HandS.Small
import HandS.Lambda
import HandS.TupAny
import HandS.Deep
import HandS.IsInst
import HandS.Wide
import HandS.Zip
import HandS.Style
import HandS.DictComp
import HandS.SortInts
import HandS.Conv
import HandS.Steps
import HandS.WrittenGet
import HandS.ExcIs
import HandS.ExcInit
import KE.DatumIndex
import KE.DataFind
import HandS.SetFor
import KE.KExcIs
import HandS.WordsExc
import HandS.EndTab
import HandS.FStr
import HandS.Codes
import HandS.ReplaceLit
import HandS.Text
import KE.KxIndex
import KE.KExcSuper
import KE.KSuper
import KE.DataEq
import PySem.Challenge.RW_treesapartways_k81_whole_desks_refuse_li
set_option Elab.async false
set_option linter.all false
set_option maxRecDepth 100000
set_option maxHeartbeats 2000000
/-! TL1: tree values, a memory of numbered objects, and how both lie in the abstract heap -/
namespace TL
open PySem PySem.Spec PyProof.Rows L2
/-- a value as a tree: tuples by their items, changing things by their number -/
inductive T where
  | non | bl (b : Bool) | int (i : Int) | str (x : Str) | tup (xs : List T) | ref (n : Nat) | er (a : Addr) (d : Option Addr) | fl (xs : List Int)
/-- a changing thing -/
inductive MO where
  | lst (xs : List T)
  | dct (kvs : List (Key × T))
  | ins (c : Str) (fs : List (Str × T))
  /-- a dict while it is walked -/
  | lck (kvs : List (Key × T))
def MO.loose : MO → Bool
  | .lck _ => false
  | _ => true
abbrev Mem := List MO
/-- an expression's end -/
inductive Res where
  | ok (t : T) (μ : Mem)
  | exc (c : Str) (fs : List (Str × T)) (μ : Mem)
  | bad
def Res.bind (r : Res) (k : T → Mem → Res) : Res := match r with
  | .ok t μ => k t μ
  | .exc c fs μ => .exc c fs μ
  | .bad => .bad
structure G where
  K : PySem.W.Frag
  mg : Str → Option Value
  tabs : List (Addr × Str)
abbrev gx (X : Cx) (tb : List (Addr × Str)) : G := ⟨X.K, X.mg, tb⟩
/-- a list that no one changes -/
def FSq (K : PySem.W.Frag) (H : Hp) (a : Addr) (vs : List V) : Prop := (∃ o, H a = some (.frz o (.lst vs))) ∨
  ∃ (o : Obj) (its : Array Value) (n : Nat), K.lookup a = some o ∧ o.cls = .type "list" ∧ o.dict = none ∧ o.data = .seq its n ∧ its.size ≤ sizeLine ∧ Vals vs its.toList
theorem FSq.sq {K : PySem.W.Frag} {H : Hp} {a : Addr} {vs : List V} (h : FSq K H a vs) : SqL K H a vs := h.elim (fun ⟨o, h⟩ => .inl (.inr ⟨o, h⟩)) .inr
section
variable (K : PySem.W.Frag) (ρ : Nat → Addr) (n : Nat) (H : Hp)
mutual
def DV : T → V → Prop
  | .non, v => v = .non
  | .bl b, v => v = .bl b
  | .int i, v => v = .int i
  | .str x, v => v = .str x
  | .er a d, v => v = .ref a ∧ ∀ dx, d = some dx → ∃ ws, H dx = some (.xd ws)
  | .fl xs, v => ∃ a, v = .ref a ∧ FSq K H a (xs.map V.int)
  | .ref k, v => k < n ∧ v = .ref (ρ k)
  | .tup ts, v => ∃ a vs, v = .ref a ∧ SqT K H a vs ∧ DVs ts vs
def DVs : List T → List V → Prop
  | [], vs => vs = []
  | t :: ts, vs => ∃ v r, vs = v :: r ∧ DV t v ∧ DVs ts r
end
def DVk {κ : Type} : List (κ × T) → List (κ × V) → Prop
  | [], ws => ws = []
  | p :: r, ws => ∃ v ws', ws = (p.1, v) :: ws' ∧ DV K ρ n H p.2 v ∧ DVk r ws'
end
def MOr (g : G) (ρ : Nat → Addr) (n : Nat) (H : Hp) : MO → HO → Prop
  | .lst ts, o => ∃ vs, o = .lst vs ∧ DVs g.K ρ n H ts vs
  | .dct kvs, o => ∃ ws, o = .dK ws ∧ DVk g.K ρ n H kvs ws
  | .ins c fs, o => ∃ C dx ws, g.mg c = some (.ref C) ∧ o = .ins C dx ws ∧ DVk g.K ρ n H fs ws
  | .lck kvs, o => ∃ od ws, o = .frz od (.dK ws) ∧ DVk g.K ρ n H kvs ws
/-- things that never change -/
def Fx : HO → Prop
  | .tup _ => True
  | .frz _ _ => True
  | .xd _ => True
  | _ => False
/-- nothing at b, or a table of code objects -/
def Nt (H : Hp) (b : Addr) : Prop := H b = none ∨ ∃ ps, H b = some (.tbl ps)
theorem Nt.no {H : Hp} {b : Addr} {o : HO} (h : Nt H b) (e : H b = some o) (ht : ∀ ps, o ≠ .tbl ps) : False := h.elim (fun z => by rw [z] at e; cases e) fun ⟨ps, z⟩ => by rw [z] at e; cases e; exact ht ps rfl
theorem Nt.un {H : Hp} {b p : Addr} {o : HO} (e : b ≠ p) (h : Nt (upd H p o) b) : Nt H b := by
  unfold Nt at *
  rw [upd_ne e] at h; exact h
/-- from one state to a later one -/
structure Ext (g : G) (ρ : Nat → Addr) (n : Nat) (H : Hp) (ρ' : Nat → Addr) (n' : Nat) (H' : Hp) : Prop where
  le : n ≤ n'
  ag : ∀ i, i < n → ρ' i = ρ i
  nw : ∀ i, n ≤ i → i < n' → Nt H (ρ' i)
  kp : ∀ b o, H b = some o → (∀ i, i < n → b ≠ ρ i) → (∀ ps, o ≠ .tbl ps) → H' b = some o
  fx : ∀ b o, H b = some o → Fx o → H' b = some o
  th : ∀ b, Nt H' b → Nt H b
  tb : LamX.Tabs g.tabs H → LamX.Tabs g.tabs H'
structure MRel (g : G) (ρ : Nat → Addr) (μ : Mem) (H : Hp) : Prop where
  inj : ∀ i j, i < μ.length → j < μ.length → ρ i = ρ j → i = j
  ob : ∀ i o, μ[i]? = some o → ∃ ho, H (ρ i) = some ho ∧ MOr g ρ μ.length H o ho
  tb : LamX.Tabs g.tabs H
structure LRel (K : PySem.W.Frag) (ρ : Nat → Addr) (n : Nat) (H : Hp) (σT : List (Option T)) (σ : L2.St) : Prop where
  len : σT.length = σ.length
  at_ : ∀ (i : Nat) (t : T), σT[i]? = some (some t) → ∃ v : V, σ[i]? = some (some v) ∧ DV K ρ n H t v
theorem Ext.refl (g : G) (ρ : Nat → Addr) (n : Nat) (H : Hp) : Ext g ρ n H ρ n H :=
  ⟨Nat.le_refl _, fun _ _ => rfl, fun i h1 h2 => absurd h2 (Nat.not_lt.mpr h1), fun _ _ h _ _ => h, fun _ _ h _ => h, fun _ h => h, fun h => h⟩
section
variable {g : G} {ρ ρ1 ρ2 : Nat → Addr} {n n1 n2 : Nat} {H H1 H2 : Hp}
theorem Ext.trans (a : Ext g ρ n H ρ1 n1 H1) (b : Ext g ρ1 n1 H1 ρ2 n2 H2) : Ext g ρ n H ρ2 n2 H2 where
  le := Nat.le_trans a.le b.le
  ag := fun i hi => (b.ag i (Nat.lt_of_lt_of_le hi a.le)).trans (a.ag i hi)
  nw := fun i h1 h2 => by
    by_cases h : i < n1
    · rw [b.ag i h]; exact a.nw i h1 h
    · exact a.th _ (b.nw i (Nat.not_lt.mp h) h2)
  kp := fun x o h hn ht => b.kp x o (a.kp x o h hn ht) (fun i hi => by
    by_cases h' : i < n
    · rw [a.ag i h']; exact hn i h'
    · intro e
      have := a.nw i (Nat.not_lt.mp h') hi
      rw [← e] at this
      exact this.no h ht) ht
  fx := fun x o h f => b.fx x o (a.fx x o h f) f
  th := fun x h => a.th x (b.th x h)
  tb := fun h => b.tb (a.tb h)
theorem SqT.ext {a : Addr} {vs : List V} (e : Ext g ρ n H ρ1 n1 H1) (h : SqT g.K H a vs) : SqT g.K H1 a vs := by
  rcases h with (h | ⟨o, h⟩) | h
  · exact .inl (.inl (e.fx _ _ h True.intro))
  · exact .inl (.inr ⟨o, e.fx _ _ h True.intro⟩)
  · exact .inr h
theorem FSq.ext {a : Addr} {vs : List V} (e : Ext g ρ n H ρ1 n1 H1) (h : FSq g.K H a vs) : FSq g.K H1 a vs := h.elim (fun ⟨o, h⟩ => .inl ⟨o, e.fx _ _ h True.intro⟩) .inr
mutual
theorem DV.ext (e : Ext g ρ n H ρ1 n1 H1) : ∀ {t : T} {v : V}, DV g.K ρ n H t v → DV g.K ρ1 n1 H1 t v
  | .non, _, h => h
  | .bl _, _, h => h
  | .int _, _, h => h
  | .str _, _, h => h
  | .er _ _, _, h => ⟨h.1, fun dx hd => let ⟨ws, q⟩ := h.2 dx hd; ⟨ws, e.fx _ _ q True.intro⟩⟩
  | .fl _, _, h => by
    obtain ⟨a, h1, h2⟩ := h
    exact ⟨a, h1, FSq.ext e h2⟩
  | .ref k, _, h => by
    obtain ⟨h1, h2⟩ := h
    exact ⟨Nat.lt_of_lt_of_le h1 e.le, by rw [e.ag k h1]; exact h2⟩
  | .tup ts, _, h => by
    obtain ⟨a, vs, h1, h2, h3⟩ := h
    exact ⟨a, vs, h1, SqT.ext e h2, DVs.ext e h3⟩
theorem DVs.ext (e : Ext g ρ n H ρ1 n1 H1) : ∀ {ts : List T} {vs : List V}, DVs g.K ρ n H ts vs → DVs g.K ρ1 n1 H1 ts vs
  | [], _, h => h
  | t :: ts, _, h => by
    obtain ⟨v, r, h1, h2, h3⟩ := h
    exact ⟨v, r, h1, DV.ext e h2, DVs.ext e h3⟩
end
theorem DVk.ext {κ : Type} (e : Ext g ρ n H ρ1 n1 H1) : ∀ {ts : List (κ × T)} {vs : List (κ × V)}, DVk g.K ρ n H ts vs → DVk g.K ρ1 n1 H1 ts vs
  | [], _, h => h
  | t :: ts, _, h => by
    obtain ⟨v, r, h1, h2, h3⟩ := h
    exact ⟨v, r, h1, DV.ext e h2, DVk.ext e h3⟩
theorem LRel.ext {σT : List (Option T)} {σ : L2.St} (e : Ext g ρ n H ρ1 n1 H1) (l : LRel g.K ρ n H σT σ) : LRel g.K ρ1 n1 H1 σT σ :=
  ⟨l.len, fun i t h => let ⟨v, h1, h2⟩ := l.at_ i t h; ⟨v, h1, DV.ext e h2⟩⟩
theorem MOr.ext {o : MO} {ho : HO} (e : Ext g ρ n H ρ1 n1 H1) (h : MOr g ρ n H o ho) : MOr g ρ1 n1 H1 o ho := by
  cases o with
  | lst ts => obtain ⟨vs, h1, h2⟩ := h; exact ⟨vs, h1, h2.ext e⟩
  | dct ts => obtain ⟨vs, h1, h2⟩ := h; exact ⟨vs, h1, h2.ext e⟩
  | ins c ts => obtain ⟨C, dx, vs, h0, h1, h2⟩ := h; exact ⟨C, dx, vs, h0, h1, h2.ext e⟩
  | lck ts => obtain ⟨od, vs, h1, h2⟩ := h; exact ⟨od, vs, h1, h2.ext e⟩
end
section
variable {K : PySem.W.Frag} {ρ : Nat → Addr} {n : Nat} {H : Hp}
theorem DVs.length : ∀ {ts : List T} {vs : List V}, DVs K ρ n H ts vs → ts.length = vs.length
  | [], _, h => by rw [show _ = [] from h]; rfl
  | t :: ts, _, h => by
    obtain ⟨v, r, rfl, h2, h3⟩ := h
    simp [DVs.length h3]
theorem DVs.get : ∀ {ts : List T} {vs : List V} {i : Nat} {t : T}, DVs K ρ n H ts vs → ts[i]? = some t → ∃ v, vs[i]? = some v ∧ DV K ρ n H t v
  | [], _, _, _, h, e => by simp at e
  | t :: ts, _, 0, _, h, e => by
    obtain ⟨v, r, rfl, h2, h3⟩ := h
    simp at e; subst e
    exact ⟨v, by simp, h2⟩
  | t :: ts, _, i + 1, _, h, e => by
    obtain ⟨v, r, rfl, h2, h3⟩ := h
    obtain ⟨v', h4, h5⟩ := DVs.get (i := i) h3 (by simpa using e)
    exact ⟨v', by simpa using h4, h5⟩
/-- from the other side -/
theorem DVs.got : ∀ {ts : List T} {vs : List V} {i : Nat} {v : V}, DVs K ρ n H ts vs → vs[i]? = some v → ∃ t, ts[i]? = some t ∧ DV K ρ n H t v
  | [], _, _, _, h, e => by rw [show _ = [] from h] at e; simp at e
  | t :: ts, _, 0, _, h, e => by
    obtain ⟨v, r, rfl, h2, h3⟩ := h
    simp at e; subst e
    exact ⟨t, by simp, h2⟩
  | t :: ts, _, i + 1, _, h, e => by
    obtain ⟨v, r, rfl, h2, h3⟩ := h
    obtain ⟨v', h4, h5⟩ := DVs.got (i := i) h3 (by simpa using e)
    exact ⟨v', by simpa using h4, h5⟩
theorem DVs.append : ∀ {ts us : List T} {vs ws : List V}, DVs K ρ n H ts vs → DVs K ρ n H us ws → DVs K ρ n H (ts ++ us) (vs ++ ws)
  | [], _, _, _, h, h' => by rw [show _ = [] from h]; exact h'
  | t :: ts, _, _, _, h, h' => by
    obtain ⟨v, r, rfl, h2, h3⟩ := h
    exact ⟨v, _, rfl, h2, DVs.append h3 h'⟩
theorem DVs.nil : DVs K ρ n H [] [] := rfl
theorem DVs.cons {t : T} {v : V} {ts : List T} {vs : List V} (h : DV K ρ n H t v) (h' : DVs K ρ n H ts vs) : DVs K ρ n H (t :: ts) (v :: vs) := ⟨v, vs, rfl, h, h'⟩
theorem DVs.set : ∀ {ts : List T} {vs : List V} {t : T} {v : V} (i : Nat), DVs K ρ n H ts vs → DV K ρ n H t v → DVs K ρ n H (ts.set i t) (vs.set i v)
  | [], _, _, _, _, h, _ => by rw [show _ = [] from h]; exact rfl
  | t :: ts, _, _, _, 0, h, q => by
    obtain ⟨v, r, rfl, h2, h3⟩ := h
    exact ⟨_, _, rfl, q, h3⟩
  | t :: ts, _, _, _, i + 1, h, q => by
    obtain ⟨v, r, rfl, h2, h3⟩ := h
    exact ⟨_, _, rfl, h2, DVs.set i h3 q⟩
theorem DVs.take : ∀ {ts : List T} {vs : List V} (i : Nat), DVs K ρ n H ts vs → DVs K ρ n H (ts.take i) (vs.take i)
  | _, _, 0, _ => by simp; exact rfl
  | [], _, _ + 1, h => by rw [show _ = [] from h]; exact rfl
  | t :: ts, _, i + 1, h => by
    obtain ⟨v, r, rfl, h2, h3⟩ := h
    exact ⟨_, _, rfl, h2, DVs.take i h3⟩
theorem DVs.drop : ∀ {ts : List T} {vs : List V} (i : Nat), DVs K ρ n H ts vs → DVs K ρ n H (ts.drop i) (vs.drop i)
  | _, _, 0, h => by simpa using h
  | [], _, _ + 1, h => by rw [show _ = [] from h]; exact rfl
  | t :: ts, _, i + 1, h => by
    obtain ⟨v, r, rfl, h2, h3⟩ := h
    exact DVs.drop i h3
theorem DVk.length {κ : Type} : ∀ {ts : List (κ × T)} {vs : List (κ × V)}, DVk K ρ n H ts vs → ts.length = vs.length
  | [], _, h => by rw [show _ = [] from h]; rfl
  | t :: ts, _, h => by
    obtain ⟨v, r, rfl, h2, h3⟩ := h
    simp [DVk.length h3]
theorem DVk.keys {κ : Type} : ∀ {ts : List (κ × T)} {vs : List (κ × V)}, DVk K ρ n H ts vs → vs.map (·.1) = ts.map (·.1)
  | [], _, h => by rw [show _ = [] from h]; rfl
  | t :: ts, _, h => by
    obtain ⟨v, r, rfl, h2, h3⟩ := h
    simp [DVk.keys h3]
end
theorem LRel.set {K : PySem.W.Frag} {ρ : Nat → Addr} {n : Nat} {H : Hp} {σT : List (Option T)} {σ : L2.St} {t : T} {v : V} (l : LRel K ρ n H σT σ) (i : Nat) (h : DV K ρ n H t v) : LRel K ρ n H (σT.set i (some t)) (σ.set i (some v)) := by
  refine ⟨by simp [l.len], fun j u e => ?_⟩
  by_cases hj : i = j
  · subst hj
    have hi : i < σT.length := by
      by_cases q : i < σT.length
      · exact q
      · rw [List.getElem?_eq_none (by simpa using Nat.not_lt.mp q)] at e; cases e
    rw [List.getElem?_set_self hi] at e
    cases e
    exact ⟨v, List.getElem?_set_self (by rw [← l.len]; exact hi), h⟩
  · rw [List.getElem?_set_ne hj] at e ⊢
    exact l.at_ j u e
/-! ### steps of the heap -/
section
variable {g : G} {ρ : Nat → Addr} {μ : Mem} {H : Hp} {p : Addr} {o : HO}
theorem Ext.fresh (hp : H p = none) (n : Nat) : Ext g ρ n H ρ n (upd H p o) :=
  ⟨Nat.le_refl _, fun _ _ => rfl, fun i h1 h2 => absurd h2 (Nat.not_lt.mpr h1), fun b u h _ _ => by rw [upd_ne (ne_of_none h hp)]; exact h, fun b u h _ => by rw [upd_ne (ne_of_none h hp)]; exact h,
    fun b h => by
      by_cases e : b = p
      · rw [e]; exact .inl hp
      · exact h.un e,
    fun h => h.ext fun b u e => by rw [upd_ne (ne_of_none e hp)]; exact e⟩
/-- objects of the memory as they were -/
theorem MRel.same {H' : Hp} (m : MRel g ρ μ H) (e : Ext g ρ μ.length H ρ μ.length H') (hs : ∀ i o, i < μ.length → H (ρ i) = some o → H' (ρ i) = some o) : MRel g ρ μ H' :=
  ⟨m.inj, fun i o h => by
    obtain ⟨ho, h1, h2⟩ := m.ob i o h
    exact ⟨ho, hs i ho (List.getElem?_eq_some_iff.mp h).1 h1, h2.ext e⟩, e.tb m.tb⟩
theorem MRel.fresh (m : MRel g ρ μ H) (hp : H p = none) : MRel g ρ μ (upd H p o) :=
  m.same (Ext.fresh hp _) fun i u _ h => by rw [upd_ne (ne_of_none h hp)]; exact h
def ρadd (ρ : Nat → Addr) (n : Nat) (p : Addr) : Nat → Addr := fun i => if i = n then p else ρ i
/-- a new object in the memory -/
theorem Ext.new (hp : H p = none) (n : Nat) : Ext g ρ n H (ρadd ρ n p) (n + 1) (upd H p o) := by
  refine ⟨Nat.le_succ _, fun i hi => ?_, fun i h1 h2 => ?_, fun b u h _ _ => by rw [upd_ne (ne_of_none h hp)]; exact h, fun b u h _ => by rw [upd_ne (ne_of_none h hp)]; exact h, (Ext.fresh (g := g) (ρ := ρ) (o := o) hp n).th, (Ext.fresh (g := g) (ρ := ρ) (o := o) hp n).tb⟩
  · unfold ρadd; rw [if_neg (Nat.ne_of_lt hi)]
  · have e : i = n := by omega
    unfold ρadd; rw [if_pos e]; exact .inl hp
theorem MRel.new {mo : MO} (m : MRel g ρ μ H) (hp : H p = none) (ho : MOr g ρ μ.length H mo o) : MRel g (ρadd ρ μ.length p) (μ ++ [mo]) (upd H p o) := by
  have hl : (μ ++ [mo]).length = μ.length + 1 := by simp
  have e : Ext g ρ μ.length H (ρadd ρ μ.length p) (μ ++ [mo]).length (upd H p o) := by rw [hl]; exact Ext.new hp _
  have nex : ∀ i, i < μ.length → ρ i ≠ p := fun i hi q => by
    obtain ⟨ho, h1, _⟩ := m.ob i μ[i] (by simp [hi])
    rw [q, hp] at h1; cases h1
  refine ⟨fun i j hi hj q => ?_, fun i u h => ?_, e.tb m.tb⟩
  · rw [hl] at hi hj
    unfold ρadd at q
    by_cases h1 : i = μ.length
    · by_cases h2 : j = μ.length
      · rw [h1, h2]
      · rw [if_pos h1, if_neg h2] at q
        exact absurd q.symm (nex j (by omega))
    · by_cases h2 : j = μ.length
      · rw [if_neg h1, if_pos h2] at q
        exact absurd q (nex i (by omega))
      · rw [if_neg h1, if_neg h2] at q
        exact m.inj i j (by omega) (by omega) q
  · by_cases h1 : i < μ.length
    · rw [List.getElem?_append_left h1] at h
      obtain ⟨ho', q1, q2⟩ := m.ob i u h
      refine ⟨ho', ?_, q2.ext e⟩
      rw [e.ag i h1, upd_ne (nex i h1)]; exact q1
    · have e1 : i = μ.length := by
        have := (List.getElem?_eq_some_iff.mp h).1
        rw [hl] at this; omega
      subst e1
      simp at h
      subst h
      refine ⟨o, ?_, ho.ext e⟩
      unfold ρadd; rw [if_pos rfl, upd_same]
/-- an object of the memory is changed -/
theorem MRel.notFx {k : Nat} {mo : MO} (m : MRel g ρ μ H) (hk : μ[k]? = some mo) (hf : mo.loose = true) {u : HO} (h : H (ρ k) = some u) : ¬ Fx u ∧ ∀ ps, u ≠ .tbl ps := by
  obtain ⟨ho, h1, h2⟩ := m.ob k mo hk
  rw [h] at h1; cases h1
  cases mo with
  | lst ts => obtain ⟨vs, rfl, _⟩ := h2; exact ⟨fun z => z, fun ps z => by cases z⟩
  | dct ts => obtain ⟨vs, rfl, _⟩ := h2; exact ⟨fun z => z, fun ps z => by cases z⟩
  | ins c ts => obtain ⟨C, dx, vs, _, rfl, _⟩ := h2; exact ⟨fun z => z, fun ps z => by cases z⟩
  | lck ts => cases hf
theorem MOr.noTbl {mo : MO} {n : Nat} (h : MOr g ρ n H mo o) : ∀ ps, o ≠ .tbl ps := fun ps z => by
  subst z
  cases mo with
  | lst ts => obtain ⟨vs, h, _⟩ := h; cases h
  | dct ts => obtain ⟨vs, h, _⟩ := h; cases h
  | ins c ts => obtain ⟨C, dx, vs, _, h, _⟩ := h; cases h
  | lck ts => obtain ⟨od, vs, h, _⟩ := h; cases h
theorem Ext.put {k : Nat} {mo : MO} (m : MRel g ρ μ H) (hk : μ[k]? = some mo) (hf : mo.loose = true := by rfl) (hno : ∀ ps, o ≠ .tbl ps := by intro _ z; cases z) : Ext g ρ μ.length H ρ μ.length (upd H (ρ k) o) := by
  have hlt := (List.getElem?_eq_some_iff.mp hk).1
  obtain ⟨ho, h1, h2⟩ := m.ob k mo hk
  refine ⟨Nat.le_refl _, fun _ _ => rfl, fun i h1 h2 => absurd h2 (Nat.not_lt.mpr h1), fun b u h hn _ => by rw [upd_ne (hn k hlt)]; exact h, fun b u h f => ?_, fun b h => ?_, fun ht q hq => ?_⟩
  · by_cases e : b = ρ k
    · subst e; exact absurd f (m.notFx hk hf h).1
    · rw [upd_ne e]; exact h
  · by_cases e : b = ρ k
    · subst e
      exact (h.no upd_same hno).elim
    · exact h.un e
  · obtain ⟨ps, q1, q2, q3⟩ := ht q hq
    have n1 : q.1 ≠ ρ k := fun e => by rw [e] at q1; exact (m.notFx hk hf q1).2 ps rfl
    refine ⟨ps, by rw [upd_ne n1]; exact q1, q2, fun pos cv hc => ?_⟩
    obtain ⟨c, e1, e2⟩ := q3 pos cv hc
    refine ⟨c, e1, ?_⟩
    rw [upd_ne]; exact e2
    intro e
    rw [e, h1] at e2
    cases e2
    cases mo with
    | lst ts => obtain ⟨vs, h, _⟩ := h2; cases h
    | dct ts => obtain ⟨vs, h, _⟩ := h2; cases h
    | ins c ts => obtain ⟨C, dx, vs, _, h, _⟩ := h2; cases h
    | lck ts => cases hf
theorem MRel.put {k : Nat} {mo mo' : MO} (m : MRel g ρ μ H) (hk : μ[k]? = some mo) (ho : MOr g ρ μ.length H mo' o) (hf : mo.loose = true := by rfl) : MRel g ρ (μ.set k mo') (upd H (ρ k) o) := by
  have hlt := (List.getElem?_eq_some_iff.mp hk).1
  have e : Ext g ρ μ.length H ρ μ.length (upd H (ρ k) o) := Ext.put m hk hf (MOr.noTbl ho)
  refine ⟨fun i j hi hj q => m.inj i j (by simpa using hi) (by simpa using hj) q, fun i u h => ?_, e.tb m.tb⟩
  rw [List.length_set]
  by_cases h1 : k = i
  · subst h1
    rw [List.getElem?_set_self hlt] at h
    cases h
    exact ⟨o, upd_same, ho.ext e⟩
  · rw [List.getElem?_set_ne h1] at h
    obtain ⟨ho', q1, q2⟩ := m.ob i u h
    refine ⟨ho', ?_, q2.ext e⟩
    rw [upd_ne]; exact q1
    intro z
    exact h1 (m.inj i k (List.getElem?_eq_some_iff.mp h).1 hlt z).symm
end
/-! ### ends -/
/-- an exception's own dict -/
def XD (g : G) (ρ : Nat → Addr) (n : Nat) (H : Hp) (fs : List (Str × T)) (d : Option Addr) : Prop :=
  (fs = [] ∧ d = none) ∨ ∃ a ws, fs ≠ [] ∧ d = some a ∧ H a = some (.xd ws) ∧ DVk g.K ρ n H fs ws
def Good (g : G) (E : XK) (Q : VK) (ρ : Nat → Addr) (n : Nat) (H : Hp) : Res → Prop
  | .ok t μ => ∀ ρ' v H', Ext g ρ n H ρ' μ.length H' → MRel g ρ' μ H' → DV g.K ρ' μ.length H' t v → Q v H'
  | .exc c fs μ => ∀ ρ' H' C d, Ext g ρ n H ρ' μ.length H' → MRel g ρ' μ H' → g.mg c = some (.ref C) → XD g ρ' μ.length H' fs d → E (.ref C) d H'
  | .bad => False
abbrev EM := List (Option T) → Mem → Res
def tE (g : G) (E : XK) (d : EM) : TE := fun σ H Q => ∃ ρ σT μ, MRel g ρ μ H ∧ LRel g.K ρ μ.length H σT σ ∧ Good g E Q ρ μ.length H (d σT μ)
section
variable {g : G} {E : XK} {Q : VK} {ρ ρ' : Nat → Addr} {n n' : Nat} {H H' : Hp} {r : Res}
theorem Good.later (e : Ext g ρ n H ρ' n' H') (h : Good g E Q ρ n H r) : Good g E Q ρ' n' H' r := by
  cases r with
  | ok t μ => exact fun ρ2 v H2 e2 m d => h ρ2 v H2 (e.trans e2) m d
  | exc c fs μ => exact fun ρ2 H2 C d e2 m hc x => h ρ2 H2 C d (e.trans e2) m hc x
  | bad => exact h
theorem Good.mono {Q' : VK} (h : Good g E Q ρ n H r) (hq : ∀ v H', Q v H' → Q' v H') : Good g E Q' ρ n H r := by
  cases r with
  | ok t μ => exact fun ρ2 v H2 e2 m d => hq _ _ (h ρ2 v H2 e2 m d)
  | exc c fs μ => exact h
  | bad => exact h
theorem Good.bind {k : T → Mem → Res} {R : VK} (h : Good g E Q ρ n H (r.bind k)) (hR : ∀ x μ1 ρ1 v H1, r = .ok x μ1 → Ext g ρ n H ρ1 μ1.length H1 → MRel g ρ1 μ1 H1 → DV g.K ρ1 μ1.length H1 x v → Good g E Q ρ1 μ1.length H1 (k x μ1) → R v H1) :
    Good g E R ρ n H r := by
  cases r with
  | ok t μ => exact fun ρ2 v H2 e2 m d => hR t μ ρ2 v H2 rfl e2 m d (Good.later (r := k t μ) e2 h)
  | exc c fs μ => exact h
  | bad => exact h
theorem bindE {da : EM} {k : T → Mem → Res} {R : VK} {σT : List (Option T)} {σ : L2.St} {μ : Mem} (m : MRel g ρ μ H) (l : LRel g.K ρ μ.length H σT σ) (h : Good g E Q ρ μ.length H ((da σT μ).bind k))
    (hR : ∀ x μ1 ρ1 v H1, Ext g ρ μ.length H ρ1 μ1.length H1 → MRel g ρ1 μ1 H1 → LRel g.K ρ1 μ1.length H1 σT σ → DV g.K ρ1 μ1.length H1 x v → Good g E Q ρ1 μ1.length H1 (k x μ1) → R v H1) : tE g E da σ H R :=
  ⟨ρ, σT, μ, m, l, h.bind fun x μ1 ρ1 v H1 _ e m1 d q => hR x μ1 ρ1 v H1 e m1 (l.ext e) d q⟩
theorem bind_pure (r : Res) : r.bind (fun t μ => .ok t μ) = r := by cases r <;> rfl
/-- the end of a rule that leaves the heap as it is -/
theorem Good.same {μ : Mem} {t : T} {v : V} (h : Good g E Q ρ μ.length H (.ok t μ)) (m : MRel g ρ μ H) (d : DV g.K ρ μ.length H t v) : Q v H := h ρ v H (Ext.refl _ _ _ _) m d
/-- .. that lays a new tuple -/
theorem Good.tup {μ : Mem} {ts : List T} {vs : List V} {p : Addr} (h : Good g E Q ρ μ.length H (.ok (.tup ts) μ)) (m : MRel g ρ μ H) (d : DVs g.K ρ μ.length H ts vs) (hp : H p = none) : Q (.ref p) (upd H p (.tup vs)) :=
  h ρ _ _ (Ext.fresh hp _) (m.fresh hp) ⟨p, vs, rfl, SqT.of upd_same, d.ext (Ext.fresh hp _)⟩
/-- .. that lays a new object of the memory -/
theorem Good.new {μ : Mem} {mo : MO} {o : HO} {p : Addr} (h : Good g E Q ρ μ.length H (.ok (.ref μ.length) (μ ++ [mo]))) (m : MRel g ρ μ H) (d : MOr g ρ μ.length H mo o) (hp : H p = none) : Q (.ref p) (upd H p o) := by
  have hl : (μ ++ [mo]).length = μ.length + 1 := by simp
  refine h (ρadd ρ μ.length p) _ _ (by rw [hl]; exact Ext.new hp _) (m.new hp d) ⟨by rw [hl]; exact Nat.lt_succ_self _, ?_⟩
  unfold ρadd; rw [if_pos rfl]
/-- .. that changes an object of the memory -/
theorem Good.put {μ : Mem} {mo mo' : MO} {o : HO} {k : Nat} {t : T} {v : V} (h : Good g E Q ρ μ.length H (.ok t (μ.set k mo'))) (m : MRel g ρ μ H) (hk : μ[k]? = some mo) (d : MOr g ρ μ.length H mo' o) (dv : DV g.K ρ μ.length H t v) (hf : mo.loose = true := by rfl) : Q v (upd H (ρ k) o) := by
  have e : Ext g ρ μ.length H ρ μ.length (upd H (ρ k) o) := Ext.put m hk hf (MOr.noTbl d)
  refine h ρ _ _ (by rw [List.length_set]; exact e) (m.put hk d hf) (by rw [List.length_set]; exact dv.ext e)
end
theorem _root_.L2.PE.imp {X : Cx} {e : Expr} {t t' : TE} (h : PE X e t) (hi : ∀ σ H Q, t' σ H Q → t σ H Q) : PE X e t' := ⟨fun pins s σ H Q I q => h.run pins s σ H Q I (hi σ H Q q)⟩
theorem _root_.L2.PT.imp {X : Cx} {e : Expr} {t t' : TT} (h : PT X e t) (hi : ∀ σ H Q, t' σ H Q → t σ H Q) : PT X e t' := ⟨fun pins s σ H Q I q => h.run pins s σ H Q I (hi σ H Q q)⟩
end TL
set_option Elab.async false
set_option linter.all false
set_option maxRecDepth 100000
set_option maxHeartbeats 2000000
/-! TL2: expressions -/
namespace TL
open PySem PySem.Spec PyProof.Rows L2
/-! ### names and constants -/
def dVar (i : Nat) : EM := fun σ μ => match σ[i]? with
  | some (some t) => .ok t μ
  | _ => .bad
def dC (t : T) : EM := fun _ μ => .ok t μ
section
variable {X : Cx} {tb : List (Addr × Str)} {E : XK}
theorem e_var (i : Nat) {x : Str} {pos : Pos} (hN : X.N[i]? = some x := by rfl) (hv : Vis X.env.scope x := by first | exact Or.inl rfl | exact Or.inr (Or.inl rfl) | exact Or.inr (Or.inr rfl)) (hd : (x == ("__debug__" : Str)) = false := by decide)
    (hcd : (x == ("__classdict__" : Str)) = false := by decide) : PE X (.Name x pos) (tE (gx X tb) E (dVar i)) :=
  (pe_var hN hv hd hcd).imp fun σ H Q h => by
    obtain ⟨ρ, σT, μ, m, l, h⟩ := h
    unfold dVar at h
    split at h
    · rename_i t e
      obtain ⟨v, h1, h2⟩ := l.at_ i t e
      exact ⟨v, h1, h.same m h2⟩
    · exact h.elim
theorem tE_c {g : G} {t : T} {v : V} (hr : ∀ ρ n H, DV g.K ρ n H t v) : ∀ σ H Q, tE g E (dC t) σ H Q → tC v σ H Q := fun σ H Q h => by
  obtain ⟨ρ, σT, μ, m, l, h⟩ := h
  exact h.same m (hr _ _ _)
theorem e_int {i j pos} : PE X (.Constant (.int i) j pos) (tE (gx X tb) E (dC (.int i))) := pe_int.imp (tE_c fun _ _ _ => rfl)
theorem e_bl {i j pos} : PE X (.Constant (.bool i) j pos) (tE (gx X tb) E (dC (.bl i))) := pe_bl.imp (tE_c fun _ _ _ => rfl)
theorem e_non {j pos} : PE X (.Constant .none j pos) (tE (gx X tb) E (dC .non)) := pe_non.imp (tE_c fun _ _ _ => rfl)
theorem e_str {x j pos} : PE X (.Constant (.str x) j pos) (tE (gx X tb) E (dC (.str x))) := pe_str.imp (tE_c fun _ _ _ => rfl)
/-- a constant of the module -/
structure GlobIs (K : PySem.W.Frag) (mg : Str → Option Value) (x : Str) (t : T) : Prop where
  ex : ∃ u v, mg x = some u ∧ RelV v u ∧ ∀ ρ n H, DV K ρ n H t v
theorem e_glob {x : Str} {t : T} {pos : Pos} (h : GlobIs X.K X.mg x t) (hg : Gl X x := by rfl) (hd : (x == ("__debug__" : Str)) = false := by decide) : PE X (.Name x pos) (tE (gx X tb) E (dC t)) := by
  obtain ⟨u, v, h1, h2, h3⟩ := h.ex
  exact (pe_glob hg h1 h2 hd).imp (tE_c h3)
/-! ### operators by values -/
/-- what an operation does to trees is what its rule asks -/
def OpL (X : Cx) (tb : List (Addr × Str)) (f : Value → Value → Sem Value) (k : T → T → Mem → Res) : Prop :=
  ∃ r : R2, OpR X f r ∧ ∀ (E : XK) (Q : VK) (ρ : Nat → Addr) (μ : Mem) (H : Hp) (x y : T) (v u : V), MRel (gx X tb) ρ μ H → DV X.K ρ μ.length H x v → DV X.K ρ μ.length H y u → Good (gx X tb) E Q ρ μ.length H (k x y μ) → r v u H Q
def d2 (k : T → T → Mem → Res) (da db : EM) : EM := fun σ μ => (da σ μ).bind fun x μ1 => (db σ μ1).bind fun y μ2 => k x y μ2
def d1 (k : T → Mem → Res) (da : EM) : EM := fun σ μ => (da σ μ).bind fun x μ1 => k x μ1
theorem tE_op {k : T → T → Mem → Res} {r : R2} {da db : EM} (hr : ∀ (E : XK) (Q : VK) (ρ : Nat → Addr) (μ : Mem) (H : Hp) (x y : T) (v u : V), MRel (gx X tb) ρ μ H → DV X.K ρ μ.length H x v → DV X.K ρ μ.length H y u → Good (gx X tb) E Q ρ μ.length H (k x y μ) → r v u H Q) :
    ∀ σ H Q, tE (gx X tb) E (d2 k da db) σ H Q → tOp r (tE (gx X tb) E da) (tE (gx X tb) E db) σ H Q := fun σ H Q h => by
  obtain ⟨ρ, σT, μ, m, l, h⟩ := h
  refine bindE m l h fun x μ1 ρ1 v H1 e1 m1 l1 dx h1 => ?_
  refine bindE m1 l1 h1 fun y μ2 ρ2 u H2 e2 m2 l2 dy h2 => ?_
  exact hr E Q ρ2 μ2 H2 x y v u m2 (dx.ext e2) dy h2
variable {a b c : Expr} {da db dc : EM} {pos : Pos}
theorem e_op {op : Operator} {k : T → T → Mem → Res} (h : OpL X tb (binaryOp op) k) (ha : PE X a (tE (gx X tb) E da)) (hb : PE X b (tE (gx X tb) E db)) : PE X (.BinOp a op b pos) (tE (gx X tb) E (d2 k da db)) := by
  obtain ⟨r, h1, h2⟩ := h
  exact (pe_op h1 ha hb).imp (tE_op h2)
theorem e_cmp {op : CmpOp} {k : T → T → Mem → Res} (h : OpL X tb (compareOp op) k) (ha : PE X a (tE (gx X tb) E da)) (hb : PE X b (tE (gx X tb) E db)) (hm : behindInMarks op b = false := by first | exact nomark _ (by decide) (by decide) | with_unfolding_all rfl) :
    PE X (.Compare a [op] [b] pos) (tE (gx X tb) E (d2 k da db)) := by
  obtain ⟨r, h1, h2⟩ := h
  exact (pe_cmpR h1 ha hb hm).imp (tE_op h2)
/-- a reading as a test -/
def tT (g : G) (E : XK) (d : EM) : TT := fun σ H Q => tE g E d σ H fun v H1 => ∃ c, v = .bl c ∧ Q c H1
theorem t_cmp {op : CmpOp} {k : T → T → Mem → Res} (h : OpL X tb (compareOp op) k) (ha : PE X a (tE (gx X tb) E da)) (hb : PE X b (tE (gx X tb) E db)) (hm : behindInMarks op b = false := by first | exact nomark _ (by decide) (by decide) | with_unfolding_all rfl) :
    PT X (.Compare a [op] [b] pos) (tT (gx X tb) E (d2 k da db)) := by
  obtain ⟨r, h1, h2⟩ := h
  exact (pt_cmpR h1 ha hb hm).imp fun σ H Q q => tE_op h2 σ H _ q
theorem t_val {e : Expr} {d : EM} (h : PE X e (tE (gx X tb) E d)) (he : ∀ whole, isTrue e X.env whole = (do let v ← whole; standAt e.pos; holding [v] (truthy v)) := by intro _; rfl) : PT X e (tT (gx X tb) E d) :=
  (pt_val h he).imp fun σ H Q q => q
/-! chains -/
def dChain (k k' : T → T → Mem → Res) (da db dc : EM) : EM := fun σ μ => (da σ μ).bind fun x μ1 => (db σ μ1).bind fun y μ2 => (k x y μ2).bind fun z μ3 => match z with
  | .bl true => (dc σ μ3).bind fun w μ4 => k' y w μ4
  | .bl false => .ok (.bl false) μ3
  | _ => .bad
theorem tE_chain {k k' : T → T → Mem → Res} {r r' : R2} 
    (hr : ∀ (E : XK) (Q : VK) (ρ : Nat → Addr) (μ : Mem) (H : Hp) (x y : T) (v u : V), MRel (gx X tb) ρ μ H → DV X.K ρ μ.length H x v → DV X.K ρ μ.length H y u → Good (gx X tb) E Q ρ μ.length H (k x y μ) → r v u H Q)
    (hr' : ∀ (E : XK) (Q : VK) (ρ : Nat → Addr) (μ : Mem) (H : Hp) (x y : T) (v u : V), MRel (gx X tb) ρ μ H → DV X.K ρ μ.length H x v → DV X.K ρ μ.length H y u → Good (gx X tb) E Q ρ μ.length H (k' x y μ) → r' v u H Q) :
    ∀ σ H Q, tE (gx X tb) E (dChain k k' da db dc) σ H Q → tChain r r' (tE (gx X tb) E da) (tE (gx X tb) E db) (tE (gx X tb) E dc) σ H Q := fun σ H Q h => by
  obtain ⟨ρ, σT, μ, m, l, h⟩ := h
  refine bindE m l h fun x μ1 ρ1 v H1 e1 m1 l1 dx h1 => ?_
  refine bindE m1 l1 h1 fun y μ2 ρ2 u H2 e2 m2 l2 dy h2 => ?_
  refine hr E _ ρ2 μ2 H2 x y v u m2 (dx.ext e2) dy ?_
  refine Good.bind h2 fun z μ3 ρ3 w H3 ez e3 m3 dz h3 => ?_
  cases z with
  | bl q =>
    refine ⟨q, dz, ?_⟩
    cases q with
    | true =>
      rw [if_pos rfl]
      exact bindE m3 (l2.ext e3) h3 fun z' μ4 ρ4 w' H4 e4 m4 l4 dz' h4 => hr' E Q ρ4 μ4 H4 y z' u w' m4 ((dy.ext e3).ext e4) dz' h4
    | false =>
      rw [if_neg Bool.false_ne_true]
      exact h3.same m3 rfl
  | _ => exact h3.elim
theorem e_chain {op op' : CmpOp} {k k' : T → T → Mem → Res} (h : OpL X tb (compareOp op) k) (h' : OpL X tb (compareOp op') k') (ha : PE X a (tE (gx X tb) E da)) (hb : PE X b (tE (gx X tb) E db)) (hc : PE X c (tE (gx X tb) E dc))
    (hm : lastMarks [op, op'] [b, c] = false := by with_unfolding_all rfl) : PE X (.Compare a [op, op'] [b, c] pos) (tE (gx X tb) E (dChain k k' da db dc)) := by
  obtain ⟨r, h1, h2⟩ := h
  obtain ⟨r', h1', h2'⟩ := h'
  exact (pe_chain h1 h1' ha hb hc hm).imp (tE_chain h2 h2')
theorem t_chain {op op' : CmpOp} {k k' : T → T → Mem → Res} (h : OpL X tb (compareOp op) k) (h' : OpL X tb (compareOp op') k') (ha : PE X a (tE (gx X tb) E da)) (hb : PE X b (tE (gx X tb) E db)) (hc : PE X c (tE (gx X tb) E dc))
    (hm : lastMarks [op, op'] [b, c] = false := by with_unfolding_all rfl) : PT X (.Compare a [op, op'] [b, c] pos) (tT (gx X tb) E (dChain k k' da db dc)) := by
  obtain ⟨r, h1, h2⟩ := h
  obtain ⟨r', h1', h2'⟩ := h'
  exact (pt_chain h1 h1' ha hb hc hm).imp fun σ H Q q => tE_chain h2 h2' σ H _ q
/-! ### and, or, not, if -/
def dAnd (da db : EM) : EM := fun σ μ => (da σ μ).bind fun x μ1 => match x with
  | .bl true => db σ μ1
  | .bl false => .ok (.bl false) μ1
  | _ => .bad
def dOr (da db : EM) : EM := fun σ μ => (da σ μ).bind fun x μ1 => match x with
  | .bl false => db σ μ1
  | .bl true => .ok (.bl true) μ1
  | _ => .bad
def notT : T → Mem → Res := fun x μ => match x with
  | .bl b => .ok (.bl (!b)) μ
  | _ => .bad
def dNot (da : EM) : EM := d1 notT da
def dIfE (dc da db : EM) : EM := fun σ μ => (dc σ μ).bind fun x μ1 => match x with
  | .bl true => da σ μ1
  | .bl false => db σ μ1
  | _ => .bad
variable {rest : List Expr}
theorem e_one {op} (h : PE X a (tE (gx X tb) E da)) : PE X (.BoolOp op [a] pos) (tE (gx X tb) E da) := pe_one h
theorem tE_and {Q : VK} {σ : L2.St} {H : Hp} {g : G} {R : VK} (h : tE g E (dAnd da db) σ H Q)
    (h1 : ∀ H1, tE g E db σ H1 Q → R (.bl true) H1) (h2 : ∀ H1, Q (.bl false) H1 → R (.bl false) H1) : tE g E da σ H R := by
  obtain ⟨ρ, σT, μ, m, l, h⟩ := h
  refine bindE m l h fun x μ1 ρ1 v H1 e1 m1 l1 dx q1 => ?_
  cases x with
  | bl q =>
    have dx' : v = .bl q := dx
    subst dx'
    cases q with
    | true => exact h1 H1 ⟨ρ1, σT, μ1, m1, l1, q1⟩
    | false => exact h2 H1 (Good.same q1 m1 rfl)
  | _ => exact q1.elim
theorem tE_or {Q : VK} {σ : L2.St} {H : Hp} {g : G} {R : VK} (h : tE g E (dOr da db) σ H Q)
    (h1 : ∀ H1, tE g E db σ H1 Q → R (.bl false) H1) (h2 : ∀ H1, Q (.bl true) H1 → R (.bl true) H1) : tE g E da σ H R := by
  obtain ⟨ρ, σT, μ, m, l, h⟩ := h
  refine bindE m l h fun x μ1 ρ1 v H1 e1 m1 l1 dx q1 => ?_
  cases x with
  | bl q =>
    have dx' : v = .bl q := dx
    subst dx'
    cases q with
    | false => exact h1 H1 ⟨ρ1, σT, μ1, m1, l1, q1⟩
    | true => exact h2 H1 (Good.same q1 m1 rfl)
  | _ => exact q1.elim
theorem e_and (ha : PE X a (tE (gx X tb) E da)) (hb : PE X (.BoolOp .And (b :: rest) pos) (tE (gx X tb) E db)) : PE X (.BoolOp .And (a :: b :: rest) pos) (tE (gx X tb) E (dAnd da db)) :=
  (pe_and ha hb).imp fun σ H Q h => tE_and (R := fun x H1 => ∃ c, x = .bl c ∧ if c = true then tE (gx X tb) E db σ H1 Q else Q (.bl false) H1) h
    (fun H1 q => ⟨true, rfl, by rw [if_pos rfl]; exact q⟩) fun H1 q => ⟨false, rfl, by rw [if_neg Bool.false_ne_true]; exact q⟩
theorem e_or (ha : PE X a (tE (gx X tb) E da)) (hb : PE X (.BoolOp .Or (b :: rest) pos) (tE (gx X tb) E db)) : PE X (.BoolOp .Or (a :: b :: rest) pos) (tE (gx X tb) E (dOr da db)) :=
  (pe_or ha hb).imp fun σ H Q h => tE_or (R := fun x H1 => ∃ c, x = .bl c ∧ if c = true then Q (.bl true) H1 else tE (gx X tb) E db σ H1 Q) h
    (fun H1 q => ⟨false, rfl, by rw [if_neg Bool.false_ne_true]; exact q⟩) fun H1 q => ⟨true, rfl, by rw [if_pos rfl]; exact q⟩
theorem e_not (ha : PE X a (tE (gx X tb) E da)) : PE X (.UnaryOp .Not a pos) (tE (gx X tb) E (dNot da)) :=
  (pe_not ha).imp fun σ H Q h => by
    obtain ⟨ρ, σT, μ, m, l, h⟩ := h
    refine bindE m l h fun x μ1 ρ1 v H1 e1 m1 l1 dx q1 => ?_
    cases x with
    | bl q => exact ⟨q, dx, q1.same m1 rfl⟩
    | _ => exact q1.elim
theorem w_one {op} {d : EM} (h : PT X a (tT (gx X tb) E d)) : (op = .And ∨ op = .Or) → PW X (.BoolOp op [a] pos) (tT (gx X tb) E d) := fun hop => by
  rcases hop with rfl | rfl
  · exact pw_and1 h
  · exact pw_or1 h
theorem w_and (ha : PT X a (tT (gx X tb) E da)) (hb : PW X (.BoolOp .And (b :: rest) pos) (tT (gx X tb) E db)) : PW X (.BoolOp .And (a :: b :: rest) pos) (tT (gx X tb) E (dAnd da db)) :=
  ⟨fun wh pins s σ H Q I h => (pw_and ha hb).run wh pins s σ H Q I
    (tE_and (R := fun v H1 => ∃ c, v = .bl c ∧ if c = true then tT (gx X tb) E db σ H1 Q else Q false H1) h (fun H1 q => ⟨true, rfl, by rw [if_pos rfl]; exact q⟩) fun H1 q => ⟨false, rfl, by
      rw [if_neg Bool.false_ne_true]
      obtain ⟨c, e, q⟩ := q
      cases e; exact q⟩)⟩
theorem w_or (ha : PT X a (tT (gx X tb) E da)) (hb : PW X (.BoolOp .Or (b :: rest) pos) (tT (gx X tb) E db)) : PW X (.BoolOp .Or (a :: b :: rest) pos) (tT (gx X tb) E (dOr da db)) :=
  ⟨fun wh pins s σ H Q I h => (pw_or ha hb).run wh pins s σ H Q I
    (tE_or (R := fun v H1 => ∃ c, v = .bl c ∧ if c = true then Q true H1 else tT (gx X tb) E db σ H1 Q) h (fun H1 q => ⟨false, rfl, by rw [if_neg Bool.false_ne_true]; exact q⟩) fun H1 q => ⟨true, rfl, by
      rw [if_pos rfl]
      obtain ⟨c, e, q⟩ := q
      cases e; exact q⟩)⟩
theorem t_w {e : Expr} {d : EM} (h : PW X e (tT (gx X tb) E d)) : PT X e (tT (gx X tb) E d) := h.pt
theorem t_not (ha : PT X a (tT (gx X tb) E da)) : PT X (.UnaryOp .Not a pos) (tT (gx X tb) E (dNot da)) :=
  (pt_not ha).imp fun σ H Q h => by
    obtain ⟨ρ, σT, μ, m, l, h⟩ := h
    refine bindE m l h fun x μ1 ρ1 v H1 e1 m1 l1 dx q1 => ?_
    cases x with
    | bl q =>
      obtain ⟨c, e, q2⟩ := q1.same m1 (v := .bl (!q)) rfl
      cases e
      exact ⟨q, dx, q2⟩
    | _ => exact q1.elim
theorem tE_if {Q : VK} {σ : L2.St} {H : Hp} {g : G} {R : Bool → Hp → Prop} {r1 r2 : Res → Prop} (h : ∃ ρ σT μ, MRel g ρ μ H ∧ LRel g.K ρ μ.length H σT σ ∧ Good g E Q ρ μ.length H (dIfE dc da db σT μ))
    (h1 : ∀ H1, tE g E da σ H1 Q → R true H1) (h2 : ∀ H1, tE g E db σ H1 Q → R false H1) : tT g E dc σ H R := by
  obtain ⟨ρ, σT, μ, m, l, h⟩ := h
  refine bindE m l h fun x μ1 ρ1 v H1 e1 m1 l1 dx q1 => ?_
  cases x with
  | bl q =>
    refine ⟨q, dx, ?_⟩
    cases q with
    | true => exact h1 H1 ⟨ρ1, σT, μ1, m1, l1, q1⟩
    | false => exact h2 H1 ⟨ρ1, σT, μ1, m1, l1, q1⟩
  | _ => exact q1.elim
theorem e_ifExp (hc : PT X c (tT (gx X tb) E dc)) (ha : PE X a (tE (gx X tb) E da)) (hb : PE X b (tE (gx X tb) E db)) : PE X (.IfExp c a b pos) (tE (gx X tb) E (dIfE dc da db)) :=
  (pe_ifExp hc ha hb).imp fun σ H Q h => tE_if (r1 := fun _ => True) (r2 := fun _ => True) h (fun H1 q => by rw [if_pos rfl]; exact q) fun H1 q => by rw [if_neg Bool.false_ne_true]; exact q
/-! ### arguments, displays -/
abbrev AM := List (Option T) → Mem → (List T → Mem → Res) → Res
def aNil : AM := fun _ μ k => k [] μ
def aCons (d : EM) (r : AM) : AM := fun σ μ k => (d σ μ).bind fun x μ1 => r σ μ1 fun xs μ2 => k (x :: xs) μ2
/-- an argument list's reading, whatever follows -/
structure AOk (g : G) (E : XK) (t : TA) (d : AM) : Prop where
  go : ∀ (Q : VK) (ρ : Nat → Addr) (σT : List (Option T)) (μ : Mem) (σ : L2.St) (H : Hp) (k : List T → Mem → Res) (R : List V → Hp → Prop), MRel g ρ μ H → LRel g.K ρ μ.length H σT σ → Good g E Q ρ μ.length H (d σT μ k) →
    (∀ ts μ1 ρ1 vs H1, Ext g ρ μ.length H ρ1 μ1.length H1 → MRel g ρ1 μ1 H1 → DVs g.K ρ1 μ1.length H1 ts vs → Good g E Q ρ1 μ1.length H1 (k ts μ1) → R vs H1) → t σ H R
theorem ao_nil {g : G} : AOk g E tNil aNil := ⟨fun Q ρ σT μ σ H k R m l h hR => hR [] μ ρ [] H (Ext.refl _ _ _ _) m rfl h⟩
theorem ao_cons {g : G} {t : TA} {d : EM} {r : AM} (h : AOk g E t r) : AOk g E (tCons (tE g E d) t) (aCons d r) := ⟨fun Q ρ σT μ σ H k R m l hg hR => by
  refine bindE m l hg fun x μ1 ρ1 v H1 e1 m1 l1 dx q1 => ?_
  exact h.go Q ρ1 σT μ1 σ H1 _ _ m1 l1 q1 fun ts μ2 ρ2 vs H2 e2 m2 ds q2 => hR (x :: ts) μ2 ρ2 (v :: vs) H2 (e1.trans e2) m2 (.cons (dx.ext e2) ds) q2⟩
structure PAd (X : Cx) (tb : List (Addr × Str)) (E : XK) (es : List Expr) (d : AM) : Prop where
  ex : ∃ t, PA X es t ∧ AOk (gx X tb) E t d
theorem a_nil : PAd X tb E [] aNil := ⟨⟨_, pa_nil, ao_nil⟩⟩
theorem a_cons {e : Expr} {es : List Expr} {d : EM} {r : AM} (he : PE X e (tE (gx X tb) E d)) (hr : PAd X tb E es r) (hs : starEach (e :: es) X.env = (false, eval e X.env) :: starEach es X.env := by rfl) : PAd X tb E (e :: es) (aCons d r) := by
  obtain ⟨t, h1, h2⟩ := hr.ex
  exact ⟨⟨_, pa_cons he h1 hs, ao_cons h2⟩⟩
def dTup (d : AM) : EM := fun σ μ => d σ μ fun ts μ1 => if ts.length ≤ sizeLine then .ok (.tup ts) μ1 else .bad
def dLst (d : AM) : EM := fun σ μ => d σ μ fun ts μ1 => if ts.length ≤ sizeLine then .ok (.ref μ1.length) (μ1 ++ [.lst ts]) else .bad
theorem e_tup {es : List Expr} {k} {d : AM} (h : PAd X tb E es d) : PE X (.Tuple es k pos) (tE (gx X tb) E (dTup d)) := by
  obtain ⟨t, h1, h2⟩ := h.ex
  refine (pe_tup h1).imp fun σ H Q h => ?_
  obtain ⟨ρ, σT, μ, m, l, h⟩ := h
  refine h2.go Q ρ σT μ σ H _ _ m l h fun ts μ1 ρ1 vs H1 e1 m1 ds q1 => ?_
  split at q1
  · rename_i hz
    exact ⟨by rw [← ds.length]; exact hz, fun p hp => q1.tup m1 ds hp⟩
  · exact q1.elim
theorem e_lst {es : List Expr} {d : AM} (h : PAd X tb E es d) : PE X (.List es pos) (tE (gx X tb) E (dLst d)) := by
  obtain ⟨t, h1, h2⟩ := h.ex
  refine (pe_lst h1).imp fun σ H Q h => ?_
  obtain ⟨ρ, σT, μ, m, l, h⟩ := h
  refine h2.go Q ρ σT μ σ H _ _ m l h fun ts μ1 ρ1 vs H1 e1 m1 ds q1 => ?_
  split at q1
  · rename_i hz
    exact ⟨by rw [← ds.length]; exact hz, fun p hp => q1.new m1 ⟨vs, rfl, ds⟩ hp⟩
  · exact q1.elim
/-! ### calls of built-ins, by values -/
def CallL (X : Cx) (tb : List (Addr × Str)) (f : Value) (k : List T → Mem → Res) : Prop :=
  ∃ r : List V → Hp → VK → Prop, CallR X f r ∧ ∀ (E : XK) (Q : VK) (ρ : Nat → Addr) (μ : Mem) (H : Hp) (ts : List T) (vs : List V), MRel (gx X tb) ρ μ H → DVs X.K ρ μ.length H ts vs → Good (gx X tb) E Q ρ μ.length H (k ts μ) → r vs H Q
def dCall (k : List T → Mem → Res) (d : AM) : EM := fun σ μ => d σ μ k
theorem tE_call {r : List V → Hp → VK → Prop} {k : List T → Mem → Res} {t : TA} {d : AM} (ha : AOk (gx X tb) E t d) (hr : ∀ (E : XK) (Q : VK) (ρ : Nat → Addr) (μ : Mem) (H : Hp) (ts : List T) (vs : List V), MRel (gx X tb) ρ μ H → DVs X.K ρ μ.length H ts vs → Good (gx X tb) E Q ρ μ.length H (k ts μ) → r vs H Q) :
    ∀ σ H Q, tE (gx X tb) E (dCall k d) σ H Q → tCB r t σ H Q := fun σ H Q h => by
  obtain ⟨ρ, σT, μ, m, l, h⟩ := h
  exact ha.go Q ρ σT μ σ H _ _ m l h fun ts μ1 ρ1 vs H1 e1 m1 ds q1 => hr E Q ρ1 μ1 H1 ts vs m1 ds q1
theorem e_callB {x : Str} {id : String} {p pos : Pos} {e : Expr} {es : List Expr} {k : List T → Mem → Res} {d : AM} (h : CallL X tb (.builtin id) k) (hm : X.mg x = none) (ha : PAd X tb E (e :: es) d) (hv : bootBuiltins x = some (.builtin id) := by decide +kernel) (hg : Gl X x := by rfl) 
    (hn : x ≠ "__name__" := by decide) (hdb : (x == ("__debug__" : Str)) = false := by decide) (he : starEach (e :: es) X.env = (false, eval e X.env) :: starEach es X.env := by rfl) (hpl : (backTo pos (starEach es X.env)).any (·.1) = false := by rfl) :
    PE X (.Call (.Name x p) (e :: es) [] pos) (tE (gx X tb) E (dCall k d)) := by
  obtain ⟨r, h1, h2⟩ := h
  obtain ⟨t, a1, a2⟩ := ha.ex
  exact (pe_callB h1 hg hm hv a1 hn hdb he hpl).imp (tE_call a2 h2)
theorem e_callTy {x : Str} {id : String} {p pos : Pos} {e : Expr} {es : List Expr} {k : List T → Mem → Res} {d : AM} (h : CallL X tb (.type id) k) (hm : X.mg x = none) (ha : PAd X tb E (e :: es) d) (hv : bootBuiltins x = some (.type id) := by decide +kernel) (hg : Gl X x := by rfl) 
    (hn : x ≠ "__name__" := by decide) (hdb : (x == ("__debug__" : Str)) = false := by decide) (he : starEach (e :: es) X.env = (false, eval e X.env) :: starEach es X.env := by rfl) (hpl : (backTo pos (starEach es X.env)).any (·.1) = false := by rfl) :
    PE X (.Call (.Name x p) (e :: es) [] pos) (tE (gx X tb) E (dCall k d)) := by
  obtain ⟨r, h1, h2⟩ := h
  obtain ⟨t, a1, a2⟩ := ha.ex
  exact (pe_callTy h1 hg hm hv a1 hn hdb he hpl).imp (tE_call a2 h2)
/-! ### subscripts -/
def IxL (X : Cx) (tb : List (Addr × Str)) (k : T → T → Mem → Res) : Prop :=
  ∃ r : R2, IxR X r ∧ ∀ (E : XK) (Q : VK) (ρ : Nat → Addr) (μ : Mem) (H : Hp) (x y : T) (v u : V), MRel (gx X tb) ρ μ H → DV X.K ρ μ.length H x v → DV X.K ρ μ.length H y u → Good (gx X tb) E Q ρ μ.length H (k x y μ) → r v u H Q
theorem e_ix {k : T → T → Mem → Res} (h : IxL X tb k) (ha : PE X a (tE (gx X tb) E da)) (hb : PE X b (tE (gx X tb) E db)) (hs : PlainIx b := by exact fun _ _ => rfl) : PE X (.Subscript a b pos) (tE (gx X tb) E (d2 k da db)) := by
  obtain ⟨r, h1, h2⟩ := h
  exact (pe_ix h1 ha hb hs).imp (tE_op h2)
end
end TL
set_option Elab.async false
set_option linter.all false
set_option maxRecDepth 100000
set_option maxHeartbeats 2000000
/-! TL3: operations by values -/
namespace TL
open PySem PySem.Spec PyProof.Rows L2
section
variable {X : Cx} {tb : List (Addr × Str)}
/-- a rule of two ints -/
theorem opl_int {f : Value → Value → Sem Value} {C : Int → Int → Prop} {gV : Int → Int → V} {k : T → T → Mem → Res} (h : OpR X f (rI C gV))
    (hk : ∀ x y μ, k x y μ ≠ .bad → ∃ i j t, x = .int i ∧ y = .int j ∧ C i j ∧ k x y μ = .ok t μ ∧ ∀ ρ n H, DV X.K ρ n H t (gV i j)) : OpL X tb f k := by
  refine ⟨_, h, fun E Q ρ μ H x y v u m dx dy g => ?_⟩
  obtain ⟨i, j, t, rfl, rfl, hc, e, ht⟩ := hk x y μ (fun z => by rw [z] at g; exact g)
  rw [e] at g
  exact ⟨i, j, dx, dy, hc, g.same m (ht _ _ _)⟩
theorem opl_int0 {f : Value → Value → Sem Value} {gV : Int → Int → V} {k : T → T → Mem → Res} (h : OpR X f (rI0 gV))
    (hk : ∀ x y μ, k x y μ ≠ .bad → ∃ i j t, x = .int i ∧ y = .int j ∧ k x y μ = .ok t μ ∧ ∀ ρ n H, DV X.K ρ n H t (gV i j)) : OpL X tb f k := by
  refine ⟨_, h, fun E Q ρ μ H x y v u m dx dy g => ?_⟩
  obtain ⟨i, j, t, rfl, rfl, e, ht⟩ := hk x y μ (fun z => by rw [z] at g; exact g)
  rw [e] at g
  exact ⟨i, j, dx, dy, g.same m (ht _ _ _)⟩
def addT : T → T → Mem → Res := fun x y μ => match x, y with
  | .int i, .int j => .ok (.int (i + j)) μ
  | .str i, .str j => if i.length + j.length ≤ sizeLine then .ok (.str (i ++ j)) μ else .bad
  | .tup xs, .tup ys => if xs.length + ys.length ≤ sizeLine then .ok (.tup (xs ++ ys)) μ else .bad
  | _, _ => .bad
theorem opl_add : OpL X tb (binaryOp .Add) addT := by
  refine ⟨_, op_add.or (op_add_str.or op_catA), fun E Q ρ μ H x y v u m dx dy g => ?_⟩
  unfold addT at g
  split at g
  · exact .inl ⟨_, _, dx, dy, g.same m rfl⟩
  · split at g
    · rename_i hz
      exact .inr (.inl ⟨_, _, dx, dy, hz, g.same m rfl⟩)
    · exact g.elim
  · rename_i xs ys
    split at g
    · rename_i hz
      obtain ⟨a, vs, ea, ha, da⟩ := dx
      obtain ⟨b, ws, eb, hb, db⟩ := dy
      refine .inr (.inr ⟨a, b, vs, ws, ea, eb, ha, hb, by rw [← da.length, ← db.length]; exact hz, fun h0 => ?_, fun _ h0 => ?_, fun _ _ p hp => g.tup m (da.append db) hp⟩)
      · subst h0
        have e : xs = [] := List.length_eq_zero_iff.mp da.length
        subst e
        exact g.same m ⟨b, ws, rfl, hb, db⟩
      · subst h0
        have e : ys = [] := List.length_eq_zero_iff.mp db.length
        subst e
        exact g.same m ⟨a, vs, rfl, ha, by rw [List.append_nil]; exact da⟩
    · exact g.elim
  · exact g.elim
def subT : T → T → Mem → Res := fun x y μ => match x, y with
  | .int i, .int j => .ok (.int (i - j)) μ
  | _, _ => .bad
theorem opl_sub : OpL X tb (binaryOp .Sub) subT := opl_int0 op_sub fun x y μ h => by
  unfold subT at h ⊢
  split at h
  · exact ⟨_, _, _, rfl, rfl, rfl, fun _ _ _ => rfl⟩
  · exact absurd rfl h
instance (i j : Int) : Decidable (CMul i j) := by unfold CMul; infer_instance
def mulT : T → T → Mem → Res := fun x y μ => match x, y with
  | .int i, .int j => if CMul i j then .ok (.int (i * j)) μ else .bad
  | _, _ => .bad
theorem opl_mul : OpL X tb (binaryOp .Mult) mulT := opl_int op_mul fun x y μ h => by
  unfold mulT at h ⊢
  split at h
  · split at h
    · rename_i hc
      rw [if_pos hc]
      exact ⟨_, _, _, rfl, rfl, hc, rfl, fun _ _ _ => rfl⟩
    · exact absurd rfl h
  · exact absurd rfl h
def modT : T → T → Mem → Res := fun x y μ => match x, y with
  | .int i, .int j => if 0 < j then .ok (.int (i % j)) μ else .bad
  | _, _ => .bad
theorem opl_mod : OpL X tb (binaryOp .Mod) modT := opl_int op_mod fun x y μ h => by
  unfold modT at h ⊢
  split at h
  · split at h
    · rename_i hc
      rw [if_pos hc]
      exact ⟨_, _, _, rfl, rfl, hc, rfl, fun _ _ _ => rfl⟩
    · exact absurd rfl h
  · exact absurd rfl h
instance (i j : Int) : Decidable (CDiv i j) := by unfold CDiv; infer_instance
def fdivT : T → T → Mem → Res := fun x y μ => match x, y with
  | .int i, .int j => if CDiv i j then .ok (.int (i / j)) μ else .bad
  | _, _ => .bad
theorem opl_fdiv : OpL X tb (binaryOp .FloorDiv) fdivT := opl_int op_fdiv fun x y μ h => by
  unfold fdivT at h ⊢
  split at h
  · split at h
    · rename_i hc
      rw [if_pos hc]
      exact ⟨_, _, _, rfl, rfl, hc, rfl, fun _ _ _ => rfl⟩
    · exact absurd rfl h
  · exact absurd rfl h
instance (i j : Int) : Decidable (CPow i j) := by unfold CPow; infer_instance
def powT : T → T → Mem → Res := fun x y μ => match x, y with
  | .int i, .int j => if CPow i j then .ok (.int (i ^ j.toNat)) μ else .bad
  | _, _ => .bad
theorem opl_pow : OpL X tb (binaryOp .Pow) powT := opl_int op_pow fun x y μ h => by
  unfold powT at h ⊢
  split at h
  · split at h
    · rename_i hc
      rw [if_pos hc]
      exact ⟨_, _, _, rfl, rfl, hc, rfl, fun _ _ _ => rfl⟩
    · exact absurd rfl h
  · exact absurd rfl h
def shlT : T → T → Mem → Res := fun x y μ => match x, y with
  | .int i, .int j => if CPow i j then .ok (.int (i * 2 ^ j.toNat)) μ else .bad
  | _, _ => .bad
theorem opl_shl : OpL X tb (binaryOp .LShift) shlT := opl_int op_shl fun x y μ h => by
  unfold shlT at h ⊢
  split at h
  · split at h
    · rename_i hc
      rw [if_pos hc]
      exact ⟨_, _, _, rfl, rfl, hc, rfl, fun _ _ _ => rfl⟩
    · exact absurd rfl h
  · exact absurd rfl h
def shrT : T → T → Mem → Res := fun x y μ => match x, y with
  | .int i, .int j => if 0 ≤ j then .ok (.int (i / 2 ^ j.toNat)) μ else .bad
  | _, _ => .bad
theorem opl_shr : OpL X tb (binaryOp .RShift) shrT := opl_int op_shr fun x y μ h => by
  unfold shrT at h ⊢
  split at h
  · split at h
    · rename_i hc
      rw [if_pos hc]
      exact ⟨_, _, _, rfl, rfl, hc, rfl, fun _ _ _ => rfl⟩
    · exact absurd rfl h
  · exact absurd rfl h
def bandT : T → T → Mem → Res := fun x y μ => match x, y with
  | .int i, .int j => .ok (.int (Builtin.bitAnd i j)) μ
  | _, _ => .bad
theorem opl_band : OpL X tb (binaryOp .BitAnd) bandT := opl_int0 op_and fun x y μ h => by
  unfold bandT at h ⊢
  split at h
  · exact ⟨_, _, _, rfl, rfl, rfl, fun _ _ _ => rfl⟩
  · exact absurd rfl h
def ltT : T → T → Mem → Res := fun x y μ => match x, y with
  | .int i, .int j => .ok (.bl (decide (i < j))) μ
  | _, _ => .bad
def leT : T → T → Mem → Res := fun x y μ => match x, y with
  | .int i, .int j => .ok (.bl (decide (i ≤ j))) μ
  | _, _ => .bad
def gtT : T → T → Mem → Res := fun x y μ => match x, y with
  | .int i, .int j => .ok (.bl (decide (j < i))) μ
  | _, _ => .bad
def geT : T → T → Mem → Res := fun x y μ => match x, y with
  | .int i, .int j => .ok (.bl (decide (j ≤ i))) μ
  | _, _ => .bad
theorem opl_lt : OpL X tb (compareOp .Lt) ltT := opl_int0 op_lt fun x y μ h => by
  unfold ltT at h ⊢
  split at h
  · exact ⟨_, _, _, rfl, rfl, rfl, fun _ _ _ => rfl⟩
  · exact absurd rfl h
theorem opl_le : OpL X tb (compareOp .LtE) leT := opl_int0 op_le fun x y μ h => by
  unfold leT at h ⊢
  split at h
  · exact ⟨_, _, _, rfl, rfl, rfl, fun _ _ _ => rfl⟩
  · exact absurd rfl h
theorem opl_gt : OpL X tb (compareOp .Gt) gtT := opl_int0 op_gt fun x y μ h => by
  unfold gtT at h ⊢
  split at h
  · exact ⟨_, _, _, rfl, rfl, rfl, fun _ _ _ => rfl⟩
  · exact absurd rfl h
theorem opl_ge : OpL X tb (compareOp .GtE) geT := opl_int0 op_ge fun x y μ h => by
  unfold geT at h ⊢
  split at h
  · exact ⟨_, _, _, rfl, rfl, rfl, fun _ _ _ => rfl⟩
  · exact absurd rfl h
/-! ### == at any depth -/
mutual
def toDW (f : Nat → Option PyData) : T → Option PyData
  | .non => some .none
  | .bl b => some (.bool b)
  | .int i => some (.int i)
  | .str x => some (.str x)
  | .er _ _ => none
  | .fl _ => none
  | .ref k => f k
  | .tup ts => (toDWs f ts).map .tuple
def toDWs (f : Nat → Option PyData) : List T → Option (List PyData)
  | [] => some []
  | t :: ts => (toDW f t).bind fun d => (toDWs f ts).map fun ds => d :: ds
end
def refD (μ : Mem) : Nat → Nat → Option PyData
  | 0, _ => none
  | d + 1, k => match μ[k]? with
    | some (.lst ts) => (toDWs (refD μ d) ts).map .list
    | _ => none
def toD (μ : Mem) (t : T) : Option PyData := toDW (refD μ 3) t
section
variable {g : G} {ρ : Nat → Addr} {n : Nat} {H : Hp}
mutual
theorem toDW_dp {f : Nat → Option PyData} (hf : ∀ k d, f k = some d → Dp g.K H (.ref (ρ k)) d) : ∀ {t : T} {v : V} {d : PyData}, DV g.K ρ n H t v → toDW f t = some d → Dp g.K H v d
  | .non, _, _, h, e => by
    rw [show _ = V.non from h]
    simp [toDW] at e; subst e; exact .non
  | .bl b, _, _, h, e => by
    rw [show _ = V.bl b from h]
    simp [toDW] at e; subst e; exact .bl b
  | .int i, _, _, h, e => by
    rw [show _ = V.int i from h]
    simp [toDW] at e; subst e; exact .int i
  | .str x, _, _, h, e => by
    rw [show _ = V.str x from h]
    simp [toDW] at e; subst e; exact .str x
  | .er _ _, _, _, _, e => by simp [toDW] at e
  | .fl _, _, _, _, e => by simp [toDW] at e
  | .ref k, _, _, h, e => by
    obtain ⟨_, h2⟩ := h
    rw [h2]
    exact hf k _ (by simpa [toDW] using e)
  | .tup ts, _, _, h, e => by
    obtain ⟨a, vs, rfl, h2, h3⟩ := h
    simp only [toDW, Option.map_eq_some_iff] at e
    obtain ⟨ds, e1, rfl⟩ := e
    exact .tup h2 (toDWs_dp hf h3 e1)
theorem toDWs_dp {f : Nat → Option PyData} (hf : ∀ k d, f k = some d → Dp g.K H (.ref (ρ k)) d) : ∀ {ts : List T} {vs : List V} {ds : List PyData}, DVs g.K ρ n H ts vs → toDWs f ts = some ds → DpAll g.K H vs ds
  | [], _, _, h, e => by
    rw [show _ = [] from h]
    simp [toDWs] at e; subst e; exact .nil
  | t :: ts, _, _, h, e => by
    obtain ⟨v, r, rfl, h2, h3⟩ := h
    simp only [toDWs, Option.bind_eq_some_iff, Option.map_eq_some_iff] at e
    obtain ⟨d, e1, ds, e2, rfl⟩ := e
    exact .cons (toDW_dp hf h2 e1) (toDWs_dp hf h3 e2)
end
theorem refD_dp {μ : Mem} (m : MRel g ρ μ H) : ∀ (d k : Nat) (pd : PyData), refD μ d k = some pd → Dp g.K H (.ref (ρ k)) pd
  | 0, _, _, e => by simp [refD] at e
  | d + 1, k, pd, e => by
    unfold refD at e
    split at e
    · rename_i ts hk
      obtain ⟨ho, h1, vs, rfl, h2⟩ := m.ob k _ hk
      simp only [Option.map_eq_some_iff] at e
      obtain ⟨ds, e1, rfl⟩ := e
      exact .lst (SqL.of h1) (toDWs_dp (refD_dp m d) h2 e1)
    · cases e
theorem toD_dp {μ : Mem} (m : MRel g ρ μ H) {t : T} {v : V} {d : PyData} (h : DV g.K ρ n H t v) (e : toD μ t = some d) : Dp g.K H v d := toDW_dp (refD_dp m 3) h e
end
def eqT : T → T → Mem → Res := fun x y μ => match x, y with
  | .int i, .int j => .ok (.bl (decide (i = j))) μ
  | .str i, .str j => .ok (.bl (decide (i = j))) μ
  | .bl i, .bl j => .ok (.bl (decide (i = j))) μ
  | x, y => match toD μ x, toD μ y with
    | some d, some e => if SeqAt.shaped d = true ∧ SeqAt.shaped e = true then .ok (.bl (PyData.eqv d e)) μ else .bad
    | _, _ => .bad
def neT : T → T → Mem → Res := fun x y μ => (eqT x y μ).bind notT
theorem opl_eq (hu : X.A.units + 64 < cLine) : OpL X tb (compareOp .Eq) eqT := by
  refine ⟨_, op_eq.or (op_eqD hu), fun E Q ρ μ H x y v u m dx dy g => ?_⟩
  unfold eqT at g
  split at g
  · rename_i i j
    rw [show v = V.int i from dx, show u = V.int j from dy]
    exact .inl ⟨rfl, by rw [dec_int]; exact g.same m (show V.bl (i == j) = V.bl (decide (i = j)) by rw [Bool.beq_eq_decide_eq])⟩
  · rename_i i j
    rw [show v = V.str i from dx, show u = V.str j from dy]
    exact .inl ⟨rfl, by rw [dec_str]; exact g.same m (show V.bl (i == j) = V.bl (decide (i = j)) by rw [Bool.beq_eq_decide_eq])⟩
  · rename_i i j
    rw [show v = V.bl i from dx, show u = V.bl j from dy]
    exact .inl ⟨rfl, by rw [dec_bl]; exact g.same m (show V.bl (i == j) = V.bl (decide (i = j)) by rw [Bool.beq_eq_decide_eq])⟩
  · split at g
    · split at g
      · rename_i d e e1 e2 hs
        exact .inr ⟨d, e, toD_dp (g := gx X tb) m dx e1, toD_dp (g := gx X tb) m dy e2, hs.1, hs.2, g.same m rfl⟩
      · exact g.elim
    · exact g.elim
theorem opl_ne (hu : X.A.units + 64 < cLine) : OpL X tb (compareOp .NotEq) neT := by
  refine ⟨_, op_ne.or (op_neD hu), fun E Q ρ μ H x y v u m dx dy g => ?_⟩
  unfold neT eqT at g
  split at g
  · rename_i i j
    rw [show v = V.int i from dx, show u = V.int j from dy]
    exact .inl ⟨rfl, by rw [dec_int]; exact Good.same (μ := μ) g m (show V.bl (!(i == j)) = V.bl (!decide (i = j)) by rw [Bool.beq_eq_decide_eq])⟩
  · rename_i i j
    rw [show v = V.str i from dx, show u = V.str j from dy]
    exact .inl ⟨rfl, by rw [dec_str]; exact Good.same (μ := μ) g m (show V.bl (!(i == j)) = V.bl (!decide (i = j)) by rw [Bool.beq_eq_decide_eq])⟩
  · rename_i i j
    rw [show v = V.bl i from dx, show u = V.bl j from dy]
    exact .inl ⟨rfl, by rw [dec_bl]; exact Good.same (μ := μ) g m (show V.bl (!(i == j)) = V.bl (!decide (i = j)) by rw [Bool.beq_eq_decide_eq])⟩
  · split at g
    · split at g
      · rename_i d e e1 e2 hs
        exact .inr ⟨d, e, toD_dp (g := gx X tb) m dx e1, toD_dp (g := gx X tb) m dy e2, hs.1, hs.2, Good.same (μ := μ) g m rfl⟩
      · exact g.elim
    · exact g.elim
/-! is None -/
def isNT : T → Mem → Res := fun x μ => match x with
  | .non => .ok (.bl true) μ
  | _ => .ok (.bl false) μ
def notNT : T → Mem → Res := fun x μ => match x with
  | .non => .ok (.bl false) μ
  | _ => .ok (.bl true) μ
theorem DV.non_iff {K : PySem.W.Frag} {ρ : Nat → Addr} {n : Nat} {H : Hp} {t : T} {v : V} (h : DV K ρ n H t v) : (v = .non) ↔ (t = .non) := by
  cases t with
  | non => exact ⟨fun _ => rfl, fun _ => h⟩
  | bl _ => rw [show v = _ from h]; exact ⟨(fun z => nomatch z), (fun z => nomatch z)⟩
  | int _ => rw [show v = _ from h]; exact ⟨(fun z => nomatch z), (fun z => nomatch z)⟩
  | str _ => rw [show v = _ from h]; exact ⟨(fun z => nomatch z), (fun z => nomatch z)⟩
  | er _ _ => rw [show v = _ from h.1]; exact ⟨(fun z => nomatch z), (fun z => nomatch z)⟩
  | fl _ => obtain ⟨a, rfl, _⟩ := h; exact ⟨(fun z => nomatch z), (fun z => nomatch z)⟩
  | ref _ => rw [h.2]; exact ⟨(fun z => nomatch z), (fun z => nomatch z)⟩
  | tup _ => obtain ⟨a, vs, rfl, _⟩ := h; exact ⟨(fun z => nomatch z), (fun z => nomatch z)⟩
variable {E : XK} {a : Expr} {da : EM} {pos : Pos}
theorem tE_isN : ∀ σ H Q, tE (gx X tb) E (d1 isNT da) σ H Q → tIsN (tE (gx X tb) E da) σ H Q := fun σ H Q h => by
  obtain ⟨ρ, σT, μ, m, l, h⟩ := h
  refine bindE m l h fun x μ1 ρ1 v H1 e1 m1 l1 dx h1 => ?_
  have e : isNT x μ1 = .ok (.bl (decide (v = .non))) μ1 := by
    by_cases hx : x = .non
    · rw [decide_eq_true (DV.non_iff dx |>.mpr hx), hx]; rfl
    · rw [decide_eq_false (fun z => hx (DV.non_iff dx |>.mp z))]; cases x <;> first | rfl | exact absurd rfl hx
  rw [e] at h1
  exact h1.same m1 rfl
theorem tE_notN : ∀ σ H Q, tE (gx X tb) E (d1 notNT da) σ H Q → tNotN (tE (gx X tb) E da) σ H Q := fun σ H Q h => by
  obtain ⟨ρ, σT, μ, m, l, h⟩ := h
  refine bindE m l h fun x μ1 ρ1 v H1 e1 m1 l1 dx h1 => ?_
  have e : notNT x μ1 = .ok (.bl (!decide (v = .non))) μ1 := by
    by_cases hx : x = .non
    · rw [decide_eq_true (DV.non_iff dx |>.mpr hx), hx]; rfl
    · rw [decide_eq_false (fun z => hx (DV.non_iff dx |>.mp z))]; cases x <;> first | rfl | exact absurd rfl hx
  rw [e] at h1
  exact h1.same m1 rfl
theorem e_isN {j pos'} (ha : PE X a (tE (gx X tb) E da)) : PE X (.Compare a [.Is] [.Constant .none j pos'] pos) (tE (gx X tb) E (d1 isNT da)) := (pe_cmp (pc_isN ha)).imp tE_isN
theorem e_notN {j pos'} (ha : PE X a (tE (gx X tb) E da)) : PE X (.Compare a [.IsNot] [.Constant .none j pos'] pos) (tE (gx X tb) E (d1 notNT da)) := (pe_cmp (pc_notN ha)).imp tE_notN
theorem t_isN {j pos'} (ha : PE X a (tE (gx X tb) E da)) : PT X (.Compare a [.Is] [.Constant .none j pos'] pos) (tT (gx X tb) E (d1 isNT da)) := (pt_cmp (pc_isN ha)).imp fun σ H Q h => tE_isN σ H _ h
theorem t_notN {j pos'} (ha : PE X a (tE (gx X tb) E da)) : PT X (.Compare a [.IsNot] [.Constant .none j pos'] pos) (tT (gx X tb) E (d1 notNT da)) := (pt_cmp (pc_notN ha)).imp fun σ H Q h => tE_notN σ H _ h
/-! ### one-place operators, in -/
def negT : T → Mem → Res := fun x μ => match x with
  | .int i => .ok (.int (-i)) μ
  | _ => .bad
theorem e_neg (ha : PE X a (tE (gx X tb) E da)) : PE X (.UnaryOp .USub a pos) (tE (gx X tb) E (d1 negT da)) := (pe_un un_neg ha).imp fun σ H Q h => by
  obtain ⟨ρ, σT, μ, m, l, h⟩ := h
  refine bindE m l h fun x μ1 ρ1 v H1 e1 m1 l1 dx h1 => ?_
  unfold negT at h1
  split at h1
  · exact ⟨_, dx, h1.same m1 rfl⟩
  · exact h1.elim
/-- == of flat values -/
def flatT : T → Bool
  | .non => true | .bl _ => true | .int _ => true | .str _ => true
  | _ => false
def eqF : T → T → Bool
  | .non, .non => true
  | .bl a, .bl b => a == b
  | .bl a, .int b => (if a then 1 else 0) == b
  | .int a, .bl b => a == (if b then 1 else 0)
  | .int a, .int b => a == b
  | .str a, .str b => a == b
  | _, _ => false
theorem flat_of {K : PySem.W.Frag} {ρ : Nat → Addr} {n : Nat} {H : Hp} {t : T} {v : V} (h : DV K ρ n H t v) (f : flatT t = true) : flatV v = true := by
  cases t with
  | non => rw [show v = _ from h]; rfl
  | bl _ => rw [show v = _ from h]; rfl
  | int _ => rw [show v = _ from h]; rfl
  | str _ => rw [show v = _ from h]; rfl
  | _ => exact absurd f (by simp [flatT])
theorem eqF_of {K : PySem.W.Frag} {ρ : Nat → Addr} {n : Nat} {H : Hp} {t u : T} {v w : V} (h : DV K ρ n H t v) (h' : DV K ρ n H u w) (f : flatT t = true) (f' : flatT u = true) : eqV v w = eqF t u := by
  cases t <;> first
    | (exfalso; revert f; simp [flatT]; done)
    | (cases u <;> first
        | (exfalso; revert f'; simp [flatT]; done)
        | (rw [show v = _ from h, show w = _ from h']; rfl))
theorem any_eqF {K : PySem.W.Frag} {ρ : Nat → Addr} {n : Nat} {H : Hp} {t : T} {v : V} (h : DV K ρ n H t v) (f : flatT t = true) : ∀ {ts : List T} {vs : List V}, DVs K ρ n H ts vs → ts.all flatT = true → (vs.any fun y => eqV y v) = (ts.any fun y => eqF y t) ∧ vs.all flatV = true
  | [], _, d, _ => by rw [show _ = [] from d]; exact ⟨rfl, rfl⟩
  | x :: ts, _, d, hf => by
    obtain ⟨y, r, rfl, h2, h3⟩ := d
    simp only [List.all_cons, Bool.and_eq_true] at hf ⊢
    obtain ⟨i1, i2⟩ := any_eqF h f h3 hf.2
    simp only [List.any_cons]
    exact ⟨by rw [i1, eqF_of h2 h hf.1 f], flat_of h2 hf.1, i2⟩
def seqT (μ : Mem) : T → Option (List T)
  | .tup ts => some ts
  | .ref k => match μ[k]? with
    | some (.lst ts) => some ts
    | _ => none
  | _ => none
theorem seqT_of {g : G} {ρ : Nat → Addr} {μ : Mem} {H : Hp} (m : MRel g ρ μ H) {t : T} {v : V} {ts : List T} (h : DV g.K ρ μ.length H t v) (e : seqT μ t = some ts) : ∃ a vs, v = .ref a ∧ (SqL g.K H a vs ∨ SqT g.K H a vs) ∧ DVs g.K ρ μ.length H ts vs := by
  cases t with
  | tup us =>
    obtain ⟨a, vs, rfl, h2, h3⟩ := h
    cases e
    exact ⟨a, vs, rfl, .inr h2, h3⟩
  | ref k =>
    obtain ⟨h1, rfl⟩ := h
    unfold seqT at e
    dsimp only at e
    split at e
    · rename_i us hk
      cases e
      obtain ⟨ho, q1, vs, rfl, q2⟩ := m.ob k _ hk
      exact ⟨_, vs, rfl, .inl (SqL.of q1), q2⟩
    · cases e
  | _ => cases e
def inB : T → T → Mem → Option Bool := fun x y μ => match x, y with
  | .str c, .str z => match c.cps.toList with
    | [ch] => some (decide (ch ∈ z.cps.toList))
    | _ => none
  | x, y => match seqT μ y with
    | some ts => if flatT x = true ∧ ts.all flatT = true then some (ts.any fun z => eqF z x) else
        match toD μ x, refD μ 4 (match y with | .ref k => k | _ => μ.length) with
          | some d, some (.list ds) => if SeqAt.shaped d = true ∧ SeqAt.shaped (.list ds) = true then some (ds.any fun z => PyData.eqv z d) else none
          | _, _ => none
    | none => none
def inT : T → T → Mem → Res := fun x y μ => match inB x y μ with
  | some b => .ok (.bl b) μ
  | none => .bad
def notInT : T → T → Mem → Res := fun x y μ => match inB x y μ with
  | some b => .ok (.bl (!b)) μ
  | none => .bad
theorem str_one {c : Str} {ch : Nat} (h : c.cps.toList = [ch]) : c = ⟨#[ch]⟩ := by
  obtain ⟨a⟩ := c
  have : a = #[ch] := by
    apply Array.toList_inj.mp
    simpa using h
  rw [this]
theorem inB_of {x y : T} {v u : V} {ρ : Nat → Addr} {μ : Mem} {H : Hp} {b : Bool} (m : MRel (gx X tb) ρ μ H) (dx : DV X.K ρ μ.length H x v) (dy : DV X.K ρ μ.length H y u) (e : inB x y μ = some b) :
    (∃ (c : Nat) (z : Str), v = .str ⟨#[c]⟩ ∧ u = .str z ∧ b = decide (c ∈ z.cps.toList)) ∨ (∃ p xs, u = .ref p ∧ (SqL X.K H p xs ∨ SqT X.K H p xs) ∧ flatV v = true ∧ xs.all flatV = true ∧ b = inV v xs) ∨
      (∃ d ds, Dp X.K H v d ∧ Dp X.K H u (.list ds) ∧ SeqAt.shaped d = true ∧ SeqAt.shaped (.list ds) = true ∧ b = ds.any fun z => PyData.eqv z d) := by
  unfold inB at e
  split at e
  · rename_i c z
    split at e
    · rename_i ch hc
      cases e
      rw [show v = _ from dx, show u = _ from dy]
      exact .inl ⟨ch, z, by rw [str_one hc], rfl, rfl⟩
    · cases e
  · split at e
    · rename_i ts hts
      split at e
      · rename_i hf
        cases e
        obtain ⟨a, vs, rfl, h2, h3⟩ := seqT_of m dy hts
        obtain ⟨i1, i2⟩ := any_eqF dx hf.1 h3 hf.2
        exact .inr (.inl ⟨a, vs, rfl, h2, flat_of dx hf.1, i2, i1.symm⟩)
      · split at e
        · rename_i d ds e1 e2
          split at e
          · rename_i hs
            cases e
            refine .inr (.inr ⟨d, ds, toD_dp (g := gx X tb) m dx e1, ?_, hs.1, hs.2, rfl⟩)
            cases y with
            | ref k =>
              obtain ⟨h1, rfl⟩ := dy
              exact refD_dp m 4 k _ e2
            | _ =>
              exfalso
              unfold refD at e2
              rw [List.getElem?_eq_none (Nat.le_refl _)] at e2
              cases e2
          · cases e
        · cases e
    · cases e
theorem opl_in (hu : X.A.units + 65 < cLine) : OpL X tb (compareOp .In) inT := by
  refine ⟨_, op_in_sign.or (op_in_seq.or (op_inD hu)), fun E Q ρ μ H x y v u m dx dy g => ?_⟩
  unfold inT at g
  split at g
  · rename_i b hb
    rcases inB_of m dx dy hb with ⟨c, z, e1, e2, e3⟩ | ⟨p, xs, e1, e2, e3, e4, e5⟩ | ⟨d, ds, e1, e2, e3, e4, e5⟩
    · exact .inl ⟨c, z, e1, e2, by rw [← e3]; exact g.same m rfl⟩
    · exact .inr (.inl ⟨p, xs, e1, e2, e3, e4, by show Q (.bl (inV v xs)) H; rw [← e5]; exact g.same m rfl⟩)
    · exact .inr (.inr ⟨d, ds, e1, e2, e3, e4, by rw [← e5]; exact g.same m rfl⟩)
  · exact g.elim
theorem opl_notIn (hu : X.A.units + 65 < cLine) : OpL X tb (compareOp .NotIn) notInT := by
  refine ⟨_, op_notIn_sign.or (op_notIn_seq.or (op_notInD hu)), fun E Q ρ μ H x y v u m dx dy g => ?_⟩
  unfold notInT at g
  split at g
  · rename_i b hb
    rcases inB_of m dx dy hb with ⟨c, z, e1, e2, e3⟩ | ⟨p, xs, e1, e2, e3, e4, e5⟩ | ⟨d, ds, e1, e2, e3, e4, e5⟩
    · exact .inl ⟨c, z, e1, e2, by rw [← e3]; exact g.same m rfl⟩
    · exact .inr (.inl ⟨p, xs, e1, e2, e3, e4, by show Q (.bl (!inV v xs)) H; rw [← e5]; exact g.same m rfl⟩)
    · exact .inr (.inr ⟨d, ds, e1, e2, e3, e4, by rw [← e5]; exact g.same m rfl⟩)
  · exact g.elim
/-! ### items -/
def ixT : T → T → Mem → Res := fun x y μ => match y with
  | .int i => match x with
    | .str z => if z.length ≤ sizeLine then (match atI z.cps.toList i with
      | some c => .ok (.str ⟨#[c]⟩) μ
      | none => .bad) else .bad
    | _ => match seqT μ x with
      | some ts => match atI ts i with
        | some t => .ok t μ
        | none => .bad
      | none => .bad
  | _ => .bad
theorem DVs.atI {K : PySem.W.Frag} {ρ : Nat → Addr} {n : Nat} {H : Hp} {ts : List T} {vs : List V} {i : Int} {t : T} (h : DVs K ρ n H ts vs) (e : L2.atI ts i = some t) : ∃ v, L2.atI vs i = some v ∧ DV K ρ n H t v := by
  unfold L2.atI at e ⊢
  rw [← h.length]
  cases q : ixN ts.length i with
  | none => rw [q] at e; cases e
  | some j =>
    rw [q] at e
    exact h.get e
theorem ixl : IxL X tb ixT := by
  refine ⟨_, ix_seq, fun E Q ρ μ H x y v u m dx dy g => ?_⟩
  unfold ixT at g
  split at g
  · rename_i i
    have hu : u = V.int i := dy
    subst hu
    split at g
    · rename_i z
      split at g
      · rename_i hz
        split at g
        · rename_i c hc
          exact .inr (.inr ⟨z, i, c, dx, rfl, hz, hc, g.same m rfl⟩)
        · exact g.elim
      · exact g.elim
    · split at g
      · rename_i ts hts
        split at g
        · rename_i t ht
          obtain ⟨a, vs, rfl, h2, h3⟩ := seqT_of m dx hts
          obtain ⟨w, hw, dw⟩ := h3.atI ht
          rcases h2 with h2 | h2
          · exact .inl ⟨a, vs, i, w, rfl, rfl, h2, hw, g.same m dw⟩
          · exact .inr (.inl ⟨a, vs, i, w, rfl, rfl, h2, hw, g.same m dw⟩)
        · exact g.elim
      · exact g.elim
  · exact g.elim
end
end TL
set_option Elab.async false
set_option linter.all false
set_option maxRecDepth 100000
set_option maxHeartbeats 2000000
/-! TL4: lists just made, what is walked, statements -/
namespace TL
open PySem PySem.Spec PyProof.Rows L2
section
variable {K : PySem.W.Frag} {ρ ρ1 : Nat → Addr} {n n1 : Nat} {H H1 : Hp}
mutual
theorem DV.ren (hk : ∀ k, k < n → k < n1 ∧ ρ1 k = ρ k) (hs : ∀ a vs, (SqT K H a vs → SqT K H1 a vs) ∧ (FSq K H a vs → FSq K H1 a vs) ∧ ∀ ws, H a = some (.xd ws) → H1 a = some (.xd ws)) : ∀ {t : T} {v : V}, DV K ρ n H t v → DV K ρ1 n1 H1 t v
  | .non, _, h => h
  | .bl _, _, h => h
  | .int _, _, h => h
  | .str _, _, h => h
  | .er _ _, _, h => ⟨h.1, fun dx hd => let ⟨ws, q⟩ := h.2 dx hd; ⟨ws, (hs dx []).2.2 ws q⟩⟩
  | .fl _, _, h => by
    obtain ⟨a, h1, h2⟩ := h
    exact ⟨a, h1, (hs a _).2.1 h2⟩
  | .ref k, _, h => by
    obtain ⟨h1, h2⟩ := h
    exact ⟨(hk k h1).1, by rw [(hk k h1).2]; exact h2⟩
  | .tup ts, _, h => by
    obtain ⟨a, vs, h1, h2, h3⟩ := h
    exact ⟨a, vs, h1, (hs a vs).1 h2, DVs.ren hk hs h3⟩
theorem DVs.ren (hk : ∀ k, k < n → k < n1 ∧ ρ1 k = ρ k) (hs : ∀ a vs, (SqT K H a vs → SqT K H1 a vs) ∧ (FSq K H a vs → FSq K H1 a vs) ∧ ∀ ws, H a = some (.xd ws) → H1 a = some (.xd ws)) : ∀ {ts : List T} {vs : List V}, DVs K ρ n H ts vs → DVs K ρ1 n1 H1 ts vs
  | [], _, h => h
  | t :: ts, _, h => by
    obtain ⟨v, r, h1, h2, h3⟩ := h
    exact ⟨v, r, h1, DV.ren hk hs h2, DVs.ren hk hs h3⟩
end
theorem DVk.ren {κ : Type} (hk : ∀ k, k < n → k < n1 ∧ ρ1 k = ρ k) (hs : ∀ a vs, (SqT K H a vs → SqT K H1 a vs) ∧ (FSq K H a vs → FSq K H1 a vs) ∧ ∀ ws, H a = some (.xd ws) → H1 a = some (.xd ws)) : ∀ {ts : List (κ × T)} {vs : List (κ × V)}, DVk K ρ n H ts vs → DVk K ρ1 n1 H1 ts vs
  | [], _, h => h
  | t :: ts, _, h => by
    obtain ⟨v, r, h1, h2, h3⟩ := h
    exact ⟨v, r, h1, DV.ren hk hs h2, DVk.ren hk hs h3⟩
end
theorem MOr.ren {g : G} {ρ ρ1 : Nat → Addr} {n n1 : Nat} {H H1 : Hp} {o : MO} {ho : HO} (hk : ∀ k, k < n → k < n1 ∧ ρ1 k = ρ k) (hs : ∀ a vs, (SqT g.K H a vs → SqT g.K H1 a vs) ∧ (FSq g.K H a vs → FSq g.K H1 a vs) ∧ ∀ ws, H a = some (.xd ws) → H1 a = some (.xd ws)) (h : MOr g ρ n H o ho) : MOr g ρ1 n1 H1 o ho := by
  cases o with
  | lst ts => obtain ⟨vs, h1, h2⟩ := h; exact ⟨vs, h1, h2.ren hk hs⟩
  | dct ts => obtain ⟨vs, h1, h2⟩ := h; exact ⟨vs, h1, h2.ren hk hs⟩
  | ins c ts => obtain ⟨C, dx, vs, h0, h1, h2⟩ := h; exact ⟨C, dx, vs, h0, h1, h2.ren hk hs⟩
  | lck ts => obtain ⟨od, vs, h1, h2⟩ := h; exact ⟨od, vs, h1, h2.ren hk hs⟩
/-! ### lists just made: their items, outside the memory -/
inductive LRes where
  | ok (ts : List T) (μ : Mem)
  | exc (c : Str) (fs : List (Str × T)) (μ : Mem)
  | bad
def LRes.bind (r : LRes) (k : List T → Mem → Res) : Res := match r with
  | .ok ts μ => k ts μ
  | .exc c fs μ => .exc c fs μ
  | .bad => .bad
def Res.bindL (r : Res) (k : T → Mem → LRes) : LRes := match r with
  | .ok t μ => k t μ
  | .exc c fs μ => .exc c fs μ
  | .bad => .bad
abbrev LM := List (Option T) → Mem → LRes
/-- p: where the list stands -/
def GoodL (g : G) (E : XK) (Q : VK) (ρ : Nat → Addr) (n : Nat) (H : Hp) : LRes → Prop
  | .ok ts μ => ∀ ρ' p vs H', Ext g ρ n H ρ' μ.length H' → MRel g ρ' μ H' → H' p = some (.lst vs) → Nt H p → (∀ i, i < μ.length → ρ' i ≠ p) → DVs g.K ρ' μ.length H' ts vs → Q (.ref p) H'
  | .exc c fs μ => ∀ ρ' H' C d, Ext g ρ n H ρ' μ.length H' → MRel g ρ' μ H' → g.mg c = some (.ref C) → XD g ρ' μ.length H' fs d → E (.ref C) d H'
  | .bad => False
def tL (g : G) (E : XK) (d : LM) : TE := fun σ H Q => ∃ ρ σT μ, MRel g ρ μ H ∧ LRel g.K ρ μ.length H σT σ ∧ GoodL g E Q ρ μ.length H (d σT μ)
section
variable {g : G} {E : XK} {Q : VK} {ρ ρ' : Nat → Addr} {n n' : Nat} {H H' : Hp} {r : LRes}
theorem GoodL.later (e : Ext g ρ n H ρ' n' H') (h : GoodL g E Q ρ n H r) : GoodL g E Q ρ' n' H' r := by
  cases r with
  | ok t μ => exact fun ρ2 p vs H2 e2 m h1 h2 h3 d => h ρ2 p vs H2 (e.trans e2) m h1 (e.th _ h2) h3 d
  | exc c fs μ => exact fun ρ2 H2 C d e2 m hc x => h ρ2 H2 C d (e.trans e2) m hc x
  | bad => exact h
/-- the list is laid: what comes is a list just made -/
theorem GoodL.new {μ : Mem} {ts : List T} {vs : List V} {p : Addr} (h : GoodL g E Q ρ μ.length H (.ok ts μ)) (m : MRel g ρ μ H) (d : DVs g.K ρ μ.length H ts vs) (hp : H p = none) : Q (.ref p) (upd H p (.lst vs)) :=
  h ρ p vs _ (Ext.fresh hp _) (m.fresh hp) upd_same (.inl hp) (fun i hi e => by
    obtain ⟨ho, h1, _⟩ := m.ob i μ[i] (by simp [hi])
    rw [e, hp] at h1; cases h1) (d.ext (Ext.fresh hp _))
/-- a list just made, numbered -/
theorem ext_num {μ : Mem} {ts : List T} {vs : List V} {p : Addr} (e : Ext g ρ n H ρ' μ.length H') (m : MRel g ρ' μ H') (h1 : H' p = some (.lst vs)) (h2 : Nt H p) (h3 : ∀ i, i < μ.length → ρ' i ≠ p) (d : DVs g.K ρ' μ.length H' ts vs) :
    Ext g ρ n H (ρadd ρ' μ.length p) (μ ++ [MO.lst ts]).length H' ∧ MRel g (ρadd ρ' μ.length p) (μ ++ [MO.lst ts]) H' ∧ DV g.K (ρadd ρ' μ.length p) (μ ++ [MO.lst ts]).length H' (.ref μ.length) (.ref p) := by
  have hl : (μ ++ [MO.lst ts]).length = μ.length + 1 := by simp
  have ag : ∀ i, i < μ.length → ρadd ρ' μ.length p i = ρ' i := fun i hi => by unfold ρadd; rw [if_neg (Nat.ne_of_lt hi)]
  have at_ : ρadd ρ' μ.length p μ.length = p := by unfold ρadd; rw [if_pos rfl]
  have hk : ∀ k, k < μ.length → k < μ.length + 1 ∧ ρadd ρ' μ.length p k = ρ' k := fun k hk => ⟨Nat.lt_succ_of_lt hk, ag k hk⟩
  rw [hl]
  refine ⟨⟨Nat.le_succ_of_le e.le, fun i hi => (ag i (Nat.lt_of_lt_of_le hi e.le)).trans (e.ag i hi), fun i q1 q2 => ?_, e.kp, e.fx, e.th, e.tb⟩, ⟨fun i j hi hj q => ?_, fun i o q => ?_, m.tb⟩, ⟨Nat.lt_succ_self _, by rw [at_]⟩⟩
  · by_cases hi : i < μ.length
    · rw [ag i hi]; exact e.nw i q1 hi
    · have : i = μ.length := by omega
      rw [this, at_]; exact h2
  · rw [hl] at hi hj
    by_cases h4 : i < μ.length
    · by_cases h5 : j < μ.length
      · rw [ag i h4, ag j h5] at q; exact m.inj i j h4 h5 q
      · have : j = μ.length := by omega
        rw [this, ag i h4, at_] at q
        exact absurd q (h3 i h4)
    · have hi' : i = μ.length := by omega
      by_cases h5 : j < μ.length
      · rw [hi', ag j h5, at_] at q
        exact absurd q.symm (h3 j h5)
      · omega
  · rw [hl]
    by_cases h4 : i < μ.length
    · rw [List.getElem?_append_left h4] at q
      obtain ⟨ho, q1, q2⟩ := m.ob i o q
      exact ⟨ho, by rw [ag i h4]; exact q1, q2.ren hk fun _ _ => ⟨fun z => z, fun z => z, fun _ z => z⟩⟩
    · have hi' : i = μ.length := by
        have := (List.getElem?_eq_some_iff.mp q).1
        rw [hl] at this; omega
      subst hi'
      simp at q
      subst q
      exact ⟨_, by rw [at_]; exact h1, vs, rfl, d.ren hk fun _ _ => ⟨fun z => z, fun z => z, fun _ z => z⟩⟩
end
section
variable {X : Cx} {tb : List (Addr × Str)} {E : XK} {a b : Expr} {da db : EM} {pos : Pos}
def dNew (d : LM) : EM := fun σ μ => (d σ μ).bind fun ts μ1 => .ok (.ref μ1.length) (μ1 ++ [.lst ts])
theorem e_new {d : LM} (h : PE X a (tL (gx X tb) E d)) : PE X a (tE (gx X tb) E (dNew d)) := h.imp fun σ H Q h => by
  obtain ⟨ρ, σT, μ, m, l, h⟩ := h
  refine ⟨ρ, σT, μ, m, l, ?_⟩
  unfold dNew at h
  cases q : d σT μ with
  | ok ts μ1 =>
    rw [q] at h
    intro ρ' p vs H' e m1 h1 h2 h3 d
    obtain ⟨e2, m2, d2⟩ := ext_num e m1 h1 h2 h3 d
    exact h _ _ _ e2 m2 d2
  | exc c fs μ1 =>
    rw [q] at h
    exact h
  | bad =>
    rw [q] at h
    exact h
end
/-! ### sequences by their items -/
abbrev SK := PySem.W.Frag → Hp → Addr → List V → Prop
/-- a list or a tuple; a list -/
abbrev sAny : SK := fun K H a vs => SqL K H a vs ∨ SqT K H a vs
abbrev sLst : SK := fun K H a vs => SqL K H a vs
def GoodS (S : SK) (g : G) (E : XK) (Q : VK) (ρ : Nat → Addr) (n : Nat) (H : Hp) : LRes → Prop
  | .ok ts μ => ∀ ρ' a vs H', Ext g ρ n H ρ' μ.length H' → MRel g ρ' μ H' → S g.K H' a vs → DVs g.K ρ' μ.length H' ts vs → Q (.ref a) H'
  | .exc c fs μ => ∀ ρ' H' C d, Ext g ρ n H ρ' μ.length H' → MRel g ρ' μ H' → g.mg c = some (.ref C) → XD g ρ' μ.length H' fs d → E (.ref C) d H'
  | .bad => False
def tQ (S : SK) (g : G) (E : XK) (d : LM) : TE := fun σ H Q => ∃ ρ σT μ, MRel g ρ μ H ∧ LRel g.K ρ μ.length H σT σ ∧ GoodS S g E Q ρ μ.length H (d σT μ)
def dSeq (d : EM) : LM := fun σ μ => (d σ μ).bindL fun t μ1 => match seqT μ1 t with
  | some ts => .ok ts μ1
  | none => .bad
section
variable {X : Cx} {tb : List (Addr × Str)} {E : XK} {a b e : Expr} {da db : EM} {d : LM} {pos p : Pos}
theorem q_ofL' {S : SK} (hS : ∀ K H a vs, SqL K H a vs → S K H a vs) (h : PE X a (tL (gx X tb) E d)) : PE X a (tQ S (gx X tb) E d) := h.imp fun σ H Q h => by
  obtain ⟨ρ, σT, μ, m, l, h⟩ := h
  refine ⟨ρ, σT, μ, m, l, ?_⟩
  cases q : d σT μ with
  | ok ts μ1 => rw [q] at h; exact fun ρ' p vs H' e m1 h1 _ _ d => h ρ' p vs H' e m1 (hS _ _ _ _ (SqL.of h1)) d
  | exc c fs μ1 => rw [q] at h; exact h
  | bad => rw [q] at h; exact h
theorem q_ofL (h : PE X a (tL (gx X tb) E d)) : PE X a (tQ sAny (gx X tb) E d) := q_ofL' (fun _ _ _ _ z => .inl z) h
theorem ql_ofL (h : PE X a (tL (gx X tb) E d)) : PE X a (tQ sLst (gx X tb) E d) := q_ofL' (fun _ _ _ _ z => z) h
theorem q_ofE (h : PE X a (tE (gx X tb) E da)) : PE X a (tQ sAny (gx X tb) E (dSeq da)) := h.imp fun σ H Q h => by
  obtain ⟨ρ, σT, μ, m, l, h⟩ := h
  refine ⟨ρ, σT, μ, m, l, ?_⟩
  unfold dSeq at h
  cases q : da σT μ with
  | ok t μ1 =>
    rw [q] at h
    have h : GoodS sAny (gx X tb) E Q ρ μ.length H (match seqT μ1 t with | some ts => .ok ts μ1 | none => .bad) := h
    intro ρ' v H' e m1 dv
    split at h
    · rename_i ts hts
      obtain ⟨a, vs, rfl, h2, h3⟩ := seqT_of m1 dv hts
      exact h ρ' a vs H' e m1 h2 h3
    · exact h.elim
  | exc c fs μ1 => rw [q] at h; exact h
  | bad => rw [q] at h; exact h
/-- f(e), f a built-in, e a sequence -/
def CallQ (S : SK) (X : Cx) (tb : List (Addr × Str)) (f : Value) (k : List T → Mem → Res) : Prop :=
  ∃ r : List V → Hp → VK → Prop, CallR X f r ∧ ∀ (E : XK) (Q : VK) (ρ : Nat → Addr) (μ : Mem) (H : Hp) (ts : List T) (a : Addr) (vs : List V), MRel (gx X tb) ρ μ H → S X.K H a vs → DVs X.K ρ μ.length H ts vs → Good (gx X tb) E Q ρ μ.length H (k ts μ) → r [.ref a] H Q
def CallQL (S : SK) (X : Cx) (tb : List (Addr × Str)) (f : Value) (k : List T → Mem → LRes) : Prop :=
  ∃ r : List V → Hp → VK → Prop, CallR X f r ∧ ∀ (E : XK) (Q : VK) (ρ : Nat → Addr) (μ : Mem) (H : Hp) (ts : List T) (a : Addr) (vs : List V), MRel (gx X tb) ρ μ H → S X.K H a vs → DVs X.K ρ μ.length H ts vs → GoodL (gx X tb) E Q ρ μ.length H (k ts μ) → r [.ref a] H Q
def LRes.bindL (r : LRes) (k : List T → Mem → LRes) : LRes := match r with
  | .ok t μ => k t μ
  | .exc c fs μ => .exc c fs μ
  | .bad => .bad
def dQ (k : List T → Mem → Res) (d : LM) : EM := fun σ μ => (d σ μ).bind k
def dQL (k : List T → Mem → LRes) (d : LM) : LM := fun σ μ => (d σ μ).bindL k
theorem tE_q {S : SK} {r : List V → Hp → VK → Prop} {k : List T → Mem → Res} (hr : ∀ (E : XK) (Q : VK) (ρ : Nat → Addr) (μ : Mem) (H : Hp) (ts : List T) (a : Addr) (vs : List V), MRel (gx X tb) ρ μ H → S X.K H a vs → DVs X.K ρ μ.length H ts vs → Good (gx X tb) E Q ρ μ.length H (k ts μ) → r [.ref a] H Q) :
    ∀ σ H Q, tE (gx X tb) E (dQ k d) σ H Q → tCB r (tCons (tQ S (gx X tb) E d) tNil) σ H Q := fun σ H Q h => by
  obtain ⟨ρ, σT, μ, m, l, h⟩ := h
  refine ⟨ρ, σT, μ, m, l, ?_⟩
  unfold dQ at h
  cases q : d σT μ with
  | ok ts μ1 =>
    rw [q] at h
    exact fun ρ' a vs H' e m1 h2 h3 => hr E Q ρ' μ1 H' ts a vs m1 h2 h3 (Good.later (r := k ts μ1) e h)
  | exc c fs μ1 => rw [q] at h; exact h
  | bad => rw [q] at h; exact h
theorem tL_q {S : SK} {r : List V → Hp → VK → Prop} {k : List T → Mem → LRes} (hr : ∀ (E : XK) (Q : VK) (ρ : Nat → Addr) (μ : Mem) (H : Hp) (ts : List T) (a : Addr) (vs : List V), MRel (gx X tb) ρ μ H → S X.K H a vs → DVs X.K ρ μ.length H ts vs → GoodL (gx X tb) E Q ρ μ.length H (k ts μ) → r [.ref a] H Q) :
    ∀ σ H Q, tL (gx X tb) E (dQL k d) σ H Q → tCB r (tCons (tQ S (gx X tb) E d) tNil) σ H Q := fun σ H Q h => by
  obtain ⟨ρ, σT, μ, m, l, h⟩ := h
  refine ⟨ρ, σT, μ, m, l, ?_⟩
  unfold dQL at h
  cases q : d σT μ with
  | ok ts μ1 =>
    rw [q] at h
    exact fun ρ' a vs H' e m1 h2 h3 => hr E Q ρ' μ1 H' ts a vs m1 h2 h3 (GoodL.later (r := k ts μ1) e h)
  | exc c fs μ1 => rw [q] at h; exact h
  | bad => rw [q] at h; exact h
theorem e_callQB {S : SK} {x : Str} {id : String} {k : List T → Mem → Res} (h : CallQ S X tb (.builtin id) k) (hm : X.mg x = none) (ha : PE X e (tQ S (gx X tb) E d)) (hv : bootBuiltins x = some (.builtin id) := by decide +kernel) (hg : Gl X x := by rfl) 
    (hn : x ≠ "__name__" := by decide) (hdb : (x == ("__debug__" : Str)) = false := by decide) (he : starEach [e] X.env = [(false, eval e X.env)] := by rfl) :
    PE X (.Call (.Name x p) [e] [] pos) (tE (gx X tb) E (dQ k d)) := by
  obtain ⟨r, h1, h2⟩ := h
  exact (pe_callB h1 hg hm hv (pa_cons ha pa_nil he) hn hdb he rfl).imp (tE_q h2)
theorem e_callQT {S : SK} {x : Str} {id : String} {k : List T → Mem → Res} (h : CallQ S X tb (.type id) k) (hm : X.mg x = none) (ha : PE X e (tQ S (gx X tb) E d)) (hv : bootBuiltins x = some (.type id) := by decide +kernel) (hg : Gl X x := by rfl) 
    (hn : x ≠ "__name__" := by decide) (hdb : (x == ("__debug__" : Str)) = false := by decide) (he : starEach [e] X.env = [(false, eval e X.env)] := by rfl) :
    PE X (.Call (.Name x p) [e] [] pos) (tE (gx X tb) E (dQ k d)) := by
  obtain ⟨r, h1, h2⟩ := h
  exact (pe_callTy h1 hg hm hv (pa_cons ha pa_nil he) hn hdb he rfl).imp (tE_q h2)
theorem l_callQB {S : SK} {x : Str} {id : String} {k : List T → Mem → LRes} (h : CallQL S X tb (.builtin id) k) (hm : X.mg x = none) (ha : PE X e (tQ S (gx X tb) E d)) (hv : bootBuiltins x = some (.builtin id) := by decide +kernel) (hg : Gl X x := by rfl) 
    (hn : x ≠ "__name__" := by decide) (hdb : (x == ("__debug__" : Str)) = false := by decide) (he : starEach [e] X.env = [(false, eval e X.env)] := by rfl) :
    PE X (.Call (.Name x p) [e] [] pos) (tL (gx X tb) E (dQL k d)) := by
  obtain ⟨r, h1, h2⟩ := h
  exact (pe_callB h1 hg hm hv (pa_cons ha pa_nil he) hn hdb he rfl).imp (tL_q h2)
theorem l_callQT {S : SK} {x : Str} {id : String} {k : List T → Mem → LRes} (h : CallQL S X tb (.type id) k) (hm : X.mg x = none) (ha : PE X e (tQ S (gx X tb) E d)) (hv : bootBuiltins x = some (.type id) := by decide +kernel) (hg : Gl X x := by rfl) 
    (hn : x ≠ "__name__" := by decide) (hdb : (x == ("__debug__" : Str)) = false := by decide) (he : starEach [e] X.env = [(false, eval e X.env)] := by rfl) :
    PE X (.Call (.Name x p) [e] [] pos) (tL (gx X tb) E (dQL k d)) := by
  obtain ⟨r, h1, h2⟩ := h
  exact (pe_callTy h1 hg hm hv (pa_cons ha pa_nil he) hn hdb he rfl).imp (tL_q h2)
/-! list displays, as lists just made -/
abbrev ALM := List (Option T) → Mem → (List T → Mem → LRes) → LRes
def lNil : ALM := fun _ μ k => k [] μ
def lCons (d : EM) (r : ALM) : ALM := fun σ μ k => (d σ μ).bindL fun x μ1 => r σ μ1 fun xs μ2 => k (x :: xs) μ2
structure ALOk (g : G) (E : XK) (t : TA) (d : ALM) : Prop where
  go : ∀ (Q : VK) (ρ : Nat → Addr) (σT : List (Option T)) (μ : Mem) (σ : L2.St) (H : Hp) (k : List T → Mem → LRes) (R : List V → Hp → Prop), MRel g ρ μ H → LRel g.K ρ μ.length H σT σ → GoodL g E Q ρ μ.length H (d σT μ k) →
    (∀ ts μ1 ρ1 vs H1, Ext g ρ μ.length H ρ1 μ1.length H1 → MRel g ρ1 μ1 H1 → DVs g.K ρ1 μ1.length H1 ts vs → GoodL g E Q ρ1 μ1.length H1 (k ts μ1) → R vs H1) → t σ H R
theorem al_nil {g : G} : ALOk g E tNil lNil := ⟨fun Q ρ σT μ σ H k R m l h hR => hR [] μ ρ [] H (Ext.refl _ _ _ _) m rfl h⟩
theorem al_cons {g : G} {t : TA} {d : EM} {r : ALM} (h : ALOk g E t r) : ALOk g E (tCons (tE g E d) t) (lCons d r) := ⟨fun Q ρ σT μ σ H k R m l hg hR => by
  refine ⟨ρ, σT, μ, m, l, ?_⟩
  unfold lCons at hg
  cases q : d σT μ with
  | ok x μ1 =>
    rw [q] at hg
    intro ρ1 v H1 e1 m1 dx
    exact h.go Q ρ1 σT μ1 σ H1 _ _ m1 (l.ext e1) (GoodL.later (r := r σT μ1 fun xs μ2 => k (x :: xs) μ2) e1 hg) fun ts μ2 ρ2 vs H2 e2 m2 ds q2 => hR (x :: ts) μ2 ρ2 (v :: vs) H2 (e1.trans e2) m2 (.cons (dx.ext e2) ds) q2
  | exc c fs μ1 => rw [q] at hg; exact hg
  | bad => rw [q] at hg; exact hg⟩
structure PAl (X : Cx) (tb : List (Addr × Str)) (E : XK) (es : List Expr) (d : ALM) : Prop where
  ex : ∃ t, PA X es t ∧ ALOk (gx X tb) E t d
theorem m_nil : PAl X tb E [] lNil := ⟨⟨_, pa_nil, al_nil⟩⟩
theorem m_cons {e : Expr} {es : List Expr} {d : EM} {r : ALM} (he : PE X e (tE (gx X tb) E d)) (hr : PAl X tb E es r) (hs : starEach (e :: es) X.env = (false, eval e X.env) :: starEach es X.env := by rfl) : PAl X tb E (e :: es) (lCons d r) := by
  obtain ⟨t, h1, h2⟩ := hr.ex
  exact ⟨⟨_, pa_cons he h1 hs, al_cons h2⟩⟩
def dLstL (d : ALM) : LM := fun σ μ => d σ μ fun ts μ1 => if ts.length ≤ sizeLine then .ok ts μ1 else .bad
theorem l_lst {es : List Expr} {d : ALM} (h : PAl X tb E es d) : PE X (.List es pos) (tL (gx X tb) E (dLstL d)) := by
  obtain ⟨t, h1, h2⟩ := h.ex
  refine (pe_lst h1).imp fun σ H Q h => ?_
  obtain ⟨ρ, σT, μ, m, l, h⟩ := h
  refine h2.go Q ρ σT μ σ H _ _ m l h fun ts μ1 ρ1 vs H1 e1 m1 ds q1 => ?_
  split at q1
  · rename_i hz
    exact ⟨by rw [← ds.length]; exact hz, fun p hp => q1.new m1 ds hp⟩
  · exact q1.elim
/-! what the built-ins do with sequences -/
def lenQ : List T → Mem → Res := fun ts μ => .ok (.int ts.length) μ
theorem cq_len : CallQ sAny X tb (.builtin "len") lenQ := ⟨_, call_len_seq, fun E Q ρ μ H ts a vs m h d g => ⟨a, vs, rfl, h, by rw [← d.length]; exact g.same m rfl⟩⟩
def tupQ : List T → Mem → Res := fun ts μ => .ok (.tup ts) μ
theorem cq_tuple : CallQ sAny X tb (.type "tuple") tupQ := ⟨_, call_tuple_of, fun E Q ρ μ H ts a vs m h d g => ⟨a, vs, rfl, h.elim (fun h => .inl ⟨h, fun p hp => g.tup m d hp⟩) fun h => .inr ⟨h, g.same m ⟨a, vs, rfl, h, d⟩⟩⟩⟩
def lstQ : List T → Mem → LRes := fun ts μ => .ok ts μ
theorem cq_list : CallQL sAny X tb (.type "list") lstQ := ⟨_, call_list_of, fun E Q ρ μ H ts a vs m h d g => ⟨a, vs, rfl, h, fun p hp => g.new m d hp⟩⟩
def unB : List T → Option (List Bool)
  | [] => some []
  | .bl b :: r => (unB r).map fun bs => b :: bs
  | _ :: _ => none
theorem unB_of {K : PySem.W.Frag} {ρ : Nat → Addr} {n : Nat} {H : Hp} : ∀ {ts : List T} {vs : List V} {bs : List Bool}, DVs K ρ n H ts vs → unB ts = some bs → vs = bs.map V.bl
  | [], _, _, d, e => by rw [show _ = [] from d]; cases e; rfl
  | .bl b :: r, _, _, d, e => by
    obtain ⟨v, w, rfl, h2, h3⟩ := d
    simp only [unB, Option.map_eq_some_iff] at e
    obtain ⟨cs, e1, rfl⟩ := e
    rw [unB_of h3 e1, show v = _ from h2]
    rfl
  | .non :: _, _, _, _, e => by simp [unB] at e
  | .int _ :: _, _, _, _, e => by simp [unB] at e
  | .str _ :: _, _, _, _, e => by simp [unB] at e
  | .tup _ :: _, _, _, _, e => by simp [unB] at e
  | .ref _ :: _, _, _, _, e => by simp [unB] at e
  | .er _ _ :: _, _, _, _, e => by simp [unB] at e
  | .fl _ :: _, _, _, _, e => by simp [unB] at e
def unI : List T → Option (List Int)
  | [] => some []
  | .int b :: r => (unI r).map fun bs => b :: bs
  | _ :: _ => none
theorem unI_of {K : PySem.W.Frag} {ρ : Nat → Addr} {n : Nat} {H : Hp} : ∀ {ts : List T} {vs : List V} {bs : List Int}, DVs K ρ n H ts vs → unI ts = some bs → vs = bs.map V.int
  | [], _, _, d, e => by rw [show _ = [] from d]; cases e; rfl
  | .int b :: r, _, _, d, e => by
    obtain ⟨v, w, rfl, h2, h3⟩ := d
    simp only [unI, Option.map_eq_some_iff] at e
    obtain ⟨cs, e1, rfl⟩ := e
    rw [unI_of h3 e1, show v = _ from h2]
    rfl
  | .non :: _, _, _, _, e => by simp [unI] at e
  | .bl _ :: _, _, _, _, e => by simp [unI] at e
  | .str _ :: _, _, _, _, e => by simp [unI] at e
  | .tup _ :: _, _, _, _, e => by simp [unI] at e
  | .ref _ :: _, _, _, _, e => by simp [unI] at e
  | .er _ _ :: _, _, _, _, e => by simp [unI] at e
  | .fl _ :: _, _, _, _, e => by simp [unI] at e
def unS : List T → Option (List Str)
  | [] => some []
  | .str b :: r => (unS r).map fun bs => b :: bs
  | _ :: _ => none
theorem unS_of {K : PySem.W.Frag} {ρ : Nat → Addr} {n : Nat} {H : Hp} : ∀ {ts : List T} {vs : List V} {bs : List Str}, DVs K ρ n H ts vs → unS ts = some bs → vs = bs.map V.str
  | [], _, _, d, e => by rw [show _ = [] from d]; cases e; rfl
  | .str b :: r, _, _, d, e => by
    obtain ⟨v, w, rfl, h2, h3⟩ := d
    simp only [unS, Option.map_eq_some_iff] at e
    obtain ⟨cs, e1, rfl⟩ := e
    rw [unS_of h3 e1, show v = _ from h2]
    rfl
  | .non :: _, _, _, _, e => by simp [unS] at e
  | .bl _ :: _, _, _, _, e => by simp [unS] at e
  | .int _ :: _, _, _, _, e => by simp [unS] at e
  | .tup _ :: _, _, _, _, e => by simp [unS] at e
  | .ref _ :: _, _, _, _, e => by simp [unS] at e
  | .er _ _ :: _, _, _, _, e => by simp [unS] at e
  | .fl _ :: _, _, _, _, e => by simp [unS] at e
end
end TL
set_option Elab.async false
set_option linter.all false
set_option maxRecDepth 100000
set_option maxHeartbeats 2000000
/-! TL5: what is walked, targets, statements, comprehensions -/
namespace TL
open PySem PySem.Spec PyProof.Rows L2
/-! ### equality that computes -/
mutual
def T.beq : T → T → Bool
  | .non, .non => true
  | .bl a, .bl b => a == b
  | .int a, .int b => a == b
  | .str a, .str b => a == b
  | .ref a, .ref b => a == b
  | .er a d, .er b f => a == b && d == f
  | .fl a, .fl b => a == b
  | .tup a, .tup b => T.beqs a b
  | _, _ => false
def T.beqs : List T → List T → Bool
  | [], [] => true
  | a :: r, b :: s => T.beq a b && T.beqs r s
  | _, _ => false
end
mutual
theorem T.beq_eq : ∀ {a b : T}, T.beq a b = true → a = b
  | .non, b, h => by cases b <;> first | rfl | simp [T.beq] at h
  | .bl _, b, h => by cases b <;> first | (simp [T.beq] at h; rw [h]) | simp [T.beq] at h
  | .int _, b, h => by cases b <;> first | (simp [T.beq] at h; rw [h]) | simp [T.beq] at h
  | .str _, b, h => by cases b <;> first | (simp [T.beq] at h; rw [h]) | simp [T.beq] at h
  | .ref _, b, h => by cases b <;> first | (simp [T.beq] at h; rw [h]) | simp [T.beq] at h
  | .er _ _, b, h => by cases b <;> first | (simp [T.beq] at h; rw [h.1, h.2]) | simp [T.beq] at h
  | .fl _, b, h => by cases b <;> first | (simp [T.beq] at h; rw [h]) | simp [T.beq] at h
  | .tup xs, b, h => by
    cases b with
    | tup ys => simp [T.beq] at h; rw [T.beqs_eq h]
    | _ => simp [T.beq] at h
theorem T.beqs_eq : ∀ {a b : List T}, T.beqs a b = true → a = b
  | [], b, h => by cases b <;> first | rfl | simp [T.beqs] at h
  | x :: r, b, h => by
    cases b with
    | nil => simp [T.beqs] at h
    | cons y s => simp [T.beqs] at h; rw [T.beq_eq h.1, T.beqs_eq h.2]
end
mutual
theorem T.beq_self : ∀ a : T, T.beq a a = true
  | .non => by simp [T.beq]
  | .bl _ => by simp [T.beq]
  | .int _ => by simp [T.beq]
  | .str _ => by simp [T.beq]
  | .ref _ => by simp [T.beq]
  | .er _ _ => by simp [T.beq]
  | .fl _ => by simp [T.beq]
  | .tup xs => by simp only [T.beq]; exact T.beqs_self xs
theorem T.beqs_self : ∀ a : List T, T.beqs a a = true
  | [] => by simp [T.beqs]
  | x :: r => by simp only [T.beqs, T.beq_self x, T.beqs_self r, Bool.and_true]
end
/-- the lists at ws are as they were -/
def watched (ws : List (Nat × List T)) (μ : Mem) : Bool := ws.all fun w => match μ[w.1]? with
  | some (.lst ts) => T.beqs ts w.2
  | _ => false
theorem watched_at {ws : List (Nat × List T)} {μ : Mem} (h : watched ws μ = true) : ∀ w ∈ ws, μ[w.1]? = some (.lst w.2) := fun w hw => by
  have := List.all_eq_true.mp h w hw
  split at this
  · rename_i ts e
    rw [e, T.beqs_eq this]
  · cases this
theorem watched_nil (μ : Mem) : watched [] μ = true := rfl
theorem watched_one {k : Nat} {ts : List T} {μ : Mem} (h : μ[k]? = some (.lst ts)) : watched [(k, ts)] μ = true := by
  unfold watched
  simp only [List.all_cons, List.all_nil, Bool.and_true]
  rw [h]
  exact T.beqs_self ts
/-! ### what is walked -/
inductive IRes where
  | its (xs : List T) (ws : List (Nat × List T)) (μ : Mem)
  | exc (c : Str) (fs : List (Str × T)) (μ : Mem)
  | bad
abbrev IM := List (Option T) → Mem → IRes
def Walks (g : G) (ws : List (Nat × List T)) (ρ : Nat → Addr) (n : Nat) (H : Hp) (J : It) (xs : List T) : Prop :=
  ∀ ρ' μ' H', Ext g ρ n H ρ' μ'.length H' → MRel g ρ' μ' H' → watched ws μ' = true → ∀ i,
    (∀ t, xs[i]? = some t → J.go i H' ∧ ∀ x H3, J.yld i H' x H3 → Ext g ρ' μ'.length H' ρ' μ'.length H3 ∧ MRel g ρ' μ' H3 ∧ DV g.K ρ' μ'.length H3 t x) ∧ (xs.length ≤ i → J.stop i H')
def GoodI (g : G) (E : XK) (R : It → Hp → Prop) (ρ : Nat → Addr) (n : Nat) (H : Hp) (k : List T → List (Nat × List T) → (ρ : Nat → Addr) → Mem → Hp → Prop) : IRes → Prop
  | .its xs ws μ => ∀ ρ' J H', Ext g ρ n H ρ' μ.length H' → MRel g ρ' μ H' → Walks g ws ρ' μ.length H' J xs → k xs ws ρ' μ H' → R J H'
  | .exc c fs μ => ∀ ρ' H' C d, Ext g ρ n H ρ' μ.length H' → MRel g ρ' μ H' → g.mg c = some (.ref C) → XD g ρ' μ.length H' fs d → E (.ref C) d H'
  | .bad => False
def tI (g : G) (E : XK) (d : IM) : TI := fun σ H R => ∃ ρ σT μ, MRel g ρ μ H ∧ LRel g.K ρ μ.length H σT σ ∧ GoodI g E R ρ μ.length H (fun _ _ _ _ _ => True) (d σT μ)
theorem _root_.L2.PI.imp {X : Cx} {tg e : Expr} {t t' : TI} (h : PI X tg e t) (hi : ∀ σ H R, t' σ H R → t σ H R) : PI X tg e t' := ⟨fun pins s σ H R I q => h.run pins s σ H R I (hi σ H R q)⟩
section
variable {X : Cx} {tb : List (Addr × Str)} {E : XK} {tg e : Expr} {d : EM} {p pos : Pos}
/-- over a list, a tuple or a text -/
def iSeq (K : PySem.W.Frag) (tl : TE) : TI := fun σ H R => tl σ H fun x H1 => (∃ a, x = .ref a ∧ ((∃ xs, SqL K H1 a xs ∧ R (Itl K a) H1) ∨ (∃ xs, SqT K H1 a xs ∧ R (Itt K a) H1))) ∨ ∃ z, x = .str z ∧ R (Its z) H1
theorem pi_seq {l : Expr} {tl : TE} (hl : PE X l tl) : PI X tg l (iSeq X.K tl) := by
  refine ⟨fun pins s σ H R I h => ?_⟩
  -- one of the three rules, at the state behind the evaluation
  have h' : wpAny (model X.prog X.w) X.A (eval l X.env) (EP X pins σ fun x H1 => (∃ a, x = .ref a ∧ ((∃ xs, SqL X.K H1 a xs ∧ R (Itl X.K a) H1) ∨ (∃ xs, SqT X.K H1 a xs ∧ R (Itt X.K a) H1))) ∨ ∃ z, x = .str z ∧ R (Its z) H1) X.xe s := hl.run pins s σ H _ I h
  refine thn h' fun v s1 ⟨x, H1, I1, r1, q1⟩ => ?_
  rcases q1 with ⟨a, e, ⟨xs, hq, q⟩ | ⟨xs, hq, q⟩⟩ | ⟨z, e, q⟩
  · subst e
    cases r1
    obtain ⟨its, rv, p, hz⟩ := I1.list hq
    refine wpAny_pyIter_list p.isList ?_
    refine ⟨s1.heap.objs.size, [s1.heap.objs.size], _, _, H1, rfl, I1.kept (t' := s1.toks) fun b o e => Heap.get?_push_of_some _ e, turn_list a _, ⟨_, Heap.get?_push_size _ rfl, rfl, rfl⟩, fun b hb => ?_, q⟩
    have e : b = s1.heap.objs.size := by simpa using hb
    subst e
    exact I1.fpOk (Nat.le_refl _) (I1.hok.fresh (Nat.le_refl _))
  · subst e
    cases r1
    obtain ⟨its, rv, p, hz⟩ := I1.tuple hq
    refine wpAny_pyIter_tuple (show s1.heap.IsTuple a its.toArray from p) ?_
    refine ⟨s1.heap.objs.size, [s1.heap.objs.size], _, _, H1, rfl, I1.kept (t' := s1.toks) fun b o e => Heap.get?_push_of_some _ e, turn_tuple a _, ⟨_, Heap.get?_push_size _ rfl, rfl, rfl⟩, fun b hb => ?_, q⟩
    have e : b = s1.heap.objs.size := by simpa using hb
    subst e
    exact I1.fpOk (Nat.le_refl _) (I1.hok.fresh (Nat.le_refl _))
  · subst e
    obtain ⟨t, rfl⟩ := r1
    cases ha : z.cps.all (· < 128)
    · exact wpAny_pyIter_wide ha (pi_one (tk := s1.toks) I1 _ (turn_str _ z t "str_iterator" (.inr rfl)) ⟨_, Heap.get?_push_size _ rfl, rfl, rfl⟩ q)
    · exact wpAny_pyIter_ascii ha (pi_one (tk := s1.toks) I1 _ (turn_str _ z t "str_ascii_iterator" (.inl rfl)) ⟨_, Heap.get?_push_size _ rfl, rfl, rfl⟩ q)
/-- the signs of a text -/
def signsT (z : Str) : List T := z.cps.toList.map fun c => .str ⟨#[c]⟩
def dIter (d : EM) : IM := fun σ μ => match d σ μ with
  | .ok (.tup ts) μ1 => .its ts [] μ1
  | .ok (.str z) μ1 => .its (signsT z) [] μ1
  | .ok (.ref k) μ1 => match μ1[k]? with
    | some (.lst ts) => .its ts [(k, ts)] μ1
    | _ => .bad
  | .ok _ _ => .bad
  | .exc c fs μ1 => .exc c fs μ1
  | .bad => .bad
theorem walks_tup {g : G} {ρ : Nat → Addr} {n : Nat} {H : Hp} {a : Addr} {vs : List V} {ts : List T} (h : SqT g.K H a vs) (d : DVs g.K ρ n H ts vs) : Walks g [] ρ n H (Itt g.K a) ts := fun ρ' μ' H' e m _ i => by
  have h' := SqT.ext e h
  have d' := d.ext e
  refine ⟨fun t ht => ?_, fun hl => ⟨vs, h', by rw [← d.length]; exact hl⟩⟩
  obtain ⟨v, hv, dv⟩ := d'.get ht
  refine ⟨⟨vs, v, h', hv⟩, fun x H3 y => ?_⟩
  obtain ⟨rfl, y⟩ := y
  have := y vs h'
  rw [hv] at this; cases this
  exact ⟨Ext.refl _ _ _ _, m, dv⟩
theorem walks_lst {g : G} {ρ : Nat → Addr} {n : Nat} {H : Hp} {a : Addr} {ts : List T} {ws : List (Nat × List T)} (h : ∀ ρ' μ' H', Ext g ρ n H ρ' μ'.length H' → MRel g ρ' μ' H' → watched ws μ' = true → ∃ vs, SqL g.K H' a vs ∧ DVs g.K ρ' μ'.length H' ts vs) : Walks g ws ρ n H (Itl g.K a) ts := fun ρ' μ' H' e m w i => by
  obtain ⟨vs, h', d'⟩ := h ρ' μ' H' e m w
  refine ⟨fun t ht => ?_, fun hl => ⟨vs, h', by rw [← d'.length]; exact hl⟩⟩
  obtain ⟨v, hv, dv⟩ := d'.get ht
  refine ⟨⟨vs, v, h', hv⟩, fun x H3 y => ?_⟩
  obtain ⟨rfl, y⟩ := y
  have := y vs h'
  rw [hv] at this; cases this
  exact ⟨Ext.refl _ _ _ _, m, dv⟩
theorem walks_str {g : G} {ρ : Nat → Addr} {n : Nat} {H : Hp} {z : Str} : Walks g [] ρ n H (Its z) (signsT z) := fun ρ' μ' H' e m _ i => by
  refine ⟨fun t ht => ?_, fun hl => by
    unfold signsT at hl
    simp only [List.length_map, Array.length_toList] at hl
    exact hl⟩
  unfold signsT at ht
  rw [List.getElem?_map, Option.map_eq_some_iff] at ht
  obtain ⟨c, hc, rfl⟩ := ht
  have hc' : z.cps[i]? = some c := by rw [← Array.getElem?_toList]; exact hc
  refine ⟨(Array.getElem?_eq_some_iff.mp hc').1, fun x H3 y => ?_⟩
  obtain ⟨rfl, c', h1, rfl⟩ := y
  rw [hc'] at h1; cases h1
  exact ⟨Ext.refl _ _ _ _, m, rfl⟩
theorem walks_tmp {g : G} {ρ : Nat → Addr} {n : Nat} {H : Hp} {p : Addr} {vs : List V} {ts : List T} (h : H p = some (.lst vs)) (hp : ∀ i, i < n → ρ i ≠ p) (d : DVs g.K ρ n H ts vs) : Walks g [] ρ n H (Itl g.K p) ts :=
  walks_lst fun ρ' μ' H' e m _ => ⟨vs, SqL.of (e.kp p _ h (fun i hi z => hp i hi z.symm) fun ps z => nomatch z), d.ext e⟩
theorem walks_num {g : G} {ρ : Nat → Addr} {n : Nat} {H : Hp} {k : Nat} {ts : List T} (hk : k < n) : Walks g [(k, ts)] ρ n H (Itl g.K (ρ k)) ts :=
  walks_lst fun ρ' μ' H' e m w => by
    obtain ⟨ho, h1, vs, rfl, h2⟩ := m.ob k _ (watched_at w (k, ts) (by simp))
    rw [e.ag k hk] at h1
    exact ⟨vs, SqL.of h1, h2⟩
theorem i_seq (he : PE X e (tE (gx X tb) E d)) : PI X tg e (tI (gx X tb) E (dIter d)) := (pi_seq he).imp fun σ H R h => by
  obtain ⟨ρ, σT, μ, m, l, h⟩ := h
  refine ⟨ρ, σT, μ, m, l, ?_⟩
  unfold dIter at h
  cases q : d σT μ with
  | ok t μ1 =>
    rw [q] at h
    intro ρ' v H' e m1 dv
    cases t with
    | tup ts =>
      obtain ⟨a, vs, rfl, h2, h3⟩ := dv
      exact .inl ⟨a, rfl, .inr ⟨vs, h2, h ρ' _ H' e m1 (walks_tup h2 h3) True.intro⟩⟩
    | str z => exact .inr ⟨z, dv, h ρ' _ H' e m1 walks_str True.intro⟩
    | ref k =>
      have h : GoodI (gx X tb) E R ρ μ.length H (fun _ _ _ _ _ => True) (match μ1[k]? with | some (.lst ts) => IRes.its ts [(k, ts)] μ1 | _ => IRes.bad) := h
      obtain ⟨hk, rfl⟩ := dv
      split at h
      · rename_i ts hts
        obtain ⟨ho, h1, vs, rfl, h2⟩ := m1.ob k _ hts
        exact .inl ⟨_, rfl, .inl ⟨vs, SqL.of h1, h ρ' _ H' e m1 (walks_num hk) True.intro⟩⟩
      · exact h.elim
    | non => exact False.elim h
    | er _ _ => exact False.elim h
    | fl _ => exact False.elim h
    | bl b => exact False.elim h
    | int b => exact False.elim h
  | exc c fs μ1 => rw [q] at h; exact h
  | bad => rw [q] at h; exact h
def dIterL (d : LM) : IM := fun σ μ => match d σ μ with
  | .ok ts μ1 => .its ts [] μ1
  | .exc c fs μ1 => .exc c fs μ1
  | .bad => .bad
theorem i_lst {dl : LM} (he : PE X e (tL (gx X tb) E dl)) : PI X tg e (tI (gx X tb) E (dIterL dl)) := (pi_list he).imp fun σ H R h => by
  obtain ⟨ρ, σT, μ, m, l, h⟩ := h
  refine ⟨ρ, σT, μ, m, l, ?_⟩
  unfold dIterL at h
  cases q : dl σT μ with
  | ok ts μ1 =>
    rw [q] at h
    exact fun ρ' p vs H' e m1 h1 h2 h3 dv => ⟨p, rfl, ⟨vs, SqL.of h1⟩, h ρ' _ H' e m1 (walks_tmp h1 h3 dv) True.intro⟩
  | exc c fs μ1 => rw [q] at h; exact h
  | bad => rw [q] at h; exact h
/-! ranges -/
def rngL (lo hi : Int) : List T := (List.range (hi - lo).toNat).map fun i => .int (lo + (i : Nat))
theorem walks_rng {g : G} {ρ : Nat → Addr} {n : Nat} {H : Hp} {lo hi : Int} : Walks g [] ρ n H (Itr lo (hi - lo).toNat) (rngL lo hi) := fun ρ' μ' H' e m _ i => by
  refine ⟨fun t ht => ?_, fun hl => by unfold rngL at hl; rw [List.length_map, List.length_range] at hl; exact hl⟩
  unfold rngL at ht
  rw [List.getElem?_map, Option.map_eq_some_iff] at ht
  obtain ⟨j, hj, rfl⟩ := ht
  have hi : i < (hi - lo).toNat ∧ j = i := by
    rw [List.getElem?_eq_some_iff] at hj
    obtain ⟨h1, h2⟩ := hj
    rw [List.getElem_range] at h2
    rw [List.length_range] at h1
    exact ⟨h1, h2.symm⟩
  refine ⟨hi.1, fun x H3 y => ?_⟩
  obtain ⟨rfl, rfl⟩ := y
  rw [hi.2]
  exact ⟨Ext.refl _ _ _ _, m, rfl⟩
def rngOk (i : Int) : Bool := decide (-(2 ^ 62) ≤ i) && decide (i < 2 ^ 62)
def dRng1 (d : EM) : IM := fun σ μ => match d σ μ with
  | .ok (.int j) μ1 => if rngOk j = true then .its (rngL 0 j) [] μ1 else .bad
  | .ok _ _ => .bad
  | .exc c fs μ1 => .exc c fs μ1
  | .bad => .bad
theorem i_range1 {a : Expr} (hm : X.mg "range" = none) (ha : PE X a (tE (gx X tb) E d)) (hg : Gl X "range" := by rfl) (hs : starEach [a] X.env = [(false, eval a X.env)] := by rfl) : PI X tg (.Call (.Name "range" p) [a] [] pos) (tI (gx X tb) E (dRng1 d)) :=
  (pi_range1 hg hm (pa_cons ha pa_nil hs) hs).imp fun σ H R h => by
    obtain ⟨ρ, σT, μ, m, l, h⟩ := h
    refine ⟨ρ, σT, μ, m, l, ?_⟩
    unfold dRng1 at h
    cases q : d σT μ with
    | ok t μ1 =>
      rw [q] at h
      intro ρ' v H' e m1 dv
      cases t with
      | int j =>
        have h : GoodI (gx X tb) E R ρ μ.length H (fun _ _ _ _ _ => True) (if rngOk j = true then IRes.its (rngL 0 j) [] μ1 else .bad) := h
        split at h
        · rename_i hj
          simp only [rngOk, Bool.and_eq_true, decide_eq_true_eq] at hj
          have e1 : (j - 0).toNat = j.toNat := by rw [Int.sub_zero]
          exact ⟨j, by rw [show v = _ from dv], hj.1, hj.2, by rw [← e1]; exact h ρ' _ H' e m1 walks_rng True.intro⟩
        · exact h.elim
      | non => exact False.elim h
      | bl b => exact False.elim h
      | str b => exact False.elim h
      | er _ _ => exact False.elim h
      | fl _ => exact False.elim h
      | tup b => exact False.elim h
      | ref b => exact False.elim h
    | exc c fs μ1 => rw [q] at h; exact h
    | bad => rw [q] at h; exact h
def dRng2 (d d2 : EM) : IM := fun σ μ => match d σ μ with
  | .ok (.int i) μ1 => (match d2 σ μ1 with
    | .ok (.int j) μ2 => if rngOk i = true ∧ rngOk j = true then .its (rngL i j) [] μ2 else .bad
    | .ok _ _ => .bad
    | .exc c fs μ1 => .exc c fs μ1
    | .bad => .bad)
  | .ok _ _ => .bad
  | .exc c fs μ1 => .exc c fs μ1
  | .bad => .bad
theorem i_range2 {a b : Expr} {d2 : EM} (hm : X.mg "range" = none) (ha : PE X a (tE (gx X tb) E d)) (hb : PE X b (tE (gx X tb) E d2)) (hg : Gl X "range" := by rfl) (hs : starEach [a, b] X.env = [(false, eval a X.env), (false, eval b X.env)] := by rfl)
    (hs2 : starEach [b] X.env = [(false, eval b X.env)] := by rfl) : PI X tg (.Call (.Name "range" p) [a, b] [] pos) (tI (gx X tb) E (dRng2 d d2)) :=
  (pi_range2 hg hm (pa_cons ha (pa_cons hb pa_nil hs2) (by rw [hs, hs2])) hs hs2).imp fun σ H R h => by
    obtain ⟨ρ, σT, μ, m, l, h⟩ := h
    refine ⟨ρ, σT, μ, m, l, ?_⟩
    unfold dRng2 at h
    cases q : d σT μ with
    | ok t μ1 =>
      rw [q] at h
      intro ρ' v H' e m1 dv
      cases t with
      | int i =>
        refine ⟨ρ', σT, μ1, m1, l.ext e, ?_⟩
        cases q2 : d2 σT μ1 with
        | ok t2 μ2 =>
          simp only [q2] at h
          intro ρ2 v2 H2 e2 m2 dv2
          cases t2 with
          | int j =>
            have h : GoodI (gx X tb) E R ρ μ.length H (fun _ _ _ _ _ => True) (if rngOk i = true ∧ rngOk j = true then IRes.its (rngL i j) [] μ2 else .bad) := h
            split at h
            · rename_i hj
              simp only [rngOk, Bool.and_eq_true, decide_eq_true_eq] at hj
              exact ⟨i, j, by rw [show v = _ from dv, show v2 = _ from dv2], ⟨hj.1.1, hj.1.2, hj.2.1, hj.2.2⟩, h ρ2 _ H2 (e.trans e2) m2 walks_rng True.intro⟩
            · exact h.elim
          | non => exact False.elim h
          | bl b => exact False.elim h
          | str b => exact False.elim h
          | er _ _ => exact False.elim h
          | fl _ => exact False.elim h
          | tup b => exact False.elim h
          | ref b => exact False.elim h
        | exc c fs μ2 =>
          simp only [q2] at h
          exact fun ρ2 H2 C d e2 m2 hc x => h ρ2 H2 C d (e.trans e2) m2 hc x
        | bad =>
          simp only [q2] at h
          exact h
      | non => exact False.elim h
      | bl b => exact False.elim h
      | str b => exact False.elim h
      | er _ _ => exact False.elim h
      | fl _ => exact False.elim h
      | tup b => exact False.elim h
      | ref b => exact False.elim h
    | exc c fs μ1 => rw [q] at h; exact h
    | bad => rw [q] at h; exact h
/-! ### targets -/
inductive Pat where
  | nm (i : Nat)
  | tp (ps : List Pat)
mutual
def bindP : Pat → T → List (Option T) → Option (List (Option T))
  | .nm i, t, σ => some (σ.set i (some t))
  | .tp ps, .tup ts, σ => bindPs ps ts σ
  | .tp _, _, _ => none
def bindPs : List Pat → List T → List (Option T) → Option (List (Option T))
  | [], [], σ => some σ
  | p :: ps, t :: ts, σ => (bindP p t σ).bind fun σ' => bindPs ps ts σ'
  | _, _, _ => none
end
mutual
/-- the slots that a target stores -/
def pslots : Pat → List Nat
  | .nm i => [i]
  | .tp ps => pslotss ps
def pslotss : List Pat → List Nat
  | [] => []
  | p :: ps => pslots p ++ pslotss ps
end
/-- all slots but these are as they were -/
def SameBut (L : List Nat) (σ σ' : L2.St) : Prop := σ'.length = σ.length ∧ ∀ j, j ∉ L → σ'[j]? = σ[j]?
def tG (K : PySem.W.Frag) (p : Pat) : TG := fun v σ H Q => ∃ ρ n σT t σT', LRel K ρ n H σT σ ∧ DV K ρ n H t v ∧ bindP p t σT = some σT' ∧ ∀ σ', LRel K ρ n H σT' σ' → SameBut (pslots p) σ σ' → Q σ' H
def tGs (K : PySem.W.Frag) (p : List Pat) : TGs := fun vs σ H Q => ∃ ρ n σT ts σT', LRel K ρ n H σT σ ∧ DVs K ρ n H ts vs ∧ bindPs p ts σT = some σT' ∧ ∀ σ', LRel K ρ n H σT' σ' → SameBut (pslotss p) σ σ' → Q σ' H
theorem _root_.L2.PG.imp {X : Cx} {e : Expr} {t t' : TG} (h : PG X e t) (hi : ∀ v σ H R, t' v σ H R → t v σ H R) : PG X e t' := ⟨fun pins s σ H v u R I r q => h.run pins s σ H v u R I r (hi v σ H R q)⟩
theorem _root_.L2.PGs.imp {X : Cx} {e : List Expr} {t t' : TGs} (h : PGs X e t) (hi : ∀ v σ H R, t' v σ H R → t v σ H R) : PGs X e t' := ⟨fun pins s σ H v u R I r q => h.run pins s σ H v u R I r (hi v σ H R q)⟩
theorem g_name (i : Nat) {x : Str} (hN : X.N.Nodup) (hi : X.N[i]? = some x := by rfl) (hx : Loc X.env.scope x := by first | exact Or.inl rfl | exact Or.inr rfl) (hf : X.fn x = true ∨ X.env.scope.names.lookup x = some .local := by first | exact .inl rfl | exact .inr rfl | assumption) :
    PG X (.Name x pos) (tG X.K (.nm i)) := (pg_name hN hi hx hf).imp fun v σ H Q h => by
  obtain ⟨ρ, n, σT, t, σT', l, d, e, q⟩ := h
  have e : σT.set i (some t) = σT' := by simpa [bindP] using e
  exact q _ (by rw [← e]; exact l.set i d) ⟨by simp, fun j hj => by rw [List.getElem?_set_ne (by simp [pslots] at hj; exact fun z => hj z.symm)]⟩
theorem gs_nil : PGs X [] (tGs X.K []) := pgs_nil.imp fun v σ H Q h => by
  obtain ⟨ρ, n, σT, ts, σT', l, d, e, q⟩ := h
  cases ts with
  | nil =>
    have e : σT = σT' := by simpa [bindPs] using e
    exact ⟨d, q _ (by rw [← e]; exact l) ⟨rfl, fun _ _ => rfl⟩⟩
  | cons t ts => simp [bindPs] at e
theorem gs_cons {e : Expr} {es : List Expr} {p : Pat} {ps : List Pat} (h1 : PG X e (tG X.K p)) (h2 : PGs X es (tGs X.K ps))
    (hs : (assignEach (e :: es) X.env).map (·.2) = assign e X.env :: (assignEach es X.env).map (·.2) := by rfl) : PGs X (e :: es) (tGs X.K (p :: ps)) := (pgs_cons h1 h2 hs).imp fun v σ H Q h => by
  obtain ⟨ρ, n, σT, ts, σT', l, d, e, q⟩ := h
  cases ts with
  | nil => simp [bindPs] at e
  | cons t ts =>
    obtain ⟨w, r, rfl, d1, d2⟩ := d
    simp only [bindPs, Option.bind_eq_some_iff] at e
    obtain ⟨σ1, e1, e2⟩ := e
    exact ⟨w, r, rfl, ρ, n, σT, t, σ1, l, d1, e1, fun σ' l' s1 => ⟨ρ, n, σ1, ts, σT', l', d2, e2, fun σ2 l2 s2 => q σ2 l2 ⟨s2.1.trans s1.1, fun j hj => by
    simp only [pslotss, List.mem_append, not_or] at hj
    exact (s2.2 j hj.2).trans (s1.2 j hj.1)⟩⟩⟩
theorem bindPs_len : ∀ {ps : List Pat} {ts : List T} {σ σ' : List (Option T)}, bindPs ps ts σ = some σ' → ts.length = ps.length
  | [], [], _, _, _ => rfl
  | [], _ :: _, _, _, h => by simp [bindPs] at h
  | _ :: _, [], _, _, h => by simp [bindPs] at h
  | p :: ps, t :: ts, _, _, h => by
    simp only [bindPs, Option.bind_eq_some_iff] at h
    obtain ⟨σ1, _, e2⟩ := h
    simp [bindPs_len e2]
theorem g_tup {es : List Expr} {k : Nat} {ps : List Pat} (hc : X.calm = true) (h : PGs X es (tGs X.K ps))
    (hn : (assignEach es X.env).length = ps.length := by rfl) (hst : (assignEach es X.env).findIdx? (·.1) = none := by rfl) : PG X (.Tuple es k pos) (tG X.K (.tp ps)) :=
  (pg_tup (n := ps.length) hc h hn hst).imp fun v σ H Q h => by
    obtain ⟨ρ, n, σT, t, σT', l, d, e, q⟩ := h
    cases t with
    | tup ts =>
      obtain ⟨a, vs, rfl, h2, h3⟩ := d
      have e : bindPs ps ts σT = some σT' := by simpa [bindP] using e
      exact ⟨a, vs, rfl, h2, by rw [← h3.length]; exact bindPs_len e, ρ, n, σT, ts, σT', l, h3, e, fun σ' l' s' => q σ' l' (by simpa [pslots] using s')⟩
    | _ => simp [bindP] at e
/-! ### statements -/
end
inductive SRes where
  | nx (σ : List (Option T)) (μ : Mem)
  | rt (t : T) (μ : Mem)
  | bk (σ : List (Option T)) (μ : Mem)
  | ct (σ : List (Option T)) (μ : Mem)
  | exc (c : Str) (fs : List (Str × T)) (μ : Mem)
  | bad
abbrev SM := List (Option T) → Mem → SRes
def GSt (g : G) (ρ : Nat → Addr) (n : Nat) (H : Hp) (k : L2.St → Hp → Prop) (σT : List (Option T)) (μ : Mem) : Prop := ∀ ρ' σ' H', Ext g ρ n H ρ' μ.length H' → MRel g ρ' μ H' → LRel g.K ρ' μ.length H' σT σ' → k σ' H'
def SGood (g : G) (E : XK) (D : Ends) (ρ : Nat → Addr) (n : Nat) (H : Hp) : SRes → Prop
  | .nx σT μ => GSt g ρ n H D.nx σT μ
  | .bk σT μ => GSt g ρ n H D.bk σT μ
  | .ct σT μ => GSt g ρ n H D.ct σT μ
  | .rt t μ => Good g E D.rt ρ n H (.ok t μ)
  | .exc c fs μ => Good g E D.rt ρ n H (.exc c fs μ)
  | .bad => False
def tS (g : G) (E : XK) (d : SM) : TS := fun D σ H => ∃ ρ σT μ, MRel g ρ μ H ∧ LRel g.K ρ μ.length H σT σ ∧ SGood g E D ρ μ.length H (d σT μ)
theorem _root_.L2.PS.imp {X : Cx} {e : Stmt} {t t' : TS} (h : PS X e t) (hi : ∀ D σ H, t' D σ H → t D σ H) : PS X e t' := ⟨fun pins s σ H D I q => h.run pins s σ H D I (hi D σ H q)⟩
theorem _root_.L2.PSs.imp {X : Cx} {e : List Stmt} {t t' : TS} (h : PSs X e t) (hi : ∀ D σ H, t' D σ H → t D σ H) : PSs X e t' := ⟨fun pins s σ H D I q => h.run pins s σ H D I (hi D σ H q)⟩
section
variable {g : G} {E : XK} {D : Ends} {ρ ρ' : Nat → Addr} {n n' : Nat} {H H' : Hp} {r : SRes}
theorem SGood.later (e : Ext g ρ n H ρ' n' H') (h : SGood g E D ρ n H r) : SGood g E D ρ' n' H' r := by
  cases r with
  | nx σT μ => exact fun ρ2 σ2 H2 e2 m l => h ρ2 σ2 H2 (e.trans e2) m l
  | bk σT μ => exact fun ρ2 σ2 H2 e2 m l => h ρ2 σ2 H2 (e.trans e2) m l
  | ct σT μ => exact fun ρ2 σ2 H2 e2 m l => h ρ2 σ2 H2 (e.trans e2) m l
  | rt t μ => exact Good.later (E := E) (r := .ok t μ) e h
  | exc c fs μ => exact Good.later (E := E) (Q := D.rt) (r := .exc c fs μ) e h
  | bad => exact h
end
def SRes.seq (r : SRes) (k : SM) : SRes := match r with
  | .nx σ μ => k σ μ
  | r => r
def Res.toS (r : Res) (k : T → Mem → SRes) : SRes := match r with
  | .ok t μ => k t μ
  | .exc c fs μ => .exc c fs μ
  | .bad => .bad
def sNil : SM := fun σ μ => .nx σ μ
def sSeq (a b : SM) : SM := fun σ μ => (a σ μ).seq b
section
variable {X : Cx} {tb : List (Addr × Str)} {E : XK} {st : Stmt} {rest : List Stmt} {a b : SM} {e : Expr} {d : EM} {pos pos' : Pos}
theorem tS_seq {g : G} {t : SM} : ∀ D σ H, tS g E (sSeq a b) D σ H → tSeq (tS g E a) (tS g E b) D σ H := fun D σ H h => by
  obtain ⟨ρ, σT, μ, m, l, h⟩ := h
  refine ⟨ρ, σT, μ, m, l, ?_⟩
  unfold sSeq at h
  cases q : a σT μ with
  | nx σ1 μ1 =>
    rw [q] at h
    exact fun ρ2 σ2 H2 e2 m2 l2 => ⟨ρ2, σ1, μ1, m2, l2, SGood.later (r := b σ1 μ1) e2 h⟩
  | bk σ1 μ1 => rw [q] at h; exact h
  | ct σ1 μ1 => rw [q] at h; exact h
  | rt t μ1 => rw [q] at h; exact h
  | exc c fs μ1 => rw [q] at h; exact h
  | bad => rw [q] at h; exact h
theorem ss_nil : PSs X [] (tS (gx X tb) E sNil) := pss_nil.imp fun D σ H h => by
  obtain ⟨ρ, σT, μ, m, l, h⟩ := h
  exact h ρ σ H (Ext.refl _ _ _ _) m l
theorem ss_cons (h1 : PS X st (tS (gx X tb) E a)) (h2 : PSs X rest (tS (gx X tb) E b)) : PSs X (st :: rest) (tS (gx X tb) E (sSeq a b)) := (pss_cons h1 h2).imp (tS_seq (t := a))
theorem ss_one (h1 : PS X st (tS (gx X tb) E a)) : PSs X [st] (tS (gx X tb) E a) := pss_one h1
theorem s_pass : PS X (.Pass pos) (tS (gx X tb) E sNil) := ps_pass.imp fun D σ H h => by
  obtain ⟨ρ, σT, μ, m, l, h⟩ := h
  exact h ρ σ H (Ext.refl _ _ _ _) m l
theorem s_break : PS X (.Break pos) (tS (gx X tb) E (fun σ μ => .bk σ μ)) := ps_break.imp fun D σ H h => by
  obtain ⟨ρ, σT, μ, m, l, h⟩ := h
  exact h ρ σ H (Ext.refl _ _ _ _) m l
theorem s_continue : PS X (.Continue pos) (tS (gx X tb) E (fun σ μ => .ct σ μ)) := ps_continue.imp fun D σ H h => by
  obtain ⟨ρ, σT, μ, m, l, h⟩ := h
  exact h ρ σ H (Ext.refl _ _ _ _) m l
/-- from an expression to a statement -/
theorem bindS {g : G} {Q : VK} {D : Ends} {k : T → Mem → SRes} {R : VK} {ρ : Nat → Addr} {σT : List (Option T)} {σ : L2.St} {μ : Mem} {H : Hp} (m : MRel g ρ μ H) (l : LRel g.K ρ μ.length H σT σ) (h : SGood g E D ρ μ.length H ((d σT μ).toS k))
    (hR : ∀ x μ1 ρ1 v H1, Ext g ρ μ.length H ρ1 μ1.length H1 → MRel g ρ1 μ1 H1 → LRel g.K ρ1 μ1.length H1 σT σ → DV g.K ρ1 μ1.length H1 x v → SGood g E D ρ1 μ1.length H1 (k x μ1) → R v H1) : tE g E d σ H R := by
  refine ⟨ρ, σT, μ, m, l, ?_⟩
  cases q : d σT μ with
  | ok t μ1 =>
    rw [q] at h
    exact fun ρ1 v H1 e m1 dv => hR t μ1 ρ1 v H1 e m1 (l.ext e) dv (SGood.later (r := k t μ1) e h)
  | exc c fs μ1 => rw [q] at h; exact h
  | bad => rw [q] at h; exact h
def sExpr (d : EM) : SM := fun σ μ => (d σ μ).toS fun _ μ1 => .nx σ μ1
theorem s_expr (he : PE X e (tE (gx X tb) E d)) (hs : swapsWith e none pos.line X.env = pure false := by rfl) : PS X (.Expr e pos) (tS (gx X tb) E (sExpr d)) := (ps_expr he hs).imp fun D σ H h => by
  obtain ⟨ρ, σT, μ, m, l, h⟩ := h
  exact bindS (Q := D.rt) m l h fun x μ1 ρ1 v H1 e1 m1 l1 dv h1 => h1 ρ1 σ H1 (Ext.refl _ _ _ _) m1 l1
def sRet (d : EM) : SM := fun σ μ => (d σ μ).toS fun t μ1 => .rt t μ1
theorem s_ret (he : PE X e (tE (gx X tb) E d)) : PS X (.Return (some e) pos) (tS (gx X tb) E (sRet d)) := (ps_ret he).imp fun D σ H h => by
  obtain ⟨ρ, σT, μ, m, l, h⟩ := h
  exact bindS (Q := D.rt) m l h fun x μ1 ρ1 v H1 e1 m1 l1 dv h1 => h1 ρ1 v H1 (Ext.refl _ _ _ _) m1 dv
theorem s_retN : PS X (.Return none pos) (tS (gx X tb) E (fun _ μ => .rt .non μ)) := ps_retN.imp fun D σ H h => by
  obtain ⟨ρ, σT, μ, m, l, h⟩ := h
  exact h ρ _ H (Ext.refl _ _ _ _) m rfl
def sIf (c : EM) (a b : SM) : SM := fun σ μ => (c σ μ).toS fun t μ1 => match t with
  | .bl true => a σ μ1
  | .bl false => b σ μ1
  | _ => .bad
theorem s_if {c : Expr} {as bs : List Stmt} (hc : PT X c (tT (gx X tb) E d)) (ha : PSs X as (tS (gx X tb) E a)) (hb : PSs X bs (tS (gx X tb) E b)) : PS X (.If c as bs pos) (tS (gx X tb) E (sIf d a b)) := (ps_if hc ha hb).imp fun D σ H h => by
  obtain ⟨ρ, σT, μ, m, l, h⟩ := h
  refine bindS (Q := D.rt) m l h fun x μ1 ρ1 v H1 e1 m1 l1 dv h1 => ?_
  cases x with
  | bl q =>
    refine ⟨q, dv, ?_⟩
    cases q with
    | true => rw [if_pos rfl]; exact ⟨ρ1, σT, μ1, m1, l1, h1⟩
    | false => rw [if_neg Bool.false_ne_true]; exact ⟨ρ1, σT, μ1, m1, l1, h1⟩
  | _ => exact False.elim h1
/-! stores -/
def sSet (i : Nat) (d : EM) : SM := fun σ μ => (d σ μ).toS fun t μ1 => .nx (σ.set i (some t)) μ1
theorem s_set (i : Nat) {x : Str} (hN : X.N.Nodup) (he : PE X e (tE (gx X tb) E d)) (hs : swapsWith e (some (.Name x pos')) pos.line X.env = pure false := by rfl) (hi : X.N[i]? = some x := by rfl) (hx : Loc X.env.scope x := by first | exact Or.inl rfl | exact Or.inr rfl)
    (hf : X.fn x = true ∨ X.env.scope.names.lookup x = some .local := by first | exact .inl rfl | exact .inr rfl | assumption) : PS X (.Assign [.Name x pos'] e pos) (tS (gx X tb) E (sSet i d)) := (ps_set hN hi hx he hs hf).imp fun D σ H h => by
  obtain ⟨ρ, σT, μ, m, l, h⟩ := h
  exact bindS (Q := D.rt) m l h fun x μ1 ρ1 v H1 e1 m1 l1 dv h1 => h1 ρ1 _ H1 (Ext.refl _ _ _ _) m1 (l1.set i dv)
def sAsg (p : Pat) (d : EM) : SM := fun σ μ => (d σ μ).toS fun t μ1 => match bindP p t σ with
  | some σ' => .nx σ' μ1
  | none => .bad
theorem s_asg {tg : Expr} {p : Pat} (he : PE X e (tE (gx X tb) E d)) (hg : PG X tg (tG X.K p)) (hs : swapsWithSole [tg] e pos.line X.env = pure false := by rfl) (hw : swappedStores [tg] e X.env = pure none := by rfl)
    (h1 : (assignEach [tg] X.env).map (·.2) = [assign tg X.env] := by rfl) : PS X (.Assign [tg] e pos) (tS (gx X tb) E (sAsg p d)) := (ps_asg he hg hs hw h1).imp fun D σ H h => by
  obtain ⟨ρ, σT, μ, m, l, h⟩ := h
  refine bindS (Q := D.rt) m l h fun x μ1 ρ1 v H1 e1 m1 l1 dv h1 => ?_
  cases q : bindP p x σT with
  | some σ' =>
    simp only [q] at h1
    exact ⟨ρ1, μ1.length, σT, x, σ', l1, dv, q, fun σ2 l2 _ => h1 ρ1 σ2 H1 (Ext.refl _ _ _ _) m1 l2⟩
  | none =>
    simp only [q] at h1
    exact h1.elim
def sPar (i j : Nat) (da db : EM) : SM := fun σ μ => (da σ μ).toS fun x μ1 => (db σ μ1).toS fun y μ2 => .nx ((σ.set i (some x)).set j (some y)) μ2
theorem s_par (i j : Nat) {x y : Str} {e1 e2 : Expr} {da db : EM} {px py pt : Pos} {kt k2 pt2} (hc : X.calm = true) (hN : X.N.Nodup) (h1 : PE X e1 (tE (gx X tb) E da)) (h2 : PE X e2 (tE (gx X tb) E db))
    (hw : swappedStores [.Tuple [.Name x px, .Name y py] kt pt] (.Tuple [e1, e2] k2 pt2) X.env = pure (some [x, y]) := by rfl) (hi : X.N[i]? = some x := by rfl) (hj : X.N[j]? = some y := by rfl) (hij : i ≠ j := by decide)
    (hx : X.env.scope.names.lookup x = some .local := by rfl) (hy : X.env.scope.names.lookup y = some .local := by rfl)
    (hs : swapsWithSole [.Tuple [.Name x px, .Name y py] kt pt] (.Tuple [e1, e2] k2 pt2) pos.line X.env = pure false := by rfl) (hs1 : starEach [e1, e2] X.env = (false, eval e1 X.env) :: starEach [e2] X.env := by rfl) (hs2 : starEach [e2] X.env = [(false, eval e2 X.env)] := by rfl) :
    PS X (.Assign [.Tuple [.Name x px, .Name y py] kt pt] (.Tuple [e1, e2] k2 pt2) pos) (tS (gx X tb) E (sPar i j da db)) :=
  (ps_par hc hN hi hj hij hx hy (pa_cons h1 (pa_cons h2 pa_nil hs2) hs1) hw hs).imp fun D σ H h => by
    obtain ⟨ρ, σT, μ, m, l, h⟩ := h
    refine bindS (Q := D.rt) m l h fun x μ1 ρ1 v H1 e1 m1 l1 dv h1 => ?_
    refine bindS (Q := D.rt) m1 l1 h1 fun y μ2 ρ2 w H2 e2 m2 l2 dw h2 => ?_
    exact ⟨v, w, rfl, h2 ρ2 _ H2 (Ext.refl _ _ _ _) m2 ((l2.set i (dv.ext e2)).set j dw)⟩
def sPar3 (i j k : Nat) (da db dc : EM) : SM := fun σ μ => (da σ μ).toS fun x μ1 => (db σ μ1).toS fun y μ2 => (dc σ μ2).toS fun z μ3 => .nx (((σ.set i (some x)).set j (some y)).set k (some z)) μ3
theorem s_par3 (i j k : Nat) {x y z : Str} {e1 e2 e3 : Expr} {da db dc : EM} {px py pz pt : Pos} {kt k2 pt2} (hc : X.calm = true) (hN : X.N.Nodup) (h1 : PE X e1 (tE (gx X tb) E da)) (h2 : PE X e2 (tE (gx X tb) E db)) (h3 : PE X e3 (tE (gx X tb) E dc))
    (hw : swappedStores [.Tuple [.Name x px, .Name y py, .Name z pz] kt pt] (.Tuple [e1, e2, e3] k2 pt2) X.env = pure (some [x, y, z]) := by rfl) (hi : X.N[i]? = some x := by rfl) (hj : X.N[j]? = some y := by rfl) (hk : X.N[k]? = some z := by rfl) (hij : i ≠ j := by decide) (hik : i ≠ k := by decide) (hjk : j ≠ k := by decide)
    (hx : X.env.scope.names.lookup x = some .local := by rfl) (hy : X.env.scope.names.lookup y = some .local := by rfl) (hz : X.env.scope.names.lookup z = some .local := by rfl)
    (hs : swapsWithSole [.Tuple [.Name x px, .Name y py, .Name z pz] kt pt] (.Tuple [e1, e2, e3] k2 pt2) pos.line X.env = pure false := by rfl) (hs1 : starEach [e1, e2, e3] X.env = (false, eval e1 X.env) :: starEach [e2, e3] X.env := by rfl) (hs2 : starEach [e2, e3] X.env = (false, eval e2 X.env) :: starEach [e3] X.env := by rfl) (hs3 : starEach [e3] X.env = [(false, eval e3 X.env)] := by rfl) :
    PS X (.Assign [.Tuple [.Name x px, .Name y py, .Name z pz] kt pt] (.Tuple [e1, e2, e3] k2 pt2) pos) (tS (gx X tb) E (sPar3 i j k da db dc)) :=
  (ps_par3 hc hN hi hj hk hij hik hjk hx hy hz (pa_cons h1 (pa_cons h2 (pa_cons h3 pa_nil hs3) hs2) hs1) hw hs).imp fun D σ H h => by
    obtain ⟨ρ, σT, μ, m, l, h⟩ := h
    refine bindS (Q := D.rt) m l h fun x μ1 ρ1 v H1 e1 m1 l1 dv h1 => ?_
    refine bindS (Q := D.rt) m1 l1 h1 fun y μ2 ρ2 w H2 e2 m2 l2 dw h2 => ?_
    refine bindS (Q := D.rt) m2 l2 h2 fun z μ3 ρ3 u H3 e3 m3 l3 du h3 => ?_
    exact ⟨v, w, u, rfl, h3 ρ3 _ H3 (Ext.refl _ _ _ _) m3 (((l3.set i ((dv.ext e2).ext e3)).set j (dw.ext e3)).set k du)⟩
end
end TL
set_option Elab.async false
set_option linter.all false
set_option maxRecDepth 100000
set_option maxHeartbeats 2000000
/-! TL6: loops, comprehensions -/
namespace TL
open PySem PySem.Spec PyProof.Rows L2
def SRes.loop (r : SRes) (k : SM) : SRes := match r with
  | .nx σ μ => k σ μ
  | .ct σ μ => k σ μ
  | .bk σ μ => .nx σ μ
  | r => r
theorem SGood.loop {g : G} {E : XK} {D : Ends} {N : L2.St → Hp → Prop} {ρ : Nat → Addr} {n : Nat} {H : Hp} {r : SRes} {k : SM} (h : SGood g E D ρ n H (r.loop k))
    (hN : ∀ σT μ ρ' σ' H', Ext g ρ n H ρ' μ.length H' → MRel g ρ' μ H' → LRel g.K ρ' μ.length H' σT σ' → SGood g E D ρ' μ.length H' (k σT μ) → N σ' H') : SGood g E { D with nx := N, ct := N, bk := D.nx } ρ n H r := by
  cases r with
  | nx σT μ => exact fun ρ' σ' H' e m l => hN σT μ ρ' σ' H' e m l (SGood.later (r := k σT μ) e h)
  | ct σT μ => exact fun ρ' σ' H' e m l => hN σT μ ρ' σ' H' e m l (SGood.later (r := k σT μ) e h)
  | bk σT μ => exact h
  | rt t μ => exact h
  | exc c fs μ => exact h
  | bad => exact h
/-- for: the items one after another -/
def forL (ws : List (Nat × List T)) (p : Pat) (body : SM) : List T → SM
  | [], σ, μ => if watched ws μ = true then .nx σ μ else .bad
  | x :: r, σ, μ => if watched ws μ = true then (match bindP p x σ with
    | some σ1 => (body σ1 μ).loop (forL ws p body r)
    | none => .bad) else .bad
def sFor (it : IM) (p : Pat) (body : SM) : SM := fun σ μ => match it σ μ with
  | .its xs ws μ1 => forL ws p body xs σ μ1
  | .exc c fs μ1 => .exc c fs μ1
  | .bad => .bad
section
variable {X : Cx} {tb : List (Addr × Str)} {E : XK} {tg iter : Expr} {body : List Stmt} {it : IM} {p : Pat} {b : SM} {pos : Pos}
theorem tS_for : ∀ D σ H, tS (gx X tb) E (sFor it p b) D σ H → tFor (tI (gx X tb) E it) (tG X.K p) (tS (gx X tb) E b) D σ H := fun D σ H h => by
  obtain ⟨ρ, σT, μ, m, l, h⟩ := h
  refine ⟨ρ, σT, μ, m, l, ?_⟩
  unfold sFor at h
  cases q : it σT μ with
  | exc c fs μ1 => rw [q] at h; exact h
  | bad => rw [q] at h; exact h
  | its xs ws μ1 =>
    rw [q] at h
    intro ρ1 J H1 e1 m1 wk _
    have h : SGood (gx X tb) E D ρ μ.length H (forL ws p b xs σT μ1) := h
    refine ⟨fun i k σ' H' => k = xs.length - i ∧ i ≤ xs.length ∧ ∃ ρ' σ2 μ', Ext (gx X tb) ρ1 μ1.length H1 ρ' μ'.length H' ∧ MRel (gx X tb) ρ' μ' H' ∧ LRel X.K ρ' μ'.length H' σ2 σ' ∧ SGood (gx X tb) E D ρ' μ'.length H' (forL ws p b (xs.drop i) σ2 μ'),
      ⟨xs.length, by simp, Nat.zero_le _, ρ1, σT, μ1, Ext.refl _ _ _ _, m1, l.ext e1, by rw [List.drop_zero]; exact SGood.later e1 h⟩, ?_⟩
    rintro i k σ' H' ⟨rfl, hi, ρ', σ2, μ', e2, m2, l2, g2⟩
    by_cases hlt : i < xs.length
    · have hd : xs.drop i = xs[i] :: xs.drop (i + 1) := List.drop_eq_getElem_cons hlt
      rw [hd] at g2
      unfold forL at g2
      split at g2
      · rename_i hw
        obtain ⟨w1, _⟩ := wk ρ' μ' H' e2 m2 hw i
        obtain ⟨hgo, hy⟩ := w1 xs[i] (by simp [hlt])
        refine .inr ⟨hgo, fun σ3 H3 => ∃ m', m' < xs.length - i ∧ m' = xs.length - (i + 1) ∧ i + 1 ≤ xs.length ∧ ∃ ρ' σ2 μ', Ext (gx X tb) ρ1 μ1.length H1 ρ' μ'.length H3 ∧ MRel (gx X tb) ρ' μ' H3 ∧ LRel X.K ρ' μ'.length H3 σ2 σ3 ∧ SGood (gx X tb) E D ρ' μ'.length H3 (forL ws p b (xs.drop (i + 1)) σ2 μ'), fun σ3 H3 q => q, fun x H3 y => ?_⟩
        obtain ⟨e3, m3, dx⟩ := hy x H3 y
        cases hb : bindP p xs[i] σ2 with
        | none => simp only [hb] at g2; exact g2.elim
        | some σ4 =>
          simp only [hb] at g2
          refine ⟨ρ', μ'.length, σ2, xs[i], σ4, l2.ext e3, dx, hb, fun σ5 l5 _ => ⟨ρ', σ4, μ', m3, l5, ?_⟩⟩
          refine SGood.loop (SGood.later e3 g2) fun σ6 μ6 ρ6 σ7 H7 e7 m7 l7 g7 => ?_
          exact ⟨xs.length - (i + 1), by omega, rfl, hlt, ρ6, σ6, μ6, (e2.trans e3).trans e7, m7, l7, g7⟩
      · exact g2.elim
    · have he : i = xs.length := by omega
      rw [he, List.drop_length] at g2
      unfold forL at g2
      split at g2
      · rename_i hw
        obtain ⟨_, w2⟩ := wk ρ' μ' H' e2 m2 hw i
        exact .inl ⟨w2 (by omega), g2 ρ' σ' H' (Ext.refl _ _ _ _) m2 l2⟩
      · exact g2.elim
theorem s_for (hp : PassesOwn (model X.prog X.w) X.A X.env X.xe) (hc : X.calm = true) (hi : PI X tg iter (tI (gx X tb) E it)) (hg : PG X tg (tG X.K p)) (hb : PSs X body (tS (gx X tb) E b))
    (hs : ∀ x, foldedSetIterable iter X.env x = pure x := by intro _; rfl) : PS X (.For tg iter body [] pos) (tS (gx X tb) E (sFor it p b)) := (ps_for hp hc hi hg hb hs).imp tS_for
/-! ### while -/
def whileGo (c : EM) (body : SM) : Nat → SM
  | 0, _, _ => .bad
  | k + 1, σ, μ => (c σ μ).toS fun t μ1 => match t with
    | .bl true => (body σ μ1).loop (whileGo c body k)
    | .bl false => .nx σ μ1
    | _ => .bad
def fuel : Nat := 1000000000000000000
def sWhile (c : EM) (body : SM) : SM := whileGo c body fuel
theorem tS_while {c : EM} : ∀ D σ H, tS (gx X tb) E (sWhile c b) D σ H → tWhile (tT (gx X tb) E c) (tS (gx X tb) E b) D σ H := fun D σ H h => by
  obtain ⟨ρ, σT, μ, m, l, h⟩ := h
  refine ⟨fun k σ' H' => ∃ ρ' σ2 μ', MRel (gx X tb) ρ' μ' H' ∧ LRel X.K ρ' μ'.length H' σ2 σ' ∧ SGood (gx X tb) E D ρ' μ'.length H' (whileGo c b k σ2 μ'), ⟨fuel, ρ, σT, μ, m, l, h⟩, ?_⟩
  rintro k σ' H' ⟨ρ', σ2, μ', m2, l2, g2⟩
  cases k with
  | zero => exact g2.elim
  | succ k =>
    unfold whileGo at g2
    refine bindS (Q := D.rt) m2 l2 g2 fun x μ1 ρ1 v H1 e1 m1 l1 dv h1 => ?_
    cases x with
    | bl q =>
      refine ⟨q, dv, ?_⟩
      cases q with
      | true =>
        rw [if_pos rfl]
        refine ⟨fun σ3 H3 => ∃ ρ' σ2 μ', MRel (gx X tb) ρ' μ' H3 ∧ LRel X.K ρ' μ'.length H3 σ2 σ3 ∧ SGood (gx X tb) E D ρ' μ'.length H3 (whileGo c b k σ2 μ'), fun σ3 H3 q => ⟨k, Nat.lt_succ_self _, q⟩, ρ1, σ2, μ1, m1, l1, ?_⟩
        exact SGood.loop h1 fun σ6 μ6 ρ6 σ7 H7 e7 m7 l7 g7 => ⟨ρ6, σ6, μ6, m7, l7, g7⟩
      | false =>
        rw [if_neg Bool.false_ne_true]
        exact h1 ρ1 σ' H1 (Ext.refl _ _ _ _) m1 l1
    | _ => exact False.elim h1
theorem s_while {c : Expr} {dc : EM} (hp : PassesOwn (model X.prog X.w) X.A X.env X.xe) (hc : PT X c (tT (gx X tb) E dc)) (hb : PSs X body (tS (gx X tb) E b)) : PS X (.While c body [] pos) (tS (gx X tb) E (sWhile dc b)) := (ps_while hp hc hb).imp tS_while
/-! ### list comprehensions -/
/-- the slots of the block's own names forgotten -/
def wipeT (σ : List (Option T)) : List Nat → List (Option T)
  | [] => σ
  | v :: vs => (wipeT σ vs).set v none
theorem LRel.wipe {K : PySem.W.Frag} {ρ : Nat → Addr} {n : Nat} {H : Hp} {σT : List (Option T)} {σ : L2.St} (l : LRel K ρ n H σT σ) : ∀ vs, LRel K ρ n H (wipeT σT vs) (L2.wipe σ vs)
  | [] => l
  | v :: vs => by
    have ih := LRel.wipe l vs
    refine ⟨by simp [wipeT, L2.wipe, ih.len], fun i t e => ?_⟩
    unfold wipeT at e
    unfold L2.wipe
    by_cases hi : v = i
    · subst hi
      by_cases hv : v < (wipeT σT vs).length
      · rw [List.getElem?_set_self hv] at e; cases e
      · rw [List.getElem?_eq_none (by simpa using hv)] at e; cases e
    · rw [List.getElem?_set_ne hi] at e ⊢
      exact ih.at_ i t e
theorem wipe_in {σ : L2.St} {i : Nat} : ∀ {vs : List Nat}, i ∈ vs → i < σ.length → (L2.wipe σ vs)[i]? = some none
  | [], h, _ => by simp at h
  | v :: vs, h, hl => by
    unfold L2.wipe
    by_cases hv : v = i
    · subst hv
      rw [List.getElem?_set_self (by rw [L2.wipe_length]; exact hl)]
    · rw [List.getElem?_set_ne hv]
      exact wipe_in ((List.mem_cons.mp h).resolve_left fun e => hv e.symm) hl
theorem wipe_same {σ σ' : L2.St} {L vs : List Nat} (h : SameBut L (L2.wipe σ vs) σ') (hs : ∀ i ∈ L, i ∈ vs) : L2.wipe σ' vs = L2.wipe σ vs := by
  have hl : σ'.length = σ.length := h.1.trans (L2.wipe_length σ vs)
  apply List.ext_getElem?
  intro i
  by_cases hi : i ∈ vs
  · by_cases hb : i < σ.length
    · rw [wipe_in hi (by omega), wipe_in hi hb]
    · rw [List.getElem?_eq_none (by rw [L2.wipe_length]; omega), List.getElem?_eq_none (by rw [L2.wipe_length]; omega)]
  · rw [L2.wipe_out hi, h.2 i (fun z => hi (hs i z))]
def Res.toL (r : Res) (k : T → Mem → LRes) : LRes := match r with
  | .ok t μ => k t μ
  | _ => .bad
def lcGo (ws : List (Nat × List T)) (p : Pat) (t : Option EM) (el : EM) (σ : List (Option T)) : List T → List T → Mem → LRes
  | [], acc, μ => if watched ws μ = true then .ok acc μ else .bad
  | x :: r, acc, μ => if watched ws μ = true then (match bindP p x σ with
    | some σ1 => match t with
      | none => (el σ1 μ).toL fun y μ1 => if acc.length < sizeLine then lcGo ws p t el σ r (acc ++ [y]) μ1 else .bad
      | some c => (c σ1 μ).toL fun q μ1 => match q with
        | .bl true => (el σ1 μ1).toL fun y μ2 => if acc.length < sizeLine then lcGo ws p t el σ r (acc ++ [y]) μ2 else .bad
        | .bl false => lcGo ws p t el σ r acc μ1
        | _ => .bad
    | none => .bad) else .bad
def dLc (it : IM) (p : Pat) (own : List Nat) (t : Option EM) (el : EM) : LM := fun σ μ => match it σ μ with
  | .its xs ws μ1 => lcGo ws p t el (wipeT σ own) xs [] μ1
  | .exc c fs μ1 => .exc c fs μ1
  | .bad => .bad
theorem Good.toL {g : G} {ρ ρ0 : Nat → Addr} {n n0 : Nat} {H H0 : Hp} {r : Res} {k : T → Mem → LRes} {R : VK} {E : XK} {Q : VK} (h : GoodL g E Q ρ0 n0 H0 (r.toL k))
    (hR : ∀ x μ1 ρ1 v H1, Ext g ρ n H ρ1 μ1.length H1 → MRel g ρ1 μ1 H1 → DV g.K ρ1 μ1.length H1 x v → GoodL g E Q ρ0 n0 H0 (k x μ1) → R v H1) : Good g E0 R ρ n H r := by
  cases r with
  | ok t μ => exact fun ρ2 v H2 e2 m d => hR t μ ρ2 v H2 e2 m d h
  | exc c fs μ => exact (show False from h).elim
  | bad => exact h
/-! a list of no one's in the memory is changed -/
section
variable {g : G} {ρ ρ4 : Nat → Addr} {n n4 : Nat} {H1 H4 : Hp} {D : Addr} {vs ws : List V}
theorem SqT.side {a : Addr} {us : List V} (h4 : H4 D = some (.lst vs)) (h : SqT g.K H4 a us) : SqT g.K (upd H4 D (.lst ws)) a us := by
  rcases h with (h | ⟨o, h⟩) | h
  · exact .inl (.inl (by rw [upd_ne (ne_of h h4 (fun z => nomatch z))]; exact h))
  · exact .inl (.inr ⟨o, by rw [upd_ne (ne_of h h4 (fun z => nomatch z))]; exact h⟩)
  · exact .inr h
theorem FSq.side {a : Addr} {us : List V} (h4 : H4 D = some (.lst vs)) (h : FSq g.K H4 a us) : FSq g.K (upd H4 D (.lst ws)) a us := h.elim (fun ⟨o, h⟩ => .inl ⟨o, by rw [upd_ne (ne_of h h4 (fun z => nomatch z))]; exact h⟩) .inr
theorem DV.side {t : T} {v : V} (h4 : H4 D = some (.lst vs)) (h : DV g.K ρ n H4 t v) : DV g.K ρ n (upd H4 D (.lst ws)) t v := h.ren (fun k hk => ⟨hk, rfl⟩) fun _ _ => ⟨fun q => SqT.side h4 q, fun q => FSq.side (g := g) h4 q, fun ws q => by rw [upd_ne (ne_of q h4 (fun z => nomatch z))]; exact q⟩
theorem DVs.side {t : List T} {v : List V} (h4 : H4 D = some (.lst vs)) (h : DVs g.K ρ n H4 t v) : DVs g.K ρ n (upd H4 D (.lst ws)) t v := h.ren (fun k hk => ⟨hk, rfl⟩) fun _ _ => ⟨fun q => SqT.side h4 q, fun q => FSq.side (g := g) h4 q, fun ws q => by rw [upd_ne (ne_of q h4 (fun z => nomatch z))]; exact q⟩
theorem LRel.side {σT : List (Option T)} {σ : L2.St} (h4 : H4 D = some (.lst vs)) (l : LRel g.K ρ n H4 σT σ) : LRel g.K ρ n (upd H4 D (.lst ws)) σT σ := ⟨l.len, fun i t e => let ⟨v, h1, h2⟩ := l.at_ i t e; ⟨v, h1, h2.side h4⟩⟩
theorem tabs_side {o : HO} {tb : List (Addr × Str)} (h4 : H4 D = some (.lst vs)) (h : LamX.Tabs tb H4) : LamX.Tabs tb (upd H4 D o) := fun q hq => by
  obtain ⟨ps, q1, q2, q3⟩ := h q hq
  refine ⟨ps, by rw [upd_ne (ne_of q1 h4 (fun z => nomatch z))]; exact q1, q2, fun pos cv hc => ?_⟩
  obtain ⟨c, e1, e2⟩ := q3 pos cv hc
  refine ⟨c, e1, ?_⟩
  rw [upd_ne (ne_of e2 h4 (fun z => by unfold LamX.CodeO at z; cases z))]; exact e2
theorem Ext.side (e : Ext g ρ n H1 ρ4 n4 H4) (hD : H1 D = none) (h4 : H4 D = some (.lst vs)) : Ext g ρ n H1 ρ4 n4 (upd H4 D (.lst ws)) :=
  ⟨e.le, e.ag, e.nw, fun b o h hn ht => by rw [upd_ne (ne_of_none h hD)]; exact e.kp b o h hn ht, fun b o h f => by rw [upd_ne (ne_of_none h hD)]; exact e.fx b o h f,
    fun b h => by
      by_cases z : b = D
      · rw [z]; exact .inl hD
      · exact e.th b (h.un z),
    fun h => tabs_side h4 (e.tb h)⟩
theorem MRel.side {μ : Mem} (m : MRel g ρ μ H4) (h4 : H4 D = some (.lst vs)) (hn : ∀ i, i < μ.length → ρ i ≠ D) : MRel g ρ μ (upd H4 D (.lst ws)) :=
  ⟨m.inj, fun i o h => by
    obtain ⟨ho, h1, h2⟩ := m.ob i o h
    exact ⟨ho, by rw [upd_ne (hn i (List.getElem?_eq_some_iff.mp h).1)]; exact h1, h2.ren (fun k hk => ⟨hk, rfl⟩) fun _ _ => ⟨fun q => SqT.side h4 q, fun q => FSq.side (g := g) h4 q, fun ws q => by rw [upd_ne (ne_of q h4 (fun z => nomatch z))]; exact q⟩⟩, tabs_side h4 m.tb⟩
end
/-- the tests of a clause -/
def PTs' (X : Cx) (tb : List (Addr × Str)) (ifs : List Expr) : Option EM → Prop
  | none => ifs = []
  | some c => ∃ e, ifs = [e] ∧ PT X e (tT (gx X tb) E0 c)
def ttOf (g : G) : Option EM → TT
  | none => tYes
  | some c => tT g E0 c
theorem ttOf_none {g : G} {σ : L2.St} {H : Hp} {A B : Hp → Prop} (h : A H) : ttOf g none σ H (fun b H3 => if b = true then A H3 else B H3) := by
  show (if true = true then A H else B H)
  rw [if_pos rfl]; exact h
theorem pts_of {ifs : List Expr} {t : Option EM} (h : PTs' X tb ifs t) : PTs X ifs (ttOf (gx X tb) t) := by
  cases t with
  | none =>
    have h : ifs = [] := h
    rw [h]; exact pts_nil
  | some c =>
    obtain ⟨e, rfl, h⟩ := h
    exact pts_one h
theorem tL_lc {t : Option EM} {el : EM} {own : List Nat} (hs : ∀ i ∈ pslots p, i ∈ own) : ∀ σ H Q, tL (gx X tb) E (dLc it p own t el) σ H Q → tLc (tI (gx X tb) E it) (tG X.K p) (ttOf (gx X tb) t) (tE (gx X tb) E0 el) own σ H Q := fun σ H Q h => by
  obtain ⟨ρ, σT, μ, m, l, h⟩ := h
  refine ⟨ρ, σT, μ, m, l, ?_⟩
  unfold dLc at h
  cases q : it σT μ with
  | exc c fs μ1 => rw [q] at h; exact h
  | bad => rw [q] at h; exact h
  | its xs ws μ1 =>
    rw [q] at h
    have h : GoodL (gx X tb) E Q ρ μ.length H (lcGo ws p t el (wipeT σT own) xs [] μ1) := h
    intro ρ1 J H1 e1 m1 wk _ D hD
    have ef : Ext (gx X tb) ρ1 μ1.length H1 ρ1 μ1.length (upd H1 D (.lst [])) := Ext.fresh hD _
    have mf := m1.fresh (o := HO.lst []) hD
    have nD : ∀ i, i < μ1.length → ρ1 i ≠ D := fun i hi e => by
      obtain ⟨ho, h1, _⟩ := m1.ob i μ1[i] (by simp [hi])
      rw [e, hD] at h1; cases h1
    refine ⟨fun i k H' => k = xs.length - i ∧ i ≤ xs.length ∧ ∃ ρ' μ' acc vs, Ext (gx X tb) ρ1 μ1.length H1 ρ' μ'.length H' ∧ MRel (gx X tb) ρ' μ' H' ∧ LRel X.K ρ' μ'.length H' (wipeT σT own) (L2.wipe σ own) ∧
        H' D = some (.lst vs) ∧ (∀ i, i < μ'.length → ρ' i ≠ D) ∧ DVs X.K ρ' μ'.length H' acc vs ∧ GoodL (gx X tb) E Q ρ μ.length H (lcGo ws p t el (wipeT σT own) (xs.drop i) acc μ'),
      ⟨xs.length, by simp, Nat.zero_le _, ρ1, μ1, [], [], ef, mf, ((l.ext e1).ext ef).wipe own, upd_same, nD, rfl, by rw [List.drop_zero]; exact h⟩, ?_⟩
    rintro i k H' ⟨rfl, hi, ρ', μ', acc, vs, e2', m2, l2, hDv, nD', dA, fin⟩
    -- D's list is no one's of the memory: it stays while anything else is reckoned
    have stay : ∀ {ρ2 n2 H2}, Ext (gx X tb) ρ' μ'.length H' ρ2 n2 H2 → H2 D = some (.lst vs) := fun {ρ2 n2 H2} e => e.kp D _ hDv (fun i hi z => nD' i hi z.symm) fun ps z => nomatch z
    have away : ∀ {ρ2 : Nat → Addr} {μ2 : Mem} {H2 : Hp}, Ext (gx X tb) ρ' μ'.length H' ρ2 μ2.length H2 → ∀ i, i < μ2.length → ρ2 i ≠ D := fun {ρ2 μ2 H2} e i hi z => by
      by_cases h5 : i < μ'.length
      · rw [e.ag i h5] at z; exact nD' i h5 z
      · have := e.nw i (Nat.not_lt.mp h5) hi
        rw [z] at this
        exact this.no hDv (fun _ z => nomatch z)
    by_cases hlt : i < xs.length
    · have hd : xs.drop i = xs[i] :: xs.drop (i + 1) := List.drop_eq_getElem_cons hlt
      rw [hd] at fin
      by_cases hw : watched ws μ' = true
      · obtain ⟨w1, _⟩ := wk ρ' μ' H' e2' m2 hw i
        obtain ⟨hgo, hy⟩ := w1 xs[i] (by simp [hlt])
        cases hb : bindP p xs[i] (wipeT σT own) with
        | none =>
          have z : lcGo ws p t el (wipeT σT own) (xs[i] :: xs.drop (i + 1)) acc μ' = .bad := by
            simp only [lcGo, if_pos hw, hb]
          rw [z] at fin
          exact fin.elim
        | some σ4 =>
          refine .inr ⟨hgo, _, fun H3 q => q, fun x H3 y => ?_⟩
          obtain ⟨e3, m3, dx⟩ := hy x H3 y
          refine ⟨ρ', μ'.length, wipeT σT own, xs[i], σ4, l2.ext e3, dx, hb, fun σ5 l5 s5 => ⟨wipe_same s5 hs, ?_⟩⟩
          -- behind an element y: the list one longer
          have more : ∀ {ρ4 : Nat → Addr} {μ4 : Mem} {H4 : Hp} {u : T} {w : V}, Ext (gx X tb) ρ' μ'.length H' ρ4 μ4.length H4 → MRel (gx X tb) ρ4 μ4 H4 → DV X.K ρ4 μ4.length H4 u w → GoodL (gx X tb) E Q ρ μ.length H (if acc.length < sizeLine then lcGo ws p t el (wipeT σT own) (xs.drop (i + 1)) (acc ++ [u]) μ4 else .bad) →
              ∃ acc, H4 D = some (.lst acc) ∧ acc.length < sizeLine ∧ ∃ m', m' < xs.length - i ∧ m' = xs.length - (i + 1) ∧ i + 1 ≤ xs.length ∧ ∃ ρ' μ' acc' vs, Ext (gx X tb) ρ1 μ1.length H1 ρ' μ'.length (upd H4 D (.lst (acc ++ [w]))) ∧ MRel (gx X tb) ρ' μ' (upd H4 D (.lst (acc ++ [w]))) ∧ LRel X.K ρ' μ'.length (upd H4 D (.lst (acc ++ [w]))) (wipeT σT own) (L2.wipe σ own) ∧
                (upd H4 D (.lst (acc ++ [w]))) D = some (.lst vs) ∧ (∀ i, i < μ'.length → ρ' i ≠ D) ∧ DVs X.K ρ' μ'.length (upd H4 D (.lst (acc ++ [w]))) acc' vs ∧ GoodL (gx X tb) E Q ρ μ.length H (lcGo ws p t el (wipeT σT own) (xs.drop (i + 1)) acc' μ') := fun {ρ4 μ4 H4 u w} e4 m4 du g4 => by
            split at g4
            · rename_i hz
              have hD4 := stay e4
              have nD4 := away e4
              exact ⟨vs, hD4, by rw [← dA.length]; exact hz, _, by omega, rfl, hlt, ρ4, μ4, acc ++ [u], vs ++ [w], (e2'.trans e4).side hD hD4, m4.side hD4 nD4, LRel.side (g := gx X tb) hD4 (l2.ext e4), upd_same, nD4, DVs.side (g := gx X tb) hD4 ((dA.ext e4).append (.cons du .nil)), g4⟩
            · exact g4.elim
          cases t with
          | none =>
            have z : lcGo ws p none el (wipeT σT own) (xs[i] :: xs.drop (i + 1)) acc μ' = (el σ4 μ').toL fun y μ1 => if acc.length < sizeLine then lcGo ws p none el (wipeT σT own) (xs.drop (i + 1)) (acc ++ [y]) μ1 else .bad := by
              simp only [lcGo, if_pos hw, hb]
            rw [z] at fin
            refine ttOf_none ?_
            exact ⟨ρ', σ4, μ', m3, l5, Good.toL fin fun y μ4 ρ4 w H4 e4 m4 dy g4 => more (e3.trans e4) m4 dy g4⟩
          | some c =>
            have z : lcGo ws p (some c) el (wipeT σT own) (xs[i] :: xs.drop (i + 1)) acc μ' = (c σ4 μ').toL fun q μ1 => match q with
                | .bl true => (el σ4 μ1).toL fun y μ2 => if acc.length < sizeLine then lcGo ws p (some c) el (wipeT σT own) (xs.drop (i + 1)) (acc ++ [y]) μ2 else .bad
                | .bl false => lcGo ws p (some c) el (wipeT σT own) (xs.drop (i + 1)) acc μ1
                | _ => .bad := by
              simp only [lcGo, if_pos hw, hb]
            rw [z] at fin
            refine ⟨ρ', σ4, μ', m3, l5, Good.toL fin fun q μ4 ρ4 w H4 e4 m4 dq g4 => ?_⟩
            cases q with
            | bl q =>
              refine ⟨q, dq, ?_⟩
              cases q with
              | true =>
                rw [if_pos rfl]
                exact ⟨ρ4, σ4, μ4, m4, l5.ext e4, Good.toL g4 fun y μ5 ρ5 w5 H5 e5 m5 dy g5 => more ((e3.trans e4).trans e5) m5 dy g5⟩
              | false =>
                rw [if_neg Bool.false_ne_true]
                have e34 := e3.trans e4
                exact ⟨_, by omega, rfl, hlt, ρ4, μ4, acc, vs, e2'.trans e34, m4, l2.ext e34, stay e34, away e34, dA.ext e34, g4⟩
            | _ => exact (show False from g4).elim
      · have z : lcGo ws p t el (wipeT σT own) (xs[i] :: xs.drop (i + 1)) acc μ' = .bad := by
          simp only [lcGo, if_neg hw]
        rw [z] at fin
        exact fin.elim
    · have he : i = xs.length := by omega
      rw [he, List.drop_length] at fin
      by_cases hw : watched ws μ' = true
      · obtain ⟨_, w2⟩ := wk ρ' μ' H' e2' m2 hw i
        refine .inl ⟨w2 (by omega), ?_⟩
        have z : lcGo ws p t el (wipeT σT own) [] acc μ' = .ok acc μ' := by
          simp only [lcGo, if_pos hw]
        rw [z] at fin
        exact fin ρ' D vs H' (e1.trans e2') m2 hDv (e1.th _ (.inl hD)) nD' dA
      · have z : lcGo ws p t el (wipeT σT own) [] acc μ' = .bad := by
          simp only [lcGo, if_neg hw]
        rw [z] at fin
        exact fin.elim
theorem l_lc {elt : Expr} {ifs : List Expr} {scope : Scope} {own : List (Str × Nat)} {t : Option EM} {el : EM} (hc : X.calm = true) (hN : X.N.Nodup) (hi : PI X tg iter (tI (gx X tb) E it)) (ok : BlkOk X.N X.env.scope scope own) (hs : ∀ i ∈ pslots p, i ∈ own.map (·.2))
    (hg : ∀ (s : Shared) (H : Hp) (C : Addr) (cl : List (Str × Addr)) (fp : List Addr), PG (X.blk s H scope (compEnvC scope cl C X.env) fp) tg (tG X.K p)) (ht : ∀ (s : Shared) (H : Hp) (C : Addr) (cl : List (Str × Addr)) (fp : List Addr), PTs' (X.blk s H scope (compEnvC scope cl C X.env) fp) tb ifs t)
    (he : ∀ (s : Shared) (H : Hp) (C : Addr) (cl : List (Str × Addr)) (fp : List Addr), PE (X.blk s H scope (compEnvC scope cl C X.env) fp) elt (tE (gx X tb) E0 el)) (hf : ∀ x, foldedSetIterable iter X.env x = pure x := by intro _; rfl) :
    PE X (.ListComp elt [⟨tg, iter, ifs, 0⟩] scope pos) (tL (gx X tb) E (dLc it p (own.map (·.2)) t el)) :=
  (pe_lc hc hN hi ok hg (fun s H C cl fp => pts_of (ht s H C cl fp)) he hf).imp (tL_lc hs)
end
end TL
set_option Elab.async false
set_option linter.all false
set_option maxRecDepth 100000
set_option maxHeartbeats 2000000
/-! TL7: defs, calls, instances, dicts -/
namespace TL
open PySem PySem.Spec PyProof.Rows L2
/-! ### defs -/
abbrev Fn := List T → Mem → Res
def spT (g : G) (n : Nat) (F : Fn) : Sp := fun vs H Q E => ∃ ρ ts μ, MRel g ρ μ H ∧ DVs g.K ρ μ.length H ts vs ∧ ts.length = n ∧ Good g E Q ρ μ.length H (F ts μ)
def SRes.toR (r : SRes) : Res := match r with
  | .nx _ μ => .ok .non μ
  | .rt t μ => .ok t μ
  | .exc c fs μ => .exc c fs μ
  | _ => .bad
/-- a body run: nn its names, the parameters first -/
def runF (nn : Nat) (d : SM) : Fn := fun ts μ => (d (ts.map some ++ List.replicate (nn - ts.length) none) μ).toR
theorem start_rel {K : PySem.W.Frag} {ρ : Nat → Addr} {n : Nat} {H : Hp} {ts : List T} {vs : List V} {N : List Str} (d : DVs K ρ n H ts vs) : LRel K ρ n H (ts.map some ++ List.replicate (N.length - ts.length) none) (L2.start N vs) := by
  have hl := d.length
  unfold L2.start
  refine ⟨by simp [hl], fun i t e => ?_⟩
  by_cases hi : i < ts.length
  · rw [List.getElem?_append_left (by simpa using hi), List.getElem?_map] at e
    cases q : ts[i]? with
    | none => rw [q] at e; cases e
    | some u =>
      rw [q] at e; cases e
      obtain ⟨v, h1, h2⟩ := d.get q
      exact ⟨v, by rw [List.getElem?_append_left (by simpa [← hl] using hi), List.getElem?_map, h1]; rfl, h2⟩
  · rw [List.getElem?_append_right (by simpa using hi), List.getElem?_replicate] at e
    split at e <;> cases e
/-- how a def stands for its callers -/
structure Def (P : Program) (w : World) (K : PySem.W.Frag) (mg : Str → Option Value) (base : Heap) (tb : List (Addr × Str)) (x : Str) (n : Nat) (F : Fn) (k : Nat) : Prop where
  ex : ∃ f fd ps, FnOk P w K mg base (L2.CX P w) k f fd ps (spT ⟨K, mg, tb⟩ n F) ∧ mg x = some (.ref f) ∧ PySem.W.keepIn K (.ref f) = true ∧ Binds K fd ps []
/-- a method of the class c -/
structure MDef (P : Program) (w : World) (K : PySem.W.Frag) (mg : Str → Option Value) (base : Heap) (tb : List (Addr × Str)) (c m : Str) (n : Nat) (F : Fn) (k : Nat) : Prop where
  ex : ∃ C f fd ps, FnOk P w K mg base (L2.CX P w) k f fd ps (spT ⟨K, mg, tb⟩ n F) ∧ mg c = some (.ref C) ∧ Cls K C ∧ Meth K C m f ∧ Binds K fd ps []
/-- a class that is made by its __init__ -/
structure CDef (P : Program) (w : World) (K : PySem.W.Frag) (mg : Str → Option Value) (base : Heap) (tb : List (Addr × Str)) (c : Str) (n : Nat) (F : Fn) (k : Nat) : Prop where
  ex : ∃ C f fd ps, FnOk P w K mg base (L2.CX P w) k f fd ps (spT ⟨K, mg, tb⟩ n F) ∧ mg c = some (.ref C) ∧ Mk K C f ∧ Binds K fd ps []
section
variable {P : Program} {w : World} {K : PySem.W.Frag} {mg : Str → Option Value} {base : Heap} {tb : List (Addr × Str)}
/-- THE RULE of a def's body -/
theorem fn_body {x qual : Str} {st : Stmt} {f : Addr} {fd : FuncData} {N ps : List Str} {k : Nat} {d : SM} {F' : Fn} (F : Fun K x qual st f fd) (S : FnScope N ps (defScope st))
    (hb : ∀ (cdv : Value) (A : Around) (outer : List Env) (s : Shared) (H : Hp) (E : XK), Room k (A.deeper (envOfC qual (defScope st) s.heap.objs.size f cdv)) → PSs (cxOf (L2.CX P w) P w K mg base N qual (defScope st) f cdv A outer s H E) (defBody st) (tS ⟨K, mg, tb⟩ E d))
    (hF : ∀ ρ ts μ H E Q, MRel ⟨K, mg, tb⟩ ρ μ H → (∃ vs, DVs K ρ μ.length H ts vs) → ts.length = ps.length → Good ⟨K, mg, tb⟩ E Q ρ μ.length H (F' ts μ) → Good ⟨K, mg, tb⟩ E Q ρ μ.length H (runF N.length d ts μ)) :
    FnOk P w K mg base (L2.CX P w) (k + 1) f fd ps (spT ⟨K, mg, tb⟩ ps.length F') := by
  refine F.okX S (fun vs H Q E h => ?_) fun cdv A outer s H vs Q E hr h => ⟨_, hb cdv A outer s H E hr, ?_⟩
  · obtain ⟨ρ, ts, μ, m, d, hl, _⟩ := h
    rw [← d.length]; exact hl
  · obtain ⟨ρ, ts, μ, m, dv, hl, g⟩ := h
    have g2 := hF ρ ts μ H E Q m ⟨vs, dv⟩ hl g
    refine ⟨ρ, _, μ, m, start_rel dv, ?_⟩
    unfold runF at g2
    have e : ts.map some ++ List.replicate (N.length - ts.length) none = ts.map some ++ List.replicate (N.length - ts.length) none := rfl
    revert g2
    generalize d (ts.map some ++ List.replicate (N.length - ts.length) none) μ = r
    intro g2
    cases r with
    | nx σT μ' => exact fun ρ' σ' H' e m l => g2 ρ' .non H' e m rfl
    | rt t μ' => exact g2
    | exc c fs μ' => exact g2
    | bk σT μ' => exact g2.elim
    | ct σT μ' => exact g2.elim
    | bad => exact g2.elim
theorem Def.mono {x : Str} {n : Nat} {F : Fn} {j k : Nat} (d : Def P w K mg base tb x n F j) (h : j ≤ k) : Def P w K mg base tb x n F k := by
  obtain ⟨f, fd, ps, h1, h2⟩ := d.ex
  exact ⟨f, fd, ps, h1.mono h, h2⟩
theorem MDef.mono {c x : Str} {n : Nat} {F : Fn} {j k : Nat} (d : MDef P w K mg base tb c x n F j) (h : j ≤ k) : MDef P w K mg base tb c x n F k := by
  obtain ⟨C, f, fd, ps, h1, h2⟩ := d.ex
  exact ⟨C, f, fd, ps, h1.mono h, h2⟩
end
/-! ### calls -/
def dFn (n : Nat) (F : Fn) (d : AM) : EM := fun σ μ => d σ μ fun ts μ1 => if ts.length = n then F ts μ1 else .bad
section
variable {X : Cx} {tb : List (Addr × Str)} {E : XK} {e o : Expr} {es : List Expr} {d : AM} {dd : EM} {p pos apos : Pos} {x c m : Str} {n k : Nat} {F : Fn}
theorem pass_of (tk : Takes X (fun c d _ H => E c d H)) : Passes (L2.CX X.prog X.w) X E := passes_call tk fun _ _ _ _ h => h
theorem fn_args {g : G} {t : TA} (ha : AOk g E t d) : ∀ σ H Q, tE g E (dFn n F d) σ H Q → tCall (spT g n F) [] E t σ H Q := fun σ H Q h => by
  obtain ⟨ρ, σT, μ, m, l, h⟩ := h
  refine ha.go Q ρ σT μ σ H _ _ m l h fun ts μ1 ρ1 vs H1 e1 m1 ds q1 => ?_
  split at q1
  · rename_i hl
    exact ⟨ρ1, ts, μ1, m1, by rw [List.append_nil]; exact ds, hl, q1⟩
  · exact q1.elim
theorem e_call (D : Def X.prog X.w X.K X.mg X.base tb x n F k) (hr : Room k X.A) (tk : Takes X (fun c d _ H => E c d H)) (ha : PAd X tb E (e :: es) d) (hg : Gl X x := by rfl) (hdb : (x == ("__debug__" : Str)) = false := by decide)
    (he : starEach (e :: es) X.env = (false, eval e X.env) :: starEach es X.env := by rfl) (hpl : (backTo pos (starEach es X.env)).any (·.1) = false := by rfl) : PE X (.Call (.Name x p) (e :: es) [] pos) (tE (gx X tb) E (dFn n F d)) := by
  obtain ⟨f, fd, ps, h1, h2, h3, h4⟩ := D.ex
  obtain ⟨t, a1, a2⟩ := ha.ex
  exact (pe_call h1 hr hg h2 h3 h4 .nil (pass_of tk) a1 hdb he hpl).imp (fn_args a2)
theorem e_call0 (D : Def X.prog X.w X.K X.mg X.base tb x n F k) (hr : Room k X.A) (tk : Takes X (fun c d _ H => E c d H)) (hg : Gl X x := by rfl) (hdb : (x == ("__debug__" : Str)) = false := by decide) : PE X (.Call (.Name x p) [] [] pos) (tE (gx X tb) E (dFn n F aNil)) := by
  obtain ⟨f, fd, ps, h1, h2, h3, h4⟩ := D.ex
  exact (pe_call0 h1 hr hg h2 h3 h4 .nil (pass_of tk) hdb).imp (fn_args ao_nil)
theorem DVk.lookN {K : PySem.W.Frag} {ρ : Nat → Addr} {n : Nat} {H : Hp} {f : Str} : ∀ {fs : List (Str × T)} {ws : List (Str × V)}, DVk K ρ n H fs ws → fs.lookup f = none → ws.lookup f = none
  | [], _, d, _ => by rw [show _ = [] from d]; rfl
  | q :: fs, _, d, e => by
    obtain ⟨v, w, rfl, h2, h3⟩ := d
    obtain ⟨a, t⟩ := q
    simp only [List.lookup] at e ⊢
    split at e
    · cases e
    · exact DVk.lookN h3 e
theorem DVk.lookS {K : PySem.W.Frag} {ρ : Nat → Addr} {n : Nat} {H : Hp} {f : Str} {t : T} : ∀ {fs : List (Str × T)} {ws : List (Str × V)}, DVk K ρ n H fs ws → fs.lookup f = some t → ∃ v, ws.lookup f = some v ∧ DV K ρ n H t v
  | [], _, d, e => by cases e
  | q :: fs, _, d, e => by
    obtain ⟨v, w, rfl, h2, h3⟩ := d
    obtain ⟨a, u⟩ := q
    simp only [List.lookup] at e ⊢
    split at e
    · cases e; exact ⟨v, rfl, h2⟩
    · exact DVk.lookS h3 e
/-- o.m(..) of an instance of the class c -/
def dMeth (c m : Str) (n : Nat) (F : Fn) (dd : EM) (d : AM) : EM := fun σ μ => (dd σ μ).bind fun o μ1 => match o with
  | .ref k => match μ1[k]? with
    | some (.ins c' fs) => if c' = c ∧ fs.lookup m = none then d σ μ1 fun ts μ2 => if ts.length + 1 = n then F (.ref k :: ts) μ2 else .bad else .bad
    | _ => .bad
  | _ => .bad
theorem meth_args {t : TA} {C : Addr} (hC : X.mg c = some (.ref C)) (ha : AOk (gx X tb) E t d) : ∀ σ H Q, tE (gx X tb) E (dMeth c m n F dd d) σ H Q → tMeth C m (spT (gx X tb) n F) [] E (tE (gx X tb) E dd) t σ H Q := fun σ H Q h => by
  obtain ⟨ρ, σT, μ, mr, l, h⟩ := h
  refine bindE mr l h fun x μ1 ρ1 v H1 e1 m1 l1 dx h1 => ?_
  cases x with
  | ref k =>
    have h1 : Good (gx X tb) E Q ρ1 μ1.length H1 (match μ1[k]? with | some (.ins c' fs) => if c' = c ∧ fs.lookup m = none then d σT μ1 fun ts μ2 => if ts.length + 1 = n then F (.ref k :: ts) μ2 else .bad else .bad | _ => .bad) := h1
    split at h1
    · rename_i c' fs hk
      split at h1
      · rename_i hc
        obtain ⟨ho, q1, C', dx', ws, q2, rfl, q3⟩ := m1.ob k _ hk
        have q2 : X.mg c' = some (.ref C') := q2
        rw [hc.1, hC] at q2
        cases q2
        obtain ⟨hkl, rfl⟩ := dx
        refine ⟨ρ1 k, dx', ws, rfl, q1, q3.lookN hc.2, ?_⟩
        refine ha.go Q ρ1 σT μ1 σ H1 _ _ m1 l1 h1 fun ts μ2 ρ2 vs H2 e2 m2 ds g2 => ?_
        split at g2
        · rename_i hl
          exact ⟨ρ2, .ref k :: ts, μ2, m2, .cons ⟨Nat.lt_of_lt_of_le hkl e2.le, by rw [e2.ag k hkl]⟩ (by rw [List.append_nil]; exact ds), by simpa using hl, g2⟩
        · exact g2.elim
      · exact h1.elim
    · exact h1.elim
  | _ => exact (show False from h1).elim
theorem e_meth {pl : Sem Bool} (D : MDef X.prog X.w X.K X.mg X.base tb c m n F k) (ho : PE X o (tE (gx X tb) E dd)) (hr : Room k X.A) (tk : Takes X (fun c d _ H => E c d H)) (ha : PAd X tb E (e :: es) d)
    (hst : starEach (e :: es) X.env = (false, eval e X.env) :: starEach es X.env := by rfl) (hpl : (backTo pos (starEach es X.env)).any (·.1) = false := by rfl)
    (ht : eval (.Call (.Attribute o m apos) (e :: es) [] pos) X.env = (do
      let ov ← eval o X.env
      standAt apos.atName
      let (f, first) ← holding [ov] (getMethod ov m pl)
      callWith pos f first (backTo pos (starEach (e :: es) X.env)) (backToKw pos (keywordEach [] X.env))) := by rfl) : PE X (.Call (.Attribute o m apos) (e :: es) [] pos) (tE (gx X tb) E (dMeth c m n F dd d)) := by
  obtain ⟨C, f, fd, ps, h1, h2, h3, h4, h5⟩ := D.ex
  obtain ⟨t, a1, a2⟩ := ha.ex
  exact (pe_meth ho h3 h4 h1 hr h5 .nil (pass_of tk) a1 hst hpl ht).imp (meth_args h2 a2)
theorem e_meth0 {pl : Sem Bool} (D : MDef X.prog X.w X.K X.mg X.base tb c m n F k) (ho : PE X o (tE (gx X tb) E dd)) (hr : Room k X.A) (tk : Takes X (fun c d _ H => E c d H))
    (ht : eval (.Call (.Attribute o m apos) [] [] pos) X.env = (do
      let ov ← eval o X.env
      standAt apos.atName
      let (f, first) ← holding [ov] (getMethod ov m pl)
      callWith pos f first (backTo pos (starEach [] X.env)) (backToKw pos (keywordEach [] X.env))) := by rfl) : PE X (.Call (.Attribute o m apos) [] [] pos) (tE (gx X tb) E (dMeth c m n F dd aNil)) := by
  obtain ⟨C, f, fd, ps, h1, h2, h3, h4, h5⟩ := D.ex
  exact (pe_meth0 ho h3 h4 h1 hr h5 .nil (pass_of tk) ht).imp (meth_args h2 ao_nil)
/-- C(..) -/
def dMake (c : Str) (n : Nat) (F : Fn) (d : AM) : EM := fun σ μ => d σ μ fun ts μ1 => if ts.length + 1 = n then (F (.ref μ1.length :: ts) (μ1 ++ [.ins c []])).bind fun r μ2 => match r with
  | .non => .ok (.ref μ1.length) μ2
  | _ => .bad else .bad
theorem make_args {t : TA} {C : Addr} (hC : X.mg c = some (.ref C)) (ha : AOk (gx X tb) E t d) : ∀ σ H Q, tE (gx X tb) E (dMake c n F d) σ H Q → tMake C (spT (gx X tb) n F) [] E t σ H Q := fun σ H Q h => by
  obtain ⟨ρ, σT, μ, mr, l, h⟩ := h
  refine ha.go Q ρ σT μ σ H _ _ mr l h fun ts μ1 ρ1 vs H1 e1 m1 ds q1 => ?_
  intro x dx hx hdx hne
  split at q1
  · rename_i hl
    have a1 : Ext (gx X tb) ρ1 μ1.length H1 ρ1 μ1.length (upd H1 dx (.own x)) := Ext.fresh hdx _
    have b1 := m1.fresh (o := HO.own x) hdx
    have hx' : (upd H1 dx (.own x)) x = none := by rw [upd_ne (Ne.symm hne)]; exact hx
    have a2 : Ext (gx X tb) ρ1 μ1.length (upd H1 dx (.own x)) (ρadd ρ1 μ1.length x) (μ1.length + 1) (upd (upd H1 dx (.own x)) x (.ins C dx [])) := Ext.new hx' _
    have b2 := b1.new (mo := .ins c []) hx' ⟨C, dx, [], hC, rfl, rfl⟩
    have hl2 : (μ1 ++ [MO.ins c []]).length = μ1.length + 1 := by simp
    have a3 := a1.trans a2
    refine ⟨ρadd ρ1 μ1.length x, .ref μ1.length :: ts, μ1 ++ [.ins c []], b2, .cons ⟨by rw [hl2]; exact Nat.lt_succ_self _, by unfold ρadd; rw [if_pos rfl]⟩ (by rw [List.append_nil, hl2]; exact ds.ext a3), by simpa using hl, ?_⟩
    rw [hl2]
    refine Good.bind (Good.later a3 q1) fun r μ2 ρ2 w H2 _ e2 m2 dw g2 => ?_
    cases r with
    | non =>
      refine ⟨dw, g2 ρ2 (.ref x) H2 (Ext.refl _ _ _ _) m2 ⟨Nat.lt_of_lt_of_le (Nat.lt_succ_self _) e2.le, ?_⟩⟩
      rw [e2.ag _ (Nat.lt_succ_self _)]
      unfold ρadd; rw [if_pos rfl]
    | _ => exact (show False from g2).elim
  · exact q1.elim
theorem e_make (D : CDef X.prog X.w X.K X.mg X.base tb c n F k) (hr : Room (k + 1) X.A) (tk : Takes X (fun c d _ H => E c d H)) (ha : PAd X tb E (e :: es) d) (hg : Gl X c := by rfl) (hdb : (c == ("__debug__" : Str)) = false := by decide)
    (he : starEach (e :: es) X.env = (false, eval e X.env) :: starEach es X.env := by rfl) (hpl : (backTo pos (starEach es X.env)).any (·.1) = false := by rfl) : PE X (.Call (.Name c p) (e :: es) [] pos) (tE (gx X tb) E (dMake c n F d)) := by
  obtain ⟨C, f, fd, ps, h1, h2, h3, h4⟩ := D.ex
  obtain ⟨t, a1, a2⟩ := ha.ex
  exact (pe_make h3 h1 hr hg h2 h4 .nil (pass_of tk) a1 hdb he hpl).imp (make_args h2 a2)
theorem e_make0 (D : CDef X.prog X.w X.K X.mg X.base tb c n F k) (hr : Room (k + 1) X.A) (tk : Takes X (fun c d _ H => E c d H)) (hg : Gl X c := by rfl) (hdb : (c == ("__debug__" : Str)) = false := by decide) : PE X (.Call (.Name c p) [] [] pos) (tE (gx X tb) E (dMake c n F aNil)) := by
  obtain ⟨C, f, fd, ps, h1, h2, h3, h4⟩ := D.ex
  exact (pe_make0 h3 h1 hr hg h2 h4 .nil (pass_of tk) hdb).imp (make_args h2 ao_nil)
/-! ### fields -/
/-- what must be known of a class to read and store its field f -/
def FldOk (K : PySem.W.Frag) (mg : Str → Option Value) (c f : Str) : Prop := ∃ C, mg c = some (.ref C) ∧ Cls K C ∧ NoAttr K C f
def fldT (c f : Str) : T → Mem → Res := fun o μ => match o with
  | .ref k => match μ[k]? with
    | some (.ins c' fs) => if c' = c then (match fs.lookup f with
      | some t => .ok t μ
      | none => .bad) else .bad
    | _ => .bad
  | _ => .bad
theorem e_fld {f : Str} (h : FldOk X.K X.mg c f) (he : PE X o (tE (gx X tb) E dd)) (hb : attributeBase o f X.env (eval o X.env) = eval o X.env := by rfl) : PE X (.Attribute o f pos) (tE (gx X tb) E (d1 (fldT c f) dd)) :=
  (pe_fld he hb).imp fun σ H Q q => by
    obtain ⟨C, hC, cl, na⟩ := h
    obtain ⟨ρ, σT, μ, mr, l, q⟩ := q
    refine bindE mr l q fun x μ1 ρ1 v H1 e1 m1 l1 dx h1 => ?_
    unfold fldT at h1
    split at h1
    · rename_i k
      split at h1
      · rename_i c' fs hk
        split at h1
        · rename_i hc
          split at h1
          · rename_i t ht
            obtain ⟨ho, q1, C', dx', ws, q2, rfl, q3⟩ := m1.ob k _ hk
            have q2 : X.mg c' = some (.ref C') := q2
            rw [hc, hC] at q2
            cases q2
            obtain ⟨hkl, rfl⟩ := dx
            obtain ⟨w, hw, dw⟩ := q3.lookS ht
            exact ⟨_, C, dx', ws, w, rfl, q1, cl, na, hw, h1.same m1 dw⟩
          · exact h1.elim
        · exact h1.elim
      · exact h1.elim
    · exact h1.elim
def putT (f : Str) (v : T) : List (Str × T) → List (Str × T)
  | [] => [(f, v)]
  | (g, x) :: r => if g = f then (g, v) :: r else (g, x) :: putT f v r
theorem DVk.put {K : PySem.W.Frag} {ρ : Nat → Addr} {n : Nat} {H : Hp} {f : Str} {t : T} {v : V} (d : DV K ρ n H t v) : ∀ {fs : List (Str × T)} {ws : List (Str × V)}, DVk K ρ n H fs ws → DVk K ρ n H (putT f t fs) (L2.putF f v ws)
  | [], _, h => by rw [show _ = [] from h]; exact ⟨v, [], rfl, d, rfl⟩
  | (a, u) :: fs, _, h => by
    obtain ⟨w, r, rfl, h2, h3⟩ := h
    unfold putT
    rw [show L2.putF f v ((a, w) :: r) = (if a = f then (a, v) :: r else (a, w) :: L2.putF f v r) from rfl]
    by_cases e : a = f
    · rw [if_pos e, if_pos e]; exact ⟨v, r, rfl, d, h3⟩
    · rw [if_neg e, if_neg e]; exact ⟨w, _, rfl, h2, DVk.put d h3⟩
/-- o.f = e -/
def sFldT (c f : Str) (dd dv : EM) : SM := fun σ μ => (dv σ μ).toS fun v μ1 => (dd σ μ1).toS fun o μ2 => match o with
  | .ref k => match μ2[k]? with
    | some (.ins c' fs) => if c' = c ∧ fs.length < 1000 then .nx σ (μ2.set k (.ins c' (putT f v fs))) else .bad
    | _ => .bad
  | _ => .bad
theorem s_fld {f : Str} {dv : EM} {pos' : Pos} (h : FldOk X.K X.mg c f) (he : PE X o (tE (gx X tb) E dd)) (hv : PE X e (tE (gx X tb) E dv)) (hs : swapsWith e (some (.Attribute o f pos')) pos.line X.env = pure false := by rfl) : PS X (.Assign [.Attribute o f pos'] e pos) (tS (gx X tb) E (sFldT c f dd dv)) :=
  (ps_fld he hv hs).imp fun D σ H q => by
    obtain ⟨C, hC, cl, na⟩ := h
    obtain ⟨ρ, σT, μ, mr, l, q⟩ := q
    refine bindS (Q := D.rt) mr l q fun x μ1 ρ1 v H1 e1 m1 l1 dx h1 => ?_
    refine bindS (Q := D.rt) m1 l1 h1 fun y μ2 ρ2 w H2 e2 m2 l2 dy h2 => ?_
    split at h2
    · rename_i k
      split at h2
      · rename_i c' fs hk
        split at h2
        · rename_i hc
          obtain ⟨ho, q1, C', dx', ws, q2, rfl, q3⟩ := m2.ob k _ hk
          have q2' : X.mg c' = some (.ref C') := q2
          rw [hc.1, hC] at q2'
          cases q2'
          obtain ⟨hkl, rfl⟩ := dy
          have pe : Ext (gx X tb) ρ2 μ2.length H2 ρ2 μ2.length (upd H2 (ρ2 k) (.ins C dx' (L2.putF f v ws))) := Ext.put m2 hk
          refine ⟨_, C, dx', ws, rfl, q1, cl, na, by rw [← q3.length]; exact hc.2, ?_⟩
          exact h2 ρ2 σ _ (by rw [List.length_set]; exact pe) (m2.put hk ⟨C, dx', _, q2, rfl, q3.put (dx.ext e2)⟩) (by rw [List.length_set]; exact l2.ext pe)
        · exact h2.elim
      · exact h2.elim
    · exact h2.elim
end
end TL
set_option Elab.async false
set_option linter.all false
set_option maxRecDepth 100000
set_option maxHeartbeats 2000000
/-! TL8: built-ins, methods, dicts, slices, raise -/
namespace TL
open PySem PySem.Spec PyProof.Rows L2
section
variable {X : Cx} {tb : List (Addr × Str)} {E : XK} {a b e o : Expr} {es : List Expr} {da db dd : EM} {d : AM} {pos p apos cpos : Pos}
/-! ### isinstance of a built-in type -/
def tyName (x : T) (μ : Mem) : Option String := match x with
  | .non => some "NoneType"
  | .bl _ => some "bool"
  | .int _ => some "int"
  | .str _ => some "str"
  | .tup _ => some "tuple"
  | .er _ _ => none
  | .fl _ => none
  | .ref k => match μ[k]? with
    | some (.lst _) => some "list"
    | some (.dct _) => some "dict"
    | some (.lck _) => some "dict"
    | _ => none
theorem tyName_of {g : G} {ρ : Nat → Addr} {μ : Mem} {H : Hp} {x : T} {v : V} {n : String} (m : MRel g ρ μ H) (h : DV g.K ρ μ.length H x v) (e : tyName x μ = some n) : TyX g.K H v (.type n) := by
  cases x with
  | non => cases e; rw [show v = _ from h]; exact .base .non
  | bl b => cases e; rw [show v = _ from h]; exact .base (.bl b)
  | int b => cases e; rw [show v = _ from h]; exact .base (.int b)
  | str b => cases e; rw [show v = _ from h]; exact .base (.str b)
  | er _ _ => cases e
  | fl b => cases e
  | tup ts =>
    cases e
    obtain ⟨a, vs, rfl, h2, h3⟩ := h
    rcases h2 with (h2 | ⟨o, h2⟩) | ⟨o, its, n, h2, h4, _⟩
    · exact .base (.tup h2)
    · exact .fTuple h2
    · exact .kTuple h2 h4
  | ref k =>
    obtain ⟨h1, rfl⟩ := h
    unfold tyName at e
    dsimp only at e
    split at e
    · rename_i hk
      cases e
      obtain ⟨ho, q1, vs, rfl, q2⟩ := m.ob k _ hk
      exact .base (.lst q1)
    · rename_i hk
      cases e
      obtain ⟨ho, q1, vs, rfl, q2⟩ := m.ob k _ hk
      exact .base (.dK q1)
    · rename_i hk
      cases e
      obtain ⟨ho, q1, od, vs, rfl, q2⟩ := m.ob k _ hk
      exact .fDict q1
    · cases e
def isiT (ty : String) : T → Mem → Res := fun x μ => match tyName x μ with
  | some n => match kitB n ty with
    | some b => .ok (.bl b) μ
    | none => .bad
  | none => .bad
theorem e_isi {x : Str} {px : Pos} (ty : String) (hm : X.mg "isinstance" = none) (hm2 : X.mg x = none) (ha : PE X a (tE (gx X tb) E da)) (hv2 : bootBuiltins x = some (.type ty) := by decide +kernel) (hg : Gl X "isinstance" := by rfl) (hg2 : Gl X x := by rfl)
    (hn2 : x ≠ "__name__" := by decide) (hd2 : (x == ("__debug__" : Str)) = false := by decide) (hv : bootBuiltins "isinstance" = some (.builtin "isinstance") := by decide +kernel)
    (hs : starEach [a, .Name x px] X.env = (false, eval a X.env) :: starEach [.Name x px] X.env := by rfl) (hs2 : starEach [.Name x px] X.env = [(false, eval (.Name x px) X.env)] := by rfl) (hpl : (backTo pos (starEach [.Name x px] X.env)).any (·.1) = false := by rfl) :
    PE X (.Call (.Name "isinstance" p) [a, .Name x px] [] pos) (tE (gx X tb) E (d1 (isiT ty) da)) :=
  (pe_callB call_isi hg hm hv (pa_cons ha (pa_cons (pe_bltn (v := .ty ty) hg2 hm2 hv2 rfl hn2 hd2) pa_nil hs2) hs) (by decide) (by decide) hs hpl).imp fun σ H Q h => by
    obtain ⟨ρ, σT, μ, m, l, h⟩ := h
    refine bindE m l h fun x μ1 ρ1 v H1 e1 m1 l1 dx h1 => ?_
    unfold isiT at h1
    split at h1
    · rename_i n hn
      split at h1
      · rename_i b hb
        exact ⟨v, .ty ty, .type n, .type ty, b, rfl, .ty ty, tyName_of m1 dx hn, kit_ty hb, h1.same m1 rfl⟩
      · exact h1.elim
    · exact h1.elim
/-! ### all, any, sum, of lists just made -/
def allQ : List T → Mem → Res := fun ts μ => match unB ts with
  | some bs => .ok (.bl (bs.all id)) μ
  | none => .bad
def anyQ : List T → Mem → Res := fun ts μ => match unB ts with
  | some bs => .ok (.bl (bs.any id)) μ
  | none => .bad
def sumQ : List T → Mem → Res := fun ts μ => match unI ts with
  | some ns => .ok (.int ns.sum) μ
  | none => .bad
theorem cq_all (hc : X.calm = true) : CallQ sLst X tb (.builtin "all") allQ := ⟨_, cr_all hc, fun E Q ρ μ H ts a vs m h d g => by
  unfold allQ at g
  split at g
  · rename_i bs hb
    exact ⟨a, bs, rfl, by rw [← unB_of d hb]; exact h, g.same m rfl⟩
  · exact g.elim⟩
theorem cq_any (hc : X.calm = true) : CallQ sLst X tb (.builtin "any") anyQ := ⟨_, cr_any hc, fun E Q ρ μ H ts a vs m h d g => by
  unfold anyQ at g
  split at g
  · rename_i bs hb
    exact ⟨a, bs, rfl, by rw [← unB_of d hb]; exact h, g.same m rfl⟩
  · exact g.elim⟩
theorem cq_sum (hc : X.calm = true) : CallQ sLst X tb (.builtin "sum") sumQ := ⟨_, cr_sum hc, fun E Q ρ μ H ts a vs m h d g => by
  unfold sumQ at g
  split at g
  · rename_i bs hb
    exact ⟨a, bs, rfl, by rw [← unI_of d hb]; exact h, g.same m rfl⟩
  · exact g.elim⟩
/-! ### abs, int, min, max, len -/
def absC : List T → Mem → Res := fun ts μ => match ts with
  | [.int i] => .ok (.int (if i < 0 then -i else i)) μ
  | _ => .bad
theorem cl_abs : CallL X tb (.builtin "abs") absC := ⟨_, call_abs, fun E Q ρ μ H ts vs m d g => by
  unfold absC at g
  split at g
  · obtain ⟨v, r, rfl, h2, h3⟩ := d
    exact ⟨_, by rw [show v = _ from h2, show r = [] from h3], g.same m rfl⟩
  · exact g.elim⟩
def intC : List T → Mem → Res := fun ts μ => match ts with
  | [.int i] => .ok (.int i) μ
  | [.bl b] => .ok (.int (if b then 1 else 0)) μ
  | _ => .bad
theorem cl_int : CallL X tb (.type "int") intC := ⟨_, call_int1, fun E Q ρ μ H ts vs m d g => by
  unfold intC at g
  split at g
  · obtain ⟨v, r, rfl, h2, h3⟩ := d
    exact .inl ⟨_, by rw [show v = _ from h2, show r = [] from h3], g.same m rfl⟩
  · obtain ⟨v, r, rfl, h2, h3⟩ := d
    exact .inr ⟨_, by rw [show v = _ from h2, show r = [] from h3], g.same m rfl⟩
  · exact g.elim⟩
def max2C : List T → Mem → Res := fun ts μ => match ts with
  | [.int i, .int j] => .ok (.int (if j > i then j else i)) μ
  | _ => .bad
theorem cl_max2 (hc : X.calm = true) : CallL X tb (.builtin "max") max2C := ⟨_, call_max2 hc, fun E Q ρ μ H ts vs m d g => by
  unfold max2C at g
  split at g
  · obtain ⟨v, r, rfl, h2, w, r2, rfl, h3, h4⟩ := d
    exact ⟨_, _, by rw [show v = _ from h2, show w = _ from h3, show r2 = [] from h4], g.same m rfl⟩
  · exact g.elim⟩
def min2C : List T → Mem → Res := fun ts μ => match ts with
  | [.int i, .int j] => .ok (.int (if j < i then j else i)) μ
  | _ => .bad
theorem cl_min2 (hc : X.calm = true) : CallL X tb (.builtin "min") min2C := ⟨_, call_min2 hc, fun E Q ρ μ H ts vs m d g => by
  unfold min2C at g
  split at g
  · obtain ⟨v, r, rfl, h2, w, r2, rfl, h3, h4⟩ := d
    exact ⟨_, _, by rw [show v = _ from h2, show w = _ from h3, show r2 = [] from h4], g.same m rfl⟩
  · exact g.elim⟩
def lenC : List T → Mem → Res := fun ts μ => match ts with
  | [.str z] => if z.length ≤ sizeLine then .ok (.int z.length) μ else .bad
  | [.ref k] => (match μ[k]? with
    | some (.lst xs) => .ok (.int xs.length) μ
    | some (.dct kvs) => .ok (.int kvs.length) μ
    | _ => .bad)
  | [.tup xs] => .ok (.int xs.length) μ
  | _ => .bad
theorem cl_len : CallL X tb (.builtin "len") lenC := ⟨_, CallR.or call_len_seq (CallR.or call_len_str call_lenD), fun E Q ρ μ H ts vs m d g => by
  unfold lenC at g
  split at g
  · split at g
    · rename_i hz
      obtain ⟨v, r, rfl, h2, h3⟩ := d
      exact .inr (.inl ⟨_, by rw [show v = _ from h2, show r = [] from h3], hz, g.same m rfl⟩)
    · exact g.elim
  · obtain ⟨v, r, rfl, h2, h3⟩ := d
    rw [show r = [] from h3]
    split at g
    · rename_i k _ xs hk
      obtain ⟨hkl, rfl⟩ := h2
      obtain ⟨ho, q1, ws, rfl, q2⟩ := m.ob k _ hk
      exact .inl ⟨_, ws, rfl, .inl (SqL.of q1), by rw [← q2.length]; exact g.same m rfl⟩
    · rename_i k _ xs hk
      obtain ⟨hkl, rfl⟩ := h2
      obtain ⟨ho, q1, ws, rfl, q2⟩ := m.ob k _ hk
      exact .inr (.inr ⟨_, ws, rfl, q1, by rw [← q2.length]; exact g.same m rfl⟩)
    · exact g.elim
  · obtain ⟨v, r, rfl, ⟨a, ws, rfl, q2, q3⟩, h3⟩ := d
    rw [show r = [] from h3]
    exact .inl ⟨_, ws, rfl, .inr q2, by rw [← q3.length]; exact g.same m rfl⟩
  · exact g.elim⟩
/-! ### methods of lists -/
def isLst (μ : Mem) : T → Bool
  | .ref k => match μ[k]? with
    | some (.lst _) => true
    | _ => false
  | _ => false
def dLM (k : T → List T → Mem → Res) (dd : EM) (d : AM) : EM := fun σ μ => (dd σ μ).bind fun o μ1 => if isLst μ1 o = true then d σ μ1 fun ts μ2 => k o ts μ2 else .bad
/-- o.m(..), o a list -/
def MtL (X : Cx) (tb : List (Addr × Str)) (id : String) (k : T → List T → Mem → Res) : Prop :=
  ∃ r : V → List V → Hp → VK → Prop, MtR X id r ∧ ∀ (E : XK) (Q : VK) (ρ : Nat → Addr) (μ : Mem) (H : Hp) (x : T) (v : V) (ts : List T) (vs : List V), MRel (gx X tb) ρ μ H → DV X.K ρ μ.length H x v → DVs X.K ρ μ.length H ts vs → Good (gx X tb) E Q ρ μ.length H (k x ts μ) → r v vs H Q
theorem e_lm {name : Str} {id : String} {k : T → List T → Mem → Res} (h : MtL X tb id k) (slot : Slot "list" name id) (hty : typeOf (.builtin id) = pure (.type "method_descriptor")) (ho : PE X o (tE (gx X tb) E dd)) (ha : PAd X tb E (e :: es) d)
    (hbase : attributeBase o name X.env (eval o X.env) = eval o X.env := by rfl)
    (hfew : ((backTo cpos (starEach (e :: es) X.env)).all (fun x => !x.1) && (backToKw cpos (keywordEach [] X.env)).all (fun x => x.1.isSome)
      && decide ((e :: es).length + ([] : List Keyword).length + (if ([] : List Keyword).isEmpty then 0 else 1) < 30)) = true := by rfl)
    (hline : (apos.endLine == cpos.line) = true := by rfl) (hs : starEach (e :: es) X.env = (false, eval e X.env) :: starEach es X.env := by rfl) (hplain : (backTo cpos (starEach es X.env)).any (·.1) = false := by rfl) :
    PE X (.Call (.Attribute o name apos) (e :: es) [] cpos) (tE (gx X tb) E (dLM k dd d)) := by
  obtain ⟨r, h1, h2⟩ := h
  obtain ⟨t, a1, a2⟩ := ha.ex
  refine (pe_bm PySem.F.plainAttrs_list slot hty h1 ho a1 hbase hfew hline hs hplain).imp fun σ H Q q => ?_
  obtain ⟨ρ, σT, μ, m, l, q⟩ := q
  refine bindE m l q fun x μ1 ρ1 v H1 e1 m1 l1 dx g1 => ?_
  split at g1
  · rename_i hl
    refine ⟨?_, a2.go Q ρ1 σT μ1 σ H1 _ _ m1 l1 g1 fun ts μ2 ρ2 vs H2 e2 m2 ds g2 => h2 E Q ρ2 μ2 H2 x v ts vs m2 (dx.ext e2) ds g2⟩
    cases x with
    | ref k =>
      unfold isLst at hl
      dsimp only at hl
      obtain ⟨hkl, rfl⟩ := dx
      split at hl
      · rename_i xs hk
        obtain ⟨ho, q1, ws, rfl, q2⟩ := m1.ob k _ hk
        exact .inl ⟨rfl, ws, SqL.of q1⟩
      · cases hl
    | _ => cases hl
  · exact g1.elim
theorem e_lm0 {name : Str} {id : String} {k : T → List T → Mem → Res} (h : MtL X tb id k) (slot : Slot "list" name id) (hty : typeOf (.builtin id) = pure (.type "method_descriptor")) (ho : PE X o (tE (gx X tb) E dd))
    (hbase : attributeBase o name X.env (eval o X.env) = eval o X.env := by rfl) (hline : (apos.endLine == cpos.line) = true := by rfl) : PE X (.Call (.Attribute o name apos) [] [] cpos) (tE (gx X tb) E (dLM k dd aNil)) := by
  obtain ⟨r, h1, h2⟩ := h
  refine (pe_bm0 PySem.F.plainAttrs_list slot hty h1 ho hbase hline).imp fun σ H Q q => ?_
  obtain ⟨ρ, σT, μ, m, l, q⟩ := q
  refine bindE m l q fun x μ1 ρ1 v H1 e1 m1 l1 dx g1 => ?_
  split at g1
  · rename_i hl
    refine ⟨?_, h2 E Q ρ1 μ1 H1 x v [] [] m1 dx rfl g1⟩
    cases x with
    | ref k =>
      unfold isLst at hl
      dsimp only at hl
      obtain ⟨hkl, rfl⟩ := dx
      split at hl
      · rename_i xs hk
        obtain ⟨ho, q1, ws, rfl, q2⟩ := m1.ob k _ hk
        exact .inl ⟨rfl, ws, SqL.of q1⟩
      · cases hl
    | _ => cases hl
  · exact g1.elim
def appendT : T → List T → Mem → Res := fun x ts μ => match x, ts with
  | .ref k, [y] => (match μ[k]? with
    | some (.lst xs) => if xs.length < sizeLine then .ok .non (μ.set k (.lst (xs ++ [y]))) else .bad
    | _ => .bad)
  | _, _ => .bad
theorem ml_append : MtL X tb "list.append" appendT := ⟨_, mt_append, fun E Q ρ μ H x v ts vs m dx ds g => by
  unfold appendT at g
  split at g
  · split at g
    · rename_i k y _ xs hk
      split at g
      · rename_i hz
        obtain ⟨hkl, rfl⟩ := dx
        obtain ⟨w, r, rfl, h2, h3⟩ := ds
        rw [show r = [] from h3]
        obtain ⟨ho, q1, ws, rfl, q2⟩ := m.ob k _ hk
        exact ⟨_, ws, w, rfl, rfl, q1, by rw [← q2.length]; exact hz, g.put m hk ⟨_, rfl, q2.append (.cons h2 .nil)⟩ rfl⟩
      · exact g.elim
    · exact g.elim
  · exact g.elim⟩
def extendT : T → List T → Mem → Res := fun x ts μ => match x, ts with
  | .ref k, [.ref j] => (match μ[k]?, μ[j]? with
    | some (.lst xs), some (.lst ys) => if xs.length + ys.length ≤ sizeLine then .ok .non (μ.set k (.lst (xs ++ ys))) else .bad
    | _, _ => .bad)
  | _, _ => .bad
theorem ml_extend : MtL X tb "list.extend" extendT := ⟨_, mt_extend, fun E Q ρ μ H x v ts vs m dx ds g => by
  unfold extendT at g
  split at g
  · split at g
    · rename_i k j _ _ xs ys hk hj
      split at g
      · rename_i hz
        obtain ⟨hkl, rfl⟩ := dx
        obtain ⟨w, r, rfl, ⟨hjl, rfl⟩, h3⟩ := ds
        rw [show r = [] from h3]
        obtain ⟨ho, q1, ws, rfl, q2⟩ := m.ob k _ hk
        obtain ⟨ho', q1', ws', rfl, q2'⟩ := m.ob j _ hj
        exact ⟨_, _, ws, ws', rfl, rfl, q1, q1', by rw [← q2.length, ← q2'.length]; exact hz, g.put m hk ⟨_, rfl, q2.append q2'⟩ rfl⟩
      · exact g.elim
    · exact g.elim
  · exact g.elim⟩
def popT : T → List T → Mem → Res := fun x ts μ => match x, ts with
  | .ref k, [] => (match μ[k]? with
    | some (.lst xs) => match xs[xs.length - 1]? with
      | some y => .ok y (μ.set k (.lst xs.dropLast))
      | none => .bad
    | _ => .bad)
  | _, _ => .bad
theorem DVs.dropLast {K : PySem.W.Frag} {ρ : Nat → Addr} {n : Nat} {H : Hp} {ts : List T} {vs : List V} (h : DVs K ρ n H ts vs) : DVs K ρ n H ts.dropLast vs.dropLast := by
  rw [List.dropLast_eq_take, List.dropLast_eq_take, ← h.length]
  exact h.take _
theorem ml_pop : MtL X tb "list.pop" popT := ⟨_, mt_pop, fun E Q ρ μ H x v ts vs m dx ds g => by
  unfold popT at g
  split at g
  · split at g
    · rename_i k _ xs hk
      split at g
      · rename_i y hy
        obtain ⟨hkl, rfl⟩ := dx
        obtain ⟨ho, q1, ws, rfl, q2⟩ := m.ob k _ hk
        obtain ⟨w, hw, dw⟩ := q2.get hy
        exact ⟨_, ws, w, rfl, ds, q1, by rw [← q2.length]; exact hw, g.put m hk ⟨_, rfl, q2.dropLast⟩ dw⟩
      · exact g.elim
    · exact g.elim
  · exact g.elim⟩
/-! ### dicts -/
def keyT : T → Option Key
  | .int i => some (.inl i)
  | .str x => some (.inr x)
  | _ => none
def ktT : Key → T
  | .inl i => .int i
  | .inr x => .str x
theorem keyT_of {K : PySem.W.Frag} {ρ : Nat → Addr} {n : Nat} {H : Hp} {t : T} {v : V} {k : Key} (h : DV K ρ n H t v) (e : keyT t = some k) : v = kV k := by
  cases t <;> first
    | (cases e; exact h)
    | cases e
section
variable {κ : Type} [DecidableEq κ]
def valT (kvs : List (κ × T)) (k : κ) : Option T := (kvs.find? fun kv => decide (kv.1 = k)).map (·.2)
def putKT (kvs : List (κ × T)) (k : κ) (v : T) : List (κ × T) :=
  if (kvs.any fun kv => decide (kv.1 = k)) = true then kvs.map (fun kv => if kv.1 = k then (kv.1, v) else kv) else kvs ++ [(k, v)]
variable {K : PySem.W.Frag} {ρ : Nat → Addr} {n : Nat} {H : Hp}
theorem DVk.val {k : κ} : ∀ {ts : List (κ × T)} {vs : List (κ × V)}, DVk K ρ n H ts vs → (valT ts k = none ∧ valV vs k = none) ∨ ∃ t v, valT ts k = some t ∧ valV vs k = some v ∧ DV K ρ n H t v
  | [], _, h => by rw [show _ = [] from h]; exact .inl ⟨rfl, rfl⟩
  | q :: ts, _, h => by
    obtain ⟨v, r, rfl, h2, h3⟩ := h
    by_cases e : q.1 = k
    · exact .inr ⟨q.2, v, by simp [valT, List.find?_cons, e], by simp [valV, List.find?_cons, e], h2⟩
    · have e1 : valT (q :: ts) k = valT ts k := by simp [valT, List.find?_cons, e]
      have e2 : valV ((q.1, v) :: r) k = valV r k := by simp [valV, List.find?_cons, e]
      rw [e1, e2]
      exact DVk.val h3
theorem DVk.any {k : κ} : ∀ {ts : List (κ × T)} {vs : List (κ × V)}, DVk K ρ n H ts vs → (ts.any fun kv => decide (kv.1 = k)) = (vs.any fun kv => decide (kv.1 = k))
  | [], _, h => by rw [show _ = [] from h]; rfl
  | q :: ts, _, h => by
    obtain ⟨v, r, rfl, h2, h3⟩ := h
    simp only [List.any_cons]
    rw [DVk.any h3]
theorem DVk.mapIf {k : κ} {t : T} {w : V} (d : DV K ρ n H t w) : ∀ {ts : List (κ × T)} {vs : List (κ × V)}, DVk K ρ n H ts vs → DVk K ρ n H (ts.map fun kv => if kv.1 = k then (kv.1, t) else kv) (vs.map fun kv => if kv.1 = k then (kv.1, w) else kv)
  | [], _, h => by rw [show _ = [] from h]; exact rfl
  | q :: ts, _, h => by
    obtain ⟨v, r, rfl, h2, h3⟩ := h
    simp only [List.map_cons]
    by_cases e : q.1 = k
    · rw [if_pos e, if_pos e]; exact ⟨w, _, rfl, d, DVk.mapIf d h3⟩
    · rw [if_neg e, if_neg e]; exact ⟨v, _, rfl, h2, DVk.mapIf d h3⟩
theorem DVk.append {κ : Type} : ∀ {ts us : List (κ × T)} {vs ws : List (κ × V)}, DVk K ρ n H ts vs → DVk K ρ n H us ws → DVk K ρ n H (ts ++ us) (vs ++ ws)
  | [], _, _, _, h, h' => by rw [show _ = [] from h]; exact h'
  | t :: ts, _, _, _, h, h' => by
    obtain ⟨v, r, rfl, h2, h3⟩ := h
    exact ⟨v, _, rfl, h2, DVk.append h3 h'⟩
theorem DVk.putK {k : κ} {t : T} {w : V} (d : DV K ρ n H t w) {ts : List (κ × T)} {vs : List (κ × V)} (h : DVk K ρ n H ts vs) : DVk K ρ n H (putKT ts k t) (L2.putK vs k w) := by
  unfold putKT L2.putK
  rw [h.any]
  split
  · exact h.mapIf d
  · exact h.append ⟨w, [], rfl, d, rfl⟩
end
def dctT (μ : Mem) : T → Option (List (Key × T))
  | .ref k => match μ[k]? with
    | some (.dct kvs) => some kvs
    | some (.lck kvs) => some kvs
    | _ => none
  | _ => none
theorem dctT_of {g : G} {ρ : Nat → Addr} {μ : Mem} {H : Hp} {x : T} {v : V} {kvs : List (Key × T)} (m : MRel g ρ μ H) (h : DV g.K ρ μ.length H x v) (e : dctT μ x = some kvs) : ∃ a ws, v = .ref a ∧ Rd H a (.dK ws) ∧ DVk g.K ρ μ.length H kvs ws := by
  cases x with
  | ref k =>
    obtain ⟨hkl, rfl⟩ := h
    unfold dctT at e
    dsimp only at e
    split at e
    · rename_i ks hk
      cases e
      obtain ⟨ho, q1, ws, rfl, q2⟩ := m.ob k _ hk
      exact ⟨_, ws, rfl, .inl q1, q2⟩
    · rename_i ks hk
      cases e
      obtain ⟨ho, q1, od, ws, rfl, q2⟩ := m.ob k _ hk
      exact ⟨_, ws, rfl, .inr ⟨od, q1⟩, q2⟩
    · cases e
  | _ => cases e
/-- y in d, also in sequences -/
def inDT : T → T → Mem → Res := fun x y μ => match dctT μ y with
  | some kvs => match keyT x with
    | some k => .ok (.bl (valT kvs k).isSome) μ
    | none => .bad
  | none => inT x y μ
def notInDT : T → T → Mem → Res := fun x y μ => match dctT μ y with
  | some kvs => match keyT x with
    | some k => .ok (.bl (!(valT kvs k).isSome)) μ
    | none => .bad
  | none => notInT x y μ
theorem op_in_dict (hu : X.A.units + 1 < cLine) : OpR X (compareOp .In) (fun x y H Q => ∃ a o, y = .ref a ∧ DGet H a x o ∧ Q (.bl o.isSome) H) := by
  intro pins s σ H x y v u Q I rx ry h
  obtain ⟨a, o, rfl, g, q⟩ := h
  obtain rfl : u = Value.ref a := ry
  exact d_in hu I g rx fun s' I' => ⟨.bl o.isSome, H, I', rfl, q⟩
theorem op_notIn_dict (hu : X.A.units + 1 < cLine) : OpR X (compareOp .NotIn) (fun x y H Q => ∃ a o, y = .ref a ∧ DGet H a x o ∧ Q (.bl (!o.isSome)) H) := by
  intro pins s σ H x y v u Q I rx ry h
  obtain ⟨a, o, rfl, g, q⟩ := h
  obtain rfl : u = Value.ref a := ry
  exact d_notIn hu I g rx fun s' I' => ⟨.bl (!o.isSome), H, I', rfl, q⟩
theorem dget_of {K : PySem.W.Frag} {ρ : Nat → Addr} {n : Nat} {H : Hp} {a : Addr} {x : T} {v : V} {k : Key} {ws : List (Key × V)} (h : Rd H a (.dK ws)) (dx : DV K ρ n H x v) (e : keyT x = some k) : DGet H a v (valV ws k) := .inl ⟨ws, k, h, keyT_of dx e, rfl⟩
theorem opl_inD (hu : X.A.units + 65 < cLine) : OpL X tb (compareOp .In) inDT := by
  obtain ⟨r, h1, h2⟩ := opl_in (X := X) (tb := tb) hu
  refine ⟨_, (op_in_dict (by omega)).or h1, fun E Q ρ μ H x y v u m dx dy g => ?_⟩
  unfold inDT at g
  split at g
  · rename_i kvs hk
    split at g
    · rename_i k hkey
      obtain ⟨a, ws, rfl, q1, q2⟩ := dctT_of m dy hk
      refine .inl ⟨a, _, rfl, dget_of q1 dx hkey, ?_⟩
      have e : (valV ws k).isSome = (valT kvs k).isSome := by
        rcases q2.val (k := k) with ⟨e1, e2⟩ | ⟨t, w, e1, e2, _⟩
        · rw [e1, e2]; rfl
        · rw [e1, e2]; rfl
      rw [e]
      exact g.same m rfl
    · exact g.elim
  · exact .inr (h2 E Q ρ μ H x y v u m dx dy g)
theorem opl_notInD (hu : X.A.units + 65 < cLine) : OpL X tb (compareOp .NotIn) notInDT := by
  obtain ⟨r, h1, h2⟩ := opl_notIn (X := X) (tb := tb) hu
  refine ⟨_, (op_notIn_dict (by omega)).or h1, fun E Q ρ μ H x y v u m dx dy g => ?_⟩
  unfold notInDT at g
  split at g
  · rename_i kvs hk
    split at g
    · rename_i k hkey
      obtain ⟨a, ws, rfl, q1, q2⟩ := dctT_of m dy hk
      refine .inl ⟨a, _, rfl, dget_of q1 dx hkey, ?_⟩
      have e : (valV ws k).isSome = (valT kvs k).isSome := by
        rcases q2.val (k := k) with ⟨e1, e2⟩ | ⟨t, w, e1, e2, _⟩
        · rw [e1, e2]; rfl
        · rw [e1, e2]; rfl
      rw [e]
      exact g.same m rfl
    · exact g.elim
  · exact .inr (h2 E Q ρ μ H x y v u m dx dy g)
/-- x[i], of sequences and dicts -/
def subT' : T → T → Mem → Res := fun x y μ => match dctT μ x with
  | some kvs => match keyT y with
    | some k => match valT kvs k with
      | some t => .ok t μ
      | none => .bad
    | none => .bad
  | none => ixT x y μ
theorem ix_dict (hu : X.A.units + 1 < cLine) : IxR X (fun x y H Q => ∃ a v, x = .ref a ∧ DGet H a y (some v) ∧ Q v H) := by
  intro value slice pins s σ H x y v u Q I rx ry h hs
  obtain ⟨a, w, rfl, g, q⟩ := h
  obtain rfl : v = Value.ref a := rx
  exact tail_any (dict_typeIs I g) PySem.F.slot_dict_getitem.lookup (d_getItem hu I g ry fun w' s3 I3 rw' => ⟨w, H, I3, rw', q⟩) hs
theorem ixlD (hu : X.A.units + 1 < cLine) : IxL X tb subT' := by
  obtain ⟨r, h1, h2⟩ := ixl (X := X) (tb := tb)
  refine ⟨_, (ix_dict hu).or h1, fun E Q ρ μ H x y v u m dx dy g => ?_⟩
  unfold subT' at g
  split at g
  · rename_i kvs hk
    split at g
    · rename_i k hkey
      split at g
      · rename_i t ht
        obtain ⟨a, ws, rfl, q1, q2⟩ := dctT_of m dx hk
        rcases q2.val (k := k) with ⟨e1, e2⟩ | ⟨t', w, e1, e2, dw⟩
        · rw [e1] at ht; cases ht
        · rw [e1] at ht; cases ht
          exact .inl ⟨a, w, rfl, by rw [← e2]; exact dget_of q1 dy hkey, g.same m dw⟩
      · exact g.elim
    · exact g.elim
  · exact .inr (h2 E Q ρ μ H x y v u m dx dy g)
/-! x[i] = v -/
def setT (x i v : T) (μ : Mem) : Option Mem := match x with
  | .ref k => match μ[k]? with
    | some (.lst xs) => (match i with
      | .int j => (ixN xs.length j).map fun n => μ.set k (.lst (xs.set n v))
      | _ => none)
    | some (.dct kvs) => (match keyT i with
      | some key => if kvs.length < sizeLine then some (μ.set k (.dct (putKT kvs key v))) else none
      | none => none)
    | _ => none
  | _ => none
theorem pset_or {t t' : TSet} (h : PSet X t) (h' : PSet X t') : PSet X (fun o i v H Q => t o i v H Q ∨ t' o i v H Q) := by
  intro pins s σ H o i v ov iv u Q I ro ri rv q
  rcases q with q | q
  · exact h pins s σ H o i v ov iv u Q I ro ri rv q
  · exact h' pins s σ H o i v ov iv u Q I ro ri rv q
theorem setT_of {g : G} {ρ : Nat → Addr} {μ μ' : Mem} {H : Hp} {x i t : T} {xv iv tv : V} {Q : Hp → Prop} (m : MRel g ρ μ H) (dx : DV g.K ρ μ.length H x xv) (di : DV g.K ρ μ.length H i iv) (dt : DV g.K ρ μ.length H t tv) (e : setT x i t μ = some μ')
    (h : ∀ H', Ext g ρ μ.length H ρ μ'.length H' → MRel g ρ μ' H' → Q H') : rSetL xv iv tv H Q ∨ rSetD xv iv tv H Q := by
  cases x with
  | ref k =>
    obtain ⟨hkl, rfl⟩ := dx
    unfold setT at e
    dsimp only at e
    split at e
    · rename_i xs hk
      split at e
      · rename_i j
        simp only [Option.map_eq_some_iff] at e
        obtain ⟨n, hn, rfl⟩ := e
        obtain ⟨ho, q1, ws, rfl, q2⟩ := m.ob k _ hk
        have pe : Ext g ρ μ.length H ρ μ.length (upd H (ρ k) (.lst (ws.set n tv))) := Ext.put m hk
        exact .inl ⟨_, ws, j, n, rfl, di, q1, by rw [← q2.length]; exact hn, h _ (by rw [List.length_set]; exact pe) (m.put hk ⟨_, rfl, q2.set n dt⟩)⟩
      · cases e
    · rename_i kvs hk
      split at e
      · rename_i key hkey
        split at e
        · rename_i hz
          cases e
          obtain ⟨ho, q1, ws, rfl, q2⟩ := m.ob k _ hk
          have pe : Ext g ρ μ.length H ρ μ.length (upd H (ρ k) (.dK (L2.putK ws key tv))) := Ext.put m hk
          exact .inr ⟨_, _, rfl, .inl ⟨ws, key, q1, keyT_of di hkey, by rw [← q2.length]; exact hz, rfl⟩, h _ (by rw [List.length_set]; exact pe) (m.put hk ⟨_, rfl, q2.putK dt⟩)⟩
        · cases e
      · cases e
    · cases e
  | _ => cases e
def sSub (dd di dv : EM) : SM := fun σ μ => (dv σ μ).toS fun v μ1 => (dd σ μ1).toS fun x μ2 => (di σ μ2).toS fun i μ3 => match setT x i v μ3 with
  | some μ4 => .nx σ μ4
  | none => .bad
theorem s_sub {i : Expr} {di dv : EM} {tpos : Pos} (hu : X.A.units + 1 < cLine) (ho : PE X o (tE (gx X tb) E dd)) (hi : PE X i (tE (gx X tb) E di)) (hv : PE X e (tE (gx X tb) E dv))
    (ha : ∀ v, assign (.Subscript o i tpos) X.env v = (do
      let ov ← holding [v] (eval o X.env)
      let iv ← holding [v, ov] (eval i X.env)
      standAt tpos
      holding [v, ov, iv] (setItem ov iv v)
      release [v, ov, iv] []) := by intro _; rfl) (hs : swapsWithSole [.Subscript o i tpos] e pos.line X.env = pure false := by rfl) (hw : swappedStores [.Subscript o i tpos] e X.env = pure none := by rfl)
    (h1 : (assignEach [.Subscript o i tpos] X.env).map (·.2) = [assign (.Subscript o i tpos) X.env] := by rfl) : PS X (.Assign [.Subscript o i tpos] e pos) (tS (gx X tb) E (sSub dd di dv)) :=
  (ps_asg hv (pg_sub ho hi (pset_or set_list (set_dict hu)) ha) hs hw h1).imp fun D σ H q => by
    obtain ⟨ρ, σT, μ, m, l, q⟩ := q
    refine bindS (Q := D.rt) m l q fun x μ1 ρ1 v H1 e1 m1 l1 dx g1 => ?_
    refine bindS (Q := D.rt) m1 l1 g1 fun y μ2 ρ2 w H2 e2 m2 l2 dy g2 => ?_
    refine bindS (Q := D.rt) m2 l2 g2 fun z μ3 ρ3 u H3 e3 m3 l3 dz g3 => ?_
    cases q4 : setT y z x μ3 with
    | none => simp only [q4] at g3; exact g3.elim
    | some μ4 =>
      simp only [q4] at g3
      exact setT_of m3 (dy.ext e3) dz ((dx.ext e2).ext e3) q4 fun H' e4 m4 => g3 ρ3 σ H' e4 m4 (l3.ext e4)
/-! {}, d.get(k, x), dict(d) -/
theorem e_dnew : PE X (.Dict [] [] pos) (tE (gx X tb) E (fun _ μ => .ok (.ref μ.length) (μ ++ [.dct []]))) := pe_dnewK.imp fun σ H Q q => by
  obtain ⟨ρ, σT, μ, m, l, q⟩ := q
  exact fun p hp => q.new m ⟨[], rfl, rfl⟩ hp
def get2T (x y z : T) (μ : Mem) : Res := match dctT μ x with
  | some kvs => match keyT y with
    | some k => .ok ((valT kvs k).getD z) μ
    | none => .bad
  | none => .bad
def dGet2 (dd dk dx : EM) : EM := fun σ μ => (dd σ μ).bind fun x μ1 => (if (dctT μ1 x).isSome = true then (dk σ μ1).bind fun y μ2 => (dx σ μ2).bind fun z μ3 => get2T x y z μ3 else .bad)
theorem e_get2 {f : Expr} {dk dx : EM} (hu : X.A.units + 1 < cLine) (ho : PE X o (tE (gx X tb) E dd)) (he : PE X e (tE (gx X tb) E dk)) (hf : PE X f (tE (gx X tb) E dx)) (mm : M2 X o "get" apos e f cpos := by exact ⟨rfl, rfl, rfl, rfl⟩) : PE X (.Call (.Attribute o "get" apos) [e, f] [] cpos) (tE (gx X tb) E (dGet2 dd dk dx)) :=
  (pe_dget2 hu ho he hf mm).imp fun σ H Q q => by
    obtain ⟨ρ, σT, μ, m, l, q⟩ := q
    refine bindE m l q fun x μ1 ρ1 v H1 e1 m1 l1 dx g1 => ?_
    split at g1
    · rename_i hd
      obtain ⟨kvs, hk⟩ := Option.isSome_iff_exists.mp hd
      obtain ⟨a, ws, rfl, q1, q2⟩ := dctT_of m1 dx hk
      refine ⟨a, rfl, .inl ⟨ws, q1⟩, ?_⟩
      refine bindE m1 l1 g1 fun y μ2 ρ2 u H2 e2 m2 l2 dy g2 => ?_
      refine bindE m2 l2 g2 fun z μ3 ρ3 w H3 e3 m3 l3 dz g3 => ?_
      unfold get2T at g3
      split at g3
      · rename_i kvs3 hk3
        split at g3
        · rename_i k hkey
          obtain ⟨a', ws', ea, q1', q2'⟩ := dctT_of m3 ((dx.ext e2).ext e3) hk3
          cases ea
          rcases q2'.val (k := k) with ⟨h1, h2⟩ | ⟨t, tv, h1, h2, dt⟩
          · refine ⟨_, dget_of q1' (dy.ext e3) hkey, ?_⟩
            rw [h2]; rw [h1] at g3
            exact g3.same m3 dz
          · refine ⟨_, dget_of q1' (dy.ext e3) hkey, ?_⟩
            rw [h2]; rw [h1] at g3
            exact g3.same m3 dt
        · exact g3.elim
      · exact g3.elim
    · exact g1.elim
def dictC : List T → Mem → Res := fun ts μ => match ts with
  | [x] => (match dctT μ x with
    | some kvs => .ok (.ref μ.length) (μ ++ [.dct kvs])
    | none => .bad)
  | _ => .bad
theorem cl_dict : CallL X tb (.type "dict") dictC := ⟨_, call_dictD, fun E Q ρ μ H ts vs m d g => by
  unfold dictC at g
  split at g
  · split at g
    · rename_i x _ kvs hk
      obtain ⟨v, r, rfl, h2, h3⟩ := d
      rw [show r = [] from h3]
      obtain ⟨a, ws, rfl, q1, q2⟩ := dctT_of m h2 hk
      exact ⟨a, ws, rfl, q1, fun p hp => g.new m ⟨ws, rfl, q2⟩ hp⟩
    · exact g.elim
  · exact g.elim⟩
/-! list(d): its keys -/
def dKeys (dd : EM) : LM := fun σ μ => (dd σ μ).bindL fun x μ1 => match dctT μ1 x with
  | some kvs => .ok (kvs.map fun kv => ktT kv.1) μ1
  | none => .bad
theorem DVk.kts {K : PySem.W.Frag} {ρ : Nat → Addr} {n : Nat} {H : Hp} : ∀ {ts : List (Key × T)} {vs : List (Key × V)}, DVk K ρ n H ts vs → DVs K ρ n H (ts.map fun kv => ktT kv.1) (vs.map fun kv => kV kv.1)
  | [], _, h => by rw [show _ = [] from h]; exact rfl
  | q :: ts, _, h => by
    obtain ⟨v, r, rfl, h2, h3⟩ := h
    obtain ⟨k, t⟩ := q
    refine ⟨kV k, _, rfl, ?_, DVk.kts h3⟩
    cases k <;> exact rfl
theorem l_listD (hc : X.calm = true) (hm : X.mg "list" = none) (ha : PE X a (tE (gx X tb) E da)) (hv : bootBuiltins "list" = some (.type "list") := by decide +kernel) (hg : Gl X "list" := by rfl) (he : starEach [a] X.env = [(false, eval a X.env)] := by rfl) :
    PE X (.Call (.Name "list" p) [a] [] pos) (tL (gx X tb) E (dKeys da)) :=
  (pe_callTy (call_listD hc) hg hm hv (pa_cons ha pa_nil he) (by decide) (by decide) he rfl).imp fun σ H Q q => by
    obtain ⟨ρ, σT, μ, m, l, q⟩ := q
    refine ⟨ρ, σT, μ, m, l, ?_⟩
    unfold dKeys at q
    cases h : da σT μ with
    | exc c fs μ1 => rw [h] at q; exact q
    | bad => rw [h] at q; exact q
    | ok x μ1 =>
      rw [h] at q
      have q : GoodL (gx X tb) E Q ρ μ.length H (match dctT μ1 x with | some kvs => .ok (kvs.map fun kv => ktT kv.1) μ1 | none => .bad) := q
      intro ρ1 v H1 e1 m1 dx
      split at q
      · rename_i kvs hk
        obtain ⟨a, ws, rfl, q1, q2⟩ := dctT_of m1 dx hk
        exact ⟨a, ws, rfl, q1, fun p hp => (GoodL.later e1 q).new m1 q2.kts hp⟩
      · exact q.elim
end
end TL
set_option Elab.async false
set_option linter.all false
set_option maxRecDepth 100000
set_option maxHeartbeats 2000000
/-! TL9: sorted, slices, augmented stores, raise, dict comprehensions -/
namespace TL
open PySem PySem.Spec PyProof.Rows L2
/-! ### one order, one sorted list -/
def leS (a b : Str) : Bool := !ltCps b.cps.toList a.cps.toList
theorem ltCps_irr : ∀ a : List Nat, ltCps a a = false
  | [] => rfl
  | a :: r => by simp [ltCps, ltCps_irr r]
theorem ltCps_asym : ∀ {a b : List Nat}, ltCps a b = true → ltCps b a = false
  | [], [], h => by simp [ltCps] at h
  | [], _ :: _, _ => rfl
  | _ :: _, [], h => by simp [ltCps] at h
  | a :: r, b :: t, h => by
    simp only [ltCps, Bool.or_eq_true, decide_eq_true_eq, Bool.and_eq_true, beq_iff_eq] at h
    simp only [ltCps, Bool.or_eq_false_iff, decide_eq_false_iff_not, Bool.and_eq_false_iff]
    rcases h with h | ⟨rfl, h⟩
    · exact ⟨by omega, .inl (by simp; omega)⟩
    · exact ⟨by omega, .inr (ltCps_asym h)⟩
theorem ltCps_conn : ∀ {a b : List Nat}, ltCps a b = false → ltCps b a = false → a = b
  | [], [], _, _ => rfl
  | [], _ :: _, h, _ => by simp [ltCps] at h
  | _ :: _, [], _, h => by simp [ltCps] at h
  | a :: r, b :: t, h, h' => by
    simp only [ltCps, Bool.or_eq_false_iff, decide_eq_false_iff_not] at h h'
    have e : a = b := by omega
    subst e
    simp at h h'
    rw [ltCps_conn h h']
theorem ltCps_trans : ∀ {a b c : List Nat}, ltCps a b = true → ltCps b c = true → ltCps a c = true
  | [], [], _, h, _ => by simp [ltCps] at h
  | [], _ :: _, [], _, h => by simp [ltCps] at h
  | [], _ :: _, _ :: _, _, _ => rfl
  | _ :: _, [], _, h, _ => by simp [ltCps] at h
  | _ :: _, _ :: _, [], _, h => by simp [ltCps] at h
  | a :: r, b :: t, c :: u, h, h' => by
    simp only [ltCps, Bool.or_eq_true, decide_eq_true_eq, Bool.and_eq_true, beq_iff_eq] at h h' ⊢
    rcases h with h | ⟨rfl, h⟩
    · rcases h' with h' | ⟨rfl, h'⟩
      · exact .inl (by omega)
      · exact .inl h
    · rcases h' with h' | ⟨rfl, h'⟩
      · exact .inl h'
      · exact .inr ⟨rfl, ltCps_trans h h'⟩
theorem leS_total (a b : Str) : (leS a b || leS b a) = true := by
  unfold leS
  cases h : ltCps b.cps.toList a.cps.toList with
  | false => rfl
  | true => rw [ltCps_asym h]; rfl
theorem leS_trans (a b c : Str) (h : leS a b = true) (h' : leS b c = true) : leS a c = true := by
  unfold leS at *
  simp only [Bool.not_eq_true'] at *
  cases q : ltCps c.cps.toList a.cps.toList with
  | false => rfl
  | true =>
    exfalso
    cases h2 : ltCps a.cps.toList b.cps.toList with
    | true => have := ltCps_trans q h2; rw [this] at h'; cases h'
    | false =>
      have e := ltCps_conn h2 h
      rw [← e] at h'
      rw [q] at h'; cases h'
theorem leS_anti {a b : Str} (h : leS a b = true) (h' : leS b a = true) : a = b := by
  unfold leS at *
  simp only [Bool.not_eq_true'] at *
  have := ltCps_conn h' h
  obtain ⟨x⟩ := a
  obtain ⟨y⟩ := b
  exact congrArg Str.mk (Array.toList_inj.mp this)
def sortS (xs : List Str) : List Str := xs.mergeSort leS
def sortI (xs : List Int) : List Int := xs.mergeSort fun a b => decide (a ≤ b)
theorem sortedS_pw : ∀ {ys : List Str}, sortedS ys = true → ys.Pairwise fun a b => leS a b = true := by
  have step : ∀ (ys : List Str) (p : Str), risingS p ys = true → (∀ y ∈ ys, leS p y = true) ∧ ys.Pairwise fun a b => leS a b = true := by
    intro ys
    induction ys with
    | nil => intro p _; exact ⟨fun y h => absurd h (by simp), .nil⟩
    | cons x r ih =>
      intro p h
      simp only [risingS, Bool.and_eq_true] at h
      obtain ⟨i1, i2⟩ := ih x h.2
      have hx : leS p x = true := h.1
      refine ⟨fun y hy => ?_, List.pairwise_cons.mpr ⟨i1, i2⟩⟩
      rcases List.mem_cons.mp hy with rfl | hy
      · exact hx
      · exact leS_trans _ _ _ hx (i1 y hy)
  intro ys h
  cases ys with
  | nil => exact .nil
  | cons x r =>
    obtain ⟨i1, i2⟩ := step r x h
    exact List.pairwise_cons.mpr ⟨i1, i2⟩
theorem sortS_eq {xs ys : List Str} (h : ys.Perm xs) (hs : sortedS ys = true) : ys = sortS xs :=
  List.Perm.eq_of_pairwise (le := fun a b => leS a b = true) (fun a b _ _ h1 h2 => leS_anti h1 h2) (sortedS_pw hs) (List.pairwise_mergeSort leS_trans leS_total xs) (h.trans (List.mergeSort_perm xs leS).symm)
theorem sortI_eq {xs ys : List Int} (h : ys.Perm xs) (hs : ys.Pairwise (· ≤ ·)) : ys = sortI xs :=
  List.Perm.eq_of_pairwise (le := fun a b => decide (a ≤ b) = true) (fun a b _ _ h1 h2 => by simp at h1 h2; omega) (hs.imp fun {a b} h => by simpa using h)
    (List.pairwise_mergeSort (fun a b c h1 h2 => by simp at *; omega) (fun a b => by simp; omega) xs) (h.trans (List.mergeSort_perm xs _).symm)
section
variable {K : PySem.W.Frag} {ρ : Nat → Addr} {n : Nat} {H : Hp}
theorem dvs_strs : ∀ xs : List Str, DVs K ρ n H (xs.map T.str) (xs.map V.str)
  | [] => rfl
  | x :: xs => ⟨_, _, rfl, rfl, dvs_strs xs⟩
theorem dvs_ints : ∀ xs : List Int, DVs K ρ n H (xs.map T.int) (xs.map V.int)
  | [] => rfl
  | x :: xs => ⟨_, _, rfl, rfl, dvs_ints xs⟩
end
section
variable {X : Cx} {tb : List (Addr × Str)} {E : XK} {a b e o : Expr} {es : List Expr} {da db dd : EM} {d : AM} {pos p apos cpos : Pos}
def sortQ : List T → Mem → LRes := fun ts μ => match unI ts with
  | some ns => .ok ((sortI ns).map .int) μ
  | none => match unS ts with
    | some xs => if xs.length < 64 then .ok ((sortS xs).map .str) μ else .bad
    | none => .bad
theorem cq_sorted : CallQL sLst X tb (.builtin "sorted") sortQ := ⟨_, CallR.or cr_sortedI cr_sortedS, fun E Q ρ μ H ts a vs m h d g => by
  unfold sortQ at g
  split at g
  · rename_i ns hn
    refine .inl ⟨a, ns, rfl, by rw [← unI_of d hn]; exact h, fun ns' p h1 h2 hp => ?_⟩
    rw [sortI_eq h1 h2]
    exact g.new m (dvs_ints _) hp
  · split at g
    · rename_i xs hx
      split at g
      · rename_i hz
        refine .inr ⟨a, xs, rfl, by rw [← unS_of d hx]; exact h, hz, fun ys p h1 h2 hp => ?_⟩
        rw [sortS_eq h1 h2]
        exact g.new m (dvs_strs _) hp
      · exact g.elim
    · exact g.elim⟩
/-- the keys of a dict, if all are texts, if all are ints -/
def keyS : List (Key × T) → Option (List Str)
  | [] => some []
  | (.inr x, _) :: r => (keyS r).map fun xs => x :: xs
  | _ => none
theorem keyS_of {K : PySem.W.Frag} {ρ : Nat → Addr} {n : Nat} {H : Hp} : ∀ {ts : List (Key × T)} {vs : List (Key × V)} {xs : List Str}, DVk K ρ n H ts vs → keyS ts = some xs → vs.map (·.1) = xs.map Sum.inr
  | [], _, _, d, e => by rw [show _ = [] from d]; cases e; rfl
  | (.inr x, t) :: r, _, _, d, e => by
    obtain ⟨v, w, rfl, h2, h3⟩ := d
    simp only [keyS, Option.map_eq_some_iff] at e
    obtain ⟨ys, e1, rfl⟩ := e
    simp [keyS_of h3 e1]
  | (.inl i, t) :: r, _, _, _, e => by simp [keyS] at e
def dSortD (dd : EM) : LM := fun σ μ => (dd σ μ).bindL fun x μ1 => match dctT μ1 x with
  | some kvs => match keyS kvs with
    | some xs => if xs.length < 64 then .ok ((sortS xs).map .str) μ1 else .bad
    | none => .bad
  | none => .bad
theorem l_sortD (hc : X.calm = true) (hm : X.mg "sorted" = none) (ha : PE X a (tE (gx X tb) E da)) (hv : bootBuiltins "sorted" = some (.builtin "sorted") := by decide +kernel) (hg : Gl X "sorted" := by rfl) (he : starEach [a] X.env = [(false, eval a X.env)] := by rfl) :
    PE X (.Call (.Name "sorted" p) [a] [] pos) (tL (gx X tb) E (dSortD da)) :=
  (pe_callB (call_sortedD hc) hg hm hv (pa_cons ha pa_nil he) (by decide) (by decide) he rfl).imp fun σ H Q q => by
    obtain ⟨ρ, σT, μ, m, l, q⟩ := q
    refine ⟨ρ, σT, μ, m, l, ?_⟩
    unfold dSortD at q
    cases h : da σT μ with
    | exc c fs μ1 => rw [h] at q; exact q
    | bad => rw [h] at q; exact q
    | ok x μ1 =>
      rw [h] at q
      have q : GoodL (gx X tb) E Q ρ μ.length H (match dctT μ1 x with | some kvs => (match keyS kvs with | some xs => if xs.length < 64 then .ok ((sortS xs).map .str) μ1 else .bad | none => .bad) | none => .bad) := q
      intro ρ1 v H1 e1 m1 dx
      split at q
      · rename_i kvs hk
        split at q
        · rename_i xs hx
          split at q
          · rename_i hz
            obtain ⟨a, ws, rfl, q1, q2⟩ := dctT_of m1 dx hk
            refine ⟨a, ws, xs, rfl, q1, keyS_of q2 hx, hz, fun ys p h1 h2 hp => ?_⟩
            rw [sortS_eq h1 h2]
            exact (GoodL.later e1 q).new m1 (dvs_strs _) hp
          · exact q.elim
        · exact q.elim
      · exact q.elim
/-! dict(pairs) -/
def unPair : T → Option (Key × T)
  | .tup [k, v] => (keyT k).map fun k => (k, v)
  | _ => none
def unPairs : List T → Option (List (Key × T))
  | [] => some []
  | t :: r => (unPair t).bind fun p => (unPairs r).map fun ps => p :: ps
theorem unPairs_of {K : PySem.W.Frag} {ρ : Nat → Addr} {n : Nat} {H : Hp} : ∀ {ts : List T} {vs : List V} {kvs : List (Key × T)}, DVs K ρ n H ts vs → unPairs ts = some kvs →
    ∃ (ps : List Addr) (ws : List (Key × V)), vs = ps.map V.ref ∧ DVk K ρ n H kvs ws ∧ Paired (fun p kv => SqT K H p [kV kv.1, kv.2]) ps ws
  | [], _, _, d, e => by rw [show _ = [] from d]; cases e; exact ⟨[], [], rfl, rfl, .nil⟩
  | t :: r, _, _, d, e => by
    obtain ⟨v, w, rfl, h2, h3⟩ := d
    simp only [unPairs, Option.bind_eq_some_iff, Option.map_eq_some_iff] at e
    obtain ⟨q, e1, ps, e2, rfl⟩ := e
    obtain ⟨as, ws, rfl, i1, i2⟩ := unPairs_of h3 e2
    unfold unPair at e1
    split at e1
    · rename_i k x
      simp only [Option.map_eq_some_iff] at e1
      obtain ⟨key, e3, rfl⟩ := e1
      obtain ⟨a, us, rfl, s1, u1, r1, rfl, dk, u2, r2, rfl, dx, e4⟩ := h2
      rw [show r2 = [] from e4, keyT_of dk e3] at s1
      exact ⟨a :: as, (key, u2) :: ws, rfl, ⟨u2, ws, rfl, dx, i1⟩, .cons s1 i2⟩
    · cases e1
def mergeKT (kvs more : List (Key × T)) : List (Key × T) := more.foldl (fun acc kv => putKT acc kv.1 kv.2) kvs
theorem DVk.merge {K : PySem.W.Frag} {ρ : Nat → Addr} {n : Nat} {H : Hp} : ∀ {ms : List (Key × T)} {ns : List (Key × V)} {ts : List (Key × T)} {vs : List (Key × V)}, DVk K ρ n H ms ns → DVk K ρ n H ts vs → DVk K ρ n H (mergeKT ts ms) (mergeK vs ns)
  | [], _, _, _, h, h' => by rw [show _ = [] from h]; exact h'
  | q :: ms, _, ts, vs, h, h' => by
    obtain ⟨v, r, rfl, h2, h3⟩ := h
    show DVk K ρ n H (mergeKT (putKT ts q.1 q.2) ms) (mergeK (L2.putK vs q.1 v) r)
    exact DVk.merge (ms := ms) h3 (h'.putK h2)
def dictQ : List T → Mem → Res := fun ts μ => match unPairs ts with
  | some kvs => .ok (.ref μ.length) (μ ++ [.dct (mergeKT [] kvs)])
  | none => .bad
theorem cq_dict (hc : X.calm = true) : CallQ sLst X tb (.type "dict") dictQ := ⟨_, call_dictP hc, fun E Q ρ μ H ts a vs m h d g => by
  unfold dictQ at g
  split at g
  · rename_i kvs hk
    obtain ⟨as, ws, rfl, i1, i2⟩ := unPairs_of d hk
    exact ⟨a, as, ws, rfl, h, i2, fun p hp => g.new m ⟨_, rfl, i1.merge rfl⟩ hp⟩
  · exact g.elim⟩
/-! ### slices -/
abbrev OM := Option EM
structure POd (X : Cx) (tb : List (Addr × Str)) (E : XK) (e : Option Expr) (d : OM) : Prop where
  ex : (e = none ∧ d = none) ∨ ∃ x dx, e = some x ∧ d = some dx ∧ PE X x (tE (gx X tb) E dx)
theorem o_none : POd X tb E none none := ⟨.inl ⟨rfl, rfl⟩⟩
theorem o_some (h : PE X a (tE (gx X tb) E da)) : POd X tb E (some a) (some da) := ⟨.inr ⟨a, da, rfl, rfl, h⟩⟩
def odRun (d : OM) (σ : List (Option T)) (μ : Mem) (k : Option Int → Mem → LRes) : LRes := match d with
  | none => k none μ
  | some dx => (dx σ μ).bindL fun x μ1 => match x with
    | .int i => k (some i) μ1
    | _ => .bad
/-- as Good.bind for lists -/
theorem bindL_ {g : G} {Q : VK} {dx : EM} {k : T → Mem → LRes} {R : VK} {ρ : Nat → Addr} {σT : List (Option T)} {σ : L2.St} {μ : Mem} {H : Hp} (m : MRel g ρ μ H) (l : LRel g.K ρ μ.length H σT σ) (h : GoodL g E Q ρ μ.length H ((dx σT μ).bindL k))
    (hR : ∀ x μ1 ρ1 v H1, Ext g ρ μ.length H ρ1 μ1.length H1 → MRel g ρ1 μ1 H1 → LRel g.K ρ1 μ1.length H1 σT σ → DV g.K ρ1 μ1.length H1 x v → GoodL g E Q ρ1 μ1.length H1 (k x μ1) → R v H1) : tE g E dx σ H R := by
  refine ⟨ρ, σT, μ, m, l, ?_⟩
  cases q : dx σT μ with
  | ok t μ1 =>
    rw [q] at h
    exact fun ρ1 v H1 e m1 dv => hR t μ1 ρ1 v H1 e m1 (l.ext e) dv (GoodL.later (r := k t μ1) e h)
  | exc c fs μ1 => rw [q] at h; exact h
  | bad => rw [q] at h; exact h
theorem po_of {eo : Option Expr} {d : OM} (h : POd X tb E eo d) : ∃ t, PO X eo t ∧ ∀ (Q : VK) (ρ : Nat → Addr) (σT : List (Option T)) (μ : Mem) (σ : L2.St) (H : Hp) (k : Option Int → Mem → LRes) (R : Option Int → Hp → Prop), MRel (gx X tb) ρ μ H → LRel X.K ρ μ.length H σT σ →
    GoodL (gx X tb) E Q ρ μ.length H (odRun d σT μ k) → (∀ i μ1 ρ1 H1, Ext (gx X tb) ρ μ.length H ρ1 μ1.length H1 → MRel (gx X tb) ρ1 μ1 H1 → LRel X.K ρ1 μ1.length H1 σT σ → GoodL (gx X tb) E Q ρ1 μ1.length H1 (k i μ1) → R i H1) → t σ H R := by
  rcases h.ex with ⟨rfl, rfl⟩ | ⟨x, dx, rfl, rfl, hx⟩
  · exact ⟨_, po_none, fun Q ρ σT μ σ H k R m l h hR => hR none μ ρ H (Ext.refl _ _ _ _) m l h⟩
  · refine ⟨_, po_some hx, fun Q ρ σT μ σ H k R m l h hR => ?_⟩
    refine bindL_ m l h fun y μ1 ρ1 v H1 e1 m1 l1 dy g1 => ?_
    cases y with
    | int i => exact ⟨i, dy, hR (some i) μ1 ρ1 H1 e1 m1 l1 g1⟩
    | _ => exact (show False from g1).elim
def cutT (xs : List T) (lo hi : Option Int) : List T := (xs.drop (HT.sIx xs.length 0 lo)).take (HT.sIx xs.length xs.length hi - HT.sIx xs.length 0 lo)
theorem DVs.cut {K : PySem.W.Frag} {ρ : Nat → Addr} {n : Nat} {H : Hp} {ts : List T} {vs : List V} {lo hi : Option Int} (h : DVs K ρ n H ts vs) : DVs K ρ n H (cutT ts lo hi) (cutV vs lo hi) := by
  unfold cutT cutV
  rw [← h.length]
  exact (h.drop _).take _
/-- xs[lo:hi], xs a list -/
def dSlL (dd : EM) (dl dh : OM) : LM := fun σ μ => (dd σ μ).bindL fun x μ1 => odRun dl σ μ1 fun lo μ2 => odRun dh σ μ2 fun hi μ3 => match x with
  | .ref k => (match μ3[k]? with
    | some (.lst xs) => .ok (cutT xs lo hi) μ3
    | _ => .bad)
  | .fl is => .ok (cutT (is.map T.int) lo hi) μ3
  | _ => .bad
theorem l_slice {lo hi : Option Expr} {dl dh : OM} {p2 : Pos} (ha : PE X a (tE (gx X tb) E da)) (hl : POd X tb E lo dl) (hh : POd X tb E hi dh) : PE X (.Subscript a (.Slice lo hi none p2) pos) (tL (gx X tb) E (dSlL da dl dh)) := by
  obtain ⟨t1, p1, r1⟩ := po_of hl
  obtain ⟨t2, p2', r2⟩ := po_of hh
  refine (pe_slice sl_list ha p1 p2').imp fun σ H Q q => ?_
  obtain ⟨ρ, σT, μ, m, l, q⟩ := q
  refine bindL_ m l q fun x μ1 ρ1 v H1 e1 m1 l1 dx g1 => ?_
  refine r1 Q ρ1 σT μ1 σ H1 _ _ m1 l1 g1 fun i μ2 ρ2 H2 e2 m2 l2 g2 => ?_
  refine r2 Q ρ2 σT μ2 σ H2 _ _ m2 l2 g2 fun j μ3 ρ3 H3 e3 m3 l3 g3 => ?_
  cases x with
  | ref k =>
    have dx3 := (dx.ext e2).ext e3
    obtain ⟨hkl, rfl⟩ := dx3
    have g3 : GoodL (gx X tb) E Q ρ3 μ3.length H3 (match μ3[k]? with | some (.lst xs) => .ok (cutT xs i j) μ3 | _ => .bad) := g3
    split at g3
    · rename_i xs hk
      obtain ⟨ho, q1, ws, rfl, q2⟩ := m3.ob k _ hk
      exact ⟨_, ws, rfl, SqL.of q1, fun p hp => g3.new m3 q2.cut hp⟩
    · exact g3.elim
  | fl is =>
    obtain ⟨b, rfl, q1⟩ := (dx.ext e2).ext e3
    have q2 : ∀ js : List Int, DVs (gx X tb).K ρ3 μ3.length H3 (js.map T.int) (js.map V.int) := fun js => by
      induction js with
      | nil => rfl
      | cons j r ih => exact ⟨_, _, rfl, rfl, ih⟩
    exact ⟨_, _, rfl, q1.sq, fun p hp => GoodL.new (g := gx X tb) g3 m3 (q2 is).cut hp⟩
  | _ => exact (show False from g3).elim
/-! ### lists in sums -/
def dCat (da db : EM) : LM := fun σ μ => (da σ μ).bindL fun x μ1 => (db σ μ1).bindL fun y μ2 => match x, y with
  | .ref i, .ref j => (match μ2[i]?, μ2[j]? with
    | some (.lst xs), some (.lst ys) => if xs.length + ys.length ≤ sizeLine then .ok (xs ++ ys) μ2 else .bad
    | _, _ => .bad)
  | _, _ => .bad
theorem l_cat (ha : PE X a (tE (gx X tb) E da)) (hb : PE X b (tE (gx X tb) E db)) : PE X (.BinOp a .Add b pos) (tL (gx X tb) E (dCat da db)) := (pe_op op_cat ha hb).imp fun σ H Q q => by
  obtain ⟨ρ, σT, μ, m, l, q⟩ := q
  refine bindL_ m l q fun x μ1 ρ1 v H1 e1 m1 l1 dx g1 => ?_
  refine bindL_ m1 l1 g1 fun y μ2 ρ2 u H2 e2 m2 l2 dy g2 => ?_
  split at g2
  · rename_i i j
    have dx2 := dx.ext e2
    split at g2
    · rename_i xs ys hi hj
      split at g2
      · rename_i hz
        obtain ⟨_, rfl⟩ := dx2
        obtain ⟨_, rfl⟩ := dy
        obtain ⟨ho, q1, ws, rfl, q2⟩ := m2.ob i _ hi
        obtain ⟨ho', q1', ws', rfl, q2'⟩ := m2.ob j _ hj
        exact ⟨_, _, ws, ws', rfl, rfl, q1, q1', by rw [← q2.length, ← q2'.length]; exact hz, fun p hp => g2.new m2 (q2.append q2') hp⟩
      · exact g2.elim
    · exact g2.elim
  · exact g2.elim
/-! ### raise -/
/-- an own class of errors without __init__ -/
structure ExcC0 (K : PySem.W.Frag) (mg : Str → Option Value) (c : Str) : Prop where
  ex : ∃ C bmB newId B initId, mg c = some (.ref C) ∧ ExcBaseFacts B newId initId bmB ∧ PySem.W.excIn K C bmB newId = true ∧ PySem.W.keepIn K (.ref C) = true ∧ PySem.W.subIn K (.ref C) (.type "BaseException") = some true ∧ PySem.W.typeIn K (.ref C) = some (.type "type")
theorem pmk_own0 {C : Addr} {bmB : List Value} {B newId initId : String} {x : Str} {p pos : Pos} (F : ExcBaseFacts B newId initId bmB) (q : PySem.W.excIn X.K C bmB newId = true) (gC : X.mg x = some (.ref C))
    (kC : PySem.W.keepIn X.K (.ref C) = true) (r : Raises X (.ref C)) (hg : Gl X x) (hdb : (x == ("__debug__" : Str)) = false := by decide) :
    PMk X (.Call (.Name x p) [] [] pos) (fun σ H Q => Q (.ref C) none H) := by
  intro pins s σ H Q I h
  refine wpAny_Call_Name_kw (ld_glob I hg gC ?_ hdb)
  refine PySem.W.callWith_K0 I.kIn kC ?_
  show wpAny _ _ (call (.ref C) []) _ _ _
  obtain ⟨bm, N, nm, qn, bs, hdct, sn, sub, ab, col, dd, k0, k1, k2, k3, k5, mN, hC, hN, hni, T⟩ := exc_obj I.kIn q
  refine wpAny_call_exc_subT F T hC hN hni (fun h' e hm => ?_) (Nat.zero_le _)
  exact mk_of I hm r h (I.hok.gone hm.new)
def sRaise0 (c : Str) : SM := fun _ μ => .exc c [] μ
theorem s_raise0 {c : Str} {p2 : Pos} (h : ExcC0 X.K X.mg c) (hc : X.calm = true) (tk : Takes X (fun c d _ H => E c d H)) (hg : Gl X c := by rfl) (hdb : (c == ("__debug__" : Str)) = false := by decide) :
    PS X (.Raise (some (.Call (.Name c p) [] [] p2)) none pos) (tS (gx X tb) E (sRaise0 c)) := by
  obtain ⟨C, bmB, newId, B, initId, h1, F, h2, h3, h4, h5⟩ := h.ex
  refine (ps_raise hc tk (pmk_own0 F h2 h1 h3 (raises_own h4 h5) hg hdb)).imp fun D σ H q => ?_
  obtain ⟨ρ, σT, μ, m, l, q⟩ := q
  exact q ρ H C none (Ext.refl _ _ _ _) m h1 (.inl ⟨rfl, rfl⟩)
/-! ### augmented stores -/
/-- name += e: ints -/
def sAug (i : Nat) (k : T → T → Mem → Res) (d : EM) : SM := fun σ μ => match σ[i]? with
  | some (some x) => (d σ μ).toS fun y μ1 => (k x y μ1).toS fun z μ2 => .nx (σ.set i (some z)) μ2
  | _ => .bad
theorem s_augI {op : Operator} {f : Int → Int → Int} {k : T → T → Mem → Res} (i : Nat) {x : Str} {pos' : Pos} (hk : ∀ x y μ, k x y μ ≠ .bad → ∃ i j, x = .int i ∧ y = .int j ∧ k x y μ = .ok (.int (f i j)) μ) (hop : PIp X op (ipI f)) (hN : X.N.Nodup) (he : PE X e (tE (gx X tb) E da))
    (hi : X.N[i]? = some x := by rfl) (hx : Loc X.env.scope x := by first | exact Or.inl rfl | exact Or.inr rfl) (hf : X.fn x = true ∨ X.env.scope.names.lookup x = some .local := by first | exact .inl rfl | exact .inr rfl | assumption) :
    PS X (.AugAssign (.Name x pos') op e pos) (tS (gx X tb) E (sAug i k da)) := (ps_aug hN hi hx he hop hf).imp fun D σ H q => by
  obtain ⟨ρ, σT, μ, m, l, q⟩ := q
  unfold sAug at q
  cases h : σT[i]? with
  | none => simp only [h] at q; exact q.elim
  | some o =>
    cases o with
    | none => simp only [h] at q; exact q.elim
    | some t =>
      simp only [h] at q
      obtain ⟨v, h1, h2⟩ := l.at_ i t h
      refine ⟨v, h1, bindS (Q := D.rt) m l q fun y μ1 ρ1 u H1 e1 m1 l1 dy g1 => ?_⟩
      obtain ⟨a, b, rfl, rfl, e2⟩ := hk t y μ1 (fun z => by rw [z] at g1; exact g1)
      rw [e2] at g1
      exact ⟨a, b, h2, dy, g1 ρ1 _ H1 (Ext.refl _ _ _ _) m1 (l1.set i rfl)⟩
def addI : T → T → Mem → Res := fun x y μ => match x, y with
  | .int i, .int j => .ok (.int (i + j)) μ
  | _, _ => .bad
theorem s_augAdd (i : Nat) {x : Str} {pos' : Pos} (hN : X.N.Nodup) (he : PE X e (tE (gx X tb) E da)) (hi : X.N[i]? = some x := by rfl) (hx : Loc X.env.scope x := by first | exact Or.inl rfl | exact Or.inr rfl) (hf : X.fn x = true ∨ X.env.scope.names.lookup x = some .local := by first | exact .inl rfl | exact .inr rfl | assumption) :
    PS X (.AugAssign (.Name x pos') .Add e pos) (tS (gx X tb) E (sAug i addI da)) := s_augI i (fun x y μ h => by
      unfold addI at h ⊢
      split at h
      · exact ⟨_, _, rfl, rfl, rfl⟩
      · exact absurd rfl h) ip_add hN he hi hx hf
end
end TL
set_option Elab.async false
set_option linter.all false
set_option maxRecDepth 100000
set_option maxHeartbeats 2000000
/-! TL10: list(range), signs in texts, the dict of a dict's pairs -/
namespace TL
open PySem PySem.Spec PyProof.Rows L2
section
variable {X : Cx} {tb : List (Addr × Str)} {E : XK} {a b e o : Expr} {es : List Expr} {da db dd : EM} {d : AM} {pos p apos cpos : Pos}
theorem DVs.maps {α : Type} {K : PySem.W.Frag} {ρ : Nat → Addr} {n : Nat} {H : Hp} {f : α → T} {h : α → V} (q : ∀ i, DV K ρ n H (f i) (h i)) : ∀ l : List α, DVs K ρ n H (l.map f) (l.map h)
  | [] => rfl
  | x :: r => ⟨h x, r.map h, rfl, q x, DVs.maps q r⟩
/-! ### list(range(..)) -/
def rgOkB (i : Int) : Bool := decide (-(2 ^ 62) ≤ i) && decide (i < 2 ^ 62) && decide ((i - 0).toNat ≤ 2 ^ 24)
def dListRg (da : EM) : LM := fun σ μ => (da σ μ).bindL fun x μ1 => match x with
  | .int n => if rgOkB n = true then .ok (rngL 0 n) μ1 else .bad
  | _ => .bad
theorem l_listRg {p2 p3 : Pos} (hc : X.calm = true) (hm : X.mg "list" = none) (hm2 : X.mg "range" = none) (ha : PE X a (tE (gx X tb) E da)) (hg : Gl X "list" := by rfl) (hg2 : Gl X "range" := by rfl) (na : starEach [a] X.env = (false, eval a X.env) :: starEach [] X.env := by rfl)
    (nb : starEach [Expr.Call (.Name "range" p2) [a] [] p3] X.env = (false, eval (Expr.Call (.Name "range" p2) [a] [] p3) X.env) :: starEach [] X.env := by rfl) :
    PE X (.Call (.Name "list" p) [.Call (.Name "range" p2) [a] [] p3] [] pos) (tL (gx X tb) E (dListRg da)) := (pe_listRg hc hg hm (prg_1 hg2 hm2 ha na) nb).imp fun σ H Q q => by
  obtain ⟨ρ, σT, μ, m, l, q⟩ := q
  refine bindL_ m l q fun x μ1 ρ1 v H1 e1 m1 l1 dx g1 => ?_
  cases x with
  | int i =>
    have g1 : GoodL (gx X tb) E Q ρ1 μ1.length H1 (if rgOkB i = true then .ok (rngL 0 i) μ1 else .bad) := g1
    split at g1
    · rename_i hr
      simp only [rgOkB, Bool.and_eq_true, decide_eq_true_eq] at hr
      exact ⟨i, dx, ⟨by omega, by omega, hr.1.1, hr.1.2, hr.2⟩, fun q hq => g1.new m1 (DVs.maps (f := fun j : Nat => T.int (0 + (j : Nat))) (h := fun j : Nat => V.int (0 + (j : Nat))) (fun j => rfl) _) hq⟩
    · exact g1.elim
  | _ => exact (show False from g1).elim
/-! ### a sign in a text -/
def inTx : T → T → Mem → Res := fun x y μ => match x, y with
  | .str ⟨⟨[c]⟩⟩, .str z => .ok (.bl (decide (c ∈ z.cps.toList))) μ
  | _, _ => .bad
theorem opl_inTx : OpL X tb (compareOp .In) inTx := ⟨_, op_inS, fun E Q ρ μ H x y v u m dx dy g => by
  unfold inTx at g
  split at g
  · rename_i c z
    exact ⟨c, z, dx, dy, g.same m rfl⟩
  · exact g.elim⟩
end
/-! ### a thing of no one's is changed -/
structure Loo (o : HO) : Prop where
  t : ∀ xs, o ≠ .tup xs
  f : ∀ u v, o ≠ .frz u v
  b : ∀ ps, o ≠ .tbl ps
  c : ∀ a q, o ≠ LamX.CodeO a q
  x : ∀ ws, o ≠ .xd ws
theorem loo_dK {ws : List (Key × V)} : Loo (.dK ws) where
  t := fun _ z => by cases z
  f := fun _ _ z => by cases z
  b := fun _ z => by cases z
  c := fun _ _ z => by unfold LamX.CodeO at z; cases z
  x := fun _ z => by cases z
section
variable {g : G} {ρ ρ4 : Nat → Addr} {n n4 : Nat} {H1 H4 : Hp} {D : Addr} {o1 o2 : HO}
theorem SqT.sid {a : Addr} {us : List V} (h4 : H4 D = some o1) (lo : Loo o1) (h : SqT g.K H4 a us) : SqT g.K (upd H4 D o2) a us := by
  rcases h with (h | ⟨o, h⟩) | h
  · exact .inl (.inl (by rw [upd_ne (ne_of h h4 (fun z => lo.t _ z.symm))]; exact h))
  · exact .inl (.inr ⟨o, by rw [upd_ne (ne_of h h4 (fun z => lo.f _ _ z.symm))]; exact h⟩)
  · exact .inr h
theorem FSq.sid {a : Addr} {us : List V} (h4 : H4 D = some o1) (lo : Loo o1) (h : FSq g.K H4 a us) : FSq g.K (upd H4 D o2) a us := h.elim (fun ⟨o, h⟩ => .inl ⟨o, by rw [upd_ne (ne_of h h4 (fun z => lo.f _ _ z.symm))]; exact h⟩) .inr
theorem DV.sid {t : T} {v : V} (h4 : H4 D = some o1) (lo : Loo o1) (h : DV g.K ρ n H4 t v) : DV g.K ρ n (upd H4 D o2) t v := h.ren (fun k hk => ⟨hk, rfl⟩) fun _ _ => ⟨SqT.sid (g := g) h4 lo, FSq.sid (g := g) h4 lo, fun ws q => by rw [upd_ne (ne_of q h4 (fun z => lo.x _ z.symm))]; exact q⟩
theorem DVk.sid {κ : Type} {t : List (κ × T)} {v : List (κ × V)} (h4 : H4 D = some o1) (lo : Loo o1) (h : DVk g.K ρ n H4 t v) : DVk g.K ρ n (upd H4 D o2) t v := h.ren (fun k hk => ⟨hk, rfl⟩) fun _ _ => ⟨SqT.sid (g := g) h4 lo, FSq.sid (g := g) h4 lo, fun ws q => by rw [upd_ne (ne_of q h4 (fun z => lo.x _ z.symm))]; exact q⟩
theorem LRel.sid {σT : List (Option T)} {σ : L2.St} (h4 : H4 D = some o1) (lo : Loo o1) (l : LRel g.K ρ n H4 σT σ) : LRel g.K ρ n (upd H4 D o2) σT σ := ⟨l.len, fun i t e => let ⟨v, h1, h2⟩ := l.at_ i t e; ⟨v, h1, h2.sid (g := g) h4 lo⟩⟩
theorem tabs_sid {tb : List (Addr × Str)} (h4 : H4 D = some o1) (lo : Loo o1) (h : LamX.Tabs tb H4) : LamX.Tabs tb (upd H4 D o2) := fun q hq => by
  obtain ⟨ps, q1, q2, q3⟩ := h q hq
  refine ⟨ps, by rw [upd_ne (ne_of q1 h4 (fun z => lo.b _ z.symm))]; exact q1, q2, fun pos cv hc => ?_⟩
  obtain ⟨c, e1, e2⟩ := q3 pos cv hc
  refine ⟨c, e1, ?_⟩
  rw [upd_ne (ne_of e2 h4 (fun z => lo.c _ _ z.symm))]; exact e2
theorem Ext.sid (e : Ext g ρ n H1 ρ4 n4 H4) (hD : H1 D = none) (h4 : H4 D = some o1) (lo : Loo o1) : Ext g ρ n H1 ρ4 n4 (upd H4 D o2) :=
  ⟨e.le, e.ag, e.nw, fun b o h hn ht => by rw [upd_ne (ne_of_none h hD)]; exact e.kp b o h hn ht, fun b o h f => by rw [upd_ne (ne_of_none h hD)]; exact e.fx b o h f,
    fun b h => by
      by_cases z : b = D
      · rw [z]; exact .inl hD
      · exact e.th b (h.un z),
    fun h => tabs_sid h4 lo (e.tb h)⟩
theorem MRel.sid {μ : Mem} (m : MRel g ρ μ H4) (h4 : H4 D = some o1) (lo : Loo o1) (hn : ∀ i, i < μ.length → ρ i ≠ D) : MRel g ρ μ (upd H4 D o2) :=
  ⟨m.inj, fun i o h => by
    obtain ⟨ho, h1, h2⟩ := m.ob i o h
    exact ⟨ho, by rw [upd_ne (hn i (List.getElem?_eq_some_iff.mp h).1)]; exact h1, h2.ren (fun k hk => ⟨hk, rfl⟩) fun _ _ => ⟨SqT.sid h4 lo, FSq.sid (g := g) h4 lo, fun ws q => by rw [upd_ne (ne_of q h4 (fun z => lo.x _ z.symm))]; exact q⟩⟩, tabs_sid h4 lo m.tb⟩
/-! ### unlocked -/
variable {μ1 : Mem} {H : Hp} {od : Obj} {ws : List (Key × V)} {kvs : List (Key × T)} {k : Nat} {ρ1 : Nat → Addr}
theorem sqT_unl {K : PySem.W.Frag} {D : Addr} {o : HO} {a : Addr} {us : List V} (h1 : H1 D = some (.frz od (.dK ws))) (h : SqT K H1 a us) : SqT K (upd H1 D o) a us := by
  rcases h with (h | ⟨o, h⟩) | h
  · exact .inl (.inl (by rw [upd_ne (ne_of h h1 (fun z => nomatch z))]; exact h))
  · exact .inl (.inr ⟨o, by rw [upd_ne (ne_of h h1 (fun z => by cases z))]; exact h⟩)
  · exact .inr h
theorem fsq_unl {K : PySem.W.Frag} {D : Addr} {o : HO} {a : Addr} {us : List V} (h1 : H1 D = some (.frz od (.dK ws))) (h : FSq K H1 a us) : FSq K (upd H1 D o) a us :=
  h.elim (fun ⟨o, h⟩ => .inl ⟨o, by rw [upd_ne (ne_of h h1 (fun z => by cases z))]; exact h⟩) .inr
theorem tabs_unl {tb : List (Addr × Str)} {D : Addr} {o : HO} (h1 : H1 D = some (.frz od (.dK ws))) (h : LamX.Tabs tb H1) : LamX.Tabs tb (upd H1 D o) := fun q hq => by
  obtain ⟨ps, q1, q2, q3⟩ := h q hq
  refine ⟨ps, by rw [upd_ne (ne_of q1 h1 (fun z => nomatch z))]; exact q1, q2, fun pos cv hc => ?_⟩
  obtain ⟨c, e1, e2⟩ := q3 pos cv hc
  refine ⟨c, e1, ?_⟩
  rw [upd_ne (ne_of e2 h1 (fun z => by unfold LamX.CodeO at z; cases z))]; exact e2
theorem Ext.unlock {μ : Mem} (m : MRel g ρ μ H) (hk : μ[k]? = some (.dct kvs)) (hd : H (ρ k) = some (.dK ws)) (e : Ext g ρ μ.length (upd H (ρ k) (.frz od (.dK ws))) ρ1 μ1.length H1) (h1 : H1 (ρ k) = some (.frz od (.dK ws))) :
    Ext g ρ μ.length H ρ1 μ1.length (upd H1 (ρ k) (.dK ws)) := by
  have hlt := (List.getElem?_eq_some_iff.mp hk).1
  refine ⟨e.le, e.ag, fun i h2 h3 => ?_, fun b o h hn ht => ?_, fun b o h f => ?_, fun b h => ?_, fun ht => tabs_unl h1 (e.tb ?_)⟩
  · have z := e.nw i h2 h3
    by_cases q : ρ1 i = ρ k
    · rw [q] at z
      exact (z.no upd_same (fun _ z => nomatch z)).elim
    · exact z.un q
  · have nb := hn k hlt
    rw [upd_ne nb]
    exact e.kp b o (by rw [upd_ne nb]; exact h) hn ht
  · have nb : b ≠ ρ k := fun z => by rw [z, hd] at h; cases h; exact f
    rw [upd_ne nb]
    exact e.fx b o (by rw [upd_ne nb]; exact h) f
  · by_cases q : b = ρ k
    · rw [q] at h
      exact (h.no upd_same (fun _ z => by cases z)).elim
    · exact (e.th b (h.un q)).un q
  · exact (Ext.put m hk).tb ht
theorem MRel.unlock (m : MRel g ρ1 μ1 H1) {D : Addr} (hD : ρ1 k = D) (h1 : H1 D = some (.frz od (.dK ws))) (hk : k < μ1.length) (dk : DVk g.K ρ1 μ1.length H1 kvs ws) : MRel g ρ1 (μ1.set k (.dct kvs)) (upd H1 D (.dK ws)) := by
  subst hD
  have hs : ∀ a vs, (SqT g.K H1 a vs → SqT g.K (upd H1 (ρ1 k) (.dK ws)) a vs) ∧ (FSq g.K H1 a vs → FSq g.K (upd H1 (ρ1 k) (.dK ws)) a vs) ∧ ∀ us, H1 a = some (.xd us) → (upd H1 (ρ1 k) (.dK ws)) a = some (.xd us) := fun a vs => ⟨sqT_unl h1, fsq_unl h1, fun us q => by rw [upd_ne (ne_of q h1 (fun z => by cases z))]; exact q⟩
  refine ⟨fun i j hi hj q => m.inj i j (by simpa using hi) (by simpa using hj) q, fun i u h => ?_, tabs_unl h1 m.tb⟩
  rw [List.length_set]
  by_cases q : k = i
  · subst q
    rw [List.getElem?_set_self hk] at h
    cases h
    exact ⟨_, upd_same, ws, rfl, dk.ren (fun k hk => ⟨hk, rfl⟩) hs⟩
  · rw [List.getElem?_set_ne q] at h
    obtain ⟨ho', q1, q2⟩ := m.ob i u h
    refine ⟨ho', ?_, q2.ren (fun k hk => ⟨hk, rfl⟩) hs⟩
    rw [upd_ne]; exact q1
    intro z
    exact q (m.inj i k (List.getElem?_eq_some_iff.mp h).1 hk z).symm
end
theorem DVk.atI' {κ : Type} {K : PySem.W.Frag} {ρ : Nat → Addr} {n : Nat} {H : Hp} : ∀ {ts : List (κ × T)} {vs : List (κ × V)} {i : Nat} {q : κ × T}, DVk K ρ n H ts vs → ts[i]? = some q → ∃ v, vs[i]? = some (q.1, v) ∧ DV K ρ n H q.2 v
  | [], _, i, q, _, e => by simp at e
  | p :: r, _, 0, q, h, e => by
    obtain ⟨v, w, rfl, h2, h3⟩ := h
    simp at e; subst e
    exact ⟨v, rfl, h2⟩
  | p :: r, _, i + 1, q, h, e => by
    obtain ⟨v, w, rfl, h2, h3⟩ := h
    have z := DVk.atI' (ts := r) (vs := w) (i := i) (q := q) h3 (by simpa using e)
    exact z
/-! ### {k: v for .. in d.items() if ..} -/
def ditGo (p : Pat) (c ke ve : EM) (σ : List (Option T)) : List (Key × T) → List (Key × T) → Mem → Option (List (Key × T) × Mem)
  | [], acc, μ => some (acc, μ)
  | q :: r, acc, μ => match bindP p (.tup [ktT q.1, q.2]) σ with
    | none => none
    | some σ1 => match c σ1 μ with
      | .ok (.bl true) μ1 => (match ke σ1 μ1 with
        | .ok x μ2 => (match ve σ1 μ2 with
          | .ok y μ3 => (match keyT x with
            | some kk => if acc.length < sizeLine then ditGo p c ke ve σ r (putKT acc kk y) μ3 else none
            | none => none)
          | _ => none)
        | _ => none)
      | .ok (.bl false) μ1 => ditGo p c ke ve σ r acc μ1
      | _ => none
def dItems (de : EM) (p : Pat) (own : List Nat) (c ke ve : EM) : EM := fun σ μ => match de σ μ with
  | .ok (.ref k) _ => (match μ[k]? with
    | some (.dct kvs) => (match de σ (μ.set k (.lck kvs)) with
      | .ok (.ref k2) μ1 => if k2 = k then (match ditGo p c ke ve (wipeT σ own) kvs [] μ1 with
          | some (acc, μ2) => .ok (.ref (μ2.set k (.dct kvs)).length) (μ2.set k (.dct kvs) ++ [.dct acc])
          | none => .bad) else .bad
      | _ => .bad)
    | _ => .bad)
  | _ => .bad
section
variable {X : Cx} {tb : List (Addr × Str)} {E : XK} {a b e o tg : Expr} {es : List Expr} {da db dd : EM} {d : AM} {pos apos cpos : Pos}
theorem ext_numO {g : G} {ρ ρ' : Nat → Addr} {n : Nat} {H H' : Hp} {μ : Mem} {mo : MO} {ho : HO} {p : Addr} (e : Ext g ρ n H ρ' μ.length H') (m : MRel g ρ' μ H') (h1 : H' p = some ho) (h2 : Nt H p) (h3 : ∀ i, i < μ.length → ρ' i ≠ p) (d : MOr g ρ' μ.length H' mo ho) :
    Ext g ρ n H (ρadd ρ' μ.length p) (μ ++ [mo]).length H' ∧ MRel g (ρadd ρ' μ.length p) (μ ++ [mo]) H' ∧ DV g.K (ρadd ρ' μ.length p) (μ ++ [mo]).length H' (.ref μ.length) (.ref p) := by
  have hl : (μ ++ [mo]).length = μ.length + 1 := by simp
  have ag : ∀ i, i < μ.length → ρadd ρ' μ.length p i = ρ' i := fun i hi => by unfold ρadd; rw [if_neg (Nat.ne_of_lt hi)]
  have at_ : ρadd ρ' μ.length p μ.length = p := by unfold ρadd; rw [if_pos rfl]
  have hk : ∀ k, k < μ.length → k < μ.length + 1 ∧ ρadd ρ' μ.length p k = ρ' k := fun k hk => ⟨Nat.lt_succ_of_lt hk, ag k hk⟩
  rw [hl]
  refine ⟨⟨Nat.le_succ_of_le e.le, fun i hi => (ag i (Nat.lt_of_lt_of_le hi e.le)).trans (e.ag i hi), fun i q1 q2 => ?_, e.kp, e.fx, e.th, e.tb⟩, ⟨fun i j hi hj q => ?_, fun i o q => ?_, m.tb⟩, ⟨Nat.lt_succ_self _, by rw [at_]⟩⟩
  · by_cases hi : i < μ.length
    · rw [ag i hi]; exact e.nw i q1 hi
    · have : i = μ.length := by omega
      rw [this, at_]; exact h2
  · rw [hl] at hi hj
    by_cases h4 : i < μ.length
    · by_cases h5 : j < μ.length
      · rw [ag i h4, ag j h5] at q; exact m.inj i j h4 h5 q
      · have : j = μ.length := by omega
        rw [this, ag i h4, at_] at q
        exact absurd q (h3 i h4)
    · have hi' : i = μ.length := by omega
      by_cases h5 : j < μ.length
      · rw [hi', ag j h5, at_] at q
        exact absurd q.symm (h3 j h5)
      · omega
  · rw [hl]
    by_cases h4 : i < μ.length
    · rw [List.getElem?_append_left h4] at q
      obtain ⟨ho, q1, q2⟩ := m.ob i o q
      exact ⟨ho, by rw [ag i h4]; exact q1, q2.ren hk fun _ _ => ⟨fun z => z, fun z => z, fun _ z => z⟩⟩
    · have hi' : i = μ.length := by
        have := (List.getElem?_eq_some_iff.mp q).1
        rw [hl] at this; omega
      subst hi'
      simp at q
      subst q
      exact ⟨_, by rw [at_]; exact h1, d.ren hk fun _ _ => ⟨fun z => z, fun z => z, fun _ z => z⟩⟩
theorem tE_items {p : Pat} {de c ke ve : EM} {own : List Nat} (hs : ∀ i ∈ pslots p, i ∈ own) : ∀ σ H Q, tE (gx X tb) E (dItems de p own c ke ve) σ H Q →
    tLockE (tDc (iItems (tE (gx X tb) E de)) (tG X.K p) (ttOf (gx X tb) (some c)) (tE (gx X tb) E0 ke) (tE (gx X tb) E0 ve) own) σ H Q := fun σ H Q h => by
  obtain ⟨ρ, σT, μ, m, l, h⟩ := h
  unfold dItems at h
  split at h
  case h_2 => exact h.elim
  rename_i k μ0 hde0
  split at h
  case h_2 => exact h.elim
  rename_i kvs hk
  split at h
  case h_2 => exact h.elim
  rename_i k2 μ1 hde
  split at h
  case isFalse => exact h.elim
  rename_i hk2
  subst hk2
  split at h
  case h_2 => exact h.elim
  rename_i acc μ2 hgo
  obtain ⟨ho, q1, ws, rfl, q2⟩ := m.ob k2 _ hk
  refine ⟨ρ k2, .dK ws, q1, True.intro, fun od => ?_⟩
  have mL : MRel (gx X tb) ρ (μ.set k2 (.lck kvs)) (upd H (ρ k2) (.frz od (.dK ws))) := m.put hk ⟨od, ws, rfl, q2⟩
  have eP : Ext (gx X tb) ρ μ.length H ρ μ.length (upd H (ρ k2) (.frz od (.dK ws))) := Ext.put m hk
  have hlen : (μ.set k2 (.lck kvs)).length = μ.length := List.length_set
  have hkl := (List.getElem?_eq_some_iff.mp hk).1
  refine ⟨ρ, σT, μ.set k2 (.lck kvs), mL, by rw [hlen]; exact l.ext eP, ?_⟩
  rw [hde]
  intro ρ1 v H1 e1 m1 dv
  rw [hlen] at e1
  obtain ⟨hk1, rfl⟩ := dv
  have a1 : ρ1 k2 = ρ k2 := e1.ag k2 hkl
  have hd1 : H1 (ρ k2) = some (.frz od (.dK ws)) := e1.fx _ _ upd_same True.intro
  refine ⟨ρ1 k2, od, ws, rfl, by rw [a1]; exact hd1, ?_⟩
  rw [a1]
  have dk0 : DVk X.K ρ μ.length (upd H (ρ k2) (.frz od (.dK ws))) kvs ws := q2.ext eP
  have dk1 := dk0.ext e1
  intro D hD
  have ef : Ext (gx X tb) ρ1 μ1.length H1 ρ1 μ1.length (upd H1 D (.dK [])) := Ext.fresh hD _
  have mf := m1.fresh (o := HO.dK []) hD
  have nD : ∀ i, i < μ1.length → ρ1 i ≠ D := fun i hi e => by
    obtain ⟨ho, h1, _⟩ := m1.ob i μ1[i] (by simp [hi])
    rw [e, hD] at h1; cases h1
  have lL : LRel X.K ρ1 μ1.length H1 σT σ := (l.ext eP).ext e1
  refine ⟨fun i mm H' => mm = kvs.length - i ∧ i ≤ kvs.length ∧ ∃ ρ' μ' acc' vs, Ext (gx X tb) ρ1 μ1.length H1 ρ' μ'.length H' ∧ MRel (gx X tb) ρ' μ' H' ∧ LRel X.K ρ' μ'.length H' (wipeT σT own) (L2.wipe σ own) ∧
      H' D = some (.dK vs) ∧ (∀ i, i < μ'.length → ρ' i ≠ D) ∧ DVk X.K ρ' μ'.length H' acc' vs ∧ ditGo p c ke ve (wipeT σT own) (kvs.drop i) acc' μ' = some (acc, μ2),
    ⟨kvs.length, by simp, Nat.zero_le _, ρ1, μ1, [], [], ef, mf, (lL.ext ef).wipe own, upd_same, nD, rfl, by rw [List.drop_zero]; exact hgo⟩, ?_⟩
  rintro i mm H' ⟨rfl, hi, ρ', μ', acc', vs, e2, m2, l2, hDv, nD', dA, fin⟩
  have stay : ∀ {ρ2 n2 H2}, Ext (gx X tb) ρ' μ'.length H' ρ2 n2 H2 → H2 D = some (.dK vs) := fun {ρ2 n2 H2} e => e.kp D _ hDv (fun i hi z => nD' i hi z.symm) fun ps z => nomatch z
  have away : ∀ {ρ2 : Nat → Addr} {μ2 : Mem} {H2 : Hp}, Ext (gx X tb) ρ' μ'.length H' ρ2 μ2.length H2 → ∀ i, i < μ2.length → ρ2 i ≠ D := fun {ρ2 μ2 H2} e i hi z => by
    by_cases h5 : i < μ'.length
    · rw [e.ag i h5] at z; exact nD' i h5 z
    · have := e.nw i (Nat.not_lt.mp h5) hi
      rw [z] at this
      exact this.no hDv (fun _ z => by cases z)
  have hd2 : H' (ρ k2) = some (.frz od (.dK ws)) := e2.fx _ _ hd1 True.intro
  have dk2 := dk1.ext e2
  have hwl : kvs.length = ws.length := dk1.length
  by_cases hlt : i < kvs.length
  · have hd : kvs.drop i = kvs[i] :: kvs.drop (i + 1) := List.drop_eq_getElem_cons hlt
    rw [hd] at fin
    unfold ditGo at fin
    split at fin
    · cases fin
    · rename_i σ4 hb
      refine .inr ⟨⟨hd2, by rw [← hwl]; exact hlt⟩, _, fun H3 q => q, fun x H3 y => ?_⟩
      obtain ⟨TT, kk, vv, y1, rfl, y3, rfl⟩ := y
      have e3 : Ext (gx X tb) ρ' μ'.length H' ρ' μ'.length (upd H' TT (.tup [kV kk, vv])) := Ext.fresh y3 _
      have m3 := m2.fresh (o := HO.tup [kV kk, vv]) y3
      have dx : DV X.K ρ' μ'.length (upd H' TT (.tup [kV kk, vv])) (.tup [ktT kvs[i].1, kvs[i].2]) (.ref TT) := by
        obtain ⟨t1, t2, t3⟩ := dk2.atI' (i := i) (q := kvs[i]) (by simp [hlt])
        rw [t2] at y1; cases y1
        refine ⟨TT, _, rfl, .inl (.inl upd_same), kV kvs[i].1, [_], rfl, ?_, _, [], rfl, t3.ext e3, rfl⟩
        cases kvs[i].1 <;> rfl
      refine ⟨ρ', μ'.length, wipeT σT own, _, σ4, l2.ext e3, dx, hb, fun σ5 l5 s5 => ⟨wipe_same s5 hs, ?_⟩⟩
      split at fin
      · rename_i μ4 hcq
        split at fin
        case h_2 => cases fin
        rename_i xk μ5 hke
        split at fin
        case h_2 => cases fin
        rename_i yv μ6 hve
        split at fin
        case h_2 => cases fin
        rename_i kq hkq
        split at fin
        case isFalse => cases fin
        rename_i hz
        refine ⟨ρ', σ4, μ', m3, l5, ?_⟩
        rw [hcq]
        intro ρ4 w4 H4 e4 m4 dq
        refine ⟨true, dq, ?_⟩
        show (if true = true then _ else _)
        rw [if_pos rfl]
        refine ⟨ρ4, σ4, μ4, m4, l5.ext e4, ?_⟩
        rw [hke]
        intro ρ5 w5 H5 e5 m5 d5
        refine ⟨ρ5, σ4, μ5, m5, (l5.ext e4).ext e5, ?_⟩
        rw [hve]
        intro ρ6 w6 H6 e6 m6 d6
        have e36 := ((e3.trans e4).trans e5).trans e6
        have hD6 := stay e36
        have nD6 := away e36
        refine ⟨vs, kq, keyT_of d5 hkq, hD6, by rw [← dA.length]; exact hz, _, by omega, rfl, hlt, ρ6, μ6, putKT acc' kq yv, L2.putK vs kq w6, (e2.trans e36).sid hD hD6 loo_dK, m6.sid hD6 loo_dK nD6, (l2.ext e36).sid (g := gx X tb) hD6 loo_dK, upd_same, nD6, (DVk.putK d6 (dA.ext e36)).sid (g := gx X tb) hD6 loo_dK, fin⟩
      · rename_i μ4 hcq
        refine ⟨ρ', σ4, μ', m3, l5, ?_⟩
        rw [hcq]
        intro ρ4 w4 H4 e4 m4 dq
        refine ⟨false, dq, ?_⟩
        show (if false = true then _ else _)
        rw [if_neg Bool.false_ne_true]
        have e34 := e3.trans e4
        exact ⟨_, by omega, rfl, hlt, ρ4, μ4, acc', vs, e2.trans e34, m4, l2.ext e34, stay e34, away e34, dA.ext e34, fin⟩
      · cases fin
  · have he : i = kvs.length := by omega
    rw [he, List.drop_length] at fin
    unfold ditGo at fin
    cases fin
    refine .inl ⟨⟨hd2, by rw [← hwl]; omega⟩, hd2, ?_⟩
    have a2 : ρ' k2 = ρ k2 := (e2.ag k2 hk1).trans a1
    have e12 := e1.trans e2
    have U := Ext.unlock m hk q1 e12 hd2
    have M := m2.unlock (kvs := kvs) a2 hd2 (Nat.lt_of_lt_of_le hk1 e2.le) dk2
    have hlen2 : (μ2.set k2 (.dct kvs)).length = μ2.length := List.length_set
    have nk : D ≠ ρ k2 := fun z => by rw [z, hd2] at hDv; cases hDv
    have hDn : Nt H D := (e1.th D (.inl hD)).un nk
    have hDv' : (upd H' (ρ k2) (.dK ws)) D = some (.dK vs) := by rw [upd_ne nk]; exact hDv
    have dA' : DVk X.K ρ' (μ2.set k2 (.dct kvs)).length (upd H' (ρ k2) (.dK ws)) acc vs := by
      rw [hlen2]
      exact dA.ren (fun k hk => ⟨hk, rfl⟩) fun _ _ => ⟨sqT_unl hd2, fsq_unl hd2, fun ws q => by rw [upd_ne (ne_of q hd2 (fun z => by cases z))]; exact q⟩
    obtain ⟨z1, z2, z3⟩ := ext_numO (p := D) (mo := .dct acc) (ho := .dK vs) (g := gx X tb) (by rw [hlen2]; exact U) M hDv' hDn (fun i hi => nD' i (by rw [← hlen2]; exact hi)) ⟨vs, rfl, dA'⟩
    exact h _ _ _ z1 z2 z3
theorem e_items {kx vx : Expr} {elts : List Expr} {kk : Nat} {tpos : Pos} {ifs : List Expr} {scope : Scope} {own : List (Str × Nat)} {p : Pat} {de c ke ve : EM} (hc : X.calm = true) (hN : X.N.Nodup) (hi : PE X e (tE (gx X tb) E de)) (ok : BlkOk X.N X.env.scope scope own) (hs : ∀ i ∈ pslots p, i ∈ own.map (·.2))
    (hg : ∀ (s : Shared) (H : Hp) (C : Addr) (cl : List (Str × Addr)) (fp : List Addr), PG (X.blk s H scope (compEnvC scope cl C X.env) fp) (.Tuple elts kk tpos) (tG X.K p)) (ht : ∀ (s : Shared) (H : Hp) (C : Addr) (cl : List (Str × Addr)) (fp : List Addr), PTs' (X.blk s H scope (compEnvC scope cl C X.env) fp) tb ifs (some c))
    (hk : ∀ (s : Shared) (H : Hp) (C : Addr) (cl : List (Str × Addr)) (fp : List Addr), PE (X.blk s H scope (compEnvC scope cl C X.env) fp) kx (tE (gx X tb) E0 ke))
    (hv : ∀ (s : Shared) (H : Hp) (C : Addr) (cl : List (Str × Addr)) (fp : List Addr), PE (X.blk s H scope (compEnvC scope cl C X.env) fp) vx (tE (gx X tb) E0 ve))
    (hf : ∀ x, foldedSetIterable (.Call (.Attribute e "items" apos) [] [] cpos) X.env x = pure x := by intro _; rfl) (hbase : attributeBase e "items" X.env (eval e X.env) = eval e X.env := by rfl) (hline : (apos.endLine == cpos.line) = true := by rfl) :
    PE X (.DictComp kx vx [⟨.Tuple elts kk tpos, .Call (.Attribute e "items" apos) [] [] cpos, ifs, 0⟩] scope pos) (tE (gx X tb) E (dItems de p (own.map (·.2)) c ke ve)) :=
  (pe_lock (pe_dc hc hN (pi_items hi hbase hline) ok hg (fun s H C cl fp => pts_of (ht s H C cl fp)) hk hv hf)).imp (tE_items hs)
end
end TL
set_option Elab.async false
set_option linter.all false
set_option maxRecDepth 100000
set_option maxHeartbeats 2000000
/-! TL11: written dicts, lists of bools asked -/
namespace TL
open PySem PySem.Spec PyProof.Rows L2
section
variable {X : Cx} {tb : List (Addr × Str)} {E : XK} {a b e o : Expr} {es : List Expr} {da db dd : EM} {d : AM} {pos p apos cpos : Pos}
/-! ### a dict of the written part -/
structure WD (w : World) (K : PySem.W.Frag) (mg : Str → Option Value) (x : Str) (tab : List (Str × T)) : Prop where
  ex : ∃ p es n, mg x = some (.ref p) ∧ K.lookup p = some ⟨.type "dict", none, .dict es n, #[]⟩ ∧ PySem.W.KeysLit w.params es.toList ∧ (p == sysModules) = false ∧
    ∀ q ∈ tab, ∃ v u, PySem.W.nsIn K p q.1 = some (some u) ∧ RelV v u ∧ ∀ ρ n H, DV K ρ n H q.2 v
theorem lookup_mem {κ : Type} [BEq κ] [LawfulBEq κ] {α : Type} : ∀ {l : List (κ × α)} {x : κ} {v : α}, l.lookup x = some v → (x, v) ∈ l
  | [], _, _, h => by simp at h
  | (y, w) :: r, x, v, h => by
    unfold List.lookup at h
    split at h
    · rename_i q
      cases h
      rw [show x = y from LawfulBEq.eq_of_beq q]
      exact List.mem_cons_self ..
    · exact List.mem_cons_of_mem _ (lookup_mem h)
def wdT (tab : List (Str × T)) : T → Mem → Res := fun y μ => match y with
  | .str z => (match tab.lookup z with
    | some t => .ok t μ
    | none => .bad)
  | _ => .bad
theorem e_wd {x : Str} {tab : List (Str × T)} (h : WD X.w X.K X.mg x tab) (hb : PE X b (tE (gx X tb) E db)) (hg : Gl X x := by rfl) (hd : (x == ("__debug__" : Str)) = false := by decide) (hs : PlainIx b := by exact fun _ _ => rfl) :
    PE X (.Subscript (.Name x p) b pos) (tE (gx X tb) E (d1 (wdT tab) db)) := by
  obtain ⟨q, es, n, h1, h2, h3, h4, h5⟩ := h.ex
  refine (pe_ix ix_kdict (pe_glob (v := .ref q) hg h1 rfl hd) hb hs).imp fun σ H Q z => ?_
  obtain ⟨ρ, σT, μ, m, l, z⟩ := z
  refine bindE m l z fun y μ1 ρ1 u H1 e1 m1 l1 dy g1 => ?_
  unfold wdT at g1
  split at g1
  · rename_i y0 zz
    split at g1
    · rename_i t ht
      obtain ⟨v, u', k1, k2, k3⟩ := h5 _ (lookup_mem ht)
      exact ⟨q, zz, v, rfl, dy, ⟨es, n, u', h2, h3, k1, k2⟩, g1.same m1 (k3 _ _ _)⟩
    · exact g1.elim
  · exact g1.elim
def wdNot (tab : List (Str × T)) : T → Mem → Res := fun y μ => match y with
  | .str z => (match tab.lookup z with
    | some _ => .ok (.bl false) μ
    | none => .bad)
  | _ => .bad
theorem e_wdNot {x : Str} {tab : List (Str × T)} (h : WD X.w X.K X.mg x tab) (hb : PE X b (tE (gx X tb) E db)) (hg : Gl X x := by rfl) (hd : (x == ("__debug__" : Str)) = false := by decide)
    (hm : behindInMarks .NotIn (.Name x p) = false := by first | exact nomark _ (by decide) (by decide) | with_unfolding_all rfl) :
    PE X (.Compare b [.NotIn] [.Name x p] pos) (tE (gx X tb) E (d1 (wdNot tab) db)) := by
  obtain ⟨q, es, n, h1, h2, h3, h4, h5⟩ := h.ex
  have op : OpR X (compareOp .NotIn) (fun x y H Q => ∃ z r, x = .str z ∧ y = .ref q ∧ PySem.W.nsIn X.K q z = some r ∧ Q (.bl (!r.isSome)) H) := by
    intro pins s σ H x y v u Q I rx ry h
    obtain ⟨z, r, rfl, rfl, k1, k2⟩ := h
    obtain ⟨t, rfl⟩ := rx
    obtain rfl : u = Value.ref q := ry
    refine wpAny_notIn_of (strKind_is X.prog X.w z t) h4 (PySem.W.mapOf_K (prog := X.prog) (w := X.w) I.kIn h2 h3) ?_
    rw [PySem.W.find_K h2 k1]
    exact ⟨_, _, I.tok _, (show RelV (.bl (!r.isSome)) (.bool (!r.isSome)) from rfl), k2⟩
  refine (pe_cmpR op hb (pe_glob (v := .ref q) hg h1 rfl hd) hm).imp fun σ H Q z => ?_
  obtain ⟨ρ, σT, μ, m, l, z⟩ := z
  refine bindE m l z fun y μ1 ρ1 u H1 e1 m1 l1 dy g1 => ?_
  unfold wdNot at g1
  split at g1
  · rename_i y0 zz
    split at g1
    · rename_i t ht
      obtain ⟨v, u', k1, k2, k3⟩ := h5 _ (lookup_mem ht)
      exact ⟨zz, _, dy, rfl, k1, g1.same m1 rfl⟩
    · exact g1.elim
  · exact g1.elim
theorem t_wdNot {x : Str} {tab : List (Str × T)} (h : WD X.w X.K X.mg x tab) (hb : PE X b (tE (gx X tb) E db)) (hg : Gl X x := by rfl) (hd : (x == ("__debug__" : Str)) = false := by decide)
    (hm : behindInMarks .NotIn (.Name x p) = false := by first | exact nomark _ (by decide) (by decide) | with_unfolding_all rfl) :
    PT X (.Compare b [.NotIn] [.Name x p] pos) (tT (gx X tb) E (d1 (wdNot tab) db)) := by
  obtain ⟨q, es, n, h1, h2, h3, h4, h5⟩ := h.ex
  have op : OpR X (compareOp .NotIn) (fun x y H Q => ∃ z r, x = .str z ∧ y = .ref q ∧ PySem.W.nsIn X.K q z = some r ∧ Q (.bl (!r.isSome)) H) := by
    intro pins s σ H x y v u Q I rx ry h
    obtain ⟨z, r, rfl, rfl, k1, k2⟩ := h
    obtain ⟨t, rfl⟩ := rx
    obtain rfl : u = Value.ref q := ry
    refine wpAny_notIn_of (strKind_is X.prog X.w z t) h4 (PySem.W.mapOf_K (prog := X.prog) (w := X.w) I.kIn h2 h3) ?_
    rw [PySem.W.find_K h2 k1]
    exact ⟨_, _, I.tok _, (show RelV (.bl (!r.isSome)) (.bool (!r.isSome)) from rfl), k2⟩
  refine (pt_cmpR op hb (pe_glob (v := .ref q) hg h1 rfl hd) hm).imp fun σ H Q z => ?_
  obtain ⟨ρ, σT, μ, m, l, z⟩ := z
  refine bindE m l z fun y μ1 ρ1 u H1 e1 m1 l1 dy g1 => ?_
  unfold wdNot at g1
  split at g1
  · rename_i y0 zz
    split at g1
    · rename_i t ht
      obtain ⟨v, u', k1, k2, k3⟩ := h5 _ (lookup_mem ht)
      exact ⟨zz, _, dy, rfl, k1, g1.same (v := .bl false) m1 rfl⟩
    · exact g1.elim
  · exact g1.elim
/-! ### lists of bools asked -/
theorem hold_bl {h : Heap} {b : Bool} : PySem.W.Holds h (.bool b) b := ⟨[], .bool b⟩
theorem bools_of : ∀ {bs : List Bool} {its : List Value} {h : Heap}, Vals (bs.map V.bl) its → PySem.W.HoldAll h its bs
  | [], _, _, r => by cases r; exact .nil
  | b :: r, _, h, q => by
    cases q with
    | cons h1 h2 =>
      rw [show _ = Value.bool b from h1]
      exact .cons hold_bl (bools_of h2)
theorem mt_countB (hu : X.A.units + 1 < cLine) : MtR X "list.count" (fun x xs H Q => ∃ (p : Addr) (bs : List Bool) (c : Bool), x = .ref p ∧ xs = [.bl c] ∧ SqL X.K H p (bs.map V.bl) ∧ Q (.int (bs.countP fun y => decide (y = c) : Nat)) H) := by
  intro pins s σ H x xs v us Q I rx rxs h
  obtain ⟨p, bs, c, rfl, rfl, hs, q⟩ := h
  cases rx
  obtain ⟨u, rfl, ru⟩ := rxs.one
  obtain rfl : u = Value.bool c := ru
  obtain ⟨its, rv, pl, hlen⟩ := I.list hs
  exact PySem.W.count_list_datum pl.isList (by simpa using bools_of rv) hold_bl (by show X.A.units + 1 + 0 < cLine; omega) ⟨.int _, H, I.tok _, ⟨s.toks, rfl⟩, q⟩
theorem mt_indexB (hu : X.A.units + 1 < cLine) : MtR X "list.index" (fun x xs H Q => ∃ (p : Addr) (bs : List Bool) (c : Bool), x = .ref p ∧ xs = [.bl c] ∧ SqL X.K H p (bs.map V.bl) ∧ bs.length ≤ sizeLine ∧ c ∈ bs ∧ Q (.int (bs.idxOf c : Nat)) H) := by
  intro pins s σ H x xs v us Q I rx rxs h
  obtain ⟨p, bs, c, rfl, rfl, hs, hz, hc, q⟩ := h
  cases rx
  obtain ⟨u, rfl, ru⟩ := rxs.one
  obtain rfl : u = Value.bool c := ru
  obtain ⟨its, rv, pl, hlen⟩ := I.list hs
  exact PySem.W.index_list_datum pl.isList (bools_of rv) hold_bl (by show X.A.units + 1 + 0 < cLine; omega) hz hc ⟨.int _, H, I.tok _, ⟨s.toks, rfl⟩, q⟩
def unBs : List T → Option (List Bool)
  | [] => some []
  | .bl b :: r => (unBs r).map fun bs => b :: bs
  | _ :: _ => none
theorem unBs_of : ∀ {ts : List T} {bs : List Bool}, unBs ts = some bs → ts = bs.map T.bl
  | [], _, e => by cases e; rfl
  | .bl b :: r, _, e => by
    simp only [unBs, Option.map_eq_some_iff] at e
    obtain ⟨cs, e1, rfl⟩ := e
    rw [unBs_of e1]; rfl
  | .non :: _, _, e => by simp [unBs] at e
  | .int _ :: _, _, e => by simp [unBs] at e
  | .str _ :: _, _, e => by simp [unBs] at e
  | .tup _ :: _, _, e => by simp [unBs] at e
  | .ref _ :: _, _, e => by simp [unBs] at e
  | .er _ _ :: _, _, e => by simp [unBs] at e
  | .fl _ :: _, _, e => by simp [unBs] at e
theorem bls_of {K : PySem.W.Frag} {ρ : Nat → Addr} {n : Nat} {H : Hp} : ∀ {bs : List Bool} {vs : List V}, DVs K ρ n H (bs.map T.bl) vs → vs = bs.map V.bl
  | [], _, d => d
  | b :: r, _, d => by
    obtain ⟨v, w, rfl, h2, h3⟩ := d
    rw [show v = _ from h2, bls_of h3]; rfl
def countBT : T → List T → Mem → Res := fun x ts μ => match x, ts with
  | .ref k, [.bl c] => (match μ[k]? with
    | some (.lst xs) => (match unBs xs with
      | some bs => .ok (.int (bs.countP fun y => decide (y = c) : Nat)) μ
      | none => .bad)
    | _ => .bad)
  | _, _ => .bad
def indexBT : T → List T → Mem → Res := fun x ts μ => match x, ts with
  | .ref k, [.bl c] => (match μ[k]? with
    | some (.lst xs) => (match unBs xs with
      | some bs => if bs.length ≤ sizeLine ∧ c ∈ bs then .ok (.int (bs.idxOf c : Nat)) μ else .bad
      | none => .bad)
    | _ => .bad)
  | _, _ => .bad
theorem ml_countB (hu : X.A.units + 1 < cLine) : MtL X tb "list.count" countBT := ⟨_, mt_countB hu, fun E Q ρ μ H x v ts vs m dx ds g => by
  unfold countBT at g
  split at g
  · rename_i k c
    split at g
    · rename_i xs hk
      split at g
      · rename_i bs hb
        obtain ⟨hkl, rfl⟩ := dx
        obtain ⟨w, r, rfl, h2, h3⟩ := ds
        rw [show r = [] from h3, show w = _ from h2]
        obtain ⟨ho, q1, ws, rfl, q2⟩ := m.ob k _ hk
        rw [unBs_of hb] at q2
        rw [bls_of q2] at q1
        exact ⟨_, bs, c, rfl, rfl, SqL.of q1, g.same m rfl⟩
      · exact g.elim
    · exact g.elim
  · exact g.elim⟩
theorem ml_indexB (hu : X.A.units + 1 < cLine) : MtL X tb "list.index" indexBT := ⟨_, mt_indexB hu, fun E Q ρ μ H x v ts vs m dx ds g => by
  unfold indexBT at g
  split at g
  · rename_i k c
    split at g
    · rename_i xs hk
      split at g
      · rename_i bs hb
        split at g
        · rename_i hz
          obtain ⟨hkl, rfl⟩ := dx
          obtain ⟨w, r, rfl, h2, h3⟩ := ds
          rw [show r = [] from h3, show w = _ from h2]
          obtain ⟨ho, q1, ws, rfl, q2⟩ := m.ob k _ hk
          rw [unBs_of hb] at q2
          rw [bls_of q2] at q1
          exact ⟨_, bs, c, rfl, rfl, SqL.of q1, hz.1, hz.2, g.same m rfl⟩
        · exact g.elim
      · exact g.elim
    · exact g.elim
  · exact g.elim⟩
end
end TL
set_option Elab.async false
set_option linter.all false
set_option maxRecDepth 100000
set_option maxHeartbeats 2000000
/-! TL12: errors caught, lambdas called -/
namespace TL
open PySem PySem.Spec PyProof.Rows L2
/-- what the written part says of an own class of errors, asked by isinstance -/
structure ErK (K : PySem.W.Frag) (D : Addr) : Prop where
  cl : (PySem.W.clsIn K D).isSome = true
  ga : PySem.W.findIn K (.ref D) "__getattribute__" = some (some (.builtin "BaseException.__getattribute__"))
  gt : PySem.W.findIn K (.ref D) "__getattr__" = some none
  sb : PySem.W.subIn K (.ref D) (.type "BaseException") = some true
  ca : PySem.W.findIn K (.ref D) "__class__" = some (some (.builtin "object.__class__"))
  cn : PySem.W.specialIn K (.builtin "object.__class__") "__get__" = some (some (.builtin "getset_descriptor.__get__"))
  ct : PySem.W.takesIn K (.builtin "object.__class__") = some true
  mr : PySem.W.mroIn K D (.type "object") = some true
section
variable {X : Cx} {tb : List (Addr × Str)} {E : XK} {pos p p2 p3 : Pos}
theorem call_isEd {a C : Addr} {oe : Obj} {d : Option Addr} {pn : List (Addr × Obj)} (F : ErK X.K C) (hz : Zc (.ref C) d oe) (hf : ∃ vs, oe.data = .fields vs) :
    CallR (X.suite a ((a, oe) :: pn)) (.builtin "isinstance") (fun xs H Q => ∃ (c : V) (cv : Value) (b : Bool), xs = [.ref a, c] ∧ (∀ u, RelV c u → u = cv) ∧ PySem.W.kitOne X.K (.ref C) cv = some b ∧ (∀ dx, d = some dx → ∃ ws, H dx = some (.xd ws)) ∧ Q (.bl b) H) := by
  intro pins s σ H xs us Q I r h
  obtain ⟨c, cv, b, rfl, hcv, e, hd, q⟩ := h
  cases r with
  | cons rx rr =>
    cases rr with
    | cons rt rr =>
      cases rr
      cases rx
      have ec := hcv _ rt
      subst ec
      obtain ⟨hget, _⟩ := I.pin (a, oe) (List.mem_append.mpr (.inl List.mem_cons_self))
      obtain ⟨vs, hv⟩ := hf
      have J : ∃ od, PySem.W.InstAt s.heap a oe C od := by
        obtain ⟨oc, odd, oda, osl⟩ := oe
        obtain ⟨h1, h2⟩ := hz
        dsimp only at h1 h2 hv
        subst h1 h2 hv
        cases odd with
        | none => exact ⟨none, hget, rfl, rfl, trivial⟩
        | some dx =>
          obtain ⟨ws, hw⟩ := hd dx rfl
          obtain ⟨mA, ⟨od, es, ep, ho, _⟩, _⟩ := I.hok dx _ hw
          exact ⟨some od, hget, rfl, rfl, ho⟩
      obtain ⟨od, J⟩ := J
      exact PySem.W.kia_one (PySem.W.kitx_exc F.cl F.ga F.gt F.sb F.ca F.cn F.ct F.mr) I.kIn J e (fun z => nomatch z) fun tk => ⟨.bl b, H, I.kept (t' := tk) fun _ _ z => z, rfl, q⟩
/-- isinstance(e, x), e the caught error in slot i -/
def dIsErr (i : Nat) (a : Addr) (d : Option Addr) (b : Bool) : EM := fun σ μ => match σ[i]? with
  | some (some (.er a' d')) => if a' = a ∧ d' = d then .ok (.bl b) μ else .bad
  | _ => .bad
theorem e_isErr {a C D : Addr} {oe : Obj} {d : Option Addr} {pn : List (Addr × Obj)} {n x : Str} {b : Bool} (i : Nat) (F : ErK X.K C) (hz : Zc (.ref C) d oe) (hf : ∃ vs, oe.data = .fields vs) (hk : PySem.W.kitOne X.K (.ref C) (.ref D) = some b) (hm : X.mg "isinstance" = none) (hx : X.mg x = some (.ref D))
    (hi : X.N[i]? = some n := by rfl) (hv0 : Vis X.env.scope n := by first | exact .inl rfl | exact .inr (.inl rfl) | exact .inr (.inr rfl)) (hg : Gl X "isinstance" := by rfl) (hg2 : Gl X x := by rfl)
    (hn1 : (n == ("__debug__" : Str)) = false := by decide) (hn2 : (n == ("__classdict__" : Str)) = false := by decide) (hd2 : (x == ("__debug__" : Str)) = false := by decide) (hv : bootBuiltins "isinstance" = some (.builtin "isinstance") := by decide +kernel)
    (hs : starEach [.Name n p2, .Name x p3] X.env = (false, eval (.Name n p2) X.env) :: starEach [.Name x p3] X.env := by rfl) (hs2 : starEach [.Name x p3] X.env = [(false, eval (.Name x p3) X.env)] := by rfl) (hpl : (backTo pos (starEach [.Name x p3] X.env)).any (·.1) = false := by rfl) :
    PE (X.suite a ((a, oe) :: pn)) (.Call (.Name "isinstance" p) [.Name n p2, .Name x p3] [] pos) (tE (gx X tb) E (dIsErr i a d b)) :=
  (pe_callB (X := X.suite a ((a, oe) :: pn)) (call_isEd F hz hf) hg hm hv (pa_cons (pe_var (X := X.suite a ((a, oe) :: pn)) (i := i) hi hv0 hn1 hn2) (pa_cons (pe_glob (X := X.suite a ((a, oe) :: pn)) (v := .ref D) hg2 hx rfl hd2) pa_nil hs2) hs) (by decide) (by decide) hs hpl).imp fun σ H Q h => by
    obtain ⟨ρ, σT, μ, m, l, h⟩ := h
    unfold dIsErr at h
    split at h
    · rename_i a' d' hs
      split at h
      · rename_i hh
        obtain ⟨rfl, rfl⟩ := hh
        obtain ⟨v, h1, h2⟩ := l.at_ i _ hs
        rw [show v = _ from h2.1] at h1
        exact ⟨.ref a', h1, .ref D, .ref D, b, rfl, fun u r => r, hk, h2.2, h.same m rfl⟩
      · exact h.elim
    · exact h.elim
end
/-! ### lambdas without parameters -/
open LamX in
theorem Ext.ofN {g : G} {ρ : Nat → Addr} {n : Nat} {H H1 : Hp} (eN : ExtN H H1) (T1 : Tabs g.tabs H1) : Ext g ρ n H ρ n H1 :=
  ⟨Nat.le_refl _, fun _ _ => rfl, fun i h1 h2 => absurd h2 (Nat.not_lt.mpr h1), fun b o h _ ht => eN b o h ht, fun b o h f => eN b o h fun ps z => by subst z; exact f, fun b h => by
    cases q : H b with
    | none => exact .inl q
    | some o =>
      by_cases ht : ∃ ps, o = .tbl ps
      · obtain ⟨ps, rfl⟩ := ht
        exact .inr ⟨ps, q⟩
      · exact (h.no (eN b o q fun ps z => ht ⟨ps, z⟩) fun ps z => ht ⟨ps, z⟩).elim, fun _ => T1⟩
section
open LamX
variable {X : Cx} {pins : List (Addr × Obj)} {σ : L2.St} {H HZ : Hp} {s s1 : Shared}
/-- x(), in the def that got the lambda: Z is that def's context, entered at s -/
theorem pe_actS {CXg : CXT} {Eg : XK} {Ng : List Str} {qg : Str} {sg : Scope} {g f c' : Addr} {cdg pm ctv : Value} {params : Arguments} {body : Expr} {scope : Scope} {k i : Nat} {a : Str} {pn : List (Addr × Obj)} {xe : Value → Shared → Prop} {W : WX} {tb : XK → TE} {p1 p2 : Pos}
    (I : Inv X pins σ H s) (L : LamS X.env.scope scope) (hf : s.heap.get? f = some (PySem.W.kla_obj "<lambda>" (X.env.qual ++ "<lambda>") params body scope (cloFrom X.env.cells scope.names []) pm c' ctv)) (hfn : H f = none) (hfr : f ∉ frs X.stack)
    (hbind : bindArgs (PySem.W.kla_fn "<lambda>" (X.env.qual ++ "<lambda>") params body scope (cloFrom X.env.cells scope.names []) pm (.ref c') ctv) ⟨[], []⟩ = pure [])
    (tk : Takes ((cxOf CXg X.prog X.w X.K X.mg X.base Ng qg sg g cdg X.A X.stack s H Eg).tr pn xe) W) (hr : Room (k + 1) (X.A.deeper (envOfC qg sg s.heap.objs.size g cdg)))
    (hbody : ∀ (A : Around) (outer : List Env) (s : Shared) (H : Hp) (E : XK), Room k (A.deeper (lamEnv X scope s.heap.objs.size f c')) → PE (lamCx X A outer s H E scope f c') body (tb E))
    (hN : Ng[i]? = some a) (hv : Vis sg a) (hd : (a == ("__debug__" : Str)) = false := by decide) (hcd : (a == ("__classdict__" : Str)) = false := by decide) :
    PE ((cxOf CXg X.prog X.w X.K X.mg X.base Ng qg sg g cdg X.A X.stack s H Eg).tr pn xe) (.Call (.Name a p1) [] [] p2)
      (fun σZ HZ Q => σZ[i]? = some (some (.ref f)) ∧ HZ c' = some (CodeO c' (X.env.qual ++ "<lambda>")) ∧ ∃ E : XK, (∀ cls d H', E cls d H' → W cls d σZ H') ∧ tb E σ HZ Q) := by
  refine ⟨fun pinsZ sZ σZ HZ Q IZ h => ?_⟩
  obtain ⟨hs, hc, E, hW, ht⟩ := h
  refine wpAny_Call_Name_kw (thn ((pe_var (pos := p1) (i := i) hN hv hd hcd).run pinsZ sZ σZ HZ (fun v H1 => v = .ref f ∧ H1 = HZ) IZ ⟨.ref f, hs, rfl, rfl⟩) fun u s1 ⟨v, H1, I1, r1, q1⟩ => ?_)
  obtain ⟨ev, eH⟩ := q1
  subst ev
  rw [eH] at I1
  obtain rfl : u = Value.ref f := r1
  have of1 : s1.heap.get? f = some (PySem.W.kla_obj "<lambda>" (X.env.qual ++ "<lambda>") params body scope (cloFrom X.env.cells scope.names []) pm c' ctv) := I1.base.keep f _ hf hfn hfr (fun z => nomatch (show f ∈ ([] : List Addr) from z))
  refine PySem.W.callWith_F0 ⟨_, _, _, _, of1⟩ ?_
  have un : Un (frs X.stack) [] H HZ s.heap s1.heap := I1.base
  obtain ⟨⟨oc, vs, t, hoc, hdc, hvc⟩, _, _⟩ := I1.hok c' _ hc
  have rc : codeAny (model X.prog X.w) (X.A.deeper (envOfC qg sg s.heap.objs.size g cdg)) (.call (.ref f) ⟨[], []⟩) (CR (L2.CX X.prog X.w) (envOfC qg sg s.heap.objs.size g cdg :: X.stack) X.prog X.w HZ s1 Q E) s1 := by
    refine PySem.W.kla_callFunE hr.depth of1 rfl L.co L.gen rfl ⟨c', oc, vs, t, rfl, hoc, hdc, hvc⟩ ?_
    rw [hbind]
    refine wpAny_pure (wpAny_newFunctionEnv (fun y hy => (L.own y hy).2) (fun y hy => absurd hy (by simp)) (fun h₁ hns hsb => ⟨I1.nolimit.fresh _ hsb, ?_⟩) L.kind)
    show codeAny _ _ (.expr body (lamEnv X scope s1.heap.objs.size f c')) _ _
    have kp : ∀ b o, s1.heap.get? b = some o → h₁.get? b = some o := fun b o e => hsb.extBut b o (Nat.ne_of_lt (Heap.lt_size e)) (Heap.get?_push_of_some _ e)
    have J : Inv (lamCx X (X.A.deeper (envOfC qg sg s.heap.objs.size g cdg)) (envOfC qg sg s.heap.objs.size g cdg :: X.stack) s1 HZ E scope f c') [] σ HZ { s1 with heap := h₁, toks := s1.toks + ([] : List (Str × Value)).length } :=
      lam_start2 I L I1.env0 hr.hd un hns kp
    refine PySem.W.kla_codeExpr (wpAny_mono ((hbody _ _ s1 HZ E (hr.deeper _)).run [] _ _ HZ Q J ht) (fun v s' hq => ?_) fun e s' hq => hq)
    obtain ⟨w', H', J', rv, q⟩ := hq
    exact ⟨w', H', J'.os, J'.bare, J'.base, J'.hok, rv, q⟩
  refine wpAny_call (codeAny_mono rc fun r s' hq => ?_)
  cases r with
  | error e => exact tk e s' (XE.of_call I1 hW hq)
  | ok fl =>
    cases fl with
    | ret u => exact I1.after hq
    | next => exact False.elim hq
    | brk => exact False.elim hq
    | cont => exact False.elim hq
def GivesS (kr : Nat) (X : Cx) (Ng : List Str) (x : Str) (sg : Scope) (g : Addr) (cdg : Value) (bg : List Stmt) (a : Str) (q : Str) (TT : (XK → Hp → VK → Prop) → Hp → VK → Prop) : Prop :=
  ∀ (f c' : Addr) (s : Shared) (H : Hp) (Q : VK) (tl : XK → Hp → VK → Prop), Room kr (X.A.deeper (envOfC x sg s.heap.objs.size g cdg)) →
    (∀ (W : WX) (pn : List (Addr × Obj)) (xe : Value → Shared → Prop) (p1 p2 : Pos), Takes ((cxOf C8.CX0 X.prog X.w X.K X.mg X.base Ng x sg g cdg X.A X.stack s H C8.E0).tr pn xe) W →
      PE ((cxOf C8.CX0 X.prog X.w X.K X.mg X.base Ng x sg g cdg X.A X.stack s H C8.E0).tr pn xe) (.Call (.Name a p1) [] [] p2) (fun σZ HZ Q => σZ[0]? = some (some (.ref f)) ∧ HZ c' = some (CodeO c' q) ∧ ∃ E : XK, (∀ cls d H', E cls d H' → W cls d σZ H') ∧ tl E HZ Q)) →
    H c' = some (CodeO c' q) → TT tl H Q →
    ∃ t, PSs (cxOf C8.CX0 X.prog X.w X.K X.mg X.base Ng x sg g cdg X.A X.stack s H C8.E0).nox bg t ∧ t { nx := fun _ H' => Q .non H', rt := Q } (L2.start Ng [.ref f]) H
/-- x(lambda: body) -/
theorem pe_lamcallS {T : List (Addr × Str)} {TT : (XK → Hp → VK → Prop) → Hp → VK → Prop} {x a : Str} {g c P : Addr} {k : Nat} {pg : Arguments} {bg : List Stmt} {sg : Scope} {dV kV doc pm cdv ct oc : Value} {an od : Option Addr} {osl : Array (Option Value)} {Ng : List Str}
    {params : Arguments} {body : Expr} {scope : Scope} {t : XK → TE} {p lpos pos : Pos} (hg : Gl X x) (hm : X.mg x = some (.ref g)) (hk : PySem.W.keepIn X.K (.ref g) = true)
    (lk : X.K.lookup g = some ⟨oc, od, .func (PySem.W.fnOf x x pg bg sg dV kV doc pm an cdv ct), osl⟩) (hcg : PySem.W.codeIn X.K cdv x = true) (hb : L2.Binds X.K (PySem.W.fnOf x x pg bg sg dV kV doc pm an cdv ct) [a] []) (Sg : FnScope Ng [a] sg) (hNg : Ng[0]? = some a) (hva : Vis sg a)
    (hG : GivesS (k + 1) X Ng x sg g cdv bg a (X.env.qual ++ "<lambda>") TT)
    (TB : TabB X.base X.mg c P) (hcode : X.env.code = .ref c) (hmT : (P, X.env.qual ++ "<lambda>") ∈ T) (hu : ∀ p ∈ T, p.1 = P → p.2 = X.env.qual ++ "<lambda>") (hr : Room (k + 2) X.A) (L : LamS X.env.scope scope) (hdef : defaultsOf params X.env = ([], []))
    (hbind : ∀ (q : Str) (cl : List (Str × Addr)) (pm cv ctv : Value), bindArgs (PySem.W.kla_fn "<lambda>" q params body scope cl pm cv ctv) ⟨[], []⟩ = pure [])
    (hbody : ∀ (A : Around) (outer : List Env) (s : Shared) (H : Hp) (E : XK) (f c' : Addr), Room k (A.deeper (lamEnv X scope s.heap.objs.size f c')) → PE (lamCx X A outer s H E scope f c') body (t E))
    (hdb : (x == ("__debug__" : Str)) = false := by decide) (hd : (a == ("__debug__" : Str)) = false := by decide) (hcd : (a == ("__classdict__" : Str)) = false := by decide) :
    PE X (.Call (.Name x p) [.Lambda params body scope lpos] [] pos) (tLam T TT t) := by
  refine ⟨fun pins s σ H Q I h => ?_⟩
  obtain ⟨hT, h⟩ := h
  refine wpAny_Call_Name_kw (ld_glob I hg hm ?_ hdb)
  refine PySem.W.callWith_K (h₀ := X.base) I.ok.mod.kin hk ?_ (by rfl) (by rfl)
  show wpAny _ _ (spliced ((false, eval (.Lambda params body scope lpos) X.env) :: backTo pos (starEach [] X.env))) _ _ s
  refine Calls.spliced_cons (lam_make2 I TB hcode hmT hu hT hdef (L.has I.ok) fun f c' pm' ctv H1 s' I1 eN T1 hf hfn hfr hco => ?_)
  refine Calls.spliced_nil ⟨I1.kIn, ?_⟩
  have rc : codeAny (model X.prog X.w) X.A (.call (.ref g) ⟨[.ref f], []⟩) (CR C8.CX0 X.stack X.prog X.w H1 s' Q C8.E0) s' := by
    refine run_ofS (N := Ng) (ps := [a]) (us := [.ref f]) (vs := [.ref f]) lk hcg Sg hr I1.env0 (hb s' [.ref f] I1.kIn rfl) (.cons rfl .nil) rfl fun hr' => ?_
    obtain ⟨t', ht', hq'⟩   := hG f c' s' H1 Q (fun E H' Q' => t E σ H' Q') hr' (fun W pn xe p1 p2 tk => pe_actS (i := 0) I1 L hf hfn hfr (hbind _ _ _ _ _) tk hr' (fun A outer s H E hr2 => hbody A outer s H E f c' hr2) hNg hva hd hcd) hco (h H1 eN T1)
    exact ⟨t', ht'.nox, hq'⟩
  refine wpAny_call (codeAny_mono rc fun r s2 hq => ?_)
  cases r with
  | error e => exact (show False from hq).elim
  | ok fl =>
    cases fl with
    | ret u => exact I1.after hq
    | next => exact False.elim hq
    | brk => exact False.elim hq
    | cont => exact False.elim hq
/-- what a def that calls its lambda makes of the lambda's end -/
def TTw (g : G) (F : Res → Res) : (XK → Hp → VK → Prop) → Hp → VK → Prop := fun tl H Q => ∃ ρ μ r, MRel g ρ μ H ∧ Good g (fun _ _ _ => False) Q ρ μ.length H (F r) ∧ ∀ E' Q', Good g E' Q' ρ μ.length H r → tl E' H Q'
theorem tE_lam {tb : List (Addr × Str)} {E : XK} {F : Res → Res} {d : EM} (hF : ∀ r c fs μ, F r ≠ .exc c fs μ) : ∀ σ H Q, tE (gx X tb) E (fun σ μ => F (d σ μ)) σ H Q → tLam tb (TTw (gx X tb) F) (fun E => tE (gx X tb) E d) σ H Q := fun σ H Q h => by
  obtain ⟨ρ, σT, μ, m, l, h⟩ := h
  refine ⟨m.tb, fun H1 eN T1 => ?_⟩
  have e : Ext (gx X tb) ρ μ.length H ρ μ.length H1 := Ext.ofN eN T1
  have m1 : MRel (gx X tb) ρ μ H1 := m.same e fun i o hi h => by
    obtain ⟨ho, h1, h2⟩ := m.ob i μ[i] (by simp [hi])
    rw [h] at h1; cases h1
    exact eN _ _ h h2.noTbl
  refine ⟨ρ, μ, d σT μ, m1, ?_, fun E' Q' g' => ⟨ρ, σT, μ, m1, l.ext e, g'⟩⟩
  have g2 : Good (gx X tb) E Q ρ μ.length H1 (F (d σT μ)) := Good.later e h
  cases q : F (d σT μ) with
  | ok t μ' => rw [q] at g2; exact g2
  | exc c fs μ' => exact absurd q (hF _ _ _ _)
  | bad => rw [q] at g2; exact g2
end
end TL
set_option Elab.async false
set_option linter.all false
set_option maxRecDepth 100000
set_option maxHeartbeats 2000000
/-! TL13: the def that calls a lambda and tells the word of its error -/
namespace TL
open PySem PySem.Spec PyProof.Rows L2 LamX
section
variable {X : Cx} {tb : List (Addr × Str)}
theorem gives_word {kr : Nat} {Ng : List Str} {x : Str} {sg : Scope} {g : Addr} {cdg : Value} {a q n1 n2 xe told : Str} {F : Res → Res} {dh : Addr → Option Addr → Str → SM} {cls : List Str} {TE : Addr} {i : Nat} {j : Nat} {b0 : Stmt} {suite : List Stmt} {p1 p2 p3 p4 p5 p6 p7 p8 p9 p10 p11 : Pos}
    (hN : Ng.Nodup) (h1 : Ng[1]? = some n1) (hi : Ng[i]? = some n2) (hi0 : i ≠ 0) (hi1 : i ≠ 1) (hl1 : sg.names.lookup n1 = some .local) (hl2 : sg.names.lookup n2 = some .local) (hgt : sg.names.lookup xe = some .globalImplicit) (hdt : (xe == ("__debug__" : Str)) = false) (hmt : X.mg xe = some (.ref TE))
    (hd1 : (n1 == ("__debug__" : Str)) = false) (hc1 : (n1 == ("__classdict__" : Str)) = false)
    (hder : ∀ (s : Shared) (H : Hp) (a : Addr) (oe : Obj) (C : Addr) (cn : Str) (d : Option Addr) (pn : List (Addr × Obj)), Room kr (X.A.deeper (envOfC x sg s.heap.objs.size g cdg)) → cn ∈ cls → X.mg cn = some (.ref C) → Zc (.ref C) d oe → (∃ vs, oe.data = .fields vs) →
      PSs ((cxOf C8.CX0 X.prog X.w X.K X.mg X.base Ng x sg g cdg X.A X.stack s H C8.E0).nox.suite a ((a, oe) :: pn)) (b0 :: suite) (tS (gx X tb) (fun _ _ _ => False) (dh a d cn)))
    (hok : ∀ t μ, F (.ok t μ) = .ok (.str told) μ) (hbad : F .bad = .bad)
    (hex : ∀ c fs μ, F (.exc c fs μ) = .bad ∨ ∃ w μ'', F (.exc c fs μ) = .ok (.str w) μ'' ∧ c ∈ cls ∧ (∀ C, X.mg c = some (.ref C) → PySem.W.exmOne X.K (.ref C) (.ref TE) = some true) ∧
      ∀ a d, ∃ σT', dh a d c ((none :: some (.str told) :: List.replicate (Ng.length - 2) none).set i (some (.er a d))) μ = .nx σT' μ'' ∧ σT'[1]? = some (some (.str w))) :
    GivesS kr X Ng x sg g cdg [.Assign [.Name n1 p1] (.Constant (.str told) j p2) p3, .Try [.Expr (.Call (.Name a p4) [] [] p5) p6] [.ExceptHandler (some (.Name xe p7)) (some n2) (b0 :: suite) p8] [] [] p9, .Return (some (.Name n1 p10)) p11] a q (TTw (gx X tb) F) := by
  intro f c' s H Q tl hrm act hc hT
  obtain ⟨ρ, μ, r, m, good, htl⟩ := hT
  have hNl : 2 ≤ Ng.length := by
    have := (List.getElem?_eq_some_iff.mp h1).1
    omega
  have hil : i < Ng.length := (List.getElem?_eq_some_iff.mp hi).1
  let Z : Cx := (cxOf C8.CX0 X.prog X.w X.K X.mg X.base Ng x sg g cdg X.A X.stack s H C8.E0).nox
  let ts : Addr → Value → Option Addr → TS := fun a cl d D σ H => ∃ C cn, cl = .ref C ∧ cn ∈ cls ∧ X.mg cn = some (.ref C) ∧ tS (gx X tb) (fun _ _ _ => False) (dh a d cn) D σ H
  have P1 : PS Z (.Assign [.Name n1 p1] (.Constant (.str told) j p2) p3) (tAsg (tC (.str told)) (gName 1)) := ps_set (X := Z) (i := 1) hN h1 (.inl hl1) pe_str rfl (.inr hl1)
  have P2 := ps_try_as (X := Z) (x := xe) (n := n2) (c := .ref TE) (i := i) (body := [.Expr (.Call (.Name a p4) [] [] p5) p6]) (suite := suite) (b₀ := b0) (np := p7) (pos := p9) (pos' := p8) (Wout := fun _ _ _ _ => False) (ts := ts)
    (tb := fun W => tDrop (fun σZ HZ Q => σZ[0]? = some (some (.ref f)) ∧ HZ c' = some (CodeO c' q) ∧ ∃ E : XK, (∀ cls d H', E cls d H' → W cls d σZ H') ∧ tl E HZ Q))
    rfl rfl hN hi hl2 ⟨hgt, hdt, .inl hmt⟩ L2.takes0 (fun W pn xe tk _ => pss_one (ps_expr (act W pn xe p4 p5 tk)))
    (fun a oe cl d pn hz hf => ⟨fun pins s' σ' H' D I h => by
      obtain ⟨C, cn, rfl, k1, k2, k3⟩ := h
      exact (hder s H a oe C cn d pn hrm k1 k2 hz hf).run pins s' σ' H' D I k3⟩)
  have P3 : PS Z (.Return (some (.Name n1 p10)) p11) (tRet (tVar 1)) := ps_ret (pe_var (X := Z) (i := 1) h1 (.inl hl1) hd1 hc1)
  refine ⟨_, pss_cons P1 (pss_cons P2 (pss_one P3)), ?_⟩
  have e0 : L2.start Ng [V.ref f] = some (V.ref f) :: none :: List.replicate (Ng.length - 2) none := by
    unfold L2.start
    obtain ⟨k, hk⟩ : ∃ k, Ng.length = k + 2 := ⟨Ng.length - 2, by omega⟩
    simp [hk, List.replicate_succ]
  rw [e0]
  show _ ∧ _ ∧ _
  refine ⟨rfl, hc, _, fun cls d H' z => z, htl _ _ ?_⟩
  cases r with
  | ok t μ' =>
    rw [hok] at good
    intro ρ' v H' e' m' dv
    exact ⟨V.str told, rfl, good ρ' _ H' e' m' rfl⟩
  | bad => rw [hbad] at good; exact good
  | exc c fs μ' =>
    rcases hex c fs μ' with z | ⟨w, μ'', z, k1, k2, k3⟩
    · rw [z] at good; exact good.elim
    · rw [z] at good
      intro ρ' H' C d e' m' hmc xd
      refine ⟨true, k2 C hmc, fun _ a0 na => ⟨C, c, rfl, k1, hmc, ?_⟩, fun z => nomatch z⟩
      obtain ⟨σT', k4, k5⟩ := k3 a0 d
      refine ⟨ρ', (none :: some (.str told) :: List.replicate (Ng.length - 2) none).set i (some (.er a0 d)), μ', m', ?_, ?_⟩
      · refine ⟨by simp, fun y t ht => ?_⟩
        by_cases hy : i = y
        · subst hy
          rw [List.getElem?_set_self (by simp; omega)] at ht
          cases ht
          refine ⟨.ref a0, by rw [List.getElem?_set_self (by simp; omega)], rfl, fun dx hdx => ?_⟩
          rcases xd with ⟨_, hd⟩ | ⟨ax, ws, _, hd, hx, _⟩
          · rw [hdx] at hd; cases hd
          · rw [hdx] at hd; cases hd
            exact ⟨ws, hx⟩
        · rw [List.getElem?_set_ne hy] at ht ⊢
          match y, ht with
          | 0, ht => simp at ht
          | 1, ht =>
            simp at ht
            subst ht
            exact ⟨.str told, rfl, rfl⟩
          | y + 2, ht =>
            simp [List.getElem?_replicate] at ht
      · rw [k4]
        intro ρ2 σ2 H2 e2 m2 l2
        obtain ⟨v, q1, q2⟩ := l2.at_ 1 _ k5
        refine ⟨v, ?_, ?_⟩
        · show (σ2.set i none)[1]? = some (some v)
          rw [List.getElem?_set_ne hi1]; exact q1
        · exact good ρ2 _ H2 (e'.trans e2) m2 q2
end
end TL
set_option Elab.async false
set_option linter.all false
set_option maxRecDepth 100000
set_option maxHeartbeats 2000000
/-! TL14: defs whose code is known, lambdas in the tree layer, errors with a field -/
namespace TL
open PySem PySem.Spec PyProof.Rows L2
/-- a def of the text as it stands behind the top, its code object at hand -/
structure FD (K : PySem.W.Frag) (x qual : Str) (st : Stmt) (f : Addr) (cdv : Value) : Prop where
  ex : ∃ (oc : Value) (od : Option Addr) (kV doc pm : Value) (an : Option Addr) (ct : Value) (osl : Array (Option Value)), K.lookup f = some ⟨oc, od, .func (PySem.W.fnOf x qual (defArgs st) (defBody st) (defScope st) .none kV doc pm an cdv ct), osl⟩
  cd : PySem.W.codeIn K cdv qual = true
  kp : PySem.W.keepIn K (.ref f) = true
theorem fd_mk {K : PySem.W.Frag} {x qual : Str} {st : Stmt} {f : Addr} {oc : Value} {od an : Option Addr} {osl : Array (Option Value)} {kV doc pm cdv ct : Value} (l : K.lookup f = some ⟨oc, od, .func (PySem.W.fnOf x qual (defArgs st) (defBody st) (defScope st) .none kV doc pm an cdv ct), osl⟩)
    (c : PySem.W.codeIn K cdv qual = true) (k : PySem.W.keepIn K (.ref f) = true) : FD K x qual st f cdv := ⟨⟨_, _, _, _, _, _, _, _, l⟩, c, k⟩
/-- its arguments are bound by places -/
def BindP (x qual : Str) (st : Stmt) (ps : List Str) : Prop := ∀ (kV doc pm : Value) (an : Option Addr) (cdv ct : Value) (us : List Value), us.length = ps.length → bindArgs (PySem.W.fnOf x qual (defArgs st) (defBody st) (defScope st) .none kV doc pm an cdv ct) ⟨us, []⟩ = pure (ps.zip us)
section
variable {P : Program} {w : World} {K : PySem.W.Frag} {mg : Str → Option Value} {base : Heap} {tb : List (Addr × Str)}
theorem fd_ok {x qual : Str} {st : Stmt} {f : Addr} {cdv : Value} {N ps : List Str} {k : Nat} {d : SM} (F : FD K x qual st f cdv) (S : FnScope N ps (defScope st)) (B : BindP x qual st ps)
    (hb : ∀ (A : Around) (outer : List Env) (s : Shared) (H : Hp) (E : XK), Room k (A.deeper (envOfC qual (defScope st) s.heap.objs.size f cdv)) → PSs (cxOf (L2.CX P w) P w K mg base N qual (defScope st) f cdv A outer s H E) (defBody st) (tS ⟨K, mg, tb⟩ E d)) :
    ∃ fd, FnOk P w K mg base (L2.CX P w) (k + 1) f fd ps (spT ⟨K, mg, tb⟩ ps.length (runF N.length d)) ∧ Binds K fd ps [] := by
  obtain ⟨oc, od, kV, doc, pm, an, ct, osl, lk⟩ := F.ex
  refine ⟨_, fn_of lk F.cd S (fun vs H Q E h => ?_) fun A outer s H vs Q E hr h => ⟨_, hb A outer s H E hr, ?_⟩, .all (B kV doc pm an cdv ct)⟩
  · obtain ⟨ρ, ts, μ, m, d, hl, _⟩ := h
    rw [← d.length]; exact hl
  · obtain ⟨ρ, ts, μ, m, dv, hl, g⟩ := h
    refine ⟨ρ, _, μ, m, start_rel dv, ?_⟩
    unfold runF at g
    revert g
    generalize d (ts.map some ++ List.replicate (N.length - ts.length) none) μ = r
    intro g2
    cases r with
    | nx σT μ' => exact fun ρ' σ' H' e m l => g2 ρ' .non H' e m rfl
    | rt t μ' => exact g2
    | exc c fs μ' => exact g2
    | bk σT μ' => exact g2.elim
    | ct σT μ' => exact g2.elim
    | bad => exact g2.elim
theorem def_of {x : Str} {st : Stmt} {f : Addr} {cdv : Value} {N ps : List Str} {k : Nat} {d : SM} (F : FD K x x st f cdv) (hm : mg x = some (.ref f)) (S : FnScope N ps (defScope st)) (B : BindP x x st ps)
    (hb : ∀ (A : Around) (outer : List Env) (s : Shared) (H : Hp) (E : XK), Room k (A.deeper (envOfC x (defScope st) s.heap.objs.size f cdv)) → PSs (cxOf (L2.CX P w) P w K mg base N x (defScope st) f cdv A outer s H E) (defBody st) (tS ⟨K, mg, tb⟩ E d)) :
    Def P w K mg base tb x ps.length (runF N.length d) (k + 1) := by
  obtain ⟨fd, h1, h2⟩ := fd_ok F S B hb
  exact ⟨f, fd, ps, h1, hm, F.kp, h2⟩
theorem meth_of {c m qual : Str} {C : Addr} {st : Stmt} {f : Addr} {cdv : Value} {N ps : List Str} {k : Nat} {d : SM} (F : FD K m qual st f cdv) (hm : mg c = some (.ref C)) (cl : Cls K C) (mt : Meth K C m f) (S : FnScope N ps (defScope st)) (B : BindP m qual st ps)
    (hb : ∀ (A : Around) (outer : List Env) (s : Shared) (H : Hp) (E : XK), Room k (A.deeper (envOfC qual (defScope st) s.heap.objs.size f cdv)) → PSs (cxOf (L2.CX P w) P w K mg base N qual (defScope st) f cdv A outer s H E) (defBody st) (tS ⟨K, mg, tb⟩ E d)) :
    MDef P w K mg base tb c m ps.length (runF N.length d) (k + 1) := by
  obtain ⟨fd, h1, h2⟩ := fd_ok F S B hb
  exact ⟨C, f, fd, ps, h1, hm, cl, mt, h2⟩
theorem cls_of {c qual : Str} {C : Addr} {st : Stmt} {f : Addr} {cdv : Value} {N ps : List Str} {k : Nat} {d : SM} (F : FD K "__init__" qual st f cdv) (hm : mg c = some (.ref C)) (mk : Mk K C f) (S : FnScope N ps (defScope st)) (B : BindP "__init__" qual st ps)
    (hb : ∀ (A : Around) (outer : List Env) (s : Shared) (H : Hp) (E : XK), Room k (A.deeper (envOfC qual (defScope st) s.heap.objs.size f cdv)) → PSs (cxOf (L2.CX P w) P w K mg base N qual (defScope st) f cdv A outer s H E) (defBody st) (tS ⟨K, mg, tb⟩ E d)) :
    CDef P w K mg base tb c ps.length (runF N.length d) (k + 1) := by
  obtain ⟨fd, h1, h2⟩ := fd_ok F S B hb
  exact ⟨C, f, fd, ps, h1, hm, mk, h2⟩
end
theorem huk1 {k : Nat} {A : Around} (hr : Room k A) : A.units + 1 < cLine := by have := hr.un; omega
theorem huk64 {k : Nat} {A : Around} (hr : Room k A) : A.units + 64 < cLine := by have := hr.un; omega
theorem huk65 {k : Nat} {A : Around} (hr : Room k A) : A.units + 65 < cLine := by have := hr.un; omega
section
open LamX
variable {X : Cx} {tb : List (Addr × Str)} {E : XK}
/-- x(lambda: body), x a def that makes F of the end of its lambda -/
theorem e_lam {x a : Str} {st : Stmt} {g c P : Addr} {cdv : Value} {k : Nat} {Ng : List Str} {params : Arguments} {body : Expr} {scope : Scope} {d : EM} {F : Res → Res} {p lpos pos : Pos} (W : FD X.K x x st g cdv) (hm : X.mg x = some (.ref g)) (B : BindP x x st [a]) (Sg : FnScope Ng [a] (defScope st)) (hNg : Ng[0]? = some a) (hva : Vis (defScope st) a)
    (hG : GivesS (k + 1) X Ng x (defScope st) g cdv (defBody st) a (X.env.qual ++ "<lambda>") (TTw (gx X tb) F)) (hF : ∀ r c fs μ, F r ≠ .exc c fs μ)
    (TB : TabB X.base X.mg c P) (hcode : X.env.code = .ref c) (hmT : (P, X.env.qual ++ "<lambda>") ∈ tb) (hu : ∀ p ∈ tb, p.1 = P → p.2 = X.env.qual ++ "<lambda>") (hr : Room (k + 2) X.A) (L : LamS X.env.scope scope)
    (hbody : ∀ (A : Around) (outer : List Env) (s : Shared) (H : Hp) (E1 : XK) (f c' : Addr), Room k (A.deeper (lamEnv X scope s.heap.objs.size f c')) → PE (lamCx X A outer s H E1 scope f c') body (tE (gx X tb) E1 d))
    (hdef : defaultsOf params X.env = ([], []) := by rfl) (hbind : ∀ (q : Str) (cl : List (Str × Addr)) (pm cv ctv : Value), bindArgs (PySem.W.kla_fn "<lambda>" q params body scope cl pm cv ctv) ⟨[], []⟩ = pure [] := by intros; rfl)
    (hg : Gl X x := by rfl) (hdb : (x == ("__debug__" : Str)) = false := by decide) (hd : (a == ("__debug__" : Str)) = false := by decide) (hcd : (a == ("__classdict__" : Str)) = false := by decide) :
    PE X (.Call (.Name x p) [.Lambda params body scope lpos] [] pos) (tE (gx X tb) E (fun σ μ => F (d σ μ))) := by
  obtain ⟨oc, od, kV, doc, pm, an, ct, osl, lk⟩ := W.ex
  exact (pe_lamcallS (T := tb) hg hm W.kp lk W.cd (.all (B kV doc pm an cdv ct)) Sg hNg hva hG TB hcode hmT hu hr L hdef hbind hbody hdb hd hcd).imp (tE_lam hF)
/-! ### raise C(e), C an own error that keeps a field -/
/-- an __init__ that keeps its one argument as f -/
def spI1 (C : Addr) (f : Str) : Sp := fun vs H Q _ => ∃ a v, vs = [.ref a, v] ∧ H a = some (exo a C none) ∧ ∀ d, H d = none → d ≠ a → Q .non (upd (upd H d (exd d [(f, v)])) a (exo a C (some d)))
structure Exc1 (P : Program) (w : World) (K : PySem.W.Frag) (mg : Str → Option Value) (base : Heap) (c f : Str) (k : Nat) : Prop where
  ex : ∃ C fI fd ps, mg c = some (.ref C) ∧ OexC K C ∧ PySem.W.findIn K (.ref C) "__init__" = some (some (.ref fI)) ∧ PySem.W.typeIn K (.ref fI) = some (.type "function") ∧ FnOk P w K mg base (L2.CX P w) k fI fd ps (spI1 C f) ∧ Binds K fd ps []
def sRaise1 (c f : Str) (d : EM) : SM := fun σ μ => (d σ μ).toS fun x μ1 => .exc c [(f, x)] μ1
theorem s_raise1 {c f : Str} {e : Expr} {d : EM} {k : Nat} {p p2 pos : Pos} (h : Exc1 X.prog X.w X.K X.mg X.base c f k) (hc : X.calm = true) (hr : Room (k + 1) X.A) (tk : Takes X (fun c d _ H => E c d H)) (he : PE X e (tE (gx X tb) E d)) (hx : Passes (L2.CX X.prog X.w) X (fun _ _ _ => False)) (hg : Gl X c := by rfl) (hdb : (c == ("__debug__" : Str)) = false := by decide)
    (hs : starEach [e] X.env = (false, eval e X.env) :: starEach [] X.env := by rfl) (hpl : (backTo p2 (starEach [] X.env)).any (·.1) = false := by rfl) :
    PS X (.Raise (some (.Call (.Name c p) [e] [] p2)) none pos) (tS (gx X tb) E (sRaise1 c f d)) := by
  obtain ⟨C, fI, fd, ps, h1, h2, h3, h4, h5, h6⟩ := h.ex
  refine (ps_raise hc tk (pmk_oex (ds := []) (dvs := []) h2 h3 h4 h5 hr h6 .nil hx hg h1 (pa_cons he pa_nil hs) hdb hs hpl)).imp fun D σ H q => ?_
  obtain ⟨ρ, σT, μ, m, l, q⟩ := q
  refine bindS (Q := D.rt) m l q fun y μ1 ρ1 u H1 e1 m1 l1 dy g1 => ?_
  refine ⟨by simp, fun a na => ⟨a, u, rfl, upd_same, fun dx hd ne => ?_⟩⟩
  have hd1 : H1 dx = none := by rw [upd_ne ne] at hd; exact hd
  refine ⟨rfl, dx, [(f, u)], upd_same, by rw [upd_ne ne, upd_same], hd1, ?_⟩
  have eH : upd (del (upd (upd (upd H1 a (exo a C none)) dx (exd dx [(f, u)])) a (exo a C (some dx))) a) dx (.xd [(f, u)]) = upd H1 dx (.xd [(f, u)]) := by
    funext b
    by_cases hb : b = dx
    · rw [hb, upd_same, upd_same]
    · rw [upd_ne hb, upd_ne hb]
      by_cases hb2 : b = a
      · rw [hb2, del_same, na]
      · rw [del_ne hb2, upd_ne hb2, upd_ne hb, upd_ne hb2]
  rw [eH]
  have ef : Ext (gx X tb) ρ1 μ1.length H1 ρ1 μ1.length (upd H1 dx (.xd [(f, u)])) := Ext.fresh hd1 _
  exact g1 ρ1 _ C (some dx) ef (m1.fresh hd1) h1 (.inr ⟨dx, [(f, u)], by simp, rfl, upd_same, u, [], rfl, dy.ext ef, rfl⟩)
end
end TL
set_option Elab.async false
set_option linter.all false
set_option maxRecDepth 100000
set_option maxHeartbeats 2000000
/-! TL15: x = [comprehension], blocks looked at -/
namespace TL
open PySem PySem.Spec PyProof.Rows L2
theorem tL_new {g : G} {E : XK} {d : LM} : ∀ σ H Q, tE g E (dNew d) σ H Q → tL g E d σ H Q := fun σ H Q h => by
  obtain ⟨ρ, σT, μ, m, l, h⟩ := h
  refine ⟨ρ, σT, μ, m, l, ?_⟩
  unfold dNew at h
  cases q : d σT μ with
  | ok ts μ1 =>
    rw [q] at h
    intro ρ' p vs H' e m1 h1 h2 h3 dv
    obtain ⟨z1, z2, z3⟩ := ext_num e m1 h1 h2 h3 dv
    exact h _ _ _ z1 z2 z3
  | exc c fs μ1 => rw [q] at h; exact h
  | bad => rw [q] at h; exact h
section
variable {X : Cx} {tb : List (Addr × Str)} {E : XK} {tg iter : Expr} {it : IM} {p : Pat} {pos spos py : Pos}
theorem s_setLc (i : Nat) {y : Str} {elt : Expr} {ifs : List Expr} {scope : Scope} {own : List (Str × Nat)} {t : Option EM} {el : EM} (hc : X.calm = true) (hN : X.N.Nodup) (hi : PI X tg iter (tI (gx X tb) E it)) (ok : BlkOk X.N X.env.scope scope own) (hs : ∀ i ∈ pslots p, i ∈ own.map (·.2))
    (hg : ∀ (s : Shared) (H : Hp) (C : Addr) (cl : List (Str × Addr)) (fp : List Addr), PG (X.blk s H scope (compEnvC scope cl C X.env) fp) tg (tG X.K p)) (ht : ∀ (s : Shared) (H : Hp) (C : Addr) (cl : List (Str × Addr)) (fp : List Addr), PTs' (X.blk s H scope (compEnvC scope cl C X.env) fp) tb ifs t)
    (he : ∀ (s : Shared) (H : Hp) (C : Addr) (cl : List (Str × Addr)) (fp : List Addr), PE (X.blk s H scope (compEnvC scope cl C X.env) fp) elt (tE (gx X tb) E0 el)) (hf : ∀ x, foldedSetIterable iter X.env x = pure x := by intro _; rfl) (hy : X.N[i]? = some y := by rfl) (hyl : X.env.scope.names.lookup y = some .local := by rfl)
    (hsw : swapsWith (.ListComp elt [⟨tg, iter, ifs, 0⟩] scope pos) (some (.Name y py)) spos.line X.env = pure true := by rfl) :
    PS X (.Assign [.Name y py] (.ListComp elt [⟨tg, iter, ifs, 0⟩] scope pos) spos) (tS (gx X tb) E (sSet i (dNew (dLc it p (own.map (·.2)) t el)))) :=
  (ps_setLc hc hN hy hyl hsw hi ok hg (fun s H C cl fp => pts_of (ht s H C cl fp)) he hf).imp fun D σ H q => by
    obtain ⟨ρ, σT, μ, m, l, q⟩ := q
    refine tL_lc (t := t) (el := el) (it := it) hs σ H _ (tL_new σ H _ ?_)
    exact bindS (Q := D.rt) m l q fun x μ1 ρ1 v H1 e1 m1 l1 dx g1 => g1 ρ1 _ H1 (Ext.refl _ _ _ _) m1 (l1.set i dx)
end
def blkC (N : List Str) (sc scope : Scope) (own : List (Str × Nat)) : Bool :=
  decide (scope.kind = .function) && scope.names.all (fun y => decide (scope.names.lookup y.1 = some y.2)) && own.all (fun p => decide (N[p.2]? = some p.1)) &&
    scope.names.all (fun y => !decide (y.2 = .free) || decide (sc.names.lookup y.1 = some .cell) || decide (sc.names.lookup y.1 = some .free)) &&
    scope.names.all fun y => !(decide (y.2 = .local) || decide (y.2 = .cell)) || decide (y.1 ∈ own.map (·.1)) || decide (y.1 ∉ N)
theorem blk_by {N : List Str} {sc scope : Scope} {own : List (Str × Nat)} (h : blkC N sc scope own = true) : BlkOk N sc scope own := by
  unfold blkC at h
  simp only [Bool.and_eq_true, Bool.or_eq_true, Bool.not_eq_true', decide_eq_true_eq, decide_eq_false_iff_not, List.all_eq_true, Bool.or_eq_false_iff] at h
  obtain ⟨⟨⟨⟨h1, h2⟩, h3⟩, h4⟩, h5⟩ := h
  refine ⟨h1, h2, h3, fun y hy e => ?_, fun y hy e => ?_⟩
  · rcases h4 y hy with (k | k) | k
    · exact absurd e k
    · exact .inl k
    · exact .inr k
  · rcases h5 y hy with (k | k) | k
    · rcases e with e | e
      · exact absurd e k.1
      · exact absurd e k.2
    · exact .inl k
    · exact .inr k
end TL
set_option Elab.async false
set_option linter.all false
set_option maxRecDepth 100000
set_option maxHeartbeats 2000000
/-! TL16: the law's own def, written values, the start -/
namespace TL
open PySem PySem.Spec PyProof.Rows L2
section
variable {P : Program} {w : World} {K : PySem.W.Frag} {mg : Str → Option Value} {base : Heap} {tb : List (Addr × Str)}
theorem fd_okE {x qual : Str} {st : Stmt} {f : Addr} {cdv : Value} {N ps : List Str} {k : Nat} {d : SM} {oc : Value} {od an : Option Addr} {kV doc pm ct : Value} {osl : Array (Option Value)} (lk : K.lookup f = some ⟨oc, od, .func (PySem.W.fnOf x qual (defArgs st) (defBody st) (defScope st) .none kV doc pm an cdv ct), osl⟩) (cd : PySem.W.codeIn K cdv qual = true) (S : FnScope N ps (defScope st))
    (hb : ∀ (A : Around) (outer : List Env) (s : Shared) (H : Hp) (E : XK), Room k (A.deeper (envOfC qual (defScope st) s.heap.objs.size f cdv)) → PSs (cxOf (L2.CX P w) P w K mg base N qual (defScope st) f cdv A outer s H E) (defBody st) (tS ⟨K, mg, tb⟩ E d)) :
    FnOk P w K mg base (L2.CX P w) (k + 1) f (PySem.W.fnOf x qual (defArgs st) (defBody st) (defScope st) .none kV doc pm an cdv ct) ps (spT ⟨K, mg, tb⟩ ps.length (runF N.length d)) := by
  refine fn_of lk cd S (fun vs H Q E h => ?_) fun A outer s H vs Q E hr h => ⟨_, hb A outer s H E hr, ?_⟩
  · obtain ⟨ρ, ts, μ, m, d, hl, _⟩ := h
    rw [← d.length]; exact hl
  · obtain ⟨ρ, ts, μ, m, dv, hl, g⟩ := h
    refine ⟨ρ, _, μ, m, start_rel dv, ?_⟩
    unfold runF at g
    revert g
    generalize d (ts.map some ++ List.replicate (N.length - ts.length) none) μ = r
    intro g2
    cases r with
    | nx σT μ' => exact fun ρ' σ' H' e m l => g2 ρ' .non H' e m rfl
    | rt t μ' => exact g2
    | exc c fs μ' => exact g2
    | bk σT μ' => exact g2.elim
    | ct σT μ' => exact g2.elim
    | bad => exact g2.elim
/-- the law's promise, once its plain law is known -/
theorem law_start {F : Fn} {H : Hp} {a : Addr} {ns : List Int} (hT : ∀ q ∈ tb, H q.1 = some (.tbl #[])) (hS : SqL K H a (ns.map V.int)) (h1 : ∃ μ, F [.fl ns] [] = .ok (.bl true) μ) (h2 : ∃ μ, F [.ref 0] [.lst (ns.map T.int)] = .ok (.bl true) μ) :
    spT ⟨K, mg, tb⟩ 1 F [.ref a] H (fun v _ => v = .bl true) fun _ _ _ => False := by
  have ht : LamX.Tabs tb H := fun q hq => LamX.TabS.nil (hT q hq)
  rcases hS with (h | ⟨o, h⟩) | h
  · obtain ⟨μ, hm⟩ := h2
    refine ⟨fun _ => a, [.ref 0], [.lst (ns.map T.int)], ⟨fun i j hi hj _ => ?_, fun i o h' => ?_, ht⟩, .cons ⟨by simp, rfl⟩ .nil, rfl, ?_⟩
    · simp at hi hj; omega
    · have hi : i = 0 := by
        have := (List.getElem?_eq_some_iff.mp h').1
        simp at this; omega
      subst hi
      simp at h'
      subst h'
      exact ⟨_, h, _, rfl, DVs.maps (f := T.int) (h := V.int) (fun _ => rfl) ns⟩
    · rw [hm]
      exact fun ρ' v H' _ _ dv => dv
  all_goals
    obtain ⟨μ, hm⟩ := h1
    refine ⟨fun _ => a, [.fl ns], [], ⟨fun i j hi _ _ => absurd hi (by simp), fun i o h' => by simp at h', ht⟩, .cons ⟨a, rfl, ?_⟩ .nil, rfl, by rw [hm]; exact fun ρ' v H' _ _ dv => dv⟩
  · exact .inl ⟨o, h⟩
  · exact .inr h
end
/-- a value of the written part, read -/
def optAll (f : Value → Option T) : List Value → Option (List T)
  | [] => some []
  | v :: r => (f v).bind fun t => (optAll f r).map fun ts => t :: ts
def readK (K : PySem.W.Frag) : Nat → Value → Option T
  | 0 => fun v => match v with
    | .int i _ => some (.int i)
    | .str x _ => some (.str x)
    | _ => none
  | n + 1 => fun v => match v with
    | .int i _ => some (.int i)
    | .str x _ => some (.str x)
    | .ref a => (match K.lookup a with
      | some ⟨.type "tuple", _, .seq its _, _⟩ => if its.size ≤ sizeLine then (optAll (readK K n) its.toList).map .tup else none
      | _ => none)
    | _ => none
theorem optAll_ok {K : PySem.W.Frag} {f : Value → Option T} (hf : ∀ u t, f u = some t → ∃ v, RelV v u ∧ ∀ ρ m H, DV K ρ m H t v) : ∀ {us : List Value} {ts : List T}, optAll f us = some ts → ∃ vs, Vals vs us ∧ ∀ ρ m H, DVs K ρ m H ts vs
  | [], _, e => by cases e; exact ⟨[], .nil, fun _ _ _ => rfl⟩
  | u :: r, _, e => by
    simp only [optAll, Option.bind_eq_some_iff, Option.map_eq_some_iff] at e
    obtain ⟨t, e1, ts, e2, rfl⟩ := e
    obtain ⟨v, h1, h2⟩ := hf u t e1
    obtain ⟨vs, h3, h4⟩ := optAll_ok hf e2
    exact ⟨v :: vs, .cons h1 h3, fun ρ m H => ⟨v, vs, rfl, h2 ρ m H, h4 ρ m H⟩⟩
theorem readK_ok {K : PySem.W.Frag} : ∀ (n : Nat) (u : Value) (t : T), readK K n u = some t → ∃ v, RelV v u ∧ ∀ ρ m H, DV K ρ m H t v
  | 0, u, t, e => by
    unfold readK at e
    split at e
    · cases e; exact ⟨.int _, ⟨_, rfl⟩, fun _ _ _ => rfl⟩
    · cases e; exact ⟨.str _, ⟨_, rfl⟩, fun _ _ _ => rfl⟩
    · cases e
  | n + 1, u, t, e => by
    unfold readK at e
    split at e
    · cases e; exact ⟨.int _, ⟨_, rfl⟩, fun _ _ _ => rfl⟩
    · cases e; exact ⟨.str _, ⟨_, rfl⟩, fun _ _ _ => rfl⟩
    · rename_i a
      split at e
      · rename_i its k sl hk
        split at e
        · rename_i hz
          simp only [Option.map_eq_some_iff] at e
          obtain ⟨ts, e1, rfl⟩ := e
          obtain ⟨vs, h1, h2⟩ := optAll_ok (readK_ok n) e1
          exact ⟨.ref a, rfl, fun ρ m H => ⟨a, vs, rfl, .inr ⟨_, its, k, hk, rfl, rfl, hz, h1⟩, h2 ρ m H⟩⟩
        · cases e
      · cases e
    · cases e
end TL
set_option Elab.async false
set_option linter.all false
set_option maxRecDepth 100000
set_option maxHeartbeats 2000000
/-! TL17: how the denotations run: equations for simp -/
namespace TL
open PySem PySem.Spec PyProof.Rows L2
@[simp] theorem bind_ok {t μ k} : (Res.ok t μ).bind k = k t μ := rfl
@[simp] theorem bind_exc {c fs μ k} : (Res.exc c fs μ).bind k = .exc c fs μ := rfl
@[simp] theorem bindL_ok {t μ k} : (Res.ok t μ).bindL k = k t μ := rfl
@[simp] theorem bindL_exc {c fs μ k} : (Res.exc c fs μ).bindL k = .exc c fs μ := rfl
@[simp] theorem toS_ok {t μ k} : (Res.ok t μ).toS k = k t μ := rfl
@[simp] theorem toS_exc {c fs μ k} : (Res.exc c fs μ).toS k = .exc c fs μ := rfl
@[simp] theorem toL_ok {t μ k} : (Res.ok t μ).toL k = k t μ := rfl
@[simp] theorem lbind_ok {ts μ k} : (LRes.ok ts μ).bind k = k ts μ := rfl
@[simp] theorem lbind_exc {c fs μ k} : (LRes.exc c fs μ).bind k = .exc c fs μ := rfl
@[simp] theorem lbindL_ok {ts μ k} : (LRes.ok ts μ).bindL k = k ts μ := rfl
@[simp] theorem seq_nx {σ μ k} : (SRes.nx σ μ).seq k = k σ μ := rfl
@[simp] theorem seq_rt {t μ k} : (SRes.rt t μ).seq k = .rt t μ := rfl
@[simp] theorem seq_exc {c fs μ k} : (SRes.exc c fs μ).seq k = .exc c fs μ := rfl
@[simp] theorem loop_nx {σ μ k} : (SRes.nx σ μ).loop k = k σ μ := rfl
@[simp] theorem loop_rt {t μ k} : (SRes.rt t μ).loop k = .rt t μ := rfl
@[simp] theorem toR_nx {σ μ} : (SRes.nx σ μ).toR = .ok .non μ := rfl
@[simp] theorem toR_rt {t μ} : (SRes.rt t μ).toR = .ok t μ := rfl
@[simp] theorem toR_exc {c fs μ} : (SRes.exc c fs μ).toR = .exc c fs μ := rfl
@[simp] theorem sNil_e {σ μ} : sNil σ μ = .nx σ μ := rfl
@[simp] theorem sSeq_e {a b σ μ} : sSeq a b σ μ = (a σ μ).seq b := rfl
@[simp] theorem sSet_e {i d σ μ} : sSet i d σ μ = (d σ μ).toS fun t μ1 => .nx (σ.set i (some t)) μ1 := rfl
@[simp] theorem sExpr_e {d σ μ} : sExpr d σ μ = (d σ μ).toS fun _ μ1 => .nx σ μ1 := rfl
@[simp] theorem sRet_e {d σ μ} : sRet d σ μ = (d σ μ).toS fun t μ1 => .rt t μ1 := rfl
@[simp] theorem sRaise0_e {c σ μ} : sRaise0 c σ μ = .exc c [] μ := rfl
@[simp] theorem sRaise1_e {c f d σ μ} : sRaise1 c f d σ μ = (d σ μ).toS fun x μ1 => .exc c [(f, x)] μ1 := rfl
def sIfK (a b : SM) (σ : List (Option T)) : T → Mem → SRes := fun t μ1 => match t with
  | .bl true => a σ μ1
  | .bl false => b σ μ1
  | _ => .bad
@[simp] theorem sIf_e {c a b σ μ} : sIf c a b σ μ = (c σ μ).toS (sIfK a b σ) := by
  unfold sIf sIfK
  congr 1
@[simp] theorem sIfK_e {a b : SM} {σ μ v} : sIfK a b σ (.bl v) μ = if v = true then a σ μ else b σ μ := by cases v <;> rfl
@[simp] theorem sPar_e {i j da db σ μ} : sPar i j da db σ μ = (da σ μ).toS fun x μ1 => (db σ μ1).toS fun y μ2 => .nx ((σ.set i (some x)).set j (some y)) μ2 := rfl
@[simp] theorem sAsg_e {p d σ μ} : sAsg p d σ μ = (d σ μ).toS fun t μ1 => match bindP p t σ with
  | some σ' => .nx σ' μ1
  | none => .bad := rfl
theorem dVar_e {i : Nat} {σ : List (Option T)} {μ : Mem} {t : T} (h : σ[i]? = some (some t)) : dVar i σ μ = .ok t μ := by unfold dVar; rw [h]
@[simp] theorem dVar_0 {t σ μ} : dVar 0 (some t :: σ) μ = .ok t μ := rfl
@[simp] theorem dVar_s {i o σ μ} : dVar (i + 1) (o :: σ) μ = dVar i σ μ := by unfold dVar; rw [List.getElem?_cons_succ]
@[simp] theorem dC_e {t σ μ} : dC t σ μ = .ok t μ := rfl
@[simp] theorem d1_e {k da σ μ} : d1 k da σ μ = (da σ μ).bind fun x μ1 => k x μ1 := rfl
@[simp] theorem d2_e {k da db σ μ} : d2 k da db σ μ = (da σ μ).bind fun x μ1 => (db σ μ1).bind fun y μ2 => k x y μ2 := rfl
def andK (db : EM) (σ : List (Option T)) : T → Mem → Res := fun x μ1 => match x with
  | .bl true => db σ μ1
  | .bl false => .ok (.bl false) μ1
  | _ => .bad
@[simp] theorem andK_e {db : EM} {σ μ v} : andK db σ (.bl v) μ = if v = true then db σ μ else .ok (.bl false) μ := by cases v <;> rfl
@[simp] theorem dAnd_e {da db σ μ} : dAnd da db σ μ = (da σ μ).bind (andK db σ) := by
  unfold dAnd andK
  congr 1
def orK (db : EM) (σ : List (Option T)) : T → Mem → Res := fun x μ1 => match x with
  | .bl true => .ok (.bl true) μ1
  | .bl false => db σ μ1
  | _ => .bad
@[simp] theorem orK_e {db : EM} {σ μ v} : orK db σ (.bl v) μ = if v = true then .ok (.bl true) μ else db σ μ := by cases v <;> rfl
@[simp] theorem dOr_e {da db σ μ} : dOr da db σ μ = (da σ μ).bind (orK db σ) := by
  unfold dOr orK
  congr 1
  funext x μ1
  cases x <;> try rfl
  rename_i b
  cases b <;> rfl
@[simp] theorem notT_e {v μ} : notT (.bl v) μ = .ok (.bl (!v)) μ := rfl
@[simp] theorem dNot_e {da σ μ} : dNot da σ μ = (da σ μ).bind notT := rfl
def ifK (da db : EM) (σ : List (Option T)) : T → Mem → Res := fun x μ1 => match x with
  | .bl true => da σ μ1
  | .bl false => db σ μ1
  | _ => .bad
@[simp] theorem ifK_e {da db : EM} {σ μ v} : ifK da db σ (.bl v) μ = if v = true then da σ μ else db σ μ := by cases v <;> rfl
@[simp] theorem dIfE_e {dc da db σ μ} : dIfE dc da db σ μ = (dc σ μ).bind (ifK da db σ) := by
  unfold dIfE ifK
  congr 1
@[simp] theorem aNil_e {σ μ k} : aNil σ μ k = k [] μ := rfl
@[simp] theorem aCons_e {d r σ μ k} : aCons d r σ μ k = (d σ μ).bind fun x μ1 => r σ μ1 fun xs μ2 => k (x :: xs) μ2 := rfl
@[simp] theorem lNil_e {σ μ k} : lNil σ μ k = k [] μ := rfl
@[simp] theorem lCons_e {d r σ μ k} : lCons d r σ μ k = (d σ μ).bindL fun x μ1 => r σ μ1 fun xs μ2 => k (x :: xs) μ2 := rfl
@[simp] theorem dTup_e {d σ μ} : dTup d σ μ = d σ μ fun ts μ1 => if ts.length ≤ sizeLine then .ok (.tup ts) μ1 else .bad := rfl
@[simp] theorem dLstL_e {d σ μ} : dLstL d σ μ = d σ μ fun ts μ1 => if ts.length ≤ sizeLine then .ok ts μ1 else .bad := rfl
@[simp] theorem dNew_e {d σ μ} : dNew d σ μ = (d σ μ).bind fun ts μ1 => .ok (.ref μ1.length) (μ1 ++ [.lst ts]) := rfl
@[simp] theorem dCall_e {k d σ μ} : dCall k d σ μ = d σ μ k := rfl
@[simp] theorem dQ_e {k d σ μ} : dQ k d σ μ = (d σ μ).bind k := rfl
@[simp] theorem dQL_e {k d σ μ} : dQL k d σ μ = (d σ μ).bindL k := rfl
@[simp] theorem dFn_e {n F d σ μ} : dFn n F d σ μ = d σ μ fun ts μ1 => if ts.length = n then F ts μ1 else .bad := rfl
theorem methK {c m : Str} {n : Nat} {F : Fn} {dd : EM} {d : AM} {σ μ} {k : Nat} {fs : List (Str × T)} {μ1 : Mem} (h : dd σ μ = .ok (.ref k) μ1) (hk : μ1[k]? = some (.ins c fs)) (hm : fs.lookup m = none) :
    dMeth c m n F dd d σ μ = d σ μ1 fun ts μ2 => if ts.length + 1 = n then F (.ref k :: ts) μ2 else .bad := by
  unfold dMeth
  rw [h, bind_ok]
  dsimp only
  rw [hk]
  dsimp only
  rw [if_pos ⟨rfl, hm⟩]
/-- sizes that are small -/
theorem sz {n : Nat} (h : n ≤ 1000) : n ≤ sizeLine := Nat.le_of_lt (Nat.lt_of_le_of_lt h (by decide))
theorem szl {n : Nat} (h : n ≤ 1000) : n < sizeLine := Nat.lt_of_le_of_lt h (by decide)
/-! ### the words -/
@[simp] theorem addT_i {i j μ} : addT (.int i) (.int j) μ = .ok (.int (i + j)) μ := rfl
@[simp] theorem subT_i {i j μ} : subT (.int i) (.int j) μ = .ok (.int (i - j)) μ := rfl
@[simp] theorem ltT_i {i j μ} : ltT (.int i) (.int j) μ = .ok (.bl (decide (i < j))) μ := rfl
@[simp] theorem leT_i {i j μ} : leT (.int i) (.int j) μ = .ok (.bl (decide (i ≤ j))) μ := rfl
@[simp] theorem gtT_i {i j μ} : gtT (.int i) (.int j) μ = .ok (.bl (decide (i > j))) μ := rfl
@[simp] theorem geT_i {i j μ} : geT (.int i) (.int j) μ = .ok (.bl (decide (i ≥ j))) μ := rfl
@[simp] theorem eqT_i {i j μ} : eqT (.int i) (.int j) μ = .ok (.bl (decide (i = j))) μ := rfl
@[simp] theorem eqT_s {i j μ} : eqT (.str i) (.str j) μ = .ok (.bl (decide (i = j))) μ := rfl
@[simp] theorem neT_e {x y μ} : neT x y μ = (eqT x y μ).bind notT := rfl
@[simp] theorem negT_i {i μ} : negT (.int i) μ = .ok (.int (-i)) μ := rfl
@[simp] theorem absC_i {i μ} : absC [.int i] μ = .ok (.int (if i < 0 then -i else i)) μ := rfl
@[simp] theorem intC_i {i μ} : intC [.int i] μ = .ok (.int i) μ := rfl
@[simp] theorem lenC_t {xs μ} : lenC [.tup xs] μ = .ok (.int xs.length) μ := rfl
@[simp] theorem lenQ_e {xs μ} : lenQ xs μ = .ok (.int xs.length) μ := rfl
@[simp] theorem tupQ_e {xs μ} : tupQ xs μ = .ok (.tup xs) μ := rfl
theorem lenC_l {k : Nat} {xs : List T} {μ : Mem} (h : μ[k]? = some (.lst xs)) : lenC [.ref k] μ = .ok (.int xs.length) μ := by unfold lenC; dsimp only; rw [h]
theorem lenC_d {k : Nat} {xs : List (Key × T)} {μ : Mem} (h : μ[k]? = some (.dct xs)) : lenC [.ref k] μ = .ok (.int xs.length) μ := by unfold lenC; dsimp only; rw [h]
theorem mulT_i {i j : Int} {μ : Mem} (h : CMul i j) : mulT (.int i) (.int j) μ = .ok (.int (i * j)) μ := by unfold mulT; dsimp only; rw [if_pos h]
theorem modT_i {i j : Int} {μ : Mem} (h : 0 < j) : modT (.int i) (.int j) μ = .ok (.int (i % j)) μ := by unfold modT; dsimp only; rw [if_pos h]
theorem fdivT_i {i j : Int} {μ : Mem} (h : CDiv i j) : fdivT (.int i) (.int j) μ = .ok (.int (i / j)) μ := by unfold fdivT; dsimp only; rw [if_pos h]
theorem powT_i {i j : Int} {μ : Mem} (h : CPow i j) : powT (.int i) (.int j) μ = .ok (.int (i ^ j.toNat)) μ := by unfold powT; dsimp only; rw [if_pos h]
/-! ### memory -/
theorem subL {k : Nat} {xs : List T} {μ : Mem} {i : Int} {t : T} (h : μ[k]? = some (.lst xs)) (e : L2.atI xs i = some t) : subT' (.ref k) (.int i) μ = .ok t μ := by
  unfold subT'
  have h1 : dctT μ (.ref k) = none := by unfold dctT; dsimp only; rw [h]
  rw [h1]
  unfold ixT seqT
  dsimp only
  rw [h]
  dsimp only
  rw [e]
theorem subTp {xs : List T} {μ : Mem} {i : Int} {t : T} (e : L2.atI xs i = some t) : subT' (.tup xs) (.int i) μ = .ok t μ := by
  unfold subT'
  have h1 : dctT μ (.tup xs) = none := rfl
  rw [h1]
  unfold ixT seqT
  dsimp only
  rw [e]
theorem subD {k : Nat} {kvs : List (Key × T)} {μ : Mem} {x : T} {key : Key} {t : T} (h : μ[k]? = some (.dct kvs)) (hx : keyT x = some key) (e : valT kvs key = some t) : subT' (.ref k) x μ = .ok t μ := by
  unfold subT'
  have h1 : dctT μ (.ref k) = some kvs := by unfold dctT; dsimp only; rw [h]
  rw [h1]
  dsimp only
  rw [hx]
  dsimp only
  rw [e]
theorem setL {k : Nat} {xs : List T} {μ : Mem} {i : Int} {n : Nat} {v : T} (h : μ[k]? = some (.lst xs)) (e : ixN xs.length i = some n) : setT (.ref k) (.int i) v μ = some (μ.set k (.lst (xs.set n v))) := by
  unfold setT
  dsimp only
  rw [h]
  dsimp only
  rw [e]
  rfl
theorem setD {k : Nat} {kvs : List (Key × T)} {μ : Mem} {x v : T} {key : Key} (h : μ[k]? = some (.dct kvs)) (hx : keyT x = some key) (hz : kvs.length < sizeLine) : setT (.ref k) x v μ = some (μ.set k (.dct (putKT kvs key v))) := by
  unfold setT
  dsimp only
  rw [h]
  dsimp only
  rw [hx]
  dsimp only
  rw [if_pos hz]
@[simp] theorem sSub_e {dd di dv σ μ} : sSub dd di dv σ μ = (dv σ μ).toS fun v μ1 => (dd σ μ1).toS fun x μ2 => (di σ μ2).toS fun i μ3 => match setT x i v μ3 with
  | some μ4 => .nx σ μ4
  | none => .bad := rfl
end TL
set_option Elab.async false
set_option linter.all false
set_option maxRecDepth 100000
set_option maxHeartbeats 2000000
/-! TL18: texts -/
namespace TL
open PySem PySem.Spec PyProof.Rows L2
section
variable {X : Cx} {tb : List (Addr × Str)} {E : XK} {a b e o : Expr} {es : List Expr} {da db dd : EM} {d : AM} {pos p apos cpos : Pos}
/-- what is not reached is not told -/
def dBad : EM := fun _ _ => .bad
def sBad : SM := fun _ _ => .bad
theorem s_bad {st : Stmt} : PS X st (tS (gx X tb) E sBad) := ⟨fun pins s σ H D I h => by obtain ⟨_, _, _, _, _, h⟩ := h; exact h.elim⟩
theorem ss_bad {st : List Stmt} : PSs X st (tS (gx X tb) E sBad) := ⟨fun pins s σ H D I h => by obtain ⟨_, _, _, _, _, h⟩ := h; exact h.elim⟩
theorem e_bad {e : Expr} : PE X e (tE (gx X tb) E dBad) := ⟨fun pins s σ H D I h => by obtain ⟨_, _, _, _, _, h⟩ := h; exact h.elim⟩
/-! ### methods of texts -/
def isStr : T → Bool
  | .str _ => true
  | _ => false
def dSM (k : T → List T → Mem → Res) (dd : EM) (d : AM) : EM := fun σ μ => (dd σ μ).bind fun o μ1 => if isStr o = true then d σ μ1 fun ts μ2 => k o ts μ2 else .bad
theorem isStr_ty {K : PySem.W.Frag} {ρ : Nat → Addr} {n : Nat} {H : Hp} {x : T} {v : V} (h : DV K ρ n H x v) (e : isStr x = true) : tyV K "str" v H := by
  cases x with
  | str z => rw [show v = _ from h]; exact rfl
  | _ => cases e
theorem e_sm {name : Str} {id : String} {k : T → List T → Mem → Res} (h : MtL X tb id k) (slot : Slot "str" name id) (hty : typeOf (.builtin id) = pure (.type "method_descriptor")) (ho : PE X o (tE (gx X tb) E dd)) (ha : PAd X tb E (e :: es) d)
    (hbase : attributeBase o name X.env (eval o X.env) = eval o X.env := by rfl)
    (hfew : ((backTo cpos (starEach (e :: es) X.env)).all (fun x => !x.1) && (backToKw cpos (keywordEach [] X.env)).all (fun x => x.1.isSome)
      && decide ((e :: es).length + ([] : List Keyword).length + (if ([] : List Keyword).isEmpty then 0 else 1) < 30)) = true := by rfl)
    (hline : (apos.endLine == cpos.line) = true := by rfl) (hs : starEach (e :: es) X.env = (false, eval e X.env) :: starEach es X.env := by rfl) (hplain : (backTo cpos (starEach es X.env)).any (·.1) = false := by rfl) :
    PE X (.Call (.Attribute o name apos) (e :: es) [] cpos) (tE (gx X tb) E (dSM k dd d)) := by
  obtain ⟨r, h1, h2⟩ := h
  obtain ⟨t, a1, a2⟩ := ha.ex
  refine (pe_bm PySem.F.plainAttrs_str slot hty h1 ho a1 hbase hfew hline hs hplain).imp fun σ H Q q => ?_
  obtain ⟨ρ, σT, μ, m, l, q⟩ := q
  refine bindE m l q fun x μ1 ρ1 v H1 e1 m1 l1 dx g1 => ?_
  split at g1
  · rename_i hl
    exact ⟨isStr_ty dx hl, a2.go Q ρ1 σT μ1 σ H1 _ _ m1 l1 g1 fun ts μ2 ρ2 vs H2 e2 m2 ds g2 => h2 E Q ρ2 μ2 H2 x v ts vs m2 (dx.ext e2) ds g2⟩
  · exact g1.elim
theorem e_sm0 {name : Str} {id : String} {k : T → List T → Mem → Res} (h : MtL X tb id k) (slot : Slot "str" name id) (hty : typeOf (.builtin id) = pure (.type "method_descriptor")) (ho : PE X o (tE (gx X tb) E dd))
    (hbase : attributeBase o name X.env (eval o X.env) = eval o X.env := by rfl) (hline : (apos.endLine == cpos.line) = true := by rfl) : PE X (.Call (.Attribute o name apos) [] [] cpos) (tE (gx X tb) E (dSM k dd aNil)) := by
  obtain ⟨r, h1, h2⟩ := h
  refine (pe_bm0 PySem.F.plainAttrs_str slot hty h1 ho hbase hline).imp fun σ H Q q => ?_
  obtain ⟨ρ, σT, μ, m, l, q⟩ := q
  refine bindE m l q fun x μ1 ρ1 v H1 e1 m1 l1 dx g1 => ?_
  split at g1
  · rename_i hl
    exact ⟨isStr_ty dx hl, h2 E Q ρ1 μ1 H1 x v [] [] m1 dx rfl g1⟩
  · exact g1.elim
def startswithT : T → List T → Mem → Res := fun x ts μ => match x, ts with
  | .str z, [.str y] => .ok (.bl (Txt.startswith z y)) μ
  | _, _ => .bad
def endswithT : T → List T → Mem → Res := fun x ts μ => match x, ts with
  | .str z, [.str y] => .ok (.bl (Txt.endswith z y)) μ
  | _, _ => .bad
def upperT : T → List T → Mem → Res := fun x ts μ => match x, ts with
  | .str z, [] => if z.length ≤ 5592405 then .ok (.str (Txt.upper z)) μ else .bad
  | _, _ => .bad
theorem ml_startswith : MtL X tb "str.startswith" startswithT := ⟨_, mt_startswith, fun E Q ρ μ H x v ts vs m dx ds g => by
  unfold startswithT at g
  split at g
  · rename_i z y
    obtain ⟨w, r, rfl, h2, h3⟩ := ds
    rw [show r = [] from h3]
    obtain rfl : w = V.str y := h2
    obtain rfl : v = V.str z := dx
    exact ⟨z, y, rfl, rfl, g.same m rfl⟩
  · exact g.elim⟩
theorem ml_endswith : MtL X tb "str.endswith" endswithT := ⟨_, mt_endswith, fun E Q ρ μ H x v ts vs m dx ds g => by
  unfold endswithT at g
  split at g
  · rename_i z y
    obtain ⟨w, r, rfl, h2, h3⟩ := ds
    rw [show r = [] from h3]
    obtain rfl : w = V.str y := h2
    obtain rfl : v = V.str z := dx
    exact ⟨z, y, rfl, rfl, g.same m rfl⟩
  · exact g.elim⟩
theorem ml_upper : MtL X tb "str.upper" upperT := ⟨_, mt_upper, fun E Q ρ μ H x v ts vs m dx ds g => by
  unfold upperT at g
  split at g
  · rename_i z
    split at g
    · rename_i hz
      rw [show vs = [] from ds]
      obtain rfl : v = V.str z := dx
      exact ⟨z, rfl, rfl, hz, g.same m rfl⟩
    · exact g.elim
  · exact g.elim⟩
/-! split: a list just made -/
def splitLM (x y : T) (μ : Mem) : LRes := match x, y with
  | .str z, .str s => if (s.length == 0) = false ∧ z.length + 2 ≤ sizeLine then .ok ((Txt.split z s).map T.str) μ else .bad
  | _, _ => .bad
def dSplit (dd db : EM) : LM := fun σ μ => (dd σ μ).bindL fun x μ1 => if isStr x = true then (db σ μ1).bindL fun y μ2 => splitLM x y μ2 else .bad
theorem l_split (ho : PE X o (tE (gx X tb) E dd)) (hb : PE X b (tE (gx X tb) E db)) (hs : starEach [b] X.env = [(false, eval b X.env)] := by rfl) (hbase : attributeBase o "split" X.env (eval o X.env) = eval o X.env := by rfl) (hline : (apos.endLine == pos.line) = true := by rfl) :
    PE X (.Call (.Attribute o "split" apos) [b] [] pos) (tL (gx X tb) E (dSplit dd db)) := (pe_split ho hb hs hbase hline).imp fun σ H Q q => by
  obtain ⟨ρ, σT, μ, m, l, q⟩ := q
  refine bindL_ m l q fun x μ1 ρ1 v H1 e1 m1 l1 dx g1 => ?_
  split at g1
  · rename_i hx
    cases x with
    | str z =>
      obtain rfl : v = V.str z := dx
      refine ⟨⟨z, rfl⟩, bindL_ m1 l1 g1 fun y μ2 ρ2 u H2 e2 m2 l2 dy g2 => ?_⟩
      unfold splitLM at g2
      split at g2
      · rename_i z' s hz'
        cases hz'
        split at g2
        · rename_i hc
          obtain rfl : u = V.str s := dy
          exact ⟨z, s, rfl, rfl, hc.1, hc.2, fun p hp => GoodL.new g2 m2 (DVs.maps (f := T.str) (h := V.str) (fun _ => rfl) _) hp⟩
        · exact g2.elim
      · exact g2.elim
    | _ => cases hx
  · exact g1.elim
/-! join -/
def joinQ (x : T) (ys : List T) (μ : Mem) : Res := match x, unS ys with
  | .str s, some zs => if (zs.map (·.length)).sum + zs.length * s.length ≤ 16777216 then .ok (.str (Txt.join s zs)) μ else .bad
  | _, _ => .bad
def dJoin (dd : EM) (dl : LM) : EM := fun σ μ => (dd σ μ).bind fun x μ1 => if isStr x = true then (dl σ μ1).bind fun ys μ2 => joinQ x ys μ2 else .bad
theorem e_join {dl : LM} (ho : PE X o (tE (gx X tb) E dd)) (hb : PE X b (tQ sAny (gx X tb) E dl)) (hs : starEach [b] X.env = [(false, eval b X.env)] := by rfl) (hbase : attributeBase o "join" X.env (eval o X.env) = eval o X.env := by rfl) (hline : (apos.endLine == pos.line) = true := by rfl) :
    PE X (.Call (.Attribute o "join" apos) [b] [] pos) (tE (gx X tb) E (dJoin dd dl)) := (pe_join ho hb hs hbase hline).imp fun σ H Q q => by
  obtain ⟨ρ, σT, μ, m, l, q⟩ := q
  refine bindE m l q fun x μ1 ρ1 v H1 e1 m1 l1 dx g1 => ?_
  split at g1
  · rename_i hx
    cases x with
    | str z =>
      obtain rfl : v = V.str z := dx
      refine ⟨⟨z, rfl⟩, ρ1, σT, μ1, m1, l1, ?_⟩
      cases h : dl σT μ1 with
      | ok ys μ2 =>
        rw [h] at g1
        have g1 : Good (gx X tb) E Q ρ1 μ1.length H1 (joinQ (.str z) ys μ2) := g1
        intro ρ' a vs H' e2 m2 h2 h3
        unfold joinQ at g1
        split at g1
        · rename_i s zs hz hu
          cases hz
          split at g1
          · rename_i hc
            obtain rfl := unS_of h3 hu
            exact ⟨z, a, zs, rfl, rfl, h2, hc, (Good.later e2 g1).same m2 rfl⟩
          · exact g1.elim
        · exact g1.elim
      | exc c fs μ2 => rw [h] at g1; exact g1
      | bad => rw [h] at g1; exact g1
    | _ => cases hx
  · exact g1.elim
/-! str(i), int(x) -/
def strC : List T → Mem → Res := fun ts μ => match ts with
  | [.int i] => if i.natAbs.log2 < 1920 then .ok (.str (toString i)) μ else .bad
  | _ => .bad
theorem cl_str : CallL X tb (.type "str") strC := ⟨_, call_str_int, fun E Q ρ μ H ts vs m d g => by
  unfold strC at g
  split at g
  · rename_i i
    split at g
    · rename_i hz
      obtain ⟨w, r, rfl, h2, h3⟩ := d
      rw [show r = [] from h3]
      obtain rfl : w = V.int i := h2
      exact ⟨i, rfl, hz, g.same m rfl⟩
    · exact g.elim
  · exact g.elim⟩
def intSC : List T → Mem → Res := fun ts μ => match ts with
  | [.str x] => (match PySem.intText? x with
    | some n => if x.length ≤ 640 then .ok (.int n) μ else .bad
    | none => .bad)
  | _ => .bad
theorem cl_intS : CallL X tb (.type "int") intSC := ⟨_, call_int_str, fun E Q ρ μ H ts vs m d g => by
  unfold intSC at g
  split at g
  · rename_i x
    split at g
    · rename_i n hn
      split at g
      · rename_i hz
        obtain ⟨w, r, rfl, h2, h3⟩ := d
        rw [show r = [] from h3]
        obtain rfl : w = V.str x := h2
        exact ⟨x, n, rfl, hn, hz, g.same m rfl⟩
      · exact g.elim
    · exact g.elim
  · exact g.elim⟩
/-! f'..' -/
inductive FPart where
  | lit (z : Str)
  | ex (d : EM)
abbrev JM := List FPart
def fmtT (t : T) (μ : Mem) : Option Str := match t with
  | .str z => if z.length ≤ sizeLine then some z else none
  | .int i => if i.natAbs.log2 < 1920 then some (toString i) else none
  | _ => none
def dJs : JM → Str → EM
  | [], acc => fun _ μ => .ok (.str acc) μ
  | .lit z :: r, acc => fun σ μ => if (acc ++ z).length ≤ sizeLine then dJs r (acc ++ z) σ μ else .bad
  | .ex d :: r, acc => fun σ μ => (d σ μ).bind fun t μ1 => match fmtT t μ1 with
    | some y => if (acc ++ y).length ≤ sizeLine then dJs r (acc ++ y) σ μ1 else .bad
    | none => .bad
end
end TL
set_option Elab.async false
set_option linter.all false
set_option maxRecDepth 100000
set_option maxHeartbeats 2000000
/-! TL19: slices of any kind, f-texts, texts times ints -/
namespace TL
open PySem PySem.Spec PyProof.Rows L2
section
variable {X : Cx} {tb : List (Addr × Str)} {E : XK} {a b e o : Expr} {es : List Expr} {da db dd : EM} {d : AM} {pos p apos cpos : Pos}
def odRunR (d : OM) (σ : List (Option T)) (μ : Mem) (k : Option Int → Mem → Res) : Res := match d with
  | none => k none μ
  | some dx => (dx σ μ).bind fun x μ1 => match x with
    | .int i => k (some i) μ1
    | _ => .bad
theorem po_ofR {eo : Option Expr} {d : OM} (h : POd X tb E eo d) : ∃ t, PO X eo t ∧ ∀ (Q : VK) (ρ : Nat → Addr) (σT : List (Option T)) (μ : Mem) (σ : L2.St) (H : Hp) (k : Option Int → Mem → Res) (R : Option Int → Hp → Prop), MRel (gx X tb) ρ μ H → LRel X.K ρ μ.length H σT σ →
    Good (gx X tb) E Q ρ μ.length H (odRunR d σT μ k) → (∀ i μ1 ρ1 H1, Ext (gx X tb) ρ μ.length H ρ1 μ1.length H1 → MRel (gx X tb) ρ1 μ1 H1 → LRel X.K ρ1 μ1.length H1 σT σ → Good (gx X tb) E Q ρ1 μ1.length H1 (k i μ1) → R i H1) → t σ H R := by
  rcases h.ex with ⟨rfl, rfl⟩ | ⟨x, dx, rfl, rfl, hx⟩
  · exact ⟨_, po_none, fun Q ρ σT μ σ H k R m l h hR => hR none μ ρ H (Ext.refl _ _ _ _) m l h⟩
  · refine ⟨_, po_some hx, fun Q ρ σT μ σ H k R m l h hR => ?_⟩
    refine bindE m l h fun y μ1 ρ1 v H1 e1 m1 l1 dy g1 => ?_
    cases y with
    | int i => exact ⟨i, dy, hR (some i) μ1 ρ1 H1 e1 m1 l1 g1⟩
    | _ => exact (show False from g1).elim
def sliceT (x : T) (lo hi : Option Int) (μ : Mem) : Res := match x with
  | .tup ts => .ok (.tup (cutT ts lo hi)) μ
  | .str z => if z.length ≤ sizeLine then .ok (.str (Txt.slice z lo hi)) μ else .bad
  | .ref k => (match μ[k]? with
    | some (.lst xs) => .ok (.ref μ.length) (μ ++ [.lst (cutT xs lo hi)])
    | _ => .bad)
  | .fl is => .ok (.ref μ.length) (μ ++ [.lst (cutT (is.map T.int) lo hi)])
  | _ => .bad
def dSl (dd : EM) (dl dh : OM) : EM := fun σ μ => (dd σ μ).bind fun x μ1 => odRunR dl σ μ1 fun lo μ2 => odRunR dh σ μ2 fun hi μ3 => sliceT x lo hi μ3
theorem e_slice {lo hi : Option Expr} {dl dh : OM} {p2 : Pos} (ha : PE X a (tE (gx X tb) E da)) (hl : POd X tb E lo dl) (hh : POd X tb E hi dh) : PE X (.Subscript a (.Slice lo hi none p2) pos) (tE (gx X tb) E (dSl da dl dh)) := by
  obtain ⟨t1, p1, r1⟩ := po_ofR hl
  obtain ⟨t2, p2', r2⟩ := po_ofR hh
  refine (pe_slice (SlR.or sl_tupA (SlR.or C8.sl_txt sl_list)) ha p1 p2').imp fun σ H Q q => ?_
  obtain ⟨ρ, σT, μ, m, l, q⟩ := q
  refine bindE m l q fun x μ1 ρ1 v H1 e1 m1 l1 dx g1 => ?_
  refine r1 Q ρ1 σT μ1 σ H1 _ _ m1 l1 g1 fun i μ2 ρ2 H2 e2 m2 l2 g2 => ?_
  refine r2 Q ρ2 σT μ2 σ H2 _ _ m2 l2 g2 fun j μ3 ρ3 H3 e3 m3 l3 g3 => ?_
  have dx3 := (dx.ext e2).ext e3
  unfold sliceT at g3
  cases x with
  | tup ts =>
    dsimp only at g3
    obtain ⟨c, vs, rfl, h2, h3⟩ := dx3
    refine .inl ⟨c, vs, rfl, h2, fun hw => ?_, fun hw p hp => g3.tup m3 h3.cut hp⟩
    refine g3.same m3 ⟨c, vs, rfl, h2, ?_⟩
    have hc : cutT ts i j = ts := by
      unfold cutT
      rw [h3.length, hw.1, hw.2, ← h3.length]
      simp
    rw [hc]
    exact h3
  | str z =>
    dsimp only at g3
    obtain rfl : v = V.str z := dx3
    split at g3
    · rename_i hz
      exact .inr (.inl ⟨z, rfl, hz, g3.same m3 rfl⟩)
    · exact g3.elim
  | ref k =>
    dsimp only at g3
    obtain ⟨hkl, rfl⟩ := dx3
    split at g3
    · rename_i xs hk
      obtain ⟨ho, q1, ws, rfl, q2⟩ := m3.ob k _ hk
      exact .inr (.inr ⟨_, ws, rfl, SqL.of q1, fun p hp => g3.new m3 ⟨_, rfl, q2.cut⟩ hp⟩)
    · exact g3.elim
  | fl is =>
    dsimp only at g3
    obtain ⟨b, rfl, q1⟩ := dx3
    exact .inr (.inr ⟨_, _, rfl, q1.sq, fun p hp => g3.new m3 ⟨_, rfl, (DVs.maps (f := T.int) (h := V.int) (fun _ => rfl) is).cut⟩ hp⟩)
  | _ => exact (show False from g3).elim
/-! f'..' -/
structure FsOk (X : Cx) (tb : List (Addr × Str)) (E : XK) (es : List Expr) (ds : JM) : Prop where
  ex : ∃ ts, PJ X es ts ∧ ∀ (acc : Str) (Q : VK) (ρ : Nat → Addr) (σT : List (Option T)) (μ : Mem) (σ : L2.St) (H : Hp), MRel (gx X tb) ρ μ H → LRel X.K ρ μ.length H σT σ → Good (gx X tb) E Q ρ μ.length H (dJs ds acc σT μ) → tJs ts acc σ H (fun out H1 => Q (.str out) H1)
theorem fs_nil : FsOk X tb E [] [] := ⟨⟨[], .nil, fun acc Q ρ σT μ σ H m l g => Good.same g m rfl⟩⟩
theorem fs_lit {z : Str} {j : Nat} {ds : JM} (h : FsOk X tb E es ds) : FsOk X tb E (.Constant (.str z) j pos :: es) (.lit z :: ds) := by
  obtain ⟨ts, h1, h2⟩ := h.ex
  refine ⟨⟨_ :: ts, .cons pe_str h1, fun acc Q ρ σT μ σ H m l g => ?_⟩⟩
  unfold dJs at g
  show ∃ y : Str, V.str z = .str y ∧ _
  split at g
  · rename_i hz
    exact ⟨z, rfl, hz, h2 _ _ _ _ _ _ _ m l g⟩
  · exact g.elim
theorem fs_ex {ds : JM} (he : PE X e (tE (gx X tb) E dd)) (h : FsOk X tb E es ds) : FsOk X tb E (.FormattedValue e (-1) none pos :: es) (.ex dd :: ds) := by
  obtain ⟨ts, h1, h2⟩ := h.ex
  refine ⟨⟨_ :: ts, .cons (pe_fmt he) h1, fun acc Q ρ σT μ σ H m l g => ?_⟩⟩
  unfold dJs at g
  refine bindE (Q := Q) m l g fun x μ1 ρ1 v H1 e1 m1 l1 dx g1 => ?_
  split at g1
  · rename_i y hy
    split at g1
    · rename_i hz
      cases x with
      | str w =>
        unfold fmtT at hy
        dsimp only at hy
        split at hy
        · rename_i hw
          cases hy
          exact .inl ⟨_, dx, hw, _, rfl, hz, h2 _ _ _ _ _ _ _ m1 l1 g1⟩
        · cases hy
      | int i =>
        unfold fmtT at hy
        dsimp only at hy
        split at hy
        · rename_i hw
          cases hy
          exact .inr ⟨i, dx, hw, _, rfl, hz, h2 _ _ _ _ _ _ _ m1 l1 g1⟩
        · cases hy
      | _ => cases hy
    · exact g1.elim
  · exact g1.elim
theorem e_fs {v1 v2 : Expr} {rest : List Expr} {ds : JM} (h : FsOk X tb E (v1 :: v2 :: rest) ds) : PE X (.JoinedStr (v1 :: v2 :: rest) pos) (tE (gx X tb) E (dJs ds Str.empty)) := by
  obtain ⟨ts, h1, h2⟩ := h.ex
  refine (pe_joined h1).imp fun σ H Q q => ?_
  obtain ⟨ρ, σT, μ, m, l, q⟩ := q
  exact h2 _ Q ρ σT μ σ H m l q
/-! z * k -/
def mulS : T → T → Mem → Res := fun x y μ => match x, y with
  | .str z, .int k => if z.length ≤ 1000 ∧ -1000 ≤ k ∧ k ≤ 1000 then .ok (.str (Txt.mul z k)) μ else .bad
  | _, _ => .bad
theorem op_mul_str : OpR X (binaryOp .Mult) (fun x y H Q => ∃ z k, x = .str z ∧ y = .int k ∧ z.length ≤ 1000 ∧ -1000 ≤ k ∧ k ≤ 1000 ∧ Q (.str (Txt.mul z k)) H) := by
  intro pins s σ H x y v u Q I rx ry h
  obtain ⟨z, k, rfl, rfl, h1, h2, h3, q⟩ := h
  obtain ⟨t, rfl⟩ := rx
  obtain ⟨t', rfl⟩ := ry
  exact PySem.SB.mul (mulOk_of 1000 1000 h1 h3 (by omega) (by decide) (by decide)) fun t' k' => ⟨.str _, H, I.tok _, ⟨_, rfl⟩, q⟩
theorem opl_mulS : OpL X tb (binaryOp .Mult) mulS := ⟨_, op_mul_str, fun E Q ρ μ H x y v u m dx dy g => by
  unfold mulS at g
  split at g
  · rename_i z k
    split at g
    · rename_i hc
      obtain rfl : v = V.str z := dx
      obtain rfl : u = V.int k := dy
      exact ⟨z, k, rfl, rfl, hc.1, hc.2.1, hc.2.2, g.same m rfl⟩
    · exact g.elim
  · exact g.elim⟩
end
end TL
set_option Elab.async false
set_option linter.all false
set_option maxRecDepth 100000
set_option maxHeartbeats 2000000
/-! TL20: whole tables of the written part; e.replace(..) behind a token -/
namespace TL
open PySem PySem.Spec PyProof.Rows L2
/-- the keys of a written dict, all texts -/
def wdKeys (K : PySem.W.Frag) (p : Addr) : Option (List Str) := match K.lookup p with
  | some ⟨_, _, .dict es _, _⟩ => es.toList.mapM fun e => match e.key with | .str x _ => some x | _ => none
  | _ => none
theorem wd_none {K : PySem.W.Frag} {p : Addr} {ks : List Str} (h : wdKeys K p = some ks) {z : Str} (hz : z ∉ ks) : PySem.W.nsIn K p z = some none := by
  unfold wdKeys at h
  unfold PySem.W.nsIn
  split at h
  · rename_i es n sl ho
    rw [ho]
    dsimp only
    have key : ∀ (l : List DictEntry) (ks : List Str), (l.mapM fun e => match e.key with | .str x _ => some x | _ => none) = some ks → z ∉ ks → (l.find? (·.key.isStr z)) = none ∧ l.any (·.refKey) = false := by
      intro l
      induction l with
      | nil => intro ks _ _; exact ⟨rfl, rfl⟩
      | cons e r ih =>
        intro ks hk hn
        rw [List.mapM_cons] at hk
        simp only [Option.bind_eq_bind, Option.bind_eq_some_iff, Option.pure_def, Option.some.injEq] at hk
        obtain ⟨x, hx, xs, hxs, rfl⟩ := hk
        simp only [List.mem_cons, not_or] at hn
        obtain ⟨i1, i2⟩ := ih xs hxs hn.2
        split at hx
        · rename_i hy
          cases hx
          have hq : e.key.isStr z = false := by
            rw [hy, PySem.W.isStr_of]
            simpa [Value.isStrOf] using fun z => hn.1 z.symm
          refine ⟨by rw [List.find?_cons, hq]; exact i1, ?_⟩
          rw [List.any_cons, i2, Bool.or_false]
          unfold DictEntry.refKey
          rw [hy]
        · cases hx
    obtain ⟨k1, k2⟩ := key _ _ h hz
    rw [k1, k2]
    rfl
  · cases h
structure WDC (w : World) (K : PySem.W.Frag) (mg : Str → Option Value) (x : Str) (tab : List (Str × T)) : Prop where
  ex : ∃ p es n, mg x = some (.ref p) ∧ K.lookup p = some ⟨.type "dict", none, .dict es n, #[]⟩ ∧ PySem.W.KeysLit w.params es.toList ∧ (p == sysModules) = false ∧ wdKeys K p = some (tab.map (·.1)) ∧
    ∀ q ∈ tab, ∃ v u, PySem.W.nsIn K p q.1 = some (some u) ∧ RelV v u ∧ ∀ ρ n H, DV K ρ n H q.2 v
theorem WDC.wd {w : World} {K : PySem.W.Frag} {mg : Str → Option Value} {x : Str} {tab : List (Str × T)} (h : WDC w K mg x tab) : WD w K mg x tab := by
  obtain ⟨p, es, n, h1, h2, h3, h4, _, h5⟩ := h.ex
  exact ⟨⟨p, es, n, h1, h2, h3, h4, h5⟩⟩
section
variable {X : Cx} {tb : List (Addr × Str)} {E : XK} {a b e o : Expr} {es : List Expr} {da db dd : EM} {d : AM} {pos p apos cpos : Pos}
def wdIn (tab : List (Str × T)) : T → Mem → Res := fun y μ => match y with
  | .str z => .ok (.bl (tab.lookup z).isSome) μ
  | _ => .bad
def wdOut (tab : List (Str × T)) : T → Mem → Res := fun y μ => match y with
  | .str z => .ok (.bl (!(tab.lookup z).isSome)) μ
  | _ => .bad
theorem wd_at {w : World} {K : PySem.W.Frag} {mg : Str → Option Value} {tab : List (Str × T)} {p : Addr} (h5 : wdKeys K p = some (tab.map (·.1))) (h6 : ∀ q ∈ tab, ∃ v u, PySem.W.nsIn K p q.1 = some (some u) ∧ RelV v u ∧ ∀ ρ n H, DV K ρ n H q.2 v) (z : Str) : ∃ r, PySem.W.nsIn K p z = some r ∧ r.isSome = (tab.lookup z).isSome := by
  cases ht : tab.lookup z with
  | some t =>
    obtain ⟨v, u', k1, _⟩ := h6 _ (lookup_mem ht)
    exact ⟨_, k1, rfl⟩
  | none =>
    refine ⟨none, wd_none h5 (fun hz => ?_), rfl⟩
    obtain ⟨q, hq, rfl⟩ := List.mem_map.mp hz
    have : ∀ (l : List (Str × T)), q ∈ l → l.lookup q.1 ≠ none := by
      intro l
      induction l with
      | nil => intro h; cases h
      | cons c r ih =>
        intro hm he
        unfold List.lookup at he
        split at he
        · cases he
        · rename_i hne
          rcases List.mem_cons.mp hm with rfl | hm
          · simp at hne
          · exact ih hm he
    exact this _ hq ht
theorem op_wdOut {q : Addr} {es : Array DictEntry} {n : Nat} (h2 : X.K.lookup q = some ⟨.type "dict", none, .dict es n, #[]⟩) (h3 : PySem.W.KeysLit X.w.params es.toList) (h4 : (q == sysModules) = false) : OpR X (compareOp .NotIn) (fun x y H Q => ∃ z r, x = .str z ∧ y = .ref q ∧ PySem.W.nsIn X.K q z = some r ∧ Q (.bl (!r.isSome)) H) := by
  intro pins s σ H x y v u Q I rx ry h
  obtain ⟨z, r, rfl, rfl, k1, k2⟩ := h
  obtain ⟨t, rfl⟩ := rx
  obtain rfl : u = Value.ref q := ry
  refine wpAny_notIn_of (strKind_is X.prog X.w z t) h4 (PySem.W.mapOf_K (prog := X.prog) (w := X.w) I.kIn h2 h3) ?_
  rw [PySem.W.find_K h2 k1]
  exact ⟨_, _, I.tok _, (show RelV (.bl (!r.isSome)) (.bool (!r.isSome)) from rfl), k2⟩
theorem e_wdOut {x : Str} {tab : List (Str × T)} (h : WDC X.w X.K X.mg x tab) (hb : PE X b (tE (gx X tb) E db)) (hg : Gl X x := by rfl) (hd : (x == ("__debug__" : Str)) = false := by decide)
    (hm : behindInMarks .NotIn (.Name x p) = false := by first | exact nomark _ (by decide) (by decide) | with_unfolding_all rfl) :
    PE X (.Compare b [.NotIn] [.Name x p] pos) (tE (gx X tb) E (d1 (wdOut tab) db)) := by
  obtain ⟨q, es, n, h1, h2, h3, h4, h5, h6⟩ := h.ex
  refine (pe_cmpR (op_wdOut h2 h3 h4) hb (pe_glob (v := .ref q) hg h1 rfl hd) hm).imp fun σ H Q z => ?_
  obtain ⟨ρ, σT, μ, m, l, z⟩ := z
  refine bindE m l z fun y μ1 ρ1 u H1 e1 m1 l1 dy g1 => ?_
  unfold wdOut at g1
  split at g1
  · rename_i y0 zz
    obtain ⟨r, k1, k2⟩ := wd_at (w := X.w) (mg := X.mg) h5 h6 zz
    exact ⟨zz, r, dy, rfl, k1, by rw [k2]; exact g1.same m1 rfl⟩
  · exact g1.elim
theorem t_wdOut {x : Str} {tab : List (Str × T)} (h : WDC X.w X.K X.mg x tab) (hb : PE X b (tE (gx X tb) E db)) (hg : Gl X x := by rfl) (hd : (x == ("__debug__" : Str)) = false := by decide)
    (hm : behindInMarks .NotIn (.Name x p) = false := by first | exact nomark _ (by decide) (by decide) | with_unfolding_all rfl) :
    PT X (.Compare b [.NotIn] [.Name x p] pos) (tT (gx X tb) E (d1 (wdOut tab) db)) := by
  obtain ⟨q, es, n, h1, h2, h3, h4, h5, h6⟩ := h.ex
  refine (pt_cmpR (op_wdOut h2 h3 h4) hb (pe_glob (v := .ref q) hg h1 rfl hd) hm).imp fun σ H Q z => ?_
  obtain ⟨ρ, σT, μ, m, l, z⟩ := z
  refine bindE m l z fun y μ1 ρ1 u H1 e1 m1 l1 dy g1 => ?_
  unfold wdOut at g1
  split at g1
  · rename_i y0 zz
    obtain ⟨r, k1, k2⟩ := wd_at (w := X.w) (mg := X.mg) h5 h6 zz
    refine ⟨zz, r, dy, rfl, k1, ?_⟩
    have := g1.same (v := .bl (!r.isSome)) m1 (by rw [k2]; rfl)
    exact this
  · exact g1.elim
/-! ### behind a token -/
def replT (y z : Str) : T → Mem → Res := fun x μ => match x with
  | .str w => if w.length + (w.length + 1) * z.length ≤ 16777216 then .ok (.str (Txt.replace w y z)) μ else .bad
  | _ => .bad
theorem petImp {e : Expr} {t t' : TE} (h : PET X e t) (hi : ∀ σ H Q, t' σ H Q → t σ H Q) : PET X e t' := fun pins s σ H Q h0 I q => h pins s σ H Q h0 I (hi σ H Q q)
theorem x_repl {y z : Str} {j k : Nat} {c0 c1 : Pos} (ho : PE X o (tE (gx X tb) E dd)) (hyz : (y == z) = false := by decide)
    (hst : starEach [.Constant (.str y) j c0, .Constant (.str z) k c1] X.env = [(false, eval (.Constant (.str y) j c0) X.env), (false, eval (.Constant (.str z) k c1) X.env)] := by rfl)
    (hbase : attributeBase o "replace" X.env (eval o X.env) = eval o X.env := by rfl) (hline : (apos.endLine == pos.line) = true := by rfl) :
    PET X (.Call (.Attribute o "replace" apos) [.Constant (.str y) j c0, .Constant (.str z) k c1] [] pos) (tE (gx X tb) E (d1 (replT y z) dd)) := petImp (CwR.pet_replC ho hyz hst hbase hline) fun σ H Q q => by
  obtain ⟨ρ, σT, μ, m, l, q⟩ := q
  refine bindE m l q fun x μ1 ρ1 v H1 e1 m1 l1 dx g1 => ?_
  unfold replT at g1
  split at g1
  · split at g1
    · rename_i hz
      exact ⟨_, dx, hz, g1.same m1 rfl⟩
    · exact g1.elim
  · exact g1.elim
structure PAlT (X : Cx) (tb : List (Addr × Str)) (E : XK) (es : List Expr) (d : ALM) : Prop where
  ex : ∃ t, PAT X es t ∧ ALOk (gx X tb) E t d
theorem PAT.of {es : List Expr} {t : TA} (h : PA X es t) : PAT X es t := fun pos pins s σ H Q _ I q => h.run pos pins s σ H Q I q
theorem xm_of {es : List Expr} {d : ALM} (h : PAl X tb E es d) : PAlT X tb E es d := by
  obtain ⟨t, h1, h2⟩ := h.ex
  exact ⟨⟨t, PAT.of h1, h2⟩⟩
theorem xm_cons {e : Expr} {es : List Expr} {d : EM} {r : ALM} (he : PET X e (tE (gx X tb) E d)) (hr : PAlT X tb E es r) (hs : starEach (e :: es) X.env = (false, eval e X.env) :: starEach es X.env := by rfl) : PAlT X tb E (e :: es) (lCons d r) := by
  obtain ⟨t, h1, h2⟩ := hr.ex
  exact ⟨⟨_, pat_cons he h1 hs, al_cons h2⟩⟩
theorem x_lst {es : List Expr} {d : ALM} (h : PAlT X tb E es d) : PET X (.List es pos) (tL (gx X tb) E (dLstL d)) := by
  obtain ⟨t, h1, h2⟩ := h.ex
  refine petImp (pet_lst h1) fun σ H Q h => ?_
  obtain ⟨ρ, σT, μ, m, l, h⟩ := h
  refine h2.go Q ρ σT μ σ H _ _ m l h fun ts μ1 ρ1 vs H1 e1 m1 ds q1 => ?_
  split at q1
  · rename_i hz
    exact ⟨by rw [← ds.length]; exact hz, fun p hp => q1.new m1 ds hp⟩
  · exact q1.elim
theorem tE_new {g : G} {d : LM} : ∀ σ H Q, tE g E (dNew d) σ H Q → tL g E d σ H Q := tL_new
theorem x_new {d : LM} (h : PET X a (tL (gx X tb) E d)) : PET X a (tE (gx X tb) E (dNew d)) := petImp h tL_new
theorem x_cat (ha : PE X a (tE (gx X tb) E da)) (hb : PET X b (tE (gx X tb) E db)) : PET X (.BinOp a .Add b pos) (tL (gx X tb) E (dCat da db)) := petImp (CwR.pet_op op_cat (CwR.PET.of ha) hb) fun σ H Q q => by
  obtain ⟨ρ, σT, μ, m, l, q⟩ := q
  refine bindL_ m l q fun x μ1 ρ1 v H1 e1 m1 l1 dx g1 => ?_
  refine bindL_ m1 l1 g1 fun y μ2 ρ2 u H2 e2 m2 l2 dy g2 => ?_
  split at g2
  · rename_i i j
    have dx2 := dx.ext e2
    split at g2
    · rename_i xs ys hi hj
      split at g2
      · rename_i hz
        obtain ⟨_, rfl⟩ := dx2
        obtain ⟨_, rfl⟩ := dy
        obtain ⟨ho, q1, ws, rfl, q2⟩ := m2.ob i _ hi
        obtain ⟨ho', q1', ws', rfl, q2'⟩ := m2.ob j _ hj
        exact ⟨_, _, ws, ws', rfl, rfl, q1, q1', by rw [← q2.length, ← q2'.length]; exact hz, fun p hp => g2.new m2 (q2.append q2') hp⟩
      · exact g2.elim
    · exact g2.elim
  · exact g2.elim
theorem x_set (i : Nat) {x : Str} {pos' : Pos} (hN : X.N.Nodup) (he : PET X e (tE (gx X tb) E dd)) (hs : swapsWith e (some (.Name x pos')) pos.line X.env = pure false := by rfl) (hi : X.N[i]? = some x := by rfl) (hx : Loc X.env.scope x := by first | exact Or.inl rfl | exact Or.inr rfl)
    (hf : X.fn x = true ∨ X.env.scope.names.lookup x = some .local := by first | exact .inl rfl | exact .inr rfl | assumption) : PST X (.Assign [.Name x pos'] e pos) (tS (gx X tb) E (sSet i dd)) := fun pins s σ H D h0 I h => by
  obtain ⟨ρ, σT, μ, m, l, h⟩ := h
  refine wpAny_Assign_Name (thn (he pins s σ H (fun v H1 => D.nx (σ.set i (some v)) H1) h0 I (bindS (Q := D.rt) m l h fun x μ1 ρ1 v H1 e1 m1 l1 dv h1 => h1 ρ1 _ H1 (Ext.refl _ _ _ _) m1 (l1.set i dv))) fun v s1 ⟨y, H1, I1, r1, q1⟩ => ?_) hs
  exact store_ok I1 hN hi hx r1 (fun s2 I2 => ⟨_, H1, I2, q1⟩) hf
theorem xs_of {st : List Stmt} {t : TS} (h : PSs X st t) : PSsT X st t := PSsT.of h
theorem xs_cons {st : Stmt} {rest : List Stmt} {a b : SM} (h1 : PST X st (tS (gx X tb) E a)) (h2 : PSsT X rest (tS (gx X tb) E b)) : PSsT X (st :: rest) (tS (gx X tb) E (sSeq a b)) := fun pins s σ H D h0 I q => psst_cons h1 h2 pins s σ H D h0 I (tS_seq (t := sNil) D σ H q)
/-- a token is out behind e -/
def Toky (M : Model) (env : Env) (e : Expr) : Prop := ∀ Γ (Q : Value → Pos → Shared → Prop) (E : Value → Pos → Shared → Prop) p s, Sem.wp M Γ (eval e env) Q E p s → Sem.wp M Γ (eval e env) (fun v p' s' => 1 ≤ s'.toks ∧ Q v p' s') E p s
theorem tk_int {M : Model} {env : Env} {i : Int} {j : Nat} : Toky M env (.Constant (.int i) j pos) := fun Γ Q E p s h => ⟨by show 1 ≤ s.toks + 1; omega, h⟩
theorem tk_op {M : Model} {env : Env} {op : Operator} (ha : Toky M env a) : Toky M env (.BinOp a op b pos) := fun Γ Q E p s h => by
  simp only [eval_BinOp, Sem.wp_bind'] at h ⊢
  refine Sem.wp_mono M Γ _ (fun v p1 s1 h1 => ?_) (fun _ _ _ h' => h') _ _ (ha Γ _ E p s h)
  have q := Sem.wp_toks M Γ 1 _ _ _ p1 s1 h1.1 h1.2
  refine Sem.wp_mono M Γ _ (fun u p2 s2 h2 => ?_) (fun _ _ _ h' => h'.2) _ _ q
  have q2 := Sem.wp_toks M Γ 1 _ _ _ p2 s2 h2.1 h2.2
  refine Sem.wp_mono M Γ _ (fun u p2 s2 h2 => ?_) (fun _ _ _ h' => h'.2) _ _ q2
  have q3 := Sem.wp_toks M Γ 1 _ _ _ _ _ h2.1 h2.2
  exact Sem.wp_mono M Γ _ (fun u p2 s2 h2 => h2) (fun _ _ _ h' => h'.2) _ _ q3
theorem xs_toky (i : Nat) {x : Str} {pos' : Pos} {rest : List Stmt} {b : SM} (hN : X.N.Nodup) (hk : Toky (model X.prog X.w) X.env e) (he : PE X e (tE (gx X tb) E dd)) (h2 : PSsT X rest (tS (gx X tb) E b)) (hs : swapsWith e (some (.Name x pos')) pos.line X.env = pure false := by rfl) (hi : X.N[i]? = some x := by rfl) (hx : Loc X.env.scope x := by first | exact Or.inl rfl | exact Or.inr rfl)
    (hf : X.fn x = true ∨ X.env.scope.names.lookup x = some .local := by first | exact .inl rfl | exact .inr rfl | assumption) : PSs X (.Assign [.Name x pos'] e pos :: rest) (tS (gx X tb) E (sSeq (sSet i dd) b)) := ⟨fun pins s σ H D I h => by
  obtain ⟨ρ, σT, μ, m, l, h⟩ := tS_seq (t := sNil) D σ H h
  have hv := he.run pins s σ H (fun v H1 => tS (gx X tb) E b D (σ.set i (some v)) H1) I (bindS (Q := D.rt) m l h fun x μ1 ρ1 v H1 e1 m1 l1 dv h1 => h1 ρ1 _ H1 (Ext.refl _ _ _ _) m1 (l1.set i dv))
  have hv2 : wpAny (model X.prog X.w) X.A (eval e X.env) (fun v s1 => 1 ≤ s1.toks ∧ EP X pins σ (fun v H1 => tS (gx X tb) E b D (σ.set i (some v)) H1) v s1) X.xe s := fun Γ p hΓ => hk Γ _ _ p s (hv Γ p hΓ)
  refine wpAny_execs_cons (wpAny_Assign_Name (thn hv2 fun v s1 ⟨ht, y, H1, I1, r1, q1⟩ => ?_) hs)
  refine wpAny_mono (PySem.wpAny_toks (store_ok (Q := fun _ s2 => Inv X pins (σ.set i (some y)) H1 s2) I1 hN hi hx r1 (fun s2 I2 => I2) hf)) (fun _ s2 q => ?_) fun _ _ z => z.2
  exact h2 pins s2 _ H1 D (Nat.le_trans ht q.1) q.2 q1⟩
end
end TL
set_option Elab.async false
set_option linter.all false
set_option maxRecDepth 100000
set_option maxHeartbeats 2000000
namespace TL
open PySem PySem.Spec PySem.Calls PyProof.Rows L2
/-! ### an own error's __init__ that says super().__init__(f); self.f = f -/
abbrev exoO (C t1 : Addr) : Obj := { cls := .ref C, dict := none, data := .fields #[.ref t1, .none, .none, .none, .bool false, .none] }
structure SupF (P : Program) (K : PySem.W.Frag) (mg : Str → Option Value) (C fI cc cda : Addr) (f : Str) (fd : FuncData) (scope : Scope) : Prop where
  T : OexC K C
  lk : ∃ oc od osl, K.lookup fI = some ⟨oc, od, .func fd, osl⟩
  ar : ∃ ar : Arg, (fd.params.posonlyargs ++ fd.params.args).head? = some ar ∧ ar.arg = "self"
  cell : ∃ cl cld csl, K.lookup cc = some ⟨cl, cld, .cell (some (.ref C)), csl⟩
  code : ∃ (ccl : Value) (cdd : Option Addr) (vs : Array Value) (ccs : Array (Option Value)) (file : Str) (tf : Tok), K.lookup cda = some ⟨ccl, cdd, .fields vs, ccs⟩ ∧ vs[2]? = some (.str file tf) ∧ ((P.main.file : Str) == file) = true
  top : (P.main.scope.names.lookup ("super" : Str)).isSome = false
  mgs : mg "super" = none
  sub : PySem.W.mroIn K C (.ref C) = some true
  subV : PySem.W.subIn K (.ref C) (.type "ValueError") = some true
  meth : PySem.W.ks_superIn K C C "__init__" = some (some (.builtin "ValueError.__init__"))
  op : PySem.W.nsIn K PySem.cStatics "thirdparty.any" = some none
  kind : scope.kind = .function
  nsu : scope.names.lookup ("super" : Str) = some .globalImplicit
  ncl : scope.names.lookup ("__class__" : Str) = some .free
  nse : scope.names.lookup ("self" : Str) = some .local
  nf : scope.names.lookup f = some .local
  hf : (f == ("__debug__" : Str)) = false
section
variable {P : Program} {w : World} {K : PySem.W.Frag} {mg : Str → Option Value} {base h : Heap} {C fI cc cda a t1 L : Addr} {f : Str} {fd : FuncData} {scope : Scope} {q : Str} {A : Around} {g : Array GenState} {d : Drawn} {t : Nat} {os : OsState} {E : Value → Shared → Prop} {body : List Stmt} {m : Str → Option Value} {u : Value} {Q : Flow → Shared → Prop}
theorem super_init {p0 p1 p2 p3 p4 p5 : Pos} {pl : Sem Bool} (F : SupF P K mg C fI cc cda f fd scope) (M : Mod K mg base) (kb : ∀ b o, base.get? b = some o → h.get? b = some o) (hns : h.Ns L m) (ms : m "self" = some (.ref a)) (mf : m f = some u) (ho : h.get? a = some (exoO C t1))
    (hq : ∀ h' t' t1', (∀ b o, b ≠ a → h.get? b = some o → h'.get? b = some o) → h'.get? a = some (exoO C t1') → Q .next ⟨h', g, d, t', os⟩)
    (he : eval (.Call (.Attribute (.Call (.Name "super" p0) [] [] p1) "__init__" p2) [.Name f p3] [] p4) (PySem.W.ksEnv q scope L fI (.ref cda) cc) = (do
      let ov ← attributeBase (.Call (.Name "super" p0) [] [] p1) "__init__" (PySem.W.ksEnv q scope L fI (.ref cda) cc) (eval (.Call (.Name "super" p0) [] [] p1) (PySem.W.ksEnv q scope L fI (.ref cda) cc))
      standAt p2.atName
      let (fx, first) ← holding [ov] (getMethod ov "__init__" pl)
      callWith p4 fx first (backTo p4 (starEach [Expr.Name f p3] (PySem.W.ksEnv q scope L fI (.ref cda) cc))) [])) :
    _root_.PySem.wpAt (model P w) A (.func body (PySem.W.ksEnv q scope L fI (.ref cda) cc)) (exec (.Expr (.Call (.Attribute (.Call (.Name "super" p0) [] [] p1) "__init__" p2) [.Name f p3] [] p4) p5) (PySem.W.ksEnv q scope L fI (.ref cda) cc)) Q E ⟨h, g, d, t, os⟩ := by
  have X : K.In h := M.kin.keeps kb
  obtain ⟨oc, od, osl, lk⟩ := F.lk
  obtain ⟨ar, har, harn⟩ := F.ar
  obtain ⟨cl, cld, csl, hcell⟩ := F.cell
  obtain ⟨ccl, cdd, vs, ccs, file, tf, hcode, hvs, hfile⟩ := F.code
  obtain ⟨nm, qn, N, bs, bm, sn, sub, ab, col, dd, k0, k1, k2, k3, k5, hC, hbm⟩ := F.T.cls
  have hCh := X _ _ hC
  have kL : scope.kind = .function := F.kind
  have hint : interactive (PySem.W.ksEnv q scope L fI (.ref cda) cc) = false := by unfold interactive; simp [kL]
  refine ks_wpAt_Expr_any (hi := hint) (ks_wpAt_MethodCall (ks_wpAt_super_base (env := PySem.W.ksEnv q scope L fI (.ref cda) cc) F.nsu F.ncl (by decide) rfl (X _ _ lk) rfl har rfl (X _ _ hcode) rfl hvs hfile F.top ?_) he)
  obtain ⟨mb, hb1, hb2⟩ := M.blt
  refine PySem.W.ks_loadName_global kL F.nsu (loadGlobal_builtin (env := PySem.W.ksEnv q scope L fI (.ref cda) cc) (M.glob.keeps kb) F.mgs (hb1.keeps kb) ((hb2 _ (by decide)).trans PyProof.Rows.Boot.«super») ⟨rfl, ?_⟩)
  refine wpAny_loadName_free kL F.ncl rfl ⟨_, X _ _ hcell, rfl⟩ ?_
  rw [harn]
  refine wpAny_loadName_local kL F.nse hns ms ?_
  refine ks_wpAny_isType_cls hCh rfl ⟨rfl, ?_⟩
  refine ks_wpAny_call_super hCh rfl ho rfl (fun c e => by cases e) (PySem.W.looks_mroIn X F.sub) (fun h1 e1 k1' => ?_)
  have X1 : K.In h1 := X.keeps k1'
  have I : PySem.W.InstAt h1 a (exoO C t1) C none := ⟨k1' _ _ ho, rfl, rfl, trivial⟩
  have hI : PySem.W.Looks (model P w) h1 (isInstance (.ref a) (.type "ValueError")) true := I.type.andThen (PySem.W.looks_subIn X1 F.subV)
  obtain ⟨cd, hc⟩ : ∃ cd, PySem.W.clsIn K C = some cd := by
    cases z : PySem.W.clsIn K C with
    | none => have := F.meth; unfold PySem.W.ks_superIn at this; rw [z] at this; cases this
    | some cd => exact ⟨cd, rfl⟩
  have hm := F.meth
  unfold PySem.W.ks_superIn at hm
  rw [hc] at hm
  refine PySem.W.kxs_getMethod PySem.W.kxs_ValueError e1 (PySem.W.looks_opaque X1 F.op) (l₀ := cd.mro) (fun A Q E s k q => wpAny_bind ((PySem.W.looks_clsIn X1 hc) A _ E s k (wpAny_pure q))) rfl X1 hm hI (PySem.W.ks_ne X1 I hc) (by decide) ?_
  have k2 : ∀ b o, h1.get? b = some o → (h1.push (PySem.W.kxs_mw "ValueError.__init__" a)).get? b = some o := fun b o e => Heap.get?_push_of_some _ e
  have eu : (h1.push (PySem.W.kxs_mw "ValueError.__init__" a)).get? h1.objs.size = some (PySem.W.kxs_mw "ValueError.__init__" a) := Heap.get?_push_at rfl rfl
  generalize hh2 : h1.push (PySem.W.kxs_mw "ValueError.__init__" a) = h2 at *
  have kk : ∀ b o, h.get? b = some o → h2.get? b = some o := fun b o e => k2 _ _ (k1' _ _ e)
  have hs : starEach [Expr.Name f p3] (PySem.W.ksEnv q scope L fI (.ref cda) cc) = (false, eval (.Name f p3) (PySem.W.ksEnv q scope L fI (.ref cda) cc)) :: starEach [] (PySem.W.ksEnv q scope L fI (.ref cda) cc) := rfl
  rw [hs]
  refine PySem.W.kxs_callWith (i := "ValueError.__init__") (x := a) rfl (evalArgs_plain (spliced_cons ?_))
  refine wpAny_Name (wpAny_loadName_local (env := PySem.W.ksEnv q scope L fI (.ref cda) cc) kL F.nf (hns.keeps kk) mf ?_) F.hf
  refine spliced_nil ⟨eu, ?_⟩
  refine wpAny_call (codeAny_of_tree ?_)
  show wpAny _ A.in1 (callAny (.ref h1.objs.size) ⟨[u], []⟩) _ _ _
  simp only [callAny]
  refine wpAny_bind (wpAny_load eu ?_)
  simp only [PySem.W.kxs_mw, show (Value.type "method-wrapper" == Value.type "method" || Value.type "method-wrapper" == Value.type "builtin_function_or_method" || Value.type "method-wrapper" == Value.type "method-wrapper") = true by decide, if_true]
  refine PySem.W.KFB.if_so (by decide) ?_
  refine wpAny_bind (PySem.W.check_bound_init PySem.F.excBase_ValueError.toExcCallFacts (kk _ _ hCh) (kk _ _ ho) rfl ?_)
  refine wpAny_bind (wpAny_pure (wpAny_pure ?_))
  refine ⟨plainId_quiet PySem.F.excBase_ValueError.init.plain _, codeAny_builtin PySem.F.excBase_ValueError.initEntry ?_⟩
  refine PySem.W.exc_init_tree (cls := .ref C) (t0 := t1) (dv := none) (c2 := .none) (c3 := .none) (b4 := .bool false) (kk _ _ ho) (by simp [sizeLine_eq]) (fun h' k3 e3 _ => ?_)
  exact hq h' _ _ (fun b o hb e => k3 b o hb (kk _ _ e)) e3
end
end TL
set_option Elab.async false
set_option linter.all false
set_option maxRecDepth 100000
set_option maxHeartbeats 2000000
namespace TL
open PySem PySem.Spec PySem.Calls PyProof.Rows L2
/-- the context of a body with the cell of its class -/
def cxS (P : Program) (w : World) (K : PySem.W.Frag) (mg : Str → Option Value) (base : Heap) (N : List Str) (qual : Str) (scope : Scope) (f : Addr) (cd : Value) (cc : Addr) (A : Around) (outer : List Env) (s : Shared) (H : Hp) (E : XK) : Cx where
  prog := P
  w := w
  K := K
  mg := mg
  base := base
  A := A.deeper (PySem.W.ksEnv qual scope s.heap.objs.size f cd cc)
  N := N
  s_0 := s
  H_0 := H
  env := PySem.W.ksEnv qual scope s.heap.objs.size f cd cc
  outer := outer
  stack := PySem.W.ksEnv qual scope s.heap.objs.size f cd cc :: outer
  ex := []
  calm := true
  fn := fun _ => false
  pn := []
  xe := fun e s' => wpAny (model P w) (A.deeper (PySem.W.ksEnv qual scope s.heap.objs.size f cd cc)) (leaving (PySem.W.ksEnv qual scope s.heap.objs.size f cd cc) e) (fun _ s'' => L2.CX P w outer H s E e s'') (fun e' s'' => L2.CX P w outer H s E e' s'') s'
theorem lk_self {f : Str} {v u : Value} (h : f ≠ "self") : List.lookup ("self" : Str) [(f, u), (("self" : Str), v)] = some v := by
  have hb : (("self" : Str) == f) = false := by simpa using fun z => h z.symm
  simp [List.lookup, hb]
theorem lk_f {f : Str} {v u : Value} : List.lookup f [(f, u), (("self" : Str), v)] = some u := by simp [List.lookup]
theorem lookup_one {cc c : Addr} {x : Str} (h : List.lookup x [(("__class__" : Str), cc)] = some c) : x = "__class__" ∧ c = cc := by
  simp only [List.lookup] at h
  split at h
  · rename_i z
    exact ⟨by simpa using z, by cases h; rfl⟩
  · cases h
section
variable {P : Program} {w : World} {K : PySem.W.Frag} {mg : Str → Option Value} {base : Heap} {C fI cc cda : Addr} {f : Str} {fd : FuncData} {scope : Scope} {q : Str}
theorem inv_startS {A : Around} {outer : List Env} {s : Shared} {H : Hp} {E : XK} {vs : List V} {us : List Value} {h1 : Heap} {tk : Nat} (F : SupF P K mg C fI cc cda f fd scope) (hd : A.handled = none) (e0 : Env0 P w K mg base A outer s H) (r : Vals vs us) (hl : vs.length = 2) (hnf : f ≠ "self")
    (hfr : ∀ y, scope.names.lookup y = some .cell ∨ scope.names.lookup y = some .free → y = "__class__")
    (hns : h1.Ns s.heap.objs.size fun x => (([("self" : Str), f] : List Str).zip us).reverse.lookup x) (kp : ∀ b o, s.heap.get? b = some o → h1.get? b = some o) :
    Inv (cxS P w K mg base ["self", f] q scope fI (.ref cda) cc A outer s H E) [] (L2.start [("self" : Str), f] vs) H { s with heap := h1, toks := tk } := by
  obtain ⟨cl, cld, csl, hcell⟩ := F.cell
  have hcb := e0.mod.kin _ _ hcell
  have hcs := e0.bs _ _ hcb
  have noA : ∀ b : Addr, b ∉ (cxS P w K mg base ["self", f] q scope fI (.ref cda) cc A outer s H E).ex := fun b z => absurd (show b ∈ ([] : List Addr) from z) (by simp)
  refine ⟨⟨e0.mod, F.kind, rfl, rfl, Nat.le_refl _, fun y z c e1 e2 => (lookup_one e1).1.trans (lookup_one e2).1.symm, fun y hy => ?_, fun y c z _ => ?_, fun _ => hd, Around.frames_deeper e0.frames, .inr ⟨rfl, rfl⟩, fun b z => absurd z (noA b), e0.bs, e0.bsz, fun b _ _ => noA b,
      fun b z => absurd z (noA b), e0.funs, e0.frf⟩,
    rfl, e0.bare, Un.kept kp, ⟨_, hns, fun i y v e1 e2 e3 => ?_⟩, fun y c e => ?_, e0.hok.fresh (Nat.le_refl _), fun y c e => ?_, fun p hp => absurd (show p ∈ ([] : List (Addr × Obj)) from hp) (by simp), e0.hok.kept kp, ?_⟩
  · have e := hfr y hy
    subst e
    exact ⟨cc, rfl⟩
  · have z : false = true := z
    cases z
  · match vs, hl with
    | [v1, v2], _ =>
      cases r with
      | @cons _ u1 _ ur r1 rr =>
        cases rr with
        | @cons _ u2 _ ur2 r2 rr2 =>
          cases rr2
          have e1 : ([("self" : Str), f] : List Str)[i]? = some y := e1
          match i, e1, e2 with
          | 0, e1, e2 =>
            cases e1; cases e2
            refine ⟨u1, r1, .inl ⟨F.nse, ?_⟩⟩
            exact lk_self hnf
          | 1, e1, e2 =>
            cases e1; cases e2
            refine ⟨u2, r2, .inl ⟨F.nf, ?_⟩⟩
            exact lk_f
          | i + 2, e1, e2 => cases e1
  · obtain ⟨_, rfl⟩ := lookup_one e
    exact ⟨_, _, kp _ _ hcs.1, rfl⟩
  · obtain ⟨_, rfl⟩ := lookup_one e
    exact hcs.2
  · show (L2.start [("self" : Str), f] vs).length = 2
    unfold L2.start
    simp [hl]
theorem sup_fn {name qual : Str} {params : Arguments} {dV kV doc pm ct oc : Value} {od an : Option Addr} {osl : Array (Option Value)} {p0 p1 p2 p3 p4 p5 p6 p7 p8 p9 : Pos} {pl : Sem Bool}
    (lk : K.lookup fI = some ⟨oc, od, .func (PySem.W.ksFn name qual params [.Expr (.Call (.Attribute (.Call (.Name "super" p0) [] [] p1) "__init__" p2) [.Name f p3] [] p4) p5, .Assign [.Attribute (.Name "self" p6) f p7] (.Name f p8) p9] scope dV kV doc pm an (.ref cda) ct cc), osl⟩)
    (F : SupF P K mg C fI cc cda f (PySem.W.ksFn name qual params [.Expr (.Call (.Attribute (.Call (.Name "super" p0) [] [] p1) "__init__" p2) [.Name f p3] [] p4) p5, .Assign [.Attribute (.Name "self" p6) f p7] (.Name f p8) p9] scope dV kV doc pm an (.ref cda) ct cc) scope)
    (hcd : PySem.W.codeIn K (.ref cda) qual = true) (hno : PySem.W.findIn K (.ref C) f = some none) (hnf : f ≠ "self") (hf2 : (f == ("__classdict__" : Str)) = false)
    (hfr : ∀ y, scope.names.lookup y = some .cell ∨ scope.names.lookup y = some .free → y = "__class__") (hcel : ∀ x ∈ scope.names, x.2 ≠ .cell) (hco : scope.isCoroutine = false) (hgen : scope.isGenerator = false)
    (he : ∀ L : Addr, eval (.Call (.Attribute (.Call (.Name "super" p0) [] [] p1) "__init__" p2) [.Name f p3] [] p4) (PySem.W.ksEnv qual scope L fI (.ref cda) cc) = (do
      let ov ← attributeBase (.Call (.Name "super" p0) [] [] p1) "__init__" (PySem.W.ksEnv qual scope L fI (.ref cda) cc) (eval (.Call (.Name "super" p0) [] [] p1) (PySem.W.ksEnv qual scope L fI (.ref cda) cc))
      standAt p2.atName
      let (fx, first) ← holding [ov] (getMethod ov "__init__" pl)
      callWith p4 fx first (backTo p4 (starEach [Expr.Name f p3] (PySem.W.ksEnv qual scope L fI (.ref cda) cc))) []))
    (hsw : ∀ L : Addr, swapsWith (.Name f p8) (some (.Attribute (.Name "self" p6) f p7)) p9.line (PySem.W.ksEnv qual scope L fI (.ref cda) cc) = pure false) :
    FnOk P w K mg base (L2.CX P w) 1 fI (PySem.W.ksFn name qual params [.Expr (.Call (.Attribute (.Call (.Name "super" p0) [] [] p1) "__init__" p2) [.Name f p3] [] p4) p5, .Assign [.Attribute (.Name "self" p6) f p7] (.Name f p8) p9] scope dV kV doc pm an (.ref cda) ct cc) ["self", f] (spI1 C f) := by
  refine ⟨fun vs H Q E h => ?_, fun A outer s H args us vs Q E hr e0 hb r hsp => ?_⟩
  · obtain ⟨a, v, rfl, _⟩ := h
    rfl
  have KX : K.In s.heap := e0.mod.kin.keeps fun b o e => (e0.bs b o e).1
  have lim : s.heap.NoLimit := e0.mod.nolimit.keeps fun b o e => (e0.bs b o e).1
  obtain ⟨a, v, rfl, hHa, hq⟩ := hsp
  have r0 := r
  cases r with
  | @cons _ u1 _ ur r1 rr =>
    cases rr with
    | @cons _ u2 _ ur2 r2 rr2 =>
      cases rr2
      obtain rfl : u1 = Value.ref a := r1
      have hsf : (f == ("self" : Str)) = false := by simpa using hnf
      refine ks_codeAny_call_defAt (fd := PySem.W.ksFn name qual params [.Expr (.Call (.Attribute (.Call (.Name "super" p0) [] [] p1) "__init__" p2) [.Name f p3] [] p4) p5, .Assign [.Attribute (.Name "self" p6) f p7] (.Name f p8) p9] scope dV kV doc pm an (.ref cda) ct cc) (body := _) (binds := ([("self" : Str), f] : List Str).zip [Value.ref a, u2]) hr.depth (KX _ _ lk) rfl lim (PySem.W.codeRec_of KX hcd) rfl hb hcel (fun x hx => ?_) (fun h₁ hns kp => ?_) hco hgen F.kind
      · have hx : x ∈ [(("self" : Str), Value.ref a), (f, u2)] := hx
        simp only [List.mem_cons, List.not_mem_nil, or_false] at hx
        rcases hx with rfl | rfl
        · exact F.nse
        · exact F.nf
      obtain ⟨t1, ho⟩ := exo_at e0.hok hHa
      have I := inv_startS (q := qual) (E := E) (tk := s.toks + (([("self" : Str), f] : List Str).zip [Value.ref a, u2]).length) F hr.hd e0 r0 rfl hnf hfr hns kp
      refine ks_wpAt_execs_cons ?_
      refine super_init F e0.mod (fun b o e => kp _ _ (e0.bs b o e).1) hns (lk_self hnf) lk_f (kp _ _ ho) (fun h' t' t1' k hx => ?_) (he _)
      have J := I.write (t' := t') (x := a) (e := a) (o := exo a C none) (by rw [hHa]; exact True.intro) (.inl rfl) k ⟨_, hx⟩ (exo_ok hx)
      have eu : upd H a (exo a C none) = H := by
        funext b
        by_cases hb : b = a
        · rw [hb, upd_same, hHa]
        · rw [upd_ne hb]
      rw [eu] at J
      refine ks_wpAt_execs_cons (wpAt_of_wpAny ?_)
      have hstmt := ps_ost (X := cxS P w K mg base ["self", f] qual scope fI (.ref cda) cc A outer s H E) (f := f) (p' := p7) (pos := p9) (pe_var (i := 0) (x := "self") (pos := p6) rfl (.inl F.nse)) (pe_var (i := 1) (x := f) (pos := p8) rfl (.inl F.nf) F.hf hf2) (hsw _)
      refine wpAny_mono (hstmt.run [] _ _ H { nx := fun _ H' => Q .non H', rt := Q } J ?_) (fun fl s' hs => ?_) fun e s' hs => hs
      · refine ⟨v, rfl, .ref a, rfl, a, C, rfl, F.T, hno, .inl ⟨hHa, fun dx hd ne => hq dx hd ne⟩⟩
      · cases fl with
        | next =>
          obtain ⟨σ', H', J, q⟩ := hs
          exact wpAt_of_wpAny (wpAny_execs_nil ⟨.non, H', J.os, J.bare, J.base, J.hok, rfl, q⟩)
        | ret u =>
          obtain ⟨v', σ', H', J, rv, q⟩ := hs
          exact ⟨v', H', J.os, J.bare, J.base, J.hok, rv, q⟩
        | brk =>
          obtain ⟨_, _, _, q⟩ := hs
          exact False.elim q
        | cont =>
          obtain ⟨_, _, _, q⟩ := hs
          exact False.elim q
end
end TL
set_option Elab.async false
set_option linter.all false
set_option maxRecDepth 100000
set_option maxHeartbeats 2000000
namespace TL
open PySem PySem.Spec PySem.Calls PyProof.Rows L2
def oexIn (K : PySem.W.Frag) (C : Addr) : Bool := match K.lookup C with
  | some ⟨.type "type", _, .cls cd, sl⟩ => (match cd.mro, sl.toList with
    | .ref C' :: bm, [_, _, _, _, some (.builtin n), _] => C' == C && n == "ValueError.__new__" && !cd.hasDel && cd.hasDict && PySem.HandSPX.refsVE bm
    | _, _ => false)
  | _ => false
theorem oex_of {K : PySem.W.Frag} {C : Addr} (q : oexIn K C = true) : ∃ nm q N bs bm sn sub ab col dd k0 k1 k2 k3 k5, K.lookup C = some (excClassObj nm q C N bs bm true sn sub ab col dd k0 k1 k2 k3 k5 "ValueError.__new__") ∧ PySem.HandSPX.refsVE bm = true := by
  unfold oexIn at q
  split at q
  · rename_i dd cd sl ho
    split at q
    · rename_i C' bm k0 k1 k2 k3 n k5 hm hs
      simp only [Bool.and_eq_true, beq_iff_eq, Bool.not_eq_true'] at q
      obtain ⟨⟨⟨⟨rfl, rfl⟩, hdel⟩, hdi⟩, ht⟩ := q
      obtain ⟨nm, bs, mro, ns, qn, hd, sn, sub, ab, col, del⟩ := cd
      dsimp only at hm hdel hdi
      subst hm hdel hdi
      have hsl : sl = #[k0, k1, k2, k3, some (.builtin "ValueError.__new__"), k5] := by
        obtain ⟨l⟩ := sl
        simp only at hs
        rw [hs]
      subst hsl
      exact ⟨_, _, _, _, _, _, _, _, _, _, _, _, _, _, _, ho, ht⟩
    · cases q
  · cases q
def codeFileIn (K : PySem.W.Frag) (cda : Addr) (file : Str) : Bool := match K.lookup cda with
  | some ⟨_, _, .fields vs, _⟩ => (match (vs[2]? : Option Value) with | some (.str x _) => file == x | _ => false)
  | _ => false
theorem codeFile_of {K : PySem.W.Frag} {cda : Addr} {fl : Str} (q : codeFileIn K cda fl = true) : ∃ (ccl : Value) (cdd : Option Addr) (vs : Array Value) (ccs : Array (Option Value)) (file : Str) (tf : Tok), K.lookup cda = some ⟨ccl, cdd, .fields vs, ccs⟩ ∧ vs[2]? = some (.str file tf) ∧ (fl == file) = true := by
  unfold codeFileIn at q
  split at q
  · rename_i ho
    split at q
    · rename_i hx
      exact ⟨_, _, _, _, _, _, ho, hx, q⟩
    · cases q
  · cases q
def freeOk (scope : Scope) : Bool := scope.names.all fun y => !decide (y.2 = .cell) && (!decide (y.2 = .free) || decide (y.1 = "__class__"))
theorem freeOk_of {scope : Scope} (h : freeOk scope = true) : (∀ y, scope.names.lookup y = some .cell ∨ scope.names.lookup y = some .free → y = "__class__") ∧ ∀ x ∈ scope.names, x.2 ≠ .cell := by
  unfold freeOk at h
  simp only [Bool.and_eq_true, Bool.or_eq_true, Bool.not_eq_true', decide_eq_true_eq, decide_eq_false_iff_not, List.all_eq_true] at h
  refine ⟨fun y hy => ?_, fun x hx => (h x hx).1⟩
  rcases hy with hy | hy
  · exact absurd rfl (h _ (PySem.mem_of_lookup hy)).1
  · rcases (h _ (PySem.mem_of_lookup hy)).2 with z | z
    · exact absurd rfl z
    · exact z
theorem exc1_of {P : Program} {w : World} {K : PySem.W.Frag} {mg : Str → Option Value} {base : Heap} {C fI cc cda : Addr} {c f : Str} {name qual : Str} {params : Arguments} {scope : Scope} {dV kV doc pm ct oc cl : Value} {od cld an : Option Addr} {osl csl : Array (Option Value)} {p0 p1 p2 p3 p4 p5 p6 p7 p8 p9 : Pos} {pl : Sem Bool}
    (mC : mg c = some (.ref C)) (h1 : oexIn K C = true) (h2 : PySem.W.findIn K (.ref C) "__setattr__" = some (some (.builtin "object.__setattr__"))) (h3 : PySem.W.subIn K (.ref C) (.type "BaseException") = some true) (h4 : PySem.W.typeIn K (.ref C) = some (.type "type")) (h5 : PySem.W.keepIn K (.ref C) = true)
    (h6 : PySem.W.findIn K (.ref C) "__init__" = some (some (.ref fI))) (h7 : PySem.W.typeIn K (.ref fI) = some (.type "function"))
    (lk : K.lookup fI = some ⟨oc, od, .func (PySem.W.ksFn name qual params [.Expr (.Call (.Attribute (.Call (.Name "super" p0) [] [] p1) "__init__" p2) [.Name f p3] [] p4) p5, .Assign [.Attribute (.Name "self" p6) f p7] (.Name f p8) p9] scope dV kV doc pm an (.ref cda) ct cc), osl⟩)
    (hcell : K.lookup cc = some ⟨cl, cld, .cell (some (.ref C)), csl⟩) (hcode : codeFileIn K cda P.main.file = true) (htop : (P.main.scope.names.lookup ("super" : Str)).isSome = false) (mgs : mg "super" = none)
    (h8 : PySem.W.mroIn K C (.ref C) = some true) (h9 : PySem.W.subIn K (.ref C) (.type "ValueError") = some true) (h10 : PySem.W.ks_superIn K C C "__init__" = some (some (.builtin "ValueError.__init__"))) (h11 : PySem.W.nsIn K PySem.cStatics "thirdparty.any" = some none)
    (hcd : PySem.W.codeIn K (.ref cda) qual = true) (hno : PySem.W.findIn K (.ref C) f = some none)
    (har : ∃ ar : Arg, (params.posonlyargs ++ params.args).head? = some ar ∧ ar.arg = "self") (hkind : scope.kind = .function) (hnsu : scope.names.lookup ("super" : Str) = some .globalImplicit) (hncl : scope.names.lookup ("__class__" : Str) = some .free) (hnse : scope.names.lookup ("self" : Str) = some .local) (hnf' : scope.names.lookup f = some .local)
    (hf : (f == ("__debug__" : Str)) = false) (hnf : f ≠ "self") (hf2 : (f == ("__classdict__" : Str)) = false) (hfr : freeOk scope = true) (hco : scope.isCoroutine = false) (hgen : scope.isGenerator = false)
    (he : ∀ L : Addr, eval (.Call (.Attribute (.Call (.Name "super" p0) [] [] p1) "__init__" p2) [.Name f p3] [] p4) (PySem.W.ksEnv qual scope L fI (.ref cda) cc) = (do
      let ov ← attributeBase (.Call (.Name "super" p0) [] [] p1) "__init__" (PySem.W.ksEnv qual scope L fI (.ref cda) cc) (eval (.Call (.Name "super" p0) [] [] p1) (PySem.W.ksEnv qual scope L fI (.ref cda) cc))
      standAt p2.atName
      let (fx, first) ← holding [ov] (getMethod ov "__init__" pl)
      callWith p4 fx first (backTo p4 (starEach [Expr.Name f p3] (PySem.W.ksEnv qual scope L fI (.ref cda) cc))) []))
    (hsw : ∀ L : Addr, swapsWith (.Name f p8) (some (.Attribute (.Name "self" p6) f p7)) p9.line (PySem.W.ksEnv qual scope L fI (.ref cda) cc) = pure false)
    (hbind : ∀ u v : Value, bindArgs (PySem.W.ksFn name qual params [.Expr (.Call (.Attribute (.Call (.Name "super" p0) [] [] p1) "__init__" p2) [.Name f p3] [] p4) p5, .Assign [.Attribute (.Name "self" p6) f p7] (.Name f p8) p9] scope dV kV doc pm an (.ref cda) ct cc) ⟨[u, v], []⟩ = pure (([("self" : Str), f] : List Str).zip [u, v])) :
    Exc1 P w K mg base c f 1 := by
  have T : OexC K C := ⟨oex_of h1, h2, h3, h4, h5⟩
  have F : SupF P K mg C fI cc cda f (PySem.W.ksFn name qual params [.Expr (.Call (.Attribute (.Call (.Name "super" p0) [] [] p1) "__init__" p2) [.Name f p3] [] p4) p5, .Assign [.Attribute (.Name "self" p6) f p7] (.Name f p8) p9] scope dV kV doc pm an (.ref cda) ct cc) scope :=
    ⟨T, ⟨_, _, _, lk⟩, har, ⟨_, _, _, hcell⟩, codeFile_of hcode, htop, mgs, h8, h9, h10, h11, hkind, hnsu, hncl, hnse, hnf', hf⟩
  refine ⟨C, fI, _, _, mC, T, h6, h7, sup_fn lk F hcd hno hnf hf2 (freeOk_of hfr).1 (freeOk_of hfr).2 hco hgen he hsw, .all fun us hl => ?_⟩
  match us, hl with
  | [u, v], _ => exact hbind u v
end TL
set_option Elab.async false
set_option linter.all false
set_option maxRecDepth 100000
set_option maxHeartbeats 4000000
namespace K81
open PySem PySem.Spec PyProof.Rows L2 TL
abbrev LOC : Str := "<lambda>"
def errs : List Str := ["NoLine", "NoName", "NoNumber", "NoPlace", "NoPlay", "NoWeb"]
def wordOf (c : Str) : Str := if c = "NoLine" then "line" else if c = "NoName" then "name" else if c = "NoNumber" then "number" else if c = "NoPlace" then "place" else if c = "NoPlay" then "play" else "web"
/-- what the word's def leaves behind -/
def wordG (c : Str) : Mem := [.lst [.bl (decide (c = "NoLine")), .bl (decide (c = "NoName")), .bl (decide (c = "NoNumber"))], .lst [.bl (decide (c = "NoPlace")), .bl (decide (c = "NoPlay")), .bl (decide (c = "NoWeb"))], .lst [.bl (decide (c = "NoLine")), .bl (decide (c = "NoName")), .bl (decide (c = "NoNumber")), .bl (decide (c = "NoPlace")), .bl (decide (c = "NoPlay")), .bl (decide (c = "NoWeb"))], .lst [.str "line", .str "name", .str "number", .str "place", .str "play", .str "web"]]
def wordF : Res → Res
  | .ok _ μ => .ok (.str "told") μ
  | .exc c _ μ => if c ∈ errs then .ok (.str (wordOf c)) (μ ++ wordG c) else .bad
  | .bad => .bad
/-! ### the text by places -/
def top (i : Nat) : Stmt := PySem.Challenge.pw_treesapartways_k81_whole_desks_refuse_li.main.body.getD i (.Pass ⟨0, 0, 0, 0⟩)
abbrev s_Storedd_initdd : Stmt := inClass (top 78) 0
abbrev s_Deskdd_initdd : Stmt := inClass (top 85) 0
abbrev s_Store_now : Stmt := inClass (top 78) 1
abbrev s_is_name : Stmt := top 16
abbrev s_Store_check_there : Stmt := inClass (top 78) 3
abbrev s_Store_take : Stmt := inClass (top 78) 4
abbrev s_is_int : Stmt := top 13
abbrev s_is_within : Stmt := top 14
abbrev s_check_place : Stmt := top 26
abbrev s_is_sized : Stmt := top 15
abbrev s_is_pair_of : Stmt := top 23
abbrev s_is_web : Stmt := top 24
abbrev s_check_web : Stmt := top 25
abbrev s_check_two_places : Stmt := top 27
abbrev s_level_of : Stmt := top 45
abbrev s_check_forests_many : Stmt := top 34
abbrev s_most_held : Stmt := top 39
abbrev s_is_play : Stmt := top 68
abbrev s_check_play : Stmt := top 69
abbrev s_outcome : Stmt := top 74
abbrev s_Desk_answer : Stmt := inClass (top 85) 3
abbrev s_check_most : Stmt := top 17
abbrev s_Store_put : Stmt := inClass (top 78) 2
abbrev s_number_of : Stmt := top 81
abbrev s_pair_of : Stmt := top 84
abbrev s_Desk_put_web : Stmt := inClass (top 85) 2
abbrev s_Store_names : Stmt := inClass (top 78) 6
abbrev s_Store_undo : Stmt := inClass (top 78) 8
abbrev s_Desk_say : Stmt := inClass (top 85) 1
abbrev s__law_draw : Stmt := top 88
abbrev s__law_hand : Stmt := top 87
abbrev s__law_web_line : Stmt := top 91
abbrev s__law_is_unchanged : Stmt := top 95
abbrev s__law_some : Stmt := top 89
abbrev s__law_no_line : Stmt := top 93
abbrev s__law_web : Stmt := top 90
abbrev s__law_word : Stmt := top 92
abbrev s__law_wrong : Stmt := top 94
abbrev s_law : Stmt := top 96
def tab_NUMBERS : List (Str × T) := [("tie", .int 2), ("held", .int 1), ("trees", .int 0), ("forests", .int 0), ("strength", .int 0), ("level", .int 2), ("play", .int 2), ("count", .int 0)]
/-! ### what the top has made -/
structure TX (w : World) (K : PySem.W.Frag) (mg : Str → Option Value) : Prop where
  b_abs : mg "abs" = none
  b_all : mg "all" = none
  b_bool : mg "bool" = none
  b_dict : mg "dict" = none
  b_int : mg "int" = none
  b_isinstance : mg "isinstance" = none
  b_len : mg "len" = none
  b_list : mg "list" = none
  b_range : mg "range" = none
  b_sorted : mg "sorted" = none
  b_str : mg "str" = none
  b_tuple : mg "tuple" = none
  g_LETTERS : GlobIs K mg "LETTERS" (.str "abcdefghijklmnopqrstuvwxyz")
  g_MOST_DIGITS : GlobIs K mg "MOST_DIGITS" (.int 4)
  g_MOST_FORESTS : GlobIs K mg "MOST_FORESTS" (.int 6)
  g_MOST_NAME : GlobIs K mg "MOST_NAME" (.int 8)
  g_MOST_NAMES : GlobIs K mg "MOST_NAMES" (.int 50)
  g_MOST_PLACES : GlobIs K mg "MOST_PLACES" (.int 12)
  g_MOST_TIES : GlobIs K mg "MOST_TIES" (.int 40)
  g_MOST_VERSIONS : GlobIs K mg "MOST_VERSIONS" (.int 20)
  x_NoLine : ExcC0 K mg "NoLine"
  x_NoName : ExcC0 K mg "NoName"
  x_NoNumber : ExcC0 K mg "NoNumber"
  x_NoPlace : ExcC0 K mg "NoPlace"
  x_NoPlay : ExcC0 K mg "NoPlay"
  x_NoWeb : ExcC0 K mg "NoWeb"
  f_Desk_desk_store : FldOk K mg "Desk" "desk_store"
  f_Store_store_stages : FldOk K mg "Store" "store_stages"
  w_NUMBERS : WDC w K mg "NUMBERS" tab_NUMBERS
  er : ∀ cn ∈ errs, ∀ C, mg cn = some (.ref C) → ErK K C ∧ ∀ x ∈ errs, ∀ D, mg x = some (.ref D) → PySem.W.kitOne K (.ref C) (.ref D) = some (decide (cn = x))
  te : ∃ TE, mg "TreeError" = some (.ref TE) ∧ ∀ cn ∈ errs, ∀ C, mg cn = some (.ref C) → PySem.W.exmOne K (.ref C) (.ref TE) = some true
  es : ∀ cn ∈ errs, ∃ C, mg cn = some (.ref C)
section
variable {P : Program} {w : World} {K : PySem.W.Frag} {mg : Str → Option Value} {base : Heap} {tb : List (Addr × Str)}
/-! #### Store.__init__ -/
theorem sc_Storedd_initdd : FnScope ["self"] ["self"] (defScope s_Storedd_initdd) := ⟨rfl, rfl, rfl, by decide +kernel, rfl, by decide +kernel, by decide +kernel⟩
def d_Storedd_initdd : SM := (sFldT "Store" "store_stages" (dVar 0) (dNew (dLstL (lCons (fun _ μ => .ok (.ref μ.length) (μ ++ [.dct []])) lNil))))
def F_Storedd_initdd : Fn := runF 1 d_Storedd_initdd
theorem bp_Storedd_initdd : BindP "__init__" "Store.__init__" s_Storedd_initdd ["self"] := fun _ _ _ _ _ _ us hl => match us, hl with | [_], _ => rfl
/-! #### Desk.__init__ -/
theorem sc_Deskdd_initdd : FnScope ["self"] ["self"] (defScope s_Deskdd_initdd) := ⟨rfl, rfl, rfl, by decide +kernel, rfl, by decide +kernel, by decide +kernel⟩
def d_Deskdd_initdd : SM := (sFldT "Desk" "desk_store" (dVar 0) (dMake "Store" 1 F_Storedd_initdd aNil))
def F_Deskdd_initdd : Fn := runF 1 d_Deskdd_initdd
theorem bp_Deskdd_initdd : BindP "__init__" "Desk.__init__" s_Deskdd_initdd ["self"] := fun _ _ _ _ _ _ us hl => match us, hl with | [_], _ => rfl
/-! #### Store.now -/
theorem sc_Store_now : FnScope ["self"] ["self"] (defScope s_Store_now) := ⟨rfl, rfl, rfl, by decide +kernel, rfl, by decide +kernel, by decide +kernel⟩
def d_Store_now : SM := (sRet (d2 subT' (d1 (fldT "Store" "store_stages") (dVar 0)) (d1 negT (dC (.int 1)))))
def F_Store_now : Fn := runF 1 d_Store_now
theorem bp_Store_now : BindP "now" "Store.now" s_Store_now ["self"] := fun _ _ _ _ _ _ us hl => match us, hl with | [_], _ => rfl
/-! #### is_name -/
theorem sc_is_name : FnScope ["thing", "sign"] ["thing"] (defScope s_is_name) := ⟨rfl, rfl, rfl, by decide +kernel, rfl, by decide +kernel, by decide +kernel⟩
def d_is_name : SM := (sRet (dAnd (d1 (isiT "str") (dVar 0)) (dAnd (dChain leT leT (dC (.int 1)) (dCall lenC (aCons (dVar 0) aNil)) (dC (.int 8))) (dQ allQ (dLc (dIter (dVar 0)) (.nm 1) [1] none (d2 inTx (dVar 1) (dC (.str "abcdefghijklmnopqrstuvwxyz"))))))))
def F_is_name : Fn := runF 2 d_is_name
theorem bp_is_name : BindP "is_name" "is_name" s_is_name ["thing"] := fun _ _ _ _ _ _ us hl => match us, hl with | [_], _ => rfl
/-! #### Store.check_there -/
theorem sc_Store_check_there : FnScope ["self", "name"] ["self", "name"] (defScope s_Store_check_there) := ⟨rfl, rfl, rfl, by decide +kernel, rfl, by decide +kernel, by decide +kernel⟩
def d_Store_check_there : SM := (sIf (dOr (dNot (dFn 1 F_is_name (aCons (dVar 1) aNil))) (d2 notInDT (dVar 1) (dMeth "Store" "now" 1 F_Store_now (dVar 0) aNil))) (sRaise0 "NoName") sNil)
def F_Store_check_there : Fn := runF 2 d_Store_check_there
theorem bp_Store_check_there : BindP "check_there" "Store.check_there" s_Store_check_there ["self", "name"] := fun _ _ _ _ _ _ us hl => match us, hl with | [_, _], _ => rfl
/-! #### Store.take -/
theorem sc_Store_take : FnScope ["self", "name"] ["self", "name"] (defScope s_Store_take) := ⟨rfl, rfl, rfl, by decide +kernel, rfl, by decide +kernel, by decide +kernel⟩
def d_Store_take : SM := (sSeq (sExpr (dMeth "Store" "check_there" 2 F_Store_check_there (dVar 0) (aCons (dVar 1) aNil)))
    (sRet (d2 subT' (d2 subT' (dMeth "Store" "now" 1 F_Store_now (dVar 0) aNil) (dVar 1)) (d1 negT (dC (.int 1))))))
def F_Store_take : Fn := runF 2 d_Store_take
theorem bp_Store_take : BindP "take" "Store.take" s_Store_take ["self", "name"] := fun _ _ _ _ _ _ us hl => match us, hl with | [_, _], _ => rfl
/-! #### is_int -/
theorem sc_is_int : FnScope ["thing"] ["thing"] (defScope s_is_int) := ⟨rfl, rfl, rfl, by decide +kernel, rfl, by decide +kernel, by decide +kernel⟩
def d_is_int : SM := (sRet (dAnd (d1 (isiT "int") (dVar 0)) (dNot (d1 (isiT "bool") (dVar 0)))))
def F_is_int : Fn := runF 1 d_is_int
theorem bp_is_int : BindP "is_int" "is_int" s_is_int ["thing"] := fun _ _ _ _ _ _ us hl => match us, hl with | [_], _ => rfl
/-! #### is_within -/
theorem sc_is_within : FnScope ["thing", "low", "high"] ["thing", "low", "high"] (defScope s_is_within) := ⟨rfl, rfl, rfl, by decide +kernel, rfl, by decide +kernel, by decide +kernel⟩
def d_is_within : SM := (sRet (dAnd (dFn 1 F_is_int (aCons (dVar 0) aNil)) (dChain leT leT (dVar 1) (dVar 0) (dVar 2))))
def F_is_within : Fn := runF 3 d_is_within
theorem bp_is_within : BindP "is_within" "is_within" s_is_within ["thing", "low", "high"] := fun _ _ _ _ _ _ us hl => match us, hl with | [_, _, _], _ => rfl
/-! #### check_place -/
theorem sc_check_place : FnScope ["web", "place"] ["web", "place"] (defScope s_check_place) := ⟨rfl, rfl, rfl, by decide +kernel, rfl, by decide +kernel, by decide +kernel⟩
def d_check_place : SM := (sIf (dNot (dFn 3 F_is_within (aCons (dVar 1) (aCons (dC (.int 0)) (aCons (d2 subT (d2 subT' (dVar 0) (dC (.int 0))) (dC (.int 1))) aNil))))) (sRaise0 "NoPlace") sNil)
def F_check_place : Fn := runF 2 d_check_place
theorem bp_check_place : BindP "check_place" "check_place" s_check_place ["web", "place"] := fun _ _ _ _ _ _ us hl => match us, hl with | [_, _], _ => rfl
/-! #### is_sized -/
theorem sc_is_sized : FnScope ["thing", "least", "most"] ["thing", "least", "most"] (defScope s_is_sized) := ⟨rfl, rfl, rfl, by decide +kernel, rfl, by decide +kernel, by decide +kernel⟩
def d_is_sized : SM := (sRet (dAnd (d1 (isiT "tuple") (dVar 0)) (dChain leT leT (dVar 1) (dCall lenC (aCons (dVar 0) aNil)) (dVar 2))))
def F_is_sized : Fn := runF 3 d_is_sized
theorem bp_is_sized : BindP "is_sized" "is_sized" s_is_sized ["thing", "least", "most"] := fun _ _ _ _ _ _ us hl => match us, hl with | [_, _, _], _ => rfl
/-! #### is_pair_of -/
theorem sc_is_pair_of : FnScope ["many", "thing"] ["many", "thing"] (defScope s_is_pair_of) := ⟨rfl, rfl, rfl, by decide +kernel, rfl, by decide +kernel, by decide +kernel⟩
def d_is_pair_of : SM := (sSeq (sIf (dOr (dNot (dFn 3 F_is_sized (aCons (dVar 1) (aCons (dC (.int 2)) (aCons (dC (.int 2)) aNil))))) (dOr (dNot (dFn 3 F_is_within (aCons (d2 subT' (dVar 1) (dC (.int 0))) (aCons (dC (.int 0)) (aCons (d2 subT (dVar 0) (dC (.int 1))) aNil))))) (dNot (dFn 3 F_is_within (aCons (d2 subT' (dVar 1) (dC (.int 1))) (aCons (dC (.int 0)) (aCons (d2 subT (dVar 0) (dC (.int 1))) aNil))))))) (sRet (dC (.bl false))) sNil)
    (sRet (d2 ltT (d2 subT' (dVar 1) (dC (.int 0))) (d2 subT' (dVar 1) (dC (.int 1))))))
def F_is_pair_of : Fn := runF 2 d_is_pair_of
theorem bp_is_pair_of : BindP "is_pair_of" "is_pair_of" s_is_pair_of ["many", "thing"] := fun _ _ _ _ _ _ us hl => match us, hl with | [_, _], _ => rfl
/-! #### is_web -/
theorem sc_is_web : FnScope ["thing", "one"] ["thing"] (defScope s_is_web) := ⟨rfl, rfl, rfl, by decide +kernel, rfl, by decide +kernel, by decide +kernel⟩
def d_is_web : SM := (sSeq (sIf (dOr (dNot (dFn 3 F_is_sized (aCons (dVar 0) (aCons (dC (.int 2)) (aCons (dC (.int 2)) aNil))))) (dOr (dNot (dFn 3 F_is_within (aCons (d2 subT' (dVar 0) (dC (.int 0))) (aCons (dC (.int 1)) (aCons (dC (.int 12)) aNil))))) (dNot (dFn 3 F_is_sized (aCons (d2 subT' (dVar 0) (dC (.int 1))) (aCons (dC (.int 0)) (aCons (dC (.int 40)) aNil))))))) (sRet (dC (.bl false))) sNil)
    (sRet (dQ allQ (dLc (dIter (d2 subT' (dVar 0) (dC (.int 1)))) (.nm 1) [1] none (dFn 2 F_is_pair_of (aCons (d2 subT' (dVar 0) (dC (.int 0))) (aCons (dVar 1) aNil)))))))
def F_is_web : Fn := runF 2 d_is_web
theorem bp_is_web : BindP "is_web" "is_web" s_is_web ["thing"] := fun _ _ _ _ _ _ us hl => match us, hl with | [_], _ => rfl
/-! #### check_web -/
theorem sc_check_web : FnScope ["web"] ["web"] (defScope s_check_web) := ⟨rfl, rfl, rfl, by decide +kernel, rfl, by decide +kernel, by decide +kernel⟩
def d_check_web : SM := (sIf (dNot (dFn 1 F_is_web (aCons (dVar 0) aNil))) (sRaise0 "NoWeb") sNil)
def F_check_web : Fn := runF 1 d_check_web
theorem bp_check_web : BindP "check_web" "check_web" s_check_web ["web"] := fun _ _ _ _ _ _ us hl => match us, hl with | [_], _ => rfl
/-! #### check_two_places -/
theorem sc_check_two_places : FnScope ["web", "i", "j"] ["web", "i", "j"] (defScope s_check_two_places) := ⟨rfl, rfl, rfl, by decide +kernel, rfl, by decide +kernel, by decide +kernel⟩
def d_check_two_places : SM := (sSeq (sExpr (dFn 1 F_check_web (aCons (dVar 0) aNil)))
    (sSeq (sExpr (dFn 2 F_check_place (aCons (dVar 0) (aCons (dVar 1) aNil))))
    (sSeq (sExpr (dFn 2 F_check_place (aCons (dVar 0) (aCons (dVar 2) aNil))))
    (sIf (d2 eqT (dVar 1) (dVar 2)) (sRaise0 "NoPlace") sNil))))
def F_check_two_places : Fn := runF 3 d_check_two_places
theorem bp_check_two_places : BindP "check_two_places" "check_two_places" s_check_two_places ["web", "i", "j"] := fun _ _ _ _ _ _ us hl => match us, hl with | [_, _, _], _ => rfl
/-! #### level_of -/
theorem sc_level_of : FnScope ["web", "i", "j"] ["web", "i", "j"] (defScope s_level_of) := ⟨rfl, rfl, rfl, by decide +kernel, rfl, by decide +kernel, by decide +kernel⟩
def d_level_of : SM := (sSeq (sExpr (dFn 3 F_check_two_places (aCons (dVar 0) (aCons (dVar 1) (aCons (dVar 2) aNil)))))
    sBad)
def F_level_of : Fn := runF 3 d_level_of
theorem bp_level_of : BindP "level_of" "level_of" s_level_of ["web", "i", "j"] := fun _ _ _ _ _ _ us hl => match us, hl with | [_, _, _], _ => rfl
/-! #### check_forests_many -/
theorem sc_check_forests_many : FnScope ["web", "k"] ["web", "k"] (defScope s_check_forests_many) := ⟨rfl, rfl, rfl, by decide +kernel, rfl, by decide +kernel, by decide +kernel⟩
def d_check_forests_many : SM := (sSeq (sExpr (dFn 1 F_check_web (aCons (dVar 0) aNil)))
    (sIf (dNot (dFn 3 F_is_within (aCons (dVar 1) (aCons (dC (.int 1)) (aCons (dC (.int 6)) aNil))))) (sRaise0 "NoNumber") sNil))
def F_check_forests_many : Fn := runF 2 d_check_forests_many
theorem bp_check_forests_many : BindP "check_forests_many" "check_forests_many" s_check_forests_many ["web", "k"] := fun _ _ _ _ _ _ us hl => match us, hl with | [_, _], _ => rfl
/-! #### most_held -/
theorem sc_most_held : FnScope ["web", "k"] ["web", "k"] (defScope s_most_held) := ⟨rfl, rfl, rfl, by decide +kernel, rfl, by decide +kernel, by decide +kernel⟩
def d_most_held : SM := (sSeq (sExpr (dFn 2 F_check_forests_many (aCons (dVar 0) (aCons (dVar 1) aNil))))
    sBad)
def F_most_held : Fn := runF 2 d_most_held
theorem bp_most_held : BindP "most_held" "most_held" s_most_held ["web", "k"] := fun _ _ _ _ _ _ us hl => match us, hl with | [_, _], _ => rfl
/-! #### is_play -/
theorem sc_is_play : FnScope ["thing", "many"] ["thing"] (defScope s_is_play) := ⟨rfl, rfl, rfl, by decide +kernel, rfl, by decide +kernel, by decide +kernel⟩
def d_is_play : SM := (sSeq (sIf (dOr (dNot (dFn 3 F_is_sized (aCons (dVar 0) (aCons (dC (.int 3)) (aCons (dC (.int 3)) aNil))))) (dNot (dFn 1 F_is_web (aCons (d2 subT' (dVar 0) (dC (.int 0))) aNil)))) (sRet (dC (.bl false))) sNil)
    (sSeq (sSet 1 (d2 subT' (d2 subT' (dVar 0) (dC (.int 0))) (dC (.int 0))))
    (sRet (dAnd (dFn 3 F_is_within (aCons (d2 subT' (dVar 0) (dC (.int 1))) (aCons (dC (.int 0)) (aCons (d2 subT (dVar 1) (dC (.int 1))) aNil)))) (dAnd (dFn 3 F_is_within (aCons (d2 subT' (dVar 0) (dC (.int 2))) (aCons (dC (.int 0)) (aCons (d2 subT (dVar 1) (dC (.int 1))) aNil)))) (d2 neT (d2 subT' (dVar 0) (dC (.int 1))) (d2 subT' (dVar 0) (dC (.int 2)))))))))
def F_is_play : Fn := runF 2 d_is_play
theorem bp_is_play : BindP "is_play" "is_play" s_is_play ["thing"] := fun _ _ _ _ _ _ us hl => match us, hl with | [_], _ => rfl
/-! #### check_play -/
theorem sc_check_play : FnScope ["play"] ["play"] (defScope s_check_play) := ⟨rfl, rfl, rfl, by decide +kernel, rfl, by decide +kernel, by decide +kernel⟩
def d_check_play : SM := (sIf (dNot (dFn 1 F_is_play (aCons (dVar 0) aNil))) (sRaise0 "NoPlay") sNil)
def F_check_play : Fn := runF 1 d_check_play
theorem bp_check_play : BindP "check_play" "check_play" s_check_play ["play"] := fun _ _ _ _ _ _ us hl => match us, hl with | [_], _ => rfl
/-! #### outcome -/
theorem sc_outcome : FnScope ["play"] ["play"] (defScope s_outcome) := ⟨rfl, rfl, rfl, by decide +kernel, rfl, by decide +kernel, by decide +kernel⟩
def d_outcome : SM := (sSeq (sExpr (dFn 1 F_check_play (aCons (dVar 0) aNil)))
    sBad)
def F_outcome : Fn := runF 1 d_outcome
theorem bp_outcome : BindP "outcome" "outcome" s_outcome ["play"] := fun _ _ _ _ _ _ us hl => match us, hl with | [_], _ => rfl
/-! #### Desk.answer -/
theorem sc_Desk_answer : FnScope ["self", "word", "name", "numbers", "web", "pair", "told"] ["self", "word", "name", "numbers"] (defScope s_Desk_answer) := ⟨rfl, rfl, rfl, by decide +kernel, rfl, by decide +kernel, by decide +kernel⟩
def d_Desk_answer : SM := (sSeq (sSet 4 (dMeth "Store" "take" 2 F_Store_take (d1 (fldT "Desk" "desk_store") (dVar 0)) (aCons (dVar 2) aNil)))
    (sSeq (sIf (d2 eqT (dVar 1) (dC (.str "tie"))) (sSeq (sExpr (dFn 3 F_check_two_places (aCons (dVar 4) (aCons (d2 subT' (dVar 3) (dC (.int 0))) (aCons (d2 subT' (dVar 3) (dC (.int 1))) aNil)))))
    sBad) sNil)
    (sSeq (sIf (d2 eqT (dVar 1) (dC (.str "held"))) (sRet (dCall strC (aCons (dFn 2 F_most_held (aCons (dVar 4) (aCons (d2 subT' (dVar 3) (dC (.int 0))) aNil))) aNil))) sNil)
    (sSeq (sIf (d2 eqT (dVar 1) (dC (.str "play"))) (sRet (dFn 1 F_outcome (aCons (dTup (aCons (dVar 4) (aCons (d2 subT' (dVar 3) (dC (.int 0))) (aCons (d2 subT' (dVar 3) (dC (.int 1))) aNil)))) aNil))) sNil)
    (sSeq (sIf (d2 eqT (dVar 1) (dC (.str "level"))) (sRet (dCall strC (aCons (dFn 3 F_level_of (aCons (dVar 4) (aCons (d2 subT' (dVar 3) (dC (.int 0))) (aCons (d2 subT' (dVar 3) (dC (.int 1))) aNil)))) aNil))) sNil)
    (sSeq (sIf (d2 eqT (dVar 1) (dC (.str "strength"))) sBad sNil)
    sBad))))))
def F_Desk_answer : Fn := runF 7 d_Desk_answer
theorem bp_Desk_answer : BindP "answer" "Desk.answer" s_Desk_answer ["self", "word", "name", "numbers"] := fun _ _ _ _ _ _ us hl => match us, hl with | [_, _, _, _], _ => rfl
/-! #### check_most -/
theorem sc_check_most : FnScope ["many", "most"] ["many", "most"] (defScope s_check_most) := ⟨rfl, rfl, rfl, by decide +kernel, rfl, by decide +kernel, by decide +kernel⟩
def d_check_most : SM := (sIf (d2 gtT (dVar 0) (dVar 1)) (sRaise1 "TooMany" "most" (dVar 1)) sNil)
def F_check_most : Fn := runF 2 d_check_most
theorem bp_check_most : BindP "check_most" "check_most" s_check_most ["many", "most"] := fun _ _ _ _ _ _ us hl => match us, hl with | [_, _], _ => rfl
/-! #### Store.put -/
theorem sc_Store_put : FnScope ["self", "name", "web", "here"] ["self", "name", "web"] (defScope s_Store_put) := ⟨rfl, rfl, rfl, by decide +kernel, rfl, by decide +kernel, by decide +kernel⟩
def d_Store_put : SM := (sSeq (sIf (dNot (dFn 1 F_is_name (aCons (dVar 1) aNil))) (sRaise0 "NoName") sNil)
    (sSeq (sExpr (dFn 1 F_check_web (aCons (dVar 2) aNil)))
    (sSeq (sSet 3 (dCall dictC (aCons (dMeth "Store" "now" 1 F_Store_now (dVar 0) aNil) aNil)))
    (sSeq (sExpr (dFn 2 F_check_most (aCons (d2 addT (dCall lenC (aCons (dVar 3) aNil)) (dIfE (d2 inDT (dVar 1) (dVar 3)) (dC (.int 0)) (dC (.int 1)))) (aCons (dC (.int 50)) aNil))))
    (sSeq (sExpr (dFn 2 F_check_most (aCons (d2 addT (dCall lenC (aCons (dGet2 (dVar 3) (dVar 1) (dTup aNil)) aNil)) (dC (.int 1))) (aCons (dC (.int 20)) aNil))))
    (sSeq (sSub (dVar 3) (dVar 1) (d2 addT (dGet2 (dVar 3) (dVar 1) (dTup aNil)) (dTup (aCons (dVar 2) aNil))))
    (sSeq (sExpr (dLM appendT (d1 (fldT "Store" "store_stages") (dVar 0)) (aCons (dVar 3) aNil)))
    (sRet (d2 subT (dCall lenC (aCons (d2 subT' (dVar 3) (dVar 1)) aNil)) (dC (.int 1)))))))))))
def F_Store_put : Fn := runF 4 d_Store_put
theorem bp_Store_put : BindP "put" "Store.put" s_Store_put ["self", "name", "web"] := fun _ _ _ _ _ _ us hl => match us, hl with | [_, _, _], _ => rfl
/-! #### number_of -/
theorem sc_number_of : FnScope ["word", "sign"] ["word"] (defScope s_number_of) := ⟨rfl, rfl, rfl, by decide +kernel, rfl, by decide +kernel, by decide +kernel⟩
def d_number_of : SM := (sSeq (sIf (dOr (dNot (dChain leT leT (dC (.int 1)) (dCall lenC (aCons (dVar 0) aNil)) (dC (.int 4)))) (dNot (dQ allQ (dLc (dIter (dVar 0)) (.nm 1) [1] none (d2 inTx (dVar 1) (dC (.str "0123456789"))))))) (sRet (dC .non)) sNil)
    (sRet (dIfE (dAnd (d2 eqT (d2 subT' (dVar 0) (dC (.int 0))) (dC (.str "0"))) (d2 gtT (dCall lenC (aCons (dVar 0) aNil)) (dC (.int 1)))) (dC .non) (dCall intSC (aCons (dVar 0) aNil)))))
def F_number_of : Fn := runF 2 d_number_of
theorem bp_number_of : BindP "number_of" "number_of" s_number_of ["word"] := fun _ _ _ _ _ _ us hl => match us, hl with | [_], _ => rfl
/-! #### pair_of -/
theorem sc_pair_of : FnScope ["word", "parts", "one"] ["word"] (defScope s_pair_of) := ⟨rfl, rfl, rfl, by decide +kernel, rfl, by decide +kernel, by decide +kernel⟩
def d_pair_of : SM := (sSeq (sSet 1 (dNew (dLc (dIterL (dSplit (dVar 0) (dC (.str "-")))) (.nm 2) [2] none (dFn 1 F_number_of (aCons (dVar 2) aNil)))))
    (sRet (dIfE (dOr (d2 neT (dCall lenC (aCons (dVar 1) aNil)) (dC (.int 2))) (d2 inDT (dC .non) (dVar 1))) (dC .non) (dQ tupQ (dSeq (dVar 1))))))
def F_pair_of : Fn := runF 3 d_pair_of
theorem bp_pair_of : BindP "pair_of" "pair_of" s_pair_of ["word"] := fun _ _ _ _ _ _ us hl => match us, hl with | [_], _ => rfl
/-! #### Desk.put_web -/
theorem sc_Desk_put_web : FnScope ["self", "words", "ties", "word"] ["self", "words"] (defScope s_Desk_put_web) := ⟨rfl, rfl, rfl, by decide +kernel, rfl, by decide +kernel, by decide +kernel⟩
def d_Desk_put_web : SM := (sSeq (sIf (dOr (d2 ltT (dCall lenC (aCons (dVar 1) aNil)) (dC (.int 2))) (dOr (dNot (dFn 1 F_is_name (aCons (d2 subT' (dVar 1) (dC (.int 0))) aNil))) (d1 isNT (dFn 1 F_number_of (aCons (d2 subT' (dVar 1) (dC (.int 1))) aNil))))) (sRaise0 "NoLine") sNil)
    (sSeq (sSet 2 (dNew (dLc (dIter (dSl (dVar 1) (some (dC (.int 2))) none)) (.nm 3) [3] none (dFn 1 F_pair_of (aCons (dVar 3) aNil)))))
    (sSeq (sIf (d2 inDT (dC .non) (dVar 2)) (sRaise0 "NoLine") sNil)
    (sRet (d2 addT (dC (.str "version ")) (dCall strC (aCons (dMeth "Store" "put" 3 F_Store_put (d1 (fldT "Desk" "desk_store") (dVar 0)) (aCons (d2 subT' (dVar 1) (dC (.int 0))) (aCons (dTup (aCons (dFn 1 F_number_of (aCons (d2 subT' (dVar 1) (dC (.int 1))) aNil)) (aCons (dQ tupQ (dSeq (dVar 2))) aNil))) aNil))) aNil)))))))
def F_Desk_put_web : Fn := runF 4 d_Desk_put_web
theorem bp_Desk_put_web : BindP "put_web" "Desk.put_web" s_Desk_put_web ["self", "words"] := fun _ _ _ _ _ _ us hl => match us, hl with | [_, _], _ => rfl
/-! #### Store.names -/
theorem sc_Store_names : FnScope ["self"] ["self"] (defScope s_Store_names) := ⟨rfl, rfl, rfl, by decide +kernel, rfl, by decide +kernel, by decide +kernel⟩
def d_Store_names : SM := (sRet (dQ tupQ (dQL sortQ (dKeys (dMeth "Store" "now" 1 F_Store_now (dVar 0) aNil)))))
def F_Store_names : Fn := runF 1 d_Store_names
theorem bp_Store_names : BindP "names" "Store.names" s_Store_names ["self"] := fun _ _ _ _ _ _ us hl => match us, hl with | [_], _ => rfl
/-! #### Store.undo -/
theorem sc_Store_undo : FnScope ["self"] ["self"] (defScope s_Store_undo) := ⟨rfl, rfl, rfl, by decide +kernel, rfl, by decide +kernel, by decide +kernel⟩
def d_Store_undo : SM := (sSeq (sIf (d2 eqT (dCall lenC (aCons (d1 (fldT "Store" "store_stages") (dVar 0)) aNil)) (dC (.int 1))) (sRet (dC (.bl false))) sNil)
    (sSeq (sExpr (dLM popT (d1 (fldT "Store" "store_stages") (dVar 0)) aNil))
    (sRet (dC (.bl true)))))
def F_Store_undo : Fn := runF 1 d_Store_undo
theorem bp_Store_undo : BindP "undo" "Store.undo" s_Store_undo ["self"] := fun _ _ _ _ _ _ us hl => match us, hl with | [_], _ => rfl
/-! #### Desk.say -/
theorem sc_Desk_say : FnScope ["self", "line", "words", "numbers", "word"] ["self", "line"] (defScope s_Desk_say) := ⟨rfl, rfl, rfl, by decide +kernel, rfl, by decide +kernel, by decide +kernel⟩
def d_Desk_say : SM := (sSeq (sIf (dNot (d1 (isiT "str") (dVar 1))) (sRaise0 "NoLine") sNil)
    (sSeq (sSet 2 (dNew (dSplit (dVar 1) (dC (.str " ")))))
    (sSeq (sIf (d2 eqT (dVar 2) (dNew (dLstL (lCons (dC (.str "undo")) lNil)))) (sRet (dIfE (dMeth "Store" "undo" 1 F_Store_undo (d1 (fldT "Desk" "desk_store") (dVar 0)) aNil) (dC (.str "yes")) (dC (.str "no")))) sNil)
    (sSeq (sIf (d2 eqT (dVar 2) (dNew (dLstL (lCons (dC (.str "names")) lNil)))) (sRet (dIfE (d2 gtT (dCall lenC (aCons (dMeth "Store" "names" 1 F_Store_names (d1 (fldT "Desk" "desk_store") (dVar 0)) aNil) aNil)) (dC (.int 0))) (dJoin (dC (.str " ")) (dSeq (dMeth "Store" "names" 1 F_Store_names (d1 (fldT "Desk" "desk_store") (dVar 0)) aNil))) (dC (.str "-")))) sNil)
    (sSeq (sIf (d2 eqT (d2 subT' (dVar 2) (dC (.int 0))) (dC (.str "web"))) (sRet (dMeth "Desk" "put_web" 2 F_Desk_put_web (dVar 0) (aCons (dSl (dVar 2) (some (dC (.int 1))) none) aNil))) sNil)
    (sSeq (sIf (dOr (d1 (wdOut tab_NUMBERS) (d2 subT' (dVar 2) (dC (.int 0)))) (dOr (d2 neT (dCall lenC (aCons (dVar 2) aNil)) (d2 addT (d1 (wdT tab_NUMBERS) (d2 subT' (dVar 2) (dC (.int 0)))) (dC (.int 2)))) (dNot (dFn 1 F_is_name (aCons (d2 subT' (dVar 2) (dC (.int 1))) aNil))))) (sRaise0 "NoLine") sNil)
    (sSeq (sSet 3 (dNew (dLc (dIter (dSl (dVar 2) (some (dC (.int 2))) none)) (.nm 4) [4] none (dFn 1 F_number_of (aCons (dVar 4) aNil)))))
    (sSeq (sIf (d2 inDT (dC .non) (dVar 3)) (sRaise0 "NoLine") sNil)
    (sRet (dMeth "Desk" "answer" 4 F_Desk_answer (dVar 0) (aCons (d2 subT' (dVar 2) (dC (.int 0))) (aCons (d2 subT' (dVar 2) (dC (.int 1))) (aCons (dVar 3) aNil)))))))))))))
def F_Desk_say : Fn := runF 5 d_Desk_say
theorem bp_Desk_say : BindP "say" "Desk.say" s_Desk_say ["self", "line"] := fun _ _ _ _ _ _ us hl => match us, hl with | [_, _], _ => rfl
/-! #### _law_draw -/
theorem sc__law_draw : FnScope ["hand", "many", "cell", "digit", "number"] ["hand", "many"] (defScope s__law_draw) := ⟨rfl, rfl, rfl, by decide +kernel, rfl, by decide +kernel, by decide +kernel⟩
def d__law_draw : SM := (sSeq (sIf (dAnd (d2 eqT (d2 subT' (dVar 0) (dC (.int 2))) (dC (.int 0))) (d2 ltT (d2 subT' (dVar 0) (dC (.int 1))) (dCall lenC (aCons (d2 subT' (dVar 0) (dC (.int 0))) aNil)))) (sSeq (sSet 2 (d2 subT' (d2 subT' (dVar 0) (dC (.int 0))) (d2 subT' (dVar 0) (dC (.int 1)))))
    (sSeq (sSub (dVar 0) (dC (.int 1)) (d2 addT (d2 subT' (dVar 0) (dC (.int 1))) (dC (.int 1))))
    (sSeq (sSub (dVar 0) (dC (.int 3)) (d2 modT (dCall intC (aCons (d2 addT (d2 addT (d2 mulT (d2 subT' (dVar 0) (dC (.int 3))) (dC (.int 69621))) (d2 mulT (dVar 2) (dC (.int 40692)))) (dC (.int 41))) aNil)) (dC (.int 2147483629))))
    (sSub (dVar 0) (dC (.int 2)) (dIfE (d2 geT (dVar 2) (d2 powT (dC (.int 10)) (dC (.int 18)))) (dVar 2) (dC (.int 0))))))) sNil)
    (sSeq (sIf (d2 gtT (d2 subT' (dVar 0) (dC (.int 2))) (dC (.int 0))) (sSeq (sSet 3 (d2 modT (dCall intC (aCons (d2 subT' (dVar 0) (dC (.int 2))) aNil)) (dVar 1)))
    (sSeq (sSub (dVar 0) (dC (.int 2)) (d2 fdivT (d2 subT' (dVar 0) (dC (.int 2))) (dVar 1)))
    (sRet (dVar 3)))) sNil)
    (sSeq (sSub (dVar 0) (dC (.int 4)) (d2 addT (d2 subT' (dVar 0) (dC (.int 4))) (dC (.int 1))))
    (sSeq (sSet 4 (d2 modT (dCall intC (aCons (d2 mulT (dCall intC (aCons (d2 addT (d2 subT' (dVar 0) (dC (.int 3))) (d2 mulT (dC (.int 7927)) (d2 subT' (dVar 0) (dC (.int 4))))) aNil)) (dC (.int 48271))) aNil)) (dC (.int 2147483647))))
    (sSeq (sSet 4 (d2 modT (dCall intC (aCons (d2 mulT (dVar 4) (d2 addT (d2 fdivT (dVar 4) (dC (.int 1013))) (dC (.int 69621)))) aNil)) (dC (.int 2147483647))))
    (sSeq (sSet 4 (d2 modT (dCall intC (aCons (d2 mulT (dVar 4) (d2 addT (d2 fdivT (dVar 4) (dC (.int 2017))) (dC (.int 40014)))) aNil)) (dC (.int 2147483563))))
    (sRet (d2 modT (dCall intC (aCons (d2 fdivT (dVar 4) (dC (.int 16))) aNil)) (dVar 1)))))))))
def F__law_draw : Fn := runF 5 d__law_draw
theorem bp__law_draw : BindP "_law_draw" "_law_draw" s__law_draw ["hand", "many"] := fun _ _ _ _ _ _ us hl => match us, hl with | [_, _], _ => rfl
/-! #### _law_hand -/
theorem sc__law_hand : FnScope ["script", "cells", "cell"] ["script"] (defScope s__law_hand) := ⟨rfl, rfl, rfl, by decide +kernel, rfl, by decide +kernel, by decide +kernel⟩
def d__law_hand : SM := (sSeq (sSet 1 (dNew (dLc (dIter (dSl (dVar 0) none (some (dC (.int 63))))) (.nm 2) [2] none (d2 modT (dCall absC (aCons (dCall intC (aCons (dVar 2) aNil)) aNil)) (d2 powT (dC (.int 10)) (dC (.int 60)))))))
    (sRet (dNew (dLstL (lCons (dVar 1) (lCons (dC (.int 0)) (lCons (dC (.int 0)) (lCons (d2 addT (dC (.int 8111)) (d2 mulT (dC (.int 7)) (dCall lenC (aCons (dVar 1) aNil)))) (lCons (dC (.int 0)) lNil)))))))))
def F__law_hand : Fn := runF 3 d__law_hand
theorem bp__law_hand : BindP "_law_hand" "_law_hand" s__law_hand ["script"] := fun _ _ _ _ _ _ us hl => match us, hl with | [_], _ => rfl
/-! #### _law_web_line -/
theorem sc__law_web_line : FnScope ["name", "web", "i", "j"] ["name", "web"] (defScope s__law_web_line) := ⟨rfl, rfl, rfl, by decide +kernel, rfl, by decide +kernel, by decide +kernel⟩
def d__law_web_line : SM := (sRet (dJoin (dC (.str " ")) (dCat (dNew (dLstL (lCons (dC (.str "web")) (lCons (dVar 0) (lCons (dCall strC (aCons (d2 subT' (dVar 1) (dC (.int 0))) aNil)) lNil))))) (dNew (dLc (dIter (d2 subT' (dVar 1) (dC (.int 1)))) (.tp [(.nm 2), (.nm 3)]) [2, 3] none (d2 addT (d2 addT (dCall strC (aCons (dVar 2) aNil)) (dC (.str "-"))) (dCall strC (aCons (dVar 3) aNil))))))))
def F__law_web_line : Fn := runF 4 d__law_web_line
theorem bp__law_web_line : BindP "_law_web_line" "_law_web_line" s__law_web_line ["name", "web"] := fun _ _ _ _ _ _ us hl => match us, hl with | [_, _], _ => rfl
/-! #### _law_is_unchanged -/
theorem sc__law_is_unchanged : FnScope ["desk", "webs", "name"] ["desk", "webs"] (defScope s__law_is_unchanged) := ⟨rfl, rfl, rfl, by decide +kernel, rfl, by decide +kernel, by decide +kernel⟩
def d__law_is_unchanged : SM := (sSeq (sIf (d2 neT (dMeth "Desk" "say" 2 F_Desk_say (dVar 0) (aCons (dC (.str "names")) aNil)) (dJoin (dC (.str " ")) (dSortD (dVar 1)))) (sRet (dC (.bl false))) sNil)
    (sSeq (sFor (dIterL (dSortD (dVar 1))) (.nm 2) (sSeq (sIf (d2 neT (dMeth "Desk" "say" 2 F_Desk_say (dVar 0) (aCons (dFn 2 F__law_web_line (aCons (dVar 2) (aCons (d2 subT' (d2 subT' (dVar 1) (dVar 2)) (d1 negT (dC (.int 1)))) aNil))) aNil)) (d2 addT (dC (.str "version ")) (dCall strC (aCons (dCall lenC (aCons (d2 subT' (dVar 1) (dVar 2)) aNil)) aNil)))) (sRet (dC (.bl false))) sNil)
    (sIf (d2 neT (dMeth "Desk" "say" 2 F_Desk_say (dVar 0) (aCons (dC (.str "undo")) aNil)) (dC (.str "yes"))) (sRet (dC (.bl false))) sNil)))
    (sRet (dC (.bl true)))))
def F__law_is_unchanged : Fn := runF 3 d__law_is_unchanged
theorem bp__law_is_unchanged : BindP "_law_is_unchanged" "_law_is_unchanged" s__law_is_unchanged ["desk", "webs"] := fun _ _ _ _ _ _ us hl => match us, hl with | [_, _], _ => rfl
/-! #### _law_some -/
theorem sc__law_some : FnScope ["hand", "things"] ["hand", "things"] (defScope s__law_some) := ⟨rfl, rfl, rfl, by decide +kernel, rfl, by decide +kernel, by decide +kernel⟩
def d__law_some : SM := (sRet (d2 subT' (dVar 1) (dFn 2 F__law_draw (aCons (dVar 0) (aCons (dCall lenC (aCons (dVar 1) aNil)) aNil)))))
def F__law_some : Fn := runF 2 d__law_some
theorem bp__law_some : BindP "_law_some" "_law_some" s__law_some ["hand", "things"] := fun _ _ _ _ _ _ us hl => match us, hl with | [_, _], _ => rfl
/-! #### _law_no_line -/
theorem sc__law_no_line : FnScope ["hand", "name", "web", "good", "at", "odd", "rest"] ["hand", "name", "web"] (defScope s__law_no_line) := ⟨rfl, rfl, rfl, by decide +kernel, rfl, by decide +kernel, by decide +kernel⟩
def d__law_no_line : SM := (sSeq (sSet 3 (dFn 2 F__law_web_line (aCons (dVar 1) (aCons (dVar 2) aNil))))
    (sSeq (sSet 4 (d2 addT (d2 addT (dC (.int 5)) (dCall lenC (aCons (dVar 1) aNil))) (dFn 2 F__law_draw (aCons (dVar 0) (aCons (d2 subT (d2 subT (dCall lenC (aCons (dVar 3) aNil)) (dC (.int 4))) (dCall lenC (aCons (dVar 1) aNil))) aNil)))))
    (sSeq (sSet 5 (dNew (dLstL (lCons (dC .non) (lCons (dC (.int 0)) (lCons (dNew (dLstL (lCons (dC (.str "names")) lNil))) (lCons (dC (.str "")) (lCons (dC (.str " ")) (lCons (dC (.str "web")) (lCons (d2 addT (dC (.str "web ")) (dVar 1)) (lCons (d2 addT (d2 addT (dC (.str "Web ")) (dVar 1)) (dC (.str " 2"))) (lCons (d2 addT (dVar 3) (dC (.str " "))) (lCons (d2 addT (dC (.str " ")) (dVar 3)) lNil)))))))))))))
    (sSeq (sSet 5 (dNew (dCat (dVar 5) (dNew (dLstL (lCons (d1 (replT " " "  ") (dVar 3)) (lCons (d2 addT (d2 addT (dC (.str "web ")) (dVar 1)) (dC (.str " 02"))) (lCons (d2 addT (d2 addT (dC (.str "web ")) (dVar 1)) (dC (.str " two"))) (lCons (d2 addT (d2 addT (dC (.str "web ")) (dVar 1)) (dC (.str " -2"))) lNil)))))))))
    (sSeq (sSet 5 (dNew (dCat (dVar 5) (dNew (dLc (dIterL (dLstL (lCons (dC (.str "3 0-1 1")) (lCons (dC (.str "3 0_1")) (lCons (dC (.str "3 0-1-2")) (lCons (dC (.str "12345")) (lCons (dC (.str "3 0-01")) (lCons (dC (.str "3 0-")) lNil)))))))) (.nm 6) [6] none (d2 addT (d2 addT (d2 addT (dC (.str "web ")) (dVar 1)) (dC (.str " "))) (dVar 6)))))))
    (sSeq (sSet 5 (dNew (dCat (dVar 5) (dNew (dLc (dIterL (dLstL (lCons (dC (.str "")) (lCons (dC (.str " 0")) (lCons (dC (.str " 0 1 2")) (lCons (dC (.str " 0-1")) (lCons (dC (.str " 00 1")) (lCons (dC (.str " 0 x")) lNil)))))))) (.nm 6) [6] none (d2 addT (d2 addT (dC (.str "tie ")) (dVar 1)) (dVar 6)))))))
    (sSeq (sSet 5 (dNew (dCat (dNew (dCat (dVar 5) (dNew (dLc (dIterL (dLstL (lCons (dC (.str "")) (lCons (dC (.str " k")) (lCons (dC (.str " 1 1")) (lCons (dC (.str " 01")) lNil)))))) (.nm 6) [6] none (d2 addT (d2 addT (dC (.str "held ")) (dVar 1)) (dVar 6)))))) (dNew (dLstL (lCons (dC (.str "trees")) (lCons (d2 addT (d2 addT (dC (.str "trees ")) (dVar 1)) (dC (.str " 1"))) (lCons (dC (.str "undo 1")) lNil))))))))
    (sSeq (sSet 5 (dNew (dCat (dVar 5) (dNew (dLstL (lCons (d2 addT (dC (.str "names ")) (dVar 1)) (lCons (d2 addT (d2 addT (dC (.str "level ")) (dVar 1)) (dC (.str " 0"))) (lCons (d2 addT (d2 addT (dC (.str "play ")) (dVar 1)) (dC (.str " 0 1 2"))) (lCons (dC (.str "count")) (lCons (dC (.str "forests")) (lCons (dC (.str "strength")) lNil)))))))))))
    (sSeq (sSet 5 (dNew (dCat (dVar 5) (dNew (dLstL (lCons (d2 addT (dC (.str "drop ")) (dVar 1)) (lCons (dC (.str "undo.")) (lCons (d2 addT (d2 addT (dSl (dVar 3) none (some (dVar 4))) (dC (.str "#"))) (dSl (dVar 3) (some (dVar 4)) none)) (lCons (d2 addT (dVar 3) (dC (.str "
"))) (lCons (d2 addT (d2 addT (dC (.str "version ")) (dVar 1)) (dC (.str " 0"))) lNil))))))))))
    (sRet (dFn 2 F__law_some (aCons (dVar 0) (aCons (dVar 5) aNil)))))))))))))
def F__law_no_line : Fn := runF 7 d__law_no_line
theorem bp__law_no_line : BindP "_law_no_line" "_law_no_line" s__law_no_line ["hand", "name", "web"] := fun _ _ _ _ _ _ us hl => match us, hl with | [_, _, _], _ => rfl
/-! #### _law_web -/
theorem sc__law_web : FnScope ["hand", "most", "ties", "many", "found", "turn", "i"] ["hand", "most", "ties"] (defScope s__law_web) := ⟨rfl, rfl, rfl, by decide +kernel, rfl, by decide +kernel, by decide +kernel⟩
def d__law_web : SM := (sSeq (sSet 3 (d2 addT (dC (.int 2)) (dFn 2 F__law_draw (aCons (dVar 0) (aCons (d2 subT (dVar 1) (dC (.int 1))) aNil)))))
    (sSeq (sSet 4 (dNew (dLstL lNil)))
    (sSeq (sFor (dRng1 (dFn 2 F__law_draw (aCons (dVar 0) (aCons (d2 addT (dVar 2) (dC (.int 1))) aNil)))) (.nm 5) (sSeq (sSet 6 (dFn 2 F__law_draw (aCons (dVar 0) (aCons (d2 subT (dVar 3) (dC (.int 1))) aNil))))
    (sExpr (dLM appendT (dVar 4) (aCons (dTup (aCons (dVar 6) (aCons (d2 addT (d2 addT (dVar 6) (dC (.int 1))) (dFn 2 F__law_draw (aCons (dVar 0) (aCons (d2 subT (d2 subT (dVar 3) (dC (.int 1))) (dVar 6)) aNil)))) aNil))) aNil)))))
    (sRet (dTup (aCons (dVar 3) (aCons (dQ tupQ (dSeq (dVar 4))) aNil)))))))
def F__law_web : Fn := runF 7 d__law_web
theorem bp__law_web : BindP "_law_web" "_law_web" s__law_web ["hand", "most", "ties"] := fun _ _ _ _ _ _ us hl => match us, hl with | [_, _, _], _ => rfl
/-! #### _law_word -/
end
theorem sc__law_word : FnScope ["call", "found", "error", "flags", "words"] ["call"] (defScope s__law_word) := ⟨rfl, rfl, rfl, by decide +kernel, rfl, by decide +kernel, by decide +kernel⟩
def dh (a : Addr) (d : Option Addr) (cn : Str) : SM := (sSeq (sSet 3 (dNew (dLstL (lCons (dIsErr 2 a d (decide (cn = "NoLine"))) (lCons (dIsErr 2 a d (decide (cn = "NoName"))) (lCons (dIsErr 2 a d (decide (cn = "NoNumber"))) lNil))))))
    (sSeq (sSet 3 (dNew (dCat (dVar 3) (dNew (dLstL (lCons (dIsErr 2 a d (decide (cn = "NoPlace"))) (lCons (dIsErr 2 a d (decide (cn = "NoPlay"))) (lCons (dIsErr 2 a d (decide (cn = "NoWeb"))) lNil))))))))
    (sSeq (sSet 4 (dNew (dLstL (lCons (dC (.str "line")) (lCons (dC (.str "name")) (lCons (dC (.str "number")) (lCons (dC (.str "place")) (lCons (dC (.str "play")) (lCons (dC (.str "web")) lNil)))))))))
    (sSet 1 (dIfE (d2 eqT (dLM countBT (dVar 3) (aCons (dC (.bl true)) aNil)) (dC (.int 1))) (d2 subT' (dVar 4) (dLM indexBT (dVar 3) (aCons (dC (.bl true)) aNil))) (dC (.str "other")))))))
theorem pass_no {X : Cx} : Passes (L2.CX X.prog X.w) X (fun _ _ _ => False) := fun _ _ _ _ _ _ _ ⟨_, _, _, _, _, _, _, _, _, _, _, _, z⟩ => z.elim
theorem wordF_ne (r : Res) (c : Str) (fs : List (Str × T)) (μ : Mem) : wordF r ≠ .exc c fs μ := by
  unfold wordF
  split
  · exact fun z => nomatch z
  · split <;> exact fun z => nomatch z
  · exact fun z => nomatch z
@[simp] theorem dIsErr_e {i a d b} {σ : List (Option T)} {μ : Mem} (h : σ[i]? = some (some (.er a d))) : dIsErr i a d b σ μ = .ok (.bl b) μ := by
  unfold dIsErr; rw [h]; dsimp only; rw [if_pos ⟨rfl, rfl⟩]
theorem dh_run (a : Addr) (d : Option Addr) (c : Str) (hc : c ∈ errs) (μ : Mem) :
    dh a d c [none, some (.str "told"), some (.er a d), none, none] μ = .nx [none, some (.str (wordOf c)), some (.er a d), some (.ref (μ.length + 2)), some (.ref (μ.length + 3))] (μ ++ wordG c) := by
  have z3 : (3 : Nat) ≤ sizeLine := sz (by omega)
  have z6 : (6 : Nat) ≤ sizeLine := sz (by omega)
  have e1 : ∀ (A B : MO), (μ ++ [A] ++ [B])[μ.length]? = some A := fun A B => by simp
  have e2 : ∀ (A B : MO), (μ ++ [A] ++ [B])[μ.length + 1]? = some B := fun A B => by simp
  have e3 : ∀ (A B C D : MO), (μ ++ [A] ++ [B] ++ [C] ++ [D])[μ.length + 2]? = some C := fun A B C D => by simp
  have e4 : ∀ (A B C D : MO), (μ ++ [A] ++ [B] ++ [C] ++ [D])[μ.length + 3]? = some D := fun A B C D => by simp
  have hw : μ ++ wordG c = (μ ++ [MO.lst [.bl (decide (c = "NoLine")), .bl (decide (c = "NoName")), .bl (decide (c = "NoNumber"))]] ++ [.lst [.bl (decide (c = "NoPlace")), .bl (decide (c = "NoPlay")), .bl (decide (c = "NoWeb"))]] ++ [.lst [.bl (decide (c = "NoLine")), .bl (decide (c = "NoName")), .bl (decide (c = "NoNumber")), .bl (decide (c = "NoPlace")), .bl (decide (c = "NoPlay")), .bl (decide (c = "NoWeb"))]] ++ [.lst [.str "line", .str "name", .str "number", .str "place", .str "play", .str "web"]]) := by simp [wordG]
  rw [hw]
  unfold dh
  simp only [sSeq_e, sSet_e, dNew_e, dLstL_e, lCons_e, lNil_e, dIsErr_e, List.getElem?_cons_succ, List.getElem?_cons_zero, bindL_ok, lbind_ok, toS_ok, seq_nx, List.length_cons, List.length_nil, if_pos z3, if_pos z6, List.set_cons_zero, List.set_cons_succ, Nat.zero_add, Nat.reduceAdd, List.length_append]
  simp only [dCat, dVar_s, dVar_0, bindL_ok, toS_ok, bind_ok, lbind_ok, List.length_append, List.length_cons, List.length_nil, Nat.zero_add, dC_e, e1, e2, if_pos z3, if_pos z6, dNew_e, dIsErr_e, List.getElem?_cons_succ, List.getElem?_cons_zero, dLstL_e, lCons_e, lNil_e, Nat.reduceAdd, List.set_cons_zero, List.set_cons_succ, sSeq_e, sSet_e, seq_nx, List.cons_append, List.nil_append, dIfE_e, d2_e, Nat.add_assoc]
  have hil : isLst (μ ++ [MO.lst [.bl (decide (c = "NoLine")), .bl (decide (c = "NoName")), .bl (decide (c = "NoNumber"))]] ++ [.lst [.bl (decide (c = "NoPlace")), .bl (decide (c = "NoPlay")), .bl (decide (c = "NoWeb"))]] ++ [.lst [.bl (decide (c = "NoLine")), .bl (decide (c = "NoName")), .bl (decide (c = "NoNumber")), .bl (decide (c = "NoPlace")), .bl (decide (c = "NoPlay")), .bl (decide (c = "NoWeb"))]] ++ [.lst [.str "line", .str "name", .str "number", .str "place", .str "play", .str "web"]]) (.ref (μ.length + 2)) = true := by
    unfold isLst; dsimp only; rw [e3]
  have b1 : dLM countBT (dVar 3) (aCons (dC (T.bl true)) aNil) [none, some (.str "told"), some (.er a d), some (.ref (μ.length + 2)), some (.ref (μ.length + 3))] (μ ++ [MO.lst [.bl (decide (c = "NoLine")), .bl (decide (c = "NoName")), .bl (decide (c = "NoNumber"))]] ++ [.lst [.bl (decide (c = "NoPlace")), .bl (decide (c = "NoPlay")), .bl (decide (c = "NoWeb"))]] ++ [.lst [.bl (decide (c = "NoLine")), .bl (decide (c = "NoName")), .bl (decide (c = "NoNumber")), .bl (decide (c = "NoPlace")), .bl (decide (c = "NoPlay")), .bl (decide (c = "NoWeb"))]] ++ [.lst [.str "line", .str "name", .str "number", .str "place", .str "play", .str "web"]]) = .ok (.int 1) (μ ++ [MO.lst [.bl (decide (c = "NoLine")), .bl (decide (c = "NoName")), .bl (decide (c = "NoNumber"))]] ++ [.lst [.bl (decide (c = "NoPlace")), .bl (decide (c = "NoPlay")), .bl (decide (c = "NoWeb"))]] ++ [.lst [.bl (decide (c = "NoLine")), .bl (decide (c = "NoName")), .bl (decide (c = "NoNumber")), .bl (decide (c = "NoPlace")), .bl (decide (c = "NoPlay")), .bl (decide (c = "NoWeb"))]] ++ [.lst [.str "line", .str "name", .str "number", .str "place", .str "play", .str "web"]]) := by
    unfold dLM
    simp only [dVar_s, dVar_0, bind_ok, aCons_e, aNil_e, dC_e]
    rw [if_pos hil]
    unfold countBT
    dsimp only
    rw [e3]
    simp only [errs, List.mem_cons, List.not_mem_nil, or_false] at hc
    rcases hc with rfl | rfl | rfl | rfl | rfl | rfl <;> rfl
  have b2 : dLM indexBT (dVar 3) (aCons (dC (T.bl true)) aNil) [none, some (.str "told"), some (.er a d), some (.ref (μ.length + 2)), some (.ref (μ.length + 3))] (μ ++ [MO.lst [.bl (decide (c = "NoLine")), .bl (decide (c = "NoName")), .bl (decide (c = "NoNumber"))]] ++ [.lst [.bl (decide (c = "NoPlace")), .bl (decide (c = "NoPlay")), .bl (decide (c = "NoWeb"))]] ++ [.lst [.bl (decide (c = "NoLine")), .bl (decide (c = "NoName")), .bl (decide (c = "NoNumber")), .bl (decide (c = "NoPlace")), .bl (decide (c = "NoPlay")), .bl (decide (c = "NoWeb"))]] ++ [.lst [.str "line", .str "name", .str "number", .str "place", .str "play", .str "web"]]) = .ok (.int ([decide (c = "NoLine"), decide (c = "NoName"), decide (c = "NoNumber"), decide (c = "NoPlace"), decide (c = "NoPlay"), decide (c = "NoWeb")].idxOf true : Nat)) (μ ++ [MO.lst [.bl (decide (c = "NoLine")), .bl (decide (c = "NoName")), .bl (decide (c = "NoNumber"))]] ++ [.lst [.bl (decide (c = "NoPlace")), .bl (decide (c = "NoPlay")), .bl (decide (c = "NoWeb"))]] ++ [.lst [.bl (decide (c = "NoLine")), .bl (decide (c = "NoName")), .bl (decide (c = "NoNumber")), .bl (decide (c = "NoPlace")), .bl (decide (c = "NoPlay")), .bl (decide (c = "NoWeb"))]] ++ [.lst [.str "line", .str "name", .str "number", .str "place", .str "play", .str "web"]]) := by
    unfold dLM
    simp only [dVar_s, dVar_0, bind_ok, aCons_e, aNil_e, dC_e]
    rw [if_pos hil]
    unfold indexBT
    dsimp only
    rw [e3]
    dsimp only [unBs, Option.map]
    rw [if_pos ⟨sz (by simp), by
      simp only [errs, List.mem_cons, List.not_mem_nil, or_false] at hc
      rcases hc with rfl | rfl | rfl | rfl | rfl | rfl <;> decide⟩]
  simp only [b1, b2, bind_ok, eqT_i, dC_e, ifK_e, decide_true, if_true, d2_e, dVar_s, dVar_0]
  rw [subL (e4 _ _ _ _) (t := .str (wordOf c)) (by
    simp only [errs, List.mem_cons, List.not_mem_nil, or_false] at hc
    rcases hc with rfl | rfl | rfl | rfl | rfl | rfl <;> rfl)]
  rfl
theorem dh_ok {X : Cx} {TE : Addr} (ht : ∀ cn ∈ errs, ∀ C, X.mg cn = some (.ref C) → PySem.W.exmOne X.K (.ref C) (.ref TE) = some true) (c : Str) (fs : List (Str × T)) (μ : Mem) : wordF (.exc c fs μ) = .bad ∨ ∃ w μ'', wordF (.exc c fs μ) = .ok (.str w) μ'' ∧ c ∈ errs ∧ (∀ C, X.mg c = some (.ref C) → PySem.W.exmOne X.K (.ref C) (.ref TE) = some true) ∧
    ∀ a d, ∃ σT', dh a d c ((none :: some (.str "told") :: List.replicate (([("call" : Str), "found", "error", "flags", "words"] : List Str).length - 2) none).set 2 (some (.er a d))) μ = .nx σT' μ'' ∧ σT'[1]? = some (some (.str w)) := by
  have w0 : wordF (.exc c fs μ) = if c ∈ errs then .ok (.str (wordOf c)) (μ ++ wordG c) else .bad := rfl
  rw [w0]
  by_cases h : c ∈ errs
  · refine .inr ⟨wordOf c, μ ++ wordG c, by rw [if_pos h], h, ht c h, fun a d => ?_⟩
    exact ⟨_, dh_run a d c h μ, rfl⟩
  · exact .inl (by rw [if_neg h])
theorem bp__law_word : BindP "_law_word" "_law_word" s__law_word ["call"] := fun _ _ _ _ _ _ us hl => match us, hl with | [_], _ => rfl
theorem word_gives {X : Cx} {tb : List (Addr × Str)} {kr : Nat} {g : Addr} {cdg : Value} {q : Str} (T : TX X.w X.K X.mg) : GivesS kr X ["call", "found", "error", "flags", "words"] "_law_word" (defScope s__law_word) g cdg (defBody s__law_word) "call" q (TTw (gx X tb) wordF) := by
  obtain ⟨TE, mt, ht⟩ := T.te
  obtain ⟨_, m_NoLine⟩ := T.es "NoLine" (by decide)
  obtain ⟨_, m_NoName⟩ := T.es "NoName" (by decide)
  obtain ⟨_, m_NoNumber⟩ := T.es "NoNumber" (by decide)
  obtain ⟨_, m_NoPlace⟩ := T.es "NoPlace" (by decide)
  obtain ⟨_, m_NoPlay⟩ := T.es "NoPlay" (by decide)
  obtain ⟨_, m_NoWeb⟩ := T.es "NoWeb" (by decide)
  exact gives_word (dh := dh) (cls := errs) (TE := TE) (i := 2) sc__law_word.nd rfl rfl (by decide) (by decide) rfl rfl rfl (by decide) mt (by decide) (by decide) (fun s H a oe C cn d pn hrm hcn hmc hz hf => by have hu1 := huk1 hrm; have hu64 := huk64 hrm; have hu65 := huk65 hrm; exact (ss_cons (s_set 3 sc__law_word.nd (e_new (l_lst (m_cons (e_isErr 2 (T.er cn hcn C hmc).1 hz hf ((T.er cn hcn C hmc).2 "NoLine" (by decide) _ m_NoLine) T.b_isinstance m_NoLine) (m_cons (e_isErr 2 (T.er cn hcn C hmc).1 hz hf ((T.er cn hcn C hmc).2 "NoName" (by decide) _ m_NoName) T.b_isinstance m_NoName) (m_cons (e_isErr 2 (T.er cn hcn C hmc).1 hz hf ((T.er cn hcn C hmc).2 "NoNumber" (by decide) _ m_NoNumber) T.b_isinstance m_NoNumber) m_nil))))))
    (ss_cons (s_set 3 sc__law_word.nd (e_new (l_cat (e_var 3) (e_new (l_lst (m_cons (e_isErr 2 (T.er cn hcn C hmc).1 hz hf ((T.er cn hcn C hmc).2 "NoPlace" (by decide) _ m_NoPlace) T.b_isinstance m_NoPlace) (m_cons (e_isErr 2 (T.er cn hcn C hmc).1 hz hf ((T.er cn hcn C hmc).2 "NoPlay" (by decide) _ m_NoPlay) T.b_isinstance m_NoPlay) (m_cons (e_isErr 2 (T.er cn hcn C hmc).1 hz hf ((T.er cn hcn C hmc).2 "NoWeb" (by decide) _ m_NoWeb) T.b_isinstance m_NoWeb) m_nil))))))))
    (ss_cons (s_set 4 sc__law_word.nd (e_new (l_lst (m_cons e_str (m_cons e_str (m_cons e_str (m_cons e_str (m_cons e_str (m_cons e_str m_nil)))))))))
    (ss_one (s_set 1 sc__law_word.nd (e_ifExp (t_cmp (opl_eq hu64) (e_lm (ml_countB hu1) PySem.F.slot_list_count PySem.F.type_list_count (e_var 3) (a_cons e_bl a_nil)) e_int) (e_ix (ixlD hu1) (e_var 4) (e_lm (ml_indexB hu1) PySem.F.slot_list_index PySem.F.type_list_index (e_var 3) (a_cons e_bl a_nil))) e_str))))))) (fun _ _ => rfl) rfl (dh_ok ht)
theorem e_word {X : Cx} {tb : List (Addr × Str)} {E : XK} {k : Nat} {c P_ gw : Addr} {cw : Value} {params : Arguments} {body : Expr} {scope : Scope} {d : EM} {p lpos pos : Pos} (T : TX X.w X.K X.mg) (TW : FD X.K "_law_word" "_law_word" s__law_word gw cw) (mw : X.mg "_law_word" = some (.ref gw)) (hcode : X.env.code = .ref c)
    (TB : LamX.TabB X.base X.mg c P_) (hmT : (P_, X.env.qual ++ "<lambda>") ∈ tb) (hu : ∀ p ∈ tb, p.1 = P_ → p.2 = X.env.qual ++ "<lambda>") (hr : Room (k + 2) X.A) (L : LamX.LamS X.env.scope scope)
    (hbody : ∀ (A : Around) (outer : List Env) (s : Shared) (H : Hp) (E1 : XK) (f c' : Addr), Room k (A.deeper (LamX.lamEnv X scope s.heap.objs.size f c')) → PE (LamX.lamCx X A outer s H E1 scope f c') body (tE (gx X tb) E1 d))
    (hdef : defaultsOf params X.env = ([], []) := by rfl) (hbind : ∀ (q : Str) (cl : List (Str × Addr)) (pm cv ctv : Value), bindArgs (PySem.W.kla_fn "<lambda>" q params body scope cl pm cv ctv) ⟨[], []⟩ = pure [] := by intros; rfl)
    (hg : Gl X "_law_word" := by rfl) : PE X (.Call (.Name "_law_word" p) [.Lambda params body scope lpos] [] pos) (tE (gx X tb) E (fun σ μ => wordF (d σ μ))) :=
  e_lam TW mw bp__law_word sc__law_word rfl (.inl rfl) (word_gives T) wordF_ne TB hcode hmT hu hr L hbody hdef hbind hg
section
variable {P : Program} {w : World} {K : PySem.W.Frag} {mg : Str → Option Value} {base : Heap} {tb : List (Addr × Str)}
/-! #### _law_wrong -/
theorem sc__law_wrong : FnScope ["hand", "name", "web", "many", "far", "odd", "k", "rest"] ["hand", "name", "web"] (defScope s__law_wrong) := ⟨rfl, rfl, rfl, by decide +kernel, rfl, by decide +kernel, by decide +kernel⟩
def d__law_wrong : SM := (sSeq (sSet 3 (d2 subT' (dVar 2) (dC (.int 0))))
    (sSeq (sSet 4 (dCall strC (aCons (d2 addT (dVar 3) (dFn 2 F__law_draw (aCons (dVar 0) (aCons (dC (.int 3)) aNil)))) aNil)))
    (sSeq (sSet 5 (dNew (dLstL (lCons (dTup (aCons (dC (.str "held nosuch 1")) (aCons (dC (.str "name")) aNil))) (lCons (dTup (aCons (dC (.str "trees nosuch")) (aCons (dC (.str "name")) aNil))) (lCons (dTup (aCons (dC (.str "count nosuch")) (aCons (dC (.str "name")) aNil))) (lCons (dTup (aCons (dC (.str "tie nosuch 0 1")) (aCons (dC (.str "name")) aNil))) lNil)))))))
    (sSeq (sSet 5 (dNew (dCat (dVar 5) (dNew (dLstL (lCons (dTup (aCons (dC (.str "level nosuch 0 1")) (aCons (dC (.str "name")) aNil))) (lCons (dTup (aCons (dC (.str "play nosuch 0 1")) (aCons (dC (.str "name")) aNil))) (lCons (dTup (aCons (dC (.str "strength nosuch")) (aCons (dC (.str "name")) aNil))) lNil))))))))
    (sSeq (sSet 5 (dNew (dCat (dVar 5) (dNew (dLc (dIterL (dLstL (lCons (dC (.str "0")) (lCons (dC (.str "7")) (lCons (dC (.str "9999")) lNil))))) (.nm 6) [6] none (dTup (aCons (d2 addT (d2 addT (d2 addT (dC (.str "held ")) (dVar 1)) (dC (.str " "))) (dVar 6)) (aCons (dC (.str "number")) aNil))))))))
    (sSeq (sSet 5 (dNew (dCat (dVar 5) (dNew (dLstL (lCons (dTup (aCons (d2 addT (d2 addT (d2 addT (dC (.str "level ")) (dVar 1)) (dC (.str " 0 "))) (dVar 4)) (aCons (dC (.str "place")) aNil))) (lCons (dTup (aCons (d2 addT (d2 addT (dC (.str "level ")) (dVar 1)) (dC (.str " 1 1"))) (aCons (dC (.str "place")) aNil))) lNil)))))))
    (sSeq (sSet 5 (dNew (dCat (dVar 5) (dNew (dLstL (lCons (dTup (aCons (d2 addT (d2 addT (d2 addT (d2 addT (dC (.str "level ")) (dVar 1)) (dC (.str " "))) (dVar 4)) (dC (.str " 0"))) (aCons (dC (.str "place")) aNil))) (lCons (dTup (aCons (d2 addT (d2 addT (d2 addT (dC (.str "play ")) (dVar 1)) (dC (.str " 0 "))) (dVar 4)) (aCons (dC (.str "play")) aNil))) lNil)))))))
    (sSeq (sSet 5 (dNew (dCat (dVar 5) (dNew (dLstL (lCons (dTup (aCons (d2 addT (d2 addT (dC (.str "play ")) (dVar 1)) (dC (.str " 1 1"))) (aCons (dC (.str "play")) aNil))) (lCons (dTup (aCons (d2 addT (d2 addT (dC (.str "tie ")) (dVar 1)) (dC (.str " 1 1"))) (aCons (dC (.str "place")) aNil))) lNil)))))))
    (sSeq (sSet 5 (dNew (dCat (dVar 5) (dNew (dLc (dIterL (dLstL (lCons (dC (.str "0")) (lCons (dC (.str "13")) (lCons (dC (.str "3 0-3")) (lCons (d2 addT (dC (.str "2")) (d2 mulS (dC (.str " 0-1")) (dC (.int 41)))) lNil)))))) (.nm 7) [7] none (dTup (aCons (d2 addT (d2 addT (d2 addT (dC (.str "web ")) (dVar 1)) (dC (.str " "))) (dVar 7)) (aCons (dC (.str "web")) aNil))))))))
    (sRet (dFn 2 F__law_some (aCons (dVar 0) (aCons (dVar 5) aNil)))))))))))))
def F__law_wrong : Fn := runF 8 d__law_wrong
theorem bp__law_wrong : BindP "_law_wrong" "_law_wrong" s__law_wrong ["hand", "name", "web"] := fun _ _ _ _ _ _ us hl => match us, hl with | [_, _, _], _ => rfl
/-! #### law -/
theorem sc_law : FnScope ["script", "hand", "desk", "webs", "name", "turn", "line", "wrong", "word"] ["script"] (defScope s_law) := ⟨rfl, rfl, rfl, by decide +kernel, rfl, by decide +kernel, by decide +kernel⟩
def d_law : SM := (sSeq (sSet 1 (dFn 1 F__law_hand (aCons (dVar 0) aNil)))
    (sSeq (sAsg (.tp [(.nm 2), (.nm 3)]) (dTup (aCons (dMake "Desk" 1 F_Deskdd_initdd aNil) (aCons (fun _ μ => .ok (.ref μ.length) (μ ++ [.dct []])) aNil))))
    (sSeq (sFor (dIter (dSl (dNew (dLstL (lCons (dC (.str "a")) (lCons (dC (.str "bee")) (lCons (dC (.str "longname")) lNil))))) none (some (d2 addT (dC (.int 1)) (dFn 2 F__law_draw (aCons (dVar 1) (aCons (dC (.int 3)) aNil))))))) (.nm 4) (sSeq (sSub (dVar 3) (dVar 4) (dNew (dLstL lNil)))
    (sFor (dRng1 (d2 addT (dC (.int 1)) (dFn 2 F__law_draw (aCons (dVar 1) (aCons (dC (.int 2)) aNil))))) (.nm 5) (sSeq (sSub (dVar 3) (dVar 4) (dNew (dCat (d2 subT' (dVar 3) (dVar 4)) (dNew (dLstL (lCons (dFn 3 F__law_web (aCons (dVar 1) (aCons (dC (.int 5)) (aCons (dC (.int 7)) aNil)))) lNil))))))
    (sIf (d2 neT (dMeth "Desk" "say" 2 F_Desk_say (dVar 2) (aCons (dFn 2 F__law_web_line (aCons (dVar 4) (aCons (d2 subT' (d2 subT' (dVar 3) (dVar 4)) (d1 negT (dC (.int 1)))) aNil))) aNil)) (d2 addT (dC (.str "version ")) (dCall strC (aCons (dVar 5) aNil)))) (sRet (dC (.bl false))) sNil)))))
    (sSeq (sFor (dRng1 (dC (.int 8))) (.nm 5) (sSeq (sSet 4 (dFn 2 F__law_some (aCons (dVar 1) (aCons (dNew (dSortD (dVar 3))) aNil))))
    (sSeq (sSet 6 (dFn 3 F__law_no_line (aCons (dVar 1) (aCons (dVar 4) (aCons (d2 subT' (d2 subT' (dVar 3) (dVar 4)) (d1 negT (dC (.int 1)))) aNil)))))
    (sSeq (sIf (d2 neT (fun σ μ => wordF ((dMeth "Desk" "say" 2 F_Desk_say (dVar 2) (aCons (dVar 6) aNil)) σ μ)) (dC (.str "line"))) (sRet (dC (.bl false))) sNil)
    (sSeq (sAsg (.tp [(.nm 7), (.nm 8)]) (dFn 3 F__law_wrong (aCons (dVar 1) (aCons (dVar 4) (aCons (d2 subT' (d2 subT' (dVar 3) (dVar 4)) (d1 negT (dC (.int 1)))) aNil)))))
    (sIf (dOr (d2 neT (fun σ μ => wordF ((dMeth "Desk" "say" 2 F_Desk_say (dVar 2) (aCons (dVar 7) aNil)) σ μ)) (dVar 8)) (dNot (dFn 2 F__law_is_unchanged (aCons (dVar 2) (aCons (dVar 3) aNil))))) (sRet (dC (.bl false))) sNil))))))
    (sRet (dC (.bl true)))))))
def F_law : Fn := runF 9 d_law
theorem bp_law : BindP "law" "law" s_law ["script"] := fun _ _ _ _ _ _ us hl => match us, hl with | [_], _ => rfl
end
end K81
set_option Elab.async false
set_option linter.all false
set_option maxRecDepth 100000
set_option maxHeartbeats 4000000
namespace K81
open PySem PySem.Spec PyProof.Rows L2 TL
variable {P : Program} {w : World} {K : PySem.W.Frag} {mg : Str → Option Value} {base : Heap} {tb : List (Addr × Str)}
theorem ok_Storedd_initdd {f : Addr} {cdv : Value} {Ca : Addr} (F : FD K "__init__" "Store.__init__" s_Storedd_initdd f cdv) (hmf : mg "Store" = some (.ref Ca)) (mk : Mk K Ca f) (T : TX w K mg) : CDef P w K mg base tb "Store" 1 F_Storedd_initdd 1 :=
  cls_of (k := 0) F hmf mk sc_Storedd_initdd bp_Storedd_initdd fun A outer s H E hr => (ss_one (s_fld T.f_Store_store_stages (e_var 0) (e_new (l_lst (m_cons e_dnew m_nil)))))
theorem ok_Deskdd_initdd {f : Addr} {cdv : Value} {Ca : Addr} (F : FD K "__init__" "Desk.__init__" s_Deskdd_initdd f cdv) (hmf : mg "Desk" = some (.ref Ca)) (mk : Mk K Ca f) (T : TX w K mg) (D_Storedd_initdd : CDef P w K mg base tb "Store" 1 F_Storedd_initdd 1) : CDef P w K mg base tb "Desk" 1 F_Deskdd_initdd 3 :=
  cls_of (k := 2) F hmf mk sc_Deskdd_initdd bp_Deskdd_initdd fun A outer s H E hr => (ss_one (s_fld T.f_Desk_desk_store (e_var 0) (e_make0 D_Storedd_initdd (hr.mono (by decide)) (takes_of rfl rfl rfl rfl))))
theorem ok_Store_now {f : Addr} {cdv : Value} {Ca : Addr} (F : FD K "now" "Store.now" s_Store_now f cdv) (hmf : mg "Store" = some (.ref Ca)) (cl : Cls K Ca) (mt : Meth K Ca "now" f) (T : TX w K mg) : MDef P w K mg base tb "Store" "now" 1 F_Store_now 1 :=
  meth_of (k := 0) F hmf cl mt sc_Store_now bp_Store_now fun A outer s H E hr => (ss_one (s_ret (e_ix (ixlD (huk1 hr)) (e_fld T.f_Store_store_stages (e_var 0)) (e_neg e_int))))
theorem ok_is_name {f : Addr} {cdv : Value} (F : FD K "is_name" "is_name" s_is_name f cdv) (hmf : mg "is_name" = some (.ref f)) (T : TX w K mg) : Def P w K mg base tb "is_name" 1 F_is_name 1 :=
  def_of (k := 0) F hmf sc_is_name bp_is_name fun A outer s H E hr => (ss_one (s_ret (e_and (e_isi "str" T.b_isinstance T.b_str (e_var 0)) (e_and (e_chain opl_le opl_le e_int (e_callB cl_len T.b_len (a_cons (e_var 0) a_nil)) (e_glob T.g_MOST_NAME)) (e_one (e_callQB (cq_all rfl) T.b_all (ql_ofL (l_lc (own := [("sign", 1)]) rfl sc_is_name.nd (i_seq (e_var 0)) (show BlkOk ["thing", "sign"] (defScope s_is_name) _ [("sign", 1)] from blk_by (by decide +kernel)) (by decide) (fun _ _ _ _ _ => (g_name 1 sc_is_name.nd)) (fun _ _ _ _ _ => rfl) (fun _ _ _ _ _ => (e_cmp opl_inTx (e_var 1) (e_glob T.g_LETTERS)))))))))))
theorem ok_Store_check_there {f : Addr} {cdv : Value} {Ca : Addr} (F : FD K "check_there" "Store.check_there" s_Store_check_there f cdv) (hmf : mg "Store" = some (.ref Ca)) (cl : Cls K Ca) (mt : Meth K Ca "check_there" f) (T : TX w K mg) (D_Store_now : MDef P w K mg base tb "Store" "now" 1 F_Store_now 1) (D_is_name : Def P w K mg base tb "is_name" 1 F_is_name 1) : MDef P w K mg base tb "Store" "check_there" 2 F_Store_check_there 2 :=
  meth_of (k := 1) F hmf cl mt sc_Store_check_there bp_Store_check_there fun A outer s H E hr => (ss_one (s_if (t_w (w_or (t_not (t_val (e_call D_is_name (hr.mono (by decide)) (takes_of rfl rfl rfl rfl) (a_cons (e_var 1) a_nil)))) (w_one (t_cmp (opl_notInD (huk65 hr)) (e_var 1) (e_meth0 D_Store_now (e_var 0) (hr.mono (by decide)) (takes_of rfl rfl rfl rfl))) (.inr rfl)))) (ss_one (s_raise0 T.x_NoName rfl (takes_of rfl rfl rfl rfl))) ss_nil))
theorem ok_Store_take {f : Addr} {cdv : Value} {Ca : Addr} (F : FD K "take" "Store.take" s_Store_take f cdv) (hmf : mg "Store" = some (.ref Ca)) (cl : Cls K Ca) (mt : Meth K Ca "take" f) (T : TX w K mg) (D_Store_check_there : MDef P w K mg base tb "Store" "check_there" 2 F_Store_check_there 2) (D_Store_now : MDef P w K mg base tb "Store" "now" 1 F_Store_now 1) : MDef P w K mg base tb "Store" "take" 2 F_Store_take 3 :=
  meth_of (k := 2) F hmf cl mt sc_Store_take bp_Store_take fun A outer s H E hr => (ss_cons (s_expr (e_meth D_Store_check_there (e_var 0) (hr.mono (by decide)) (takes_of rfl rfl rfl rfl) (a_cons (e_var 1) a_nil)))
    (ss_one (s_ret (e_ix (ixlD (huk1 hr)) (e_ix (ixlD (huk1 hr)) (e_meth0 D_Store_now (e_var 0) (hr.mono (by decide)) (takes_of rfl rfl rfl rfl)) (e_var 1)) (e_neg e_int)))))
theorem ok_is_int {f : Addr} {cdv : Value} (F : FD K "is_int" "is_int" s_is_int f cdv) (hmf : mg "is_int" = some (.ref f)) (T : TX w K mg) : Def P w K mg base tb "is_int" 1 F_is_int 1 :=
  def_of (k := 0) F hmf sc_is_int bp_is_int fun A outer s H E hr => (ss_one (s_ret (e_and (e_isi "int" T.b_isinstance T.b_int (e_var 0)) (e_one (e_not (e_isi "bool" T.b_isinstance T.b_bool (e_var 0)))))))
theorem ok_is_within {f : Addr} {cdv : Value} (F : FD K "is_within" "is_within" s_is_within f cdv) (hmf : mg "is_within" = some (.ref f)) (T : TX w K mg) (D_is_int : Def P w K mg base tb "is_int" 1 F_is_int 1) : Def P w K mg base tb "is_within" 3 F_is_within 2 :=
  def_of (k := 1) F hmf sc_is_within bp_is_within fun A outer s H E hr => (ss_one (s_ret (e_and (e_call D_is_int (hr.mono (by decide)) (takes_of rfl rfl rfl rfl) (a_cons (e_var 0) a_nil)) (e_one (e_chain opl_le opl_le (e_var 1) (e_var 0) (e_var 2))))))
theorem ok_check_place {f : Addr} {cdv : Value} (F : FD K "check_place" "check_place" s_check_place f cdv) (hmf : mg "check_place" = some (.ref f)) (T : TX w K mg) (D_is_within : Def P w K mg base tb "is_within" 3 F_is_within 2) : Def P w K mg base tb "check_place" 2 F_check_place 3 :=
  def_of (k := 2) F hmf sc_check_place bp_check_place fun A outer s H E hr => (ss_one (s_if (t_not (t_val (e_call D_is_within (hr.mono (by decide)) (takes_of rfl rfl rfl rfl) (a_cons (e_var 1) (a_cons e_int (a_cons (e_op opl_sub (e_ix (ixlD (huk1 hr)) (e_var 0) e_int) e_int) a_nil)))))) (ss_one (s_raise0 T.x_NoPlace rfl (takes_of rfl rfl rfl rfl))) ss_nil))
theorem ok_is_sized {f : Addr} {cdv : Value} (F : FD K "is_sized" "is_sized" s_is_sized f cdv) (hmf : mg "is_sized" = some (.ref f)) (T : TX w K mg) : Def P w K mg base tb "is_sized" 3 F_is_sized 1 :=
  def_of (k := 0) F hmf sc_is_sized bp_is_sized fun A outer s H E hr => (ss_one (s_ret (e_and (e_isi "tuple" T.b_isinstance T.b_tuple (e_var 0)) (e_one (e_chain opl_le opl_le (e_var 1) (e_callB cl_len T.b_len (a_cons (e_var 0) a_nil)) (e_var 2))))))
theorem ok_is_pair_of {f : Addr} {cdv : Value} (F : FD K "is_pair_of" "is_pair_of" s_is_pair_of f cdv) (hmf : mg "is_pair_of" = some (.ref f)) (T : TX w K mg) (D_is_sized : Def P w K mg base tb "is_sized" 3 F_is_sized 1) (D_is_within : Def P w K mg base tb "is_within" 3 F_is_within 2) : Def P w K mg base tb "is_pair_of" 2 F_is_pair_of 3 :=
  def_of (k := 2) F hmf sc_is_pair_of bp_is_pair_of fun A outer s H E hr => (ss_cons (s_if (t_w (w_or (t_not (t_val (e_call D_is_sized (hr.mono (by decide)) (takes_of rfl rfl rfl rfl) (a_cons (e_var 1) (a_cons e_int (a_cons e_int a_nil)))))) (w_or (t_not (t_val (e_call D_is_within (hr.mono (by decide)) (takes_of rfl rfl rfl rfl) (a_cons (e_ix (ixlD (huk1 hr)) (e_var 1) e_int) (a_cons e_int (a_cons (e_op opl_sub (e_var 0) e_int) a_nil)))))) (w_one (t_not (t_val (e_call D_is_within (hr.mono (by decide)) (takes_of rfl rfl rfl rfl) (a_cons (e_ix (ixlD (huk1 hr)) (e_var 1) e_int) (a_cons e_int (a_cons (e_op opl_sub (e_var 0) e_int) a_nil)))))) (.inr rfl))))) (ss_one (s_ret e_bl)) ss_nil)
    (ss_one (s_ret (e_cmp opl_lt (e_ix (ixlD (huk1 hr)) (e_var 1) e_int) (e_ix (ixlD (huk1 hr)) (e_var 1) e_int)))))
theorem ok_is_web {f : Addr} {cdv : Value} (F : FD K "is_web" "is_web" s_is_web f cdv) (hmf : mg "is_web" = some (.ref f)) (T : TX w K mg) (D_is_pair_of : Def P w K mg base tb "is_pair_of" 2 F_is_pair_of 3) (D_is_sized : Def P w K mg base tb "is_sized" 3 F_is_sized 1) (D_is_within : Def P w K mg base tb "is_within" 3 F_is_within 2) : Def P w K mg base tb "is_web" 1 F_is_web 4 :=
  def_of (k := 3) F hmf sc_is_web bp_is_web fun A outer s H E hr => (ss_cons (s_if (t_w (w_or (t_not (t_val (e_call D_is_sized (hr.mono (by decide)) (takes_of rfl rfl rfl rfl) (a_cons (e_var 0) (a_cons e_int (a_cons e_int a_nil)))))) (w_or (t_not (t_val (e_call D_is_within (hr.mono (by decide)) (takes_of rfl rfl rfl rfl) (a_cons (e_ix (ixlD (huk1 hr)) (e_var 0) e_int) (a_cons e_int (a_cons (e_glob T.g_MOST_PLACES) a_nil)))))) (w_one (t_not (t_val (e_call D_is_sized (hr.mono (by decide)) (takes_of rfl rfl rfl rfl) (a_cons (e_ix (ixlD (huk1 hr)) (e_var 0) e_int) (a_cons e_int (a_cons (e_glob T.g_MOST_TIES) a_nil)))))) (.inr rfl))))) (ss_one (s_ret e_bl)) ss_nil)
    (ss_one (s_ret (e_callQB (cq_all rfl) T.b_all (ql_ofL (l_lc (own := [("one", 1)]) rfl sc_is_web.nd (i_seq (e_ix (ixlD (huk1 hr)) (e_var 0) e_int)) (show BlkOk ["thing", "one"] (defScope s_is_web) _ [("one", 1)] from blk_by (by decide +kernel)) (by decide) (fun _ _ _ _ _ => (g_name 1 sc_is_web.nd)) (fun _ _ _ _ _ => rfl) (fun _ _ _ _ _ => (e_call D_is_pair_of (hr.mono (by decide)) L2.takes0 (a_cons (e_ix (ixlD (huk1 hr)) (e_var 0) e_int) (a_cons (e_var 1) a_nil))))))))))
theorem ok_check_web {f : Addr} {cdv : Value} (F : FD K "check_web" "check_web" s_check_web f cdv) (hmf : mg "check_web" = some (.ref f)) (T : TX w K mg) (D_is_web : Def P w K mg base tb "is_web" 1 F_is_web 4) : Def P w K mg base tb "check_web" 1 F_check_web 5 :=
  def_of (k := 4) F hmf sc_check_web bp_check_web fun A outer s H E hr => (ss_one (s_if (t_not (t_val (e_call D_is_web (hr.mono (by decide)) (takes_of rfl rfl rfl rfl) (a_cons (e_var 0) a_nil)))) (ss_one (s_raise0 T.x_NoWeb rfl (takes_of rfl rfl rfl rfl))) ss_nil))
theorem ok_check_two_places {f : Addr} {cdv : Value} (F : FD K "check_two_places" "check_two_places" s_check_two_places f cdv) (hmf : mg "check_two_places" = some (.ref f)) (T : TX w K mg) (D_check_place : Def P w K mg base tb "check_place" 2 F_check_place 3) (D_check_web : Def P w K mg base tb "check_web" 1 F_check_web 5) : Def P w K mg base tb "check_two_places" 3 F_check_two_places 6 :=
  def_of (k := 5) F hmf sc_check_two_places bp_check_two_places fun A outer s H E hr => (ss_cons (s_expr (e_call D_check_web (hr.mono (by decide)) (takes_of rfl rfl rfl rfl) (a_cons (e_var 0) a_nil)))
    (ss_cons (s_expr (e_call D_check_place (hr.mono (by decide)) (takes_of rfl rfl rfl rfl) (a_cons (e_var 0) (a_cons (e_var 1) a_nil))))
    (ss_cons (s_expr (e_call D_check_place (hr.mono (by decide)) (takes_of rfl rfl rfl rfl) (a_cons (e_var 0) (a_cons (e_var 2) a_nil))))
    (ss_one (s_if (t_cmp (opl_eq (huk64 hr)) (e_var 1) (e_var 2)) (ss_one (s_raise0 T.x_NoPlace rfl (takes_of rfl rfl rfl rfl))) ss_nil)))))
theorem ok_level_of {f : Addr} {cdv : Value} (F : FD K "level_of" "level_of" s_level_of f cdv) (hmf : mg "level_of" = some (.ref f)) (T : TX w K mg) (D_check_two_places : Def P w K mg base tb "check_two_places" 3 F_check_two_places 6) : Def P w K mg base tb "level_of" 3 F_level_of 7 :=
  def_of (k := 6) F hmf sc_level_of bp_level_of fun A outer s H E hr => (ss_cons (s_expr (e_call D_check_two_places (hr.mono (by decide)) (takes_of rfl rfl rfl rfl) (a_cons (e_var 0) (a_cons (e_var 1) (a_cons (e_var 2) a_nil)))))
    ss_bad)
theorem ok_check_forests_many {f : Addr} {cdv : Value} (F : FD K "check_forests_many" "check_forests_many" s_check_forests_many f cdv) (hmf : mg "check_forests_many" = some (.ref f)) (T : TX w K mg) (D_check_web : Def P w K mg base tb "check_web" 1 F_check_web 5) (D_is_within : Def P w K mg base tb "is_within" 3 F_is_within 2) : Def P w K mg base tb "check_forests_many" 2 F_check_forests_many 6 :=
  def_of (k := 5) F hmf sc_check_forests_many bp_check_forests_many fun A outer s H E hr => (ss_cons (s_expr (e_call D_check_web (hr.mono (by decide)) (takes_of rfl rfl rfl rfl) (a_cons (e_var 0) a_nil)))
    (ss_one (s_if (t_not (t_val (e_call D_is_within (hr.mono (by decide)) (takes_of rfl rfl rfl rfl) (a_cons (e_var 1) (a_cons e_int (a_cons (e_glob T.g_MOST_FORESTS) a_nil)))))) (ss_one (s_raise0 T.x_NoNumber rfl (takes_of rfl rfl rfl rfl))) ss_nil)))
theorem ok_most_held {f : Addr} {cdv : Value} (F : FD K "most_held" "most_held" s_most_held f cdv) (hmf : mg "most_held" = some (.ref f)) (T : TX w K mg) (D_check_forests_many : Def P w K mg base tb "check_forests_many" 2 F_check_forests_many 6) : Def P w K mg base tb "most_held" 2 F_most_held 7 :=
  def_of (k := 6) F hmf sc_most_held bp_most_held fun A outer s H E hr => (ss_cons (s_expr (e_call D_check_forests_many (hr.mono (by decide)) (takes_of rfl rfl rfl rfl) (a_cons (e_var 0) (a_cons (e_var 1) a_nil))))
    ss_bad)
theorem ok_is_play {f : Addr} {cdv : Value} (F : FD K "is_play" "is_play" s_is_play f cdv) (hmf : mg "is_play" = some (.ref f)) (T : TX w K mg) (D_is_sized : Def P w K mg base tb "is_sized" 3 F_is_sized 1) (D_is_web : Def P w K mg base tb "is_web" 1 F_is_web 4) (D_is_within : Def P w K mg base tb "is_within" 3 F_is_within 2) : Def P w K mg base tb "is_play" 1 F_is_play 5 :=
  def_of (k := 4) F hmf sc_is_play bp_is_play fun A outer s H E hr => (ss_cons (s_if (t_w (w_or (t_not (t_val (e_call D_is_sized (hr.mono (by decide)) (takes_of rfl rfl rfl rfl) (a_cons (e_var 0) (a_cons e_int (a_cons e_int a_nil)))))) (w_one (t_not (t_val (e_call D_is_web (hr.mono (by decide)) (takes_of rfl rfl rfl rfl) (a_cons (e_ix (ixlD (huk1 hr)) (e_var 0) e_int) a_nil)))) (.inr rfl)))) (ss_one (s_ret e_bl)) ss_nil)
    (ss_cons (s_set 1 sc_is_play.nd (e_ix (ixlD (huk1 hr)) (e_ix (ixlD (huk1 hr)) (e_var 0) e_int) e_int))
    (ss_one (s_ret (e_and (e_call D_is_within (hr.mono (by decide)) (takes_of rfl rfl rfl rfl) (a_cons (e_ix (ixlD (huk1 hr)) (e_var 0) e_int) (a_cons e_int (a_cons (e_op opl_sub (e_var 1) e_int) a_nil)))) (e_and (e_call D_is_within (hr.mono (by decide)) (takes_of rfl rfl rfl rfl) (a_cons (e_ix (ixlD (huk1 hr)) (e_var 0) e_int) (a_cons e_int (a_cons (e_op opl_sub (e_var 1) e_int) a_nil)))) (e_one (e_cmp (opl_ne (huk64 hr)) (e_ix (ixlD (huk1 hr)) (e_var 0) e_int) (e_ix (ixlD (huk1 hr)) (e_var 0) e_int)))))))))
theorem ok_check_play {f : Addr} {cdv : Value} (F : FD K "check_play" "check_play" s_check_play f cdv) (hmf : mg "check_play" = some (.ref f)) (T : TX w K mg) (D_is_play : Def P w K mg base tb "is_play" 1 F_is_play 5) : Def P w K mg base tb "check_play" 1 F_check_play 6 :=
  def_of (k := 5) F hmf sc_check_play bp_check_play fun A outer s H E hr => (ss_one (s_if (t_not (t_val (e_call D_is_play (hr.mono (by decide)) (takes_of rfl rfl rfl rfl) (a_cons (e_var 0) a_nil)))) (ss_one (s_raise0 T.x_NoPlay rfl (takes_of rfl rfl rfl rfl))) ss_nil))
theorem ok_outcome {f : Addr} {cdv : Value} (F : FD K "outcome" "outcome" s_outcome f cdv) (hmf : mg "outcome" = some (.ref f)) (T : TX w K mg) (D_check_play : Def P w K mg base tb "check_play" 1 F_check_play 6) : Def P w K mg base tb "outcome" 1 F_outcome 7 :=
  def_of (k := 6) F hmf sc_outcome bp_outcome fun A outer s H E hr => (ss_cons (s_expr (e_call D_check_play (hr.mono (by decide)) (takes_of rfl rfl rfl rfl) (a_cons (e_var 0) a_nil)))
    ss_bad)
theorem ok_Desk_answer {f : Addr} {cdv : Value} {Ca : Addr} (F : FD K "answer" "Desk.answer" s_Desk_answer f cdv) (hmf : mg "Desk" = some (.ref Ca)) (cl : Cls K Ca) (mt : Meth K Ca "answer" f) (T : TX w K mg) (D_Store_take : MDef P w K mg base tb "Store" "take" 2 F_Store_take 3) (D_check_two_places : Def P w K mg base tb "check_two_places" 3 F_check_two_places 6) (D_level_of : Def P w K mg base tb "level_of" 3 F_level_of 7) (D_most_held : Def P w K mg base tb "most_held" 2 F_most_held 7) (D_outcome : Def P w K mg base tb "outcome" 1 F_outcome 7) : MDef P w K mg base tb "Desk" "answer" 4 F_Desk_answer 8 :=
  meth_of (k := 7) F hmf cl mt sc_Desk_answer bp_Desk_answer fun A outer s H E hr => (ss_cons (s_set 4 sc_Desk_answer.nd (e_meth D_Store_take (e_fld T.f_Desk_desk_store (e_var 0)) (hr.mono (by decide)) (takes_of rfl rfl rfl rfl) (a_cons (e_var 2) a_nil)))
    (ss_cons (s_if (t_cmp (opl_eq (huk64 hr)) (e_var 1) e_str) (ss_cons (s_expr (e_call D_check_two_places (hr.mono (by decide)) (takes_of rfl rfl rfl rfl) (a_cons (e_var 4) (a_cons (e_ix (ixlD (huk1 hr)) (e_var 3) e_int) (a_cons (e_ix (ixlD (huk1 hr)) (e_var 3) e_int) a_nil)))))
    ss_bad) ss_nil)
    (ss_cons (s_if (t_cmp (opl_eq (huk64 hr)) (e_var 1) e_str) (ss_one (s_ret (e_callTy cl_str T.b_str (a_cons (e_call D_most_held (hr.mono (by decide)) (takes_of rfl rfl rfl rfl) (a_cons (e_var 4) (a_cons (e_ix (ixlD (huk1 hr)) (e_var 3) e_int) a_nil))) a_nil)))) ss_nil)
    (ss_cons (s_if (t_cmp (opl_eq (huk64 hr)) (e_var 1) e_str) (ss_one (s_ret (e_call D_outcome (hr.mono (by decide)) (takes_of rfl rfl rfl rfl) (a_cons (e_tup (a_cons (e_var 4) (a_cons (e_ix (ixlD (huk1 hr)) (e_var 3) e_int) (a_cons (e_ix (ixlD (huk1 hr)) (e_var 3) e_int) a_nil)))) a_nil)))) ss_nil)
    (ss_cons (s_if (t_cmp (opl_eq (huk64 hr)) (e_var 1) e_str) (ss_one (s_ret (e_callTy cl_str T.b_str (a_cons (e_call D_level_of (hr.mono (by decide)) (takes_of rfl rfl rfl rfl) (a_cons (e_var 4) (a_cons (e_ix (ixlD (huk1 hr)) (e_var 3) e_int) (a_cons (e_ix (ixlD (huk1 hr)) (e_var 3) e_int) a_nil)))) a_nil)))) ss_nil)
    (ss_cons (s_if (t_cmp (opl_eq (huk64 hr)) (e_var 1) e_str) ss_bad ss_nil)
    ss_bad))))))
theorem ok_check_most {f : Addr} {cdv : Value} (F : FD K "check_most" "check_most" s_check_most f cdv) (hmf : mg "check_most" = some (.ref f)) (T : TX w K mg) (X_TooMany : Exc1 P w K mg base "TooMany" "most" 1) : Def P w K mg base tb "check_most" 2 F_check_most 3 :=
  def_of (k := 2) F hmf sc_check_most bp_check_most fun A outer s H E hr => (ss_one (s_if (t_cmp opl_gt (e_var 0) (e_var 1)) (ss_one (s_raise1 X_TooMany rfl (hr.mono (by decide)) (takes_of rfl rfl rfl rfl) (e_var 1) pass_no)) ss_nil))
theorem ok_Store_put {f : Addr} {cdv : Value} {Ca : Addr} (F : FD K "put" "Store.put" s_Store_put f cdv) (hmf : mg "Store" = some (.ref Ca)) (cl : Cls K Ca) (mt : Meth K Ca "put" f) (T : TX w K mg) (D_Store_now : MDef P w K mg base tb "Store" "now" 1 F_Store_now 1) (D_check_most : Def P w K mg base tb "check_most" 2 F_check_most 3) (D_check_web : Def P w K mg base tb "check_web" 1 F_check_web 5) (D_is_name : Def P w K mg base tb "is_name" 1 F_is_name 1) : MDef P w K mg base tb "Store" "put" 3 F_Store_put 6 :=
  meth_of (k := 5) F hmf cl mt sc_Store_put bp_Store_put fun A outer s H E hr => (ss_cons (s_if (t_not (t_val (e_call D_is_name (hr.mono (by decide)) (takes_of rfl rfl rfl rfl) (a_cons (e_var 1) a_nil)))) (ss_one (s_raise0 T.x_NoName rfl (takes_of rfl rfl rfl rfl))) ss_nil)
    (ss_cons (s_expr (e_call D_check_web (hr.mono (by decide)) (takes_of rfl rfl rfl rfl) (a_cons (e_var 2) a_nil)))
    (ss_cons (s_set 3 sc_Store_put.nd (e_callTy cl_dict T.b_dict (a_cons (e_meth0 D_Store_now (e_var 0) (hr.mono (by decide)) (takes_of rfl rfl rfl rfl)) a_nil)))
    (ss_cons (s_expr (e_call D_check_most (hr.mono (by decide)) (takes_of rfl rfl rfl rfl) (a_cons (e_op opl_add (e_callB cl_len T.b_len (a_cons (e_var 3) a_nil)) (e_ifExp (t_cmp (opl_inD (huk65 hr)) (e_var 1) (e_var 3)) e_int e_int)) (a_cons (e_glob T.g_MOST_NAMES) a_nil))))
    (ss_cons (s_expr (e_call D_check_most (hr.mono (by decide)) (takes_of rfl rfl rfl rfl) (a_cons (e_op opl_add (e_callB cl_len T.b_len (a_cons (e_get2 (huk1 hr) (e_var 3) (e_var 1) (e_tup a_nil)) a_nil)) e_int) (a_cons (e_glob T.g_MOST_VERSIONS) a_nil))))
    (ss_cons (s_sub (huk1 hr) (e_var 3) (e_var 1) (e_op opl_add (e_get2 (huk1 hr) (e_var 3) (e_var 1) (e_tup a_nil)) (e_tup (a_cons (e_var 2) a_nil))))
    (ss_cons (s_expr (e_lm ml_append PySem.F.slot_list_append PySem.F.type_list_append (e_fld T.f_Store_store_stages (e_var 0)) (a_cons (e_var 3) a_nil)))
    (ss_one (s_ret (e_op opl_sub (e_callB cl_len T.b_len (a_cons (e_ix (ixlD (huk1 hr)) (e_var 3) (e_var 1)) a_nil)) e_int))))))))))
theorem ok_number_of {f : Addr} {cdv : Value} (F : FD K "number_of" "number_of" s_number_of f cdv) (hmf : mg "number_of" = some (.ref f)) (T : TX w K mg) : Def P w K mg base tb "number_of" 1 F_number_of 1 :=
  def_of (k := 0) F hmf sc_number_of bp_number_of fun A outer s H E hr => (ss_cons (s_if (t_w (w_or (t_not (t_chain opl_le opl_le e_int (e_callB cl_len T.b_len (a_cons (e_var 0) a_nil)) (e_glob T.g_MOST_DIGITS))) (w_one (t_not (t_val (e_callQB (cq_all rfl) T.b_all (ql_ofL (l_lc (own := [("sign", 1)]) rfl sc_number_of.nd (i_seq (e_var 0)) (show BlkOk ["word", "sign"] (defScope s_number_of) _ [("sign", 1)] from blk_by (by decide +kernel)) (by decide) (fun _ _ _ _ _ => (g_name 1 sc_number_of.nd)) (fun _ _ _ _ _ => rfl) (fun _ _ _ _ _ => (e_cmp opl_inTx (e_var 1) e_str))))))) (.inr rfl)))) (ss_one (s_ret e_non)) ss_nil)
    (ss_one (s_ret (e_ifExp (t_w (w_and (t_cmp (opl_eq (huk64 hr)) (e_ix (ixlD (huk1 hr)) (e_var 0) e_int) e_str) (w_one (t_cmp opl_gt (e_callB cl_len T.b_len (a_cons (e_var 0) a_nil)) e_int) (.inl rfl)))) e_non (e_callTy cl_intS T.b_int (a_cons (e_var 0) a_nil))))))
theorem ok_pair_of {f : Addr} {cdv : Value} (F : FD K "pair_of" "pair_of" s_pair_of f cdv) (hmf : mg "pair_of" = some (.ref f)) (T : TX w K mg) (D_number_of : Def P w K mg base tb "number_of" 1 F_number_of 1) : Def P w K mg base tb "pair_of" 1 F_pair_of 2 :=
  def_of (k := 1) F hmf sc_pair_of bp_pair_of fun A outer s H E hr => (ss_cons (s_setLc 1 (own := [("one", 2)]) rfl sc_pair_of.nd (i_lst (l_split (e_var 0) e_str)) (show BlkOk ["word", "parts", "one"] (defScope s_pair_of) _ [("one", 2)] from blk_by (by decide +kernel)) (by decide) (fun _ _ _ _ _ => (g_name 2 sc_pair_of.nd)) (fun _ _ _ _ _ => rfl) (fun _ _ _ _ _ => (e_call D_number_of (hr.mono (by decide)) L2.takes0 (a_cons (e_var 2) a_nil))))
    (ss_one (s_ret (e_ifExp (t_w (w_or (t_cmp (opl_ne (huk64 hr)) (e_callB cl_len T.b_len (a_cons (e_var 1) a_nil)) e_int) (w_one (t_cmp (opl_inD (huk65 hr)) e_non (e_var 1)) (.inr rfl)))) e_non (e_callQT cq_tuple T.b_tuple (q_ofE (e_var 1)))))))
theorem ok_Desk_put_web {f : Addr} {cdv : Value} {Ca : Addr} (F : FD K "put_web" "Desk.put_web" s_Desk_put_web f cdv) (hmf : mg "Desk" = some (.ref Ca)) (cl : Cls K Ca) (mt : Meth K Ca "put_web" f) (T : TX w K mg) (D_Store_put : MDef P w K mg base tb "Store" "put" 3 F_Store_put 6) (D_is_name : Def P w K mg base tb "is_name" 1 F_is_name 1) (D_number_of : Def P w K mg base tb "number_of" 1 F_number_of 1) (D_pair_of : Def P w K mg base tb "pair_of" 1 F_pair_of 2) : MDef P w K mg base tb "Desk" "put_web" 2 F_Desk_put_web 7 :=
  meth_of (k := 6) F hmf cl mt sc_Desk_put_web bp_Desk_put_web fun A outer s H E hr => (ss_cons (s_if (t_w (w_or (t_cmp opl_lt (e_callB cl_len T.b_len (a_cons (e_var 1) a_nil)) e_int) (w_or (t_not (t_val (e_call D_is_name (hr.mono (by decide)) (takes_of rfl rfl rfl rfl) (a_cons (e_ix (ixlD (huk1 hr)) (e_var 1) e_int) a_nil)))) (w_one (t_isN (e_call D_number_of (hr.mono (by decide)) (takes_of rfl rfl rfl rfl) (a_cons (e_ix (ixlD (huk1 hr)) (e_var 1) e_int) a_nil))) (.inr rfl))))) (ss_one (s_raise0 T.x_NoLine rfl (takes_of rfl rfl rfl rfl))) ss_nil)
    (ss_cons (s_setLc 2 (own := [("word", 3)]) rfl sc_Desk_put_web.nd (i_seq (e_slice (e_var 1) (o_some e_int) o_none)) (show BlkOk ["self", "words", "ties", "word"] (defScope s_Desk_put_web) _ [("word", 3)] from blk_by (by decide +kernel)) (by decide) (fun _ _ _ _ _ => (g_name 3 sc_Desk_put_web.nd)) (fun _ _ _ _ _ => rfl) (fun _ _ _ _ _ => (e_call D_pair_of (hr.mono (by decide)) L2.takes0 (a_cons (e_var 3) a_nil))))
    (ss_cons (s_if (t_cmp (opl_inD (huk65 hr)) e_non (e_var 2)) (ss_one (s_raise0 T.x_NoLine rfl (takes_of rfl rfl rfl rfl))) ss_nil)
    (ss_one (s_ret (e_op opl_add e_str (e_callTy cl_str T.b_str (a_cons (e_meth D_Store_put (e_fld T.f_Desk_desk_store (e_var 0)) (hr.mono (by decide)) (takes_of rfl rfl rfl rfl) (a_cons (e_ix (ixlD (huk1 hr)) (e_var 1) e_int) (a_cons (e_tup (a_cons (e_call D_number_of (hr.mono (by decide)) (takes_of rfl rfl rfl rfl) (a_cons (e_ix (ixlD (huk1 hr)) (e_var 1) e_int) a_nil)) (a_cons (e_callQT cq_tuple T.b_tuple (q_ofE (e_var 2))) a_nil))) a_nil))) a_nil))))))))
theorem ok_Store_names {f : Addr} {cdv : Value} {Ca : Addr} (F : FD K "names" "Store.names" s_Store_names f cdv) (hmf : mg "Store" = some (.ref Ca)) (cl : Cls K Ca) (mt : Meth K Ca "names" f) (T : TX w K mg) (D_Store_now : MDef P w K mg base tb "Store" "now" 1 F_Store_now 1) : MDef P w K mg base tb "Store" "names" 1 F_Store_names 2 :=
  meth_of (k := 1) F hmf cl mt sc_Store_names bp_Store_names fun A outer s H E hr => (ss_one (s_ret (e_callQT cq_tuple T.b_tuple (q_ofL (l_callQB cq_sorted T.b_sorted (ql_ofL (l_listD rfl T.b_list (e_meth0 D_Store_now (e_var 0) (hr.mono (by decide)) (takes_of rfl rfl rfl rfl)))))))))
theorem ok_Store_undo {f : Addr} {cdv : Value} {Ca : Addr} (F : FD K "undo" "Store.undo" s_Store_undo f cdv) (hmf : mg "Store" = some (.ref Ca)) (cl : Cls K Ca) (mt : Meth K Ca "undo" f) (T : TX w K mg) : MDef P w K mg base tb "Store" "undo" 1 F_Store_undo 1 :=
  meth_of (k := 0) F hmf cl mt sc_Store_undo bp_Store_undo fun A outer s H E hr => (ss_cons (s_if (t_cmp (opl_eq (huk64 hr)) (e_callB cl_len T.b_len (a_cons (e_fld T.f_Store_store_stages (e_var 0)) a_nil)) e_int) (ss_one (s_ret e_bl)) ss_nil)
    (ss_cons (s_expr (e_lm0 ml_pop PySem.F.slot_list_pop PySem.F.type_list_pop (e_fld T.f_Store_store_stages (e_var 0))))
    (ss_one (s_ret e_bl))))
theorem ok_Desk_say {f : Addr} {cdv : Value} {Ca : Addr} (F : FD K "say" "Desk.say" s_Desk_say f cdv) (hmf : mg "Desk" = some (.ref Ca)) (cl : Cls K Ca) (mt : Meth K Ca "say" f) (T : TX w K mg) (D_Desk_answer : MDef P w K mg base tb "Desk" "answer" 4 F_Desk_answer 8) (D_Desk_put_web : MDef P w K mg base tb "Desk" "put_web" 2 F_Desk_put_web 7) (D_Store_names : MDef P w K mg base tb "Store" "names" 1 F_Store_names 2) (D_Store_undo : MDef P w K mg base tb "Store" "undo" 1 F_Store_undo 1) (D_is_name : Def P w K mg base tb "is_name" 1 F_is_name 1) (D_number_of : Def P w K mg base tb "number_of" 1 F_number_of 1) : MDef P w K mg base tb "Desk" "say" 2 F_Desk_say 9 :=
  meth_of (k := 8) F hmf cl mt sc_Desk_say bp_Desk_say fun A outer s H E hr => (ss_cons (s_if (t_not (t_val (e_isi "str" T.b_isinstance T.b_str (e_var 1)))) (ss_one (s_raise0 T.x_NoLine rfl (takes_of rfl rfl rfl rfl))) ss_nil)
    (ss_cons (s_set 2 sc_Desk_say.nd (e_new (l_split (e_var 1) e_str)))
    (ss_cons (s_if (t_cmp (opl_eq (huk64 hr)) (e_var 2) (e_new (l_lst (m_cons e_str m_nil)))) (ss_one (s_ret (e_ifExp (t_val (e_meth0 D_Store_undo (e_fld T.f_Desk_desk_store (e_var 0)) (hr.mono (by decide)) (takes_of rfl rfl rfl rfl))) e_str e_str))) ss_nil)
    (ss_cons (s_if (t_cmp (opl_eq (huk64 hr)) (e_var 2) (e_new (l_lst (m_cons e_str m_nil)))) (ss_one (s_ret (e_ifExp (t_cmp opl_gt (e_callB cl_len T.b_len (a_cons (e_meth0 D_Store_names (e_fld T.f_Desk_desk_store (e_var 0)) (hr.mono (by decide)) (takes_of rfl rfl rfl rfl)) a_nil)) e_int) (e_join e_str (q_ofE (e_meth0 D_Store_names (e_fld T.f_Desk_desk_store (e_var 0)) (hr.mono (by decide)) (takes_of rfl rfl rfl rfl)))) e_str))) ss_nil)
    (ss_cons (s_if (t_cmp (opl_eq (huk64 hr)) (e_ix (ixlD (huk1 hr)) (e_var 2) e_int) e_str) (ss_one (s_ret (e_meth D_Desk_put_web (e_var 0) (hr.mono (by decide)) (takes_of rfl rfl rfl rfl) (a_cons (e_slice (e_var 2) (o_some e_int) o_none) a_nil)))) ss_nil)
    (ss_cons (s_if (t_w (w_or (t_wdOut T.w_NUMBERS (e_ix (ixlD (huk1 hr)) (e_var 2) e_int)) (w_or (t_cmp (opl_ne (huk64 hr)) (e_callB cl_len T.b_len (a_cons (e_var 2) a_nil)) (e_op opl_add (e_wd T.w_NUMBERS.wd (e_ix (ixlD (huk1 hr)) (e_var 2) e_int)) e_int)) (w_one (t_not (t_val (e_call D_is_name (hr.mono (by decide)) (takes_of rfl rfl rfl rfl) (a_cons (e_ix (ixlD (huk1 hr)) (e_var 2) e_int) a_nil)))) (.inr rfl))))) (ss_one (s_raise0 T.x_NoLine rfl (takes_of rfl rfl rfl rfl))) ss_nil)
    (ss_cons (s_setLc 3 (own := [("word", 4)]) rfl sc_Desk_say.nd (i_seq (e_slice (e_var 2) (o_some e_int) o_none)) (show BlkOk ["self", "line", "words", "numbers", "word"] (defScope s_Desk_say) _ [("word", 4)] from blk_by (by decide +kernel)) (by decide) (fun _ _ _ _ _ => (g_name 4 sc_Desk_say.nd)) (fun _ _ _ _ _ => rfl) (fun _ _ _ _ _ => (e_call D_number_of (hr.mono (by decide)) L2.takes0 (a_cons (e_var 4) a_nil))))
    (ss_cons (s_if (t_cmp (opl_inD (huk65 hr)) e_non (e_var 3)) (ss_one (s_raise0 T.x_NoLine rfl (takes_of rfl rfl rfl rfl))) ss_nil)
    (ss_one (s_ret (e_meth D_Desk_answer (e_var 0) (hr.mono (by decide)) (takes_of rfl rfl rfl rfl) (a_cons (e_ix (ixlD (huk1 hr)) (e_var 2) e_int) (a_cons (e_ix (ixlD (huk1 hr)) (e_var 2) e_int) (a_cons (e_var 3) a_nil))))))))))))))
theorem ok__law_draw {f : Addr} {cdv : Value} (F : FD K "_law_draw" "_law_draw" s__law_draw f cdv) (hmf : mg "_law_draw" = some (.ref f)) (T : TX w K mg) : Def P w K mg base tb "_law_draw" 2 F__law_draw 1 :=
  def_of (k := 0) F hmf sc__law_draw bp__law_draw fun A outer s H E hr => (ss_cons (s_if (t_w (w_and (t_cmp (opl_eq (huk64 hr)) (e_ix (ixlD (huk1 hr)) (e_var 0) e_int) e_int) (w_one (t_cmp opl_lt (e_ix (ixlD (huk1 hr)) (e_var 0) e_int) (e_callB cl_len T.b_len (a_cons (e_ix (ixlD (huk1 hr)) (e_var 0) e_int) a_nil))) (.inl rfl)))) (ss_cons (s_set 2 sc__law_draw.nd (e_ix (ixlD (huk1 hr)) (e_ix (ixlD (huk1 hr)) (e_var 0) e_int) (e_ix (ixlD (huk1 hr)) (e_var 0) e_int)))
    (ss_cons (s_sub (huk1 hr) (e_var 0) e_int (e_op opl_add (e_ix (ixlD (huk1 hr)) (e_var 0) e_int) e_int))
    (ss_cons (s_sub (huk1 hr) (e_var 0) e_int (e_op opl_mod (e_callTy cl_int T.b_int (a_cons (e_op opl_add (e_op opl_add (e_op opl_mul (e_ix (ixlD (huk1 hr)) (e_var 0) e_int) e_int) (e_op opl_mul (e_var 2) e_int)) e_int) a_nil)) e_int))
    (ss_one (s_sub (huk1 hr) (e_var 0) e_int (e_ifExp (t_cmp opl_ge (e_var 2) (e_op opl_pow e_int e_int)) (e_var 2) e_int)))))) ss_nil)
    (ss_cons (s_if (t_cmp opl_gt (e_ix (ixlD (huk1 hr)) (e_var 0) e_int) e_int) (ss_cons (s_set 3 sc__law_draw.nd (e_op opl_mod (e_callTy cl_int T.b_int (a_cons (e_ix (ixlD (huk1 hr)) (e_var 0) e_int) a_nil)) (e_var 1)))
    (ss_cons (s_sub (huk1 hr) (e_var 0) e_int (e_op opl_fdiv (e_ix (ixlD (huk1 hr)) (e_var 0) e_int) (e_var 1)))
    (ss_one (s_ret (e_var 3))))) ss_nil)
    (ss_cons (s_sub (huk1 hr) (e_var 0) e_int (e_op opl_add (e_ix (ixlD (huk1 hr)) (e_var 0) e_int) e_int))
    (ss_cons (s_set 4 sc__law_draw.nd (e_op opl_mod (e_callTy cl_int T.b_int (a_cons (e_op opl_mul (e_callTy cl_int T.b_int (a_cons (e_op opl_add (e_ix (ixlD (huk1 hr)) (e_var 0) e_int) (e_op opl_mul e_int (e_ix (ixlD (huk1 hr)) (e_var 0) e_int))) a_nil)) e_int) a_nil)) e_int))
    (ss_cons (s_set 4 sc__law_draw.nd (e_op opl_mod (e_callTy cl_int T.b_int (a_cons (e_op opl_mul (e_var 4) (e_op opl_add (e_op opl_fdiv (e_var 4) e_int) e_int)) a_nil)) e_int))
    (ss_cons (s_set 4 sc__law_draw.nd (e_op opl_mod (e_callTy cl_int T.b_int (a_cons (e_op opl_mul (e_var 4) (e_op opl_add (e_op opl_fdiv (e_var 4) e_int) e_int)) a_nil)) e_int))
    (ss_one (s_ret (e_op opl_mod (e_callTy cl_int T.b_int (a_cons (e_op opl_fdiv (e_var 4) e_int) a_nil)) (e_var 1))))))))))
theorem ok__law_hand {f : Addr} {cdv : Value} (F : FD K "_law_hand" "_law_hand" s__law_hand f cdv) (hmf : mg "_law_hand" = some (.ref f)) (T : TX w K mg) : Def P w K mg base tb "_law_hand" 1 F__law_hand 1 :=
  def_of (k := 0) F hmf sc__law_hand bp__law_hand fun A outer s H E hr => (ss_cons (s_setLc 1 (own := [("cell", 2)]) rfl sc__law_hand.nd (i_seq (e_slice (e_var 0) o_none (o_some e_int))) (show BlkOk ["script", "cells", "cell"] (defScope s__law_hand) _ [("cell", 2)] from blk_by (by decide +kernel)) (by decide) (fun _ _ _ _ _ => (g_name 2 sc__law_hand.nd)) (fun _ _ _ _ _ => rfl) (fun _ _ _ _ _ => (e_op opl_mod (e_callB cl_abs T.b_abs (a_cons (e_callTy cl_int T.b_int (a_cons (e_var 2) a_nil)) a_nil)) (e_op opl_pow e_int e_int))))
    (ss_one (s_ret (e_new (l_lst (m_cons (e_var 1) (m_cons e_int (m_cons e_int (m_cons (e_op opl_add e_int (e_op opl_mul e_int (e_callB cl_len T.b_len (a_cons (e_var 1) a_nil)))) (m_cons e_int m_nil))))))))))
theorem ok__law_web_line {f : Addr} {cdv : Value} (F : FD K "_law_web_line" "_law_web_line" s__law_web_line f cdv) (hmf : mg "_law_web_line" = some (.ref f)) (T : TX w K mg) : Def P w K mg base tb "_law_web_line" 2 F__law_web_line 1 :=
  def_of (k := 0) F hmf sc__law_web_line bp__law_web_line fun A outer s H E hr => (ss_one (s_ret (e_join e_str (q_ofL (l_cat (e_new (l_lst (m_cons e_str (m_cons (e_var 0) (m_cons (e_callTy cl_str T.b_str (a_cons (e_ix (ixlD (huk1 hr)) (e_var 1) e_int) a_nil)) m_nil))))) (e_new (l_lc (own := [("i", 2), ("j", 3)]) rfl sc__law_web_line.nd (i_seq (e_ix (ixlD (huk1 hr)) (e_var 1) e_int)) (show BlkOk ["name", "web", "i", "j"] (defScope s__law_web_line) _ [("i", 2), ("j", 3)] from blk_by (by decide +kernel)) (by decide) (fun _ _ _ _ _ => (g_tup rfl (gs_cons (g_name 2 sc__law_web_line.nd) (gs_cons (g_name 3 sc__law_web_line.nd) gs_nil)))) (fun _ _ _ _ _ => rfl) (fun _ _ _ _ _ => (e_op opl_add (e_op opl_add (e_callTy cl_str T.b_str (a_cons (e_var 2) a_nil)) e_str) (e_callTy cl_str T.b_str (a_cons (e_var 3) a_nil)))))))))))
theorem ok__law_is_unchanged {f : Addr} {cdv : Value} (F : FD K "_law_is_unchanged" "_law_is_unchanged" s__law_is_unchanged f cdv) (hmf : mg "_law_is_unchanged" = some (.ref f)) (T : TX w K mg) (D_Desk_say : MDef P w K mg base tb "Desk" "say" 2 F_Desk_say 9) (D__law_web_line : Def P w K mg base tb "_law_web_line" 2 F__law_web_line 1) : Def P w K mg base tb "_law_is_unchanged" 2 F__law_is_unchanged 10 :=
  def_of (k := 9) F hmf sc__law_is_unchanged bp__law_is_unchanged fun A outer s H E hr => (ss_cons (s_if (t_cmp (opl_ne (huk64 hr)) (e_meth D_Desk_say (e_var 0) (hr.mono (by decide)) (takes_of rfl rfl rfl rfl) (a_cons e_str a_nil)) (e_join e_str (q_ofL (l_sortD rfl T.b_sorted (e_var 1))))) (ss_one (s_ret e_bl)) ss_nil)
    (ss_cons (s_for (passes_of rfl) rfl (i_lst (l_sortD rfl T.b_sorted (e_var 1))) (g_name 2 sc__law_is_unchanged.nd) (ss_cons (s_if (t_cmp (opl_ne (huk64 hr)) (e_meth D_Desk_say (e_var 0) (hr.mono (by decide)) (takes_of rfl rfl rfl rfl) (a_cons (e_call D__law_web_line (hr.mono (by decide)) (takes_of rfl rfl rfl rfl) (a_cons (e_var 2) (a_cons (e_ix (ixlD (huk1 hr)) (e_ix (ixlD (huk1 hr)) (e_var 1) (e_var 2)) (e_neg e_int)) a_nil))) a_nil)) (e_op opl_add e_str (e_callTy cl_str T.b_str (a_cons (e_callB cl_len T.b_len (a_cons (e_ix (ixlD (huk1 hr)) (e_var 1) (e_var 2)) a_nil)) a_nil)))) (ss_one (s_ret e_bl)) ss_nil)
    (ss_one (s_if (t_cmp (opl_ne (huk64 hr)) (e_meth D_Desk_say (e_var 0) (hr.mono (by decide)) (takes_of rfl rfl rfl rfl) (a_cons e_str a_nil)) e_str) (ss_one (s_ret e_bl)) ss_nil))))
    (ss_one (s_ret e_bl))))
theorem ok__law_some {f : Addr} {cdv : Value} (F : FD K "_law_some" "_law_some" s__law_some f cdv) (hmf : mg "_law_some" = some (.ref f)) (T : TX w K mg) (D__law_draw : Def P w K mg base tb "_law_draw" 2 F__law_draw 1) : Def P w K mg base tb "_law_some" 2 F__law_some 2 :=
  def_of (k := 1) F hmf sc__law_some bp__law_some fun A outer s H E hr => (ss_one (s_ret (e_ix (ixlD (huk1 hr)) (e_var 1) (e_call D__law_draw (hr.mono (by decide)) (takes_of rfl rfl rfl rfl) (a_cons (e_var 0) (a_cons (e_callB cl_len T.b_len (a_cons (e_var 1) a_nil)) a_nil))))))
theorem ok__law_no_line {f : Addr} {cdv : Value} (F : FD K "_law_no_line" "_law_no_line" s__law_no_line f cdv) (hmf : mg "_law_no_line" = some (.ref f)) (T : TX w K mg) (D__law_draw : Def P w K mg base tb "_law_draw" 2 F__law_draw 1) (D__law_some : Def P w K mg base tb "_law_some" 2 F__law_some 2) (D__law_web_line : Def P w K mg base tb "_law_web_line" 2 F__law_web_line 1) : Def P w K mg base tb "_law_no_line" 3 F__law_no_line 3 :=
  def_of (k := 2) F hmf sc__law_no_line bp__law_no_line fun A outer s H E hr => (ss_cons (s_set 3 sc__law_no_line.nd (e_call D__law_web_line (hr.mono (by decide)) (takes_of rfl rfl rfl rfl) (a_cons (e_var 1) (a_cons (e_var 2) a_nil))))
    (xs_toky 4 sc__law_no_line.nd (tk_op (tk_op tk_int)) (e_op opl_add (e_op opl_add e_int (e_callB cl_len T.b_len (a_cons (e_var 1) a_nil))) (e_call D__law_draw (hr.mono (by decide)) (takes_of rfl rfl rfl rfl) (a_cons (e_var 0) (a_cons (e_op opl_sub (e_op opl_sub (e_callB cl_len T.b_len (a_cons (e_var 3) a_nil)) e_int) (e_callB cl_len T.b_len (a_cons (e_var 1) a_nil))) a_nil))))
    (xs_cons (PST.of (s_set 5 sc__law_no_line.nd (e_new (l_lst (m_cons e_non (m_cons e_int (m_cons (e_new (l_lst (m_cons e_str m_nil))) (m_cons e_str (m_cons e_str (m_cons e_str (m_cons (e_op opl_add e_str (e_var 1)) (m_cons (e_op opl_add (e_op opl_add e_str (e_var 1)) e_str) (m_cons (e_op opl_add (e_var 3) e_str) (m_cons (e_op opl_add e_str (e_var 3)) m_nil))))))))))))))
    (xs_cons (x_set 5 sc__law_no_line.nd (x_new (x_cat (e_var 5) (x_new (x_lst (xm_cons (x_repl (e_var 3)) (xm_of (m_cons (e_op opl_add (e_op opl_add e_str (e_var 1)) e_str) (m_cons (e_op opl_add (e_op opl_add e_str (e_var 1)) e_str) (m_cons (e_op opl_add (e_op opl_add e_str (e_var 1)) e_str) m_nil))))))))))
    (xs_of (ss_cons (s_set 5 sc__law_no_line.nd (e_new (l_cat (e_var 5) (e_new (l_lc (own := [("rest", 6)]) rfl sc__law_no_line.nd (i_lst (l_lst (m_cons e_str (m_cons e_str (m_cons e_str (m_cons e_str (m_cons e_str (m_cons e_str m_nil)))))))) (show BlkOk ["hand", "name", "web", "good", "at", "odd", "rest"] (defScope s__law_no_line) _ [("rest", 6)] from blk_by (by decide +kernel)) (by decide) (fun _ _ _ _ _ => (g_name 6 sc__law_no_line.nd)) (fun _ _ _ _ _ => rfl) (fun _ _ _ _ _ => (e_op opl_add (e_op opl_add (e_op opl_add e_str (e_var 1)) e_str) (e_var 6))))))))
    (ss_cons (s_set 5 sc__law_no_line.nd (e_new (l_cat (e_var 5) (e_new (l_lc (own := [("rest", 6)]) rfl sc__law_no_line.nd (i_lst (l_lst (m_cons e_str (m_cons e_str (m_cons e_str (m_cons e_str (m_cons e_str (m_cons e_str m_nil)))))))) (show BlkOk ["hand", "name", "web", "good", "at", "odd", "rest"] (defScope s__law_no_line) _ [("rest", 6)] from blk_by (by decide +kernel)) (by decide) (fun _ _ _ _ _ => (g_name 6 sc__law_no_line.nd)) (fun _ _ _ _ _ => rfl) (fun _ _ _ _ _ => (e_op opl_add (e_op opl_add e_str (e_var 1)) (e_var 6))))))))
    (ss_cons (s_set 5 sc__law_no_line.nd (e_new (l_cat (e_new (l_cat (e_var 5) (e_new (l_lc (own := [("rest", 6)]) rfl sc__law_no_line.nd (i_lst (l_lst (m_cons e_str (m_cons e_str (m_cons e_str (m_cons e_str m_nil)))))) (show BlkOk ["hand", "name", "web", "good", "at", "odd", "rest"] (defScope s__law_no_line) _ [("rest", 6)] from blk_by (by decide +kernel)) (by decide) (fun _ _ _ _ _ => (g_name 6 sc__law_no_line.nd)) (fun _ _ _ _ _ => rfl) (fun _ _ _ _ _ => (e_op opl_add (e_op opl_add e_str (e_var 1)) (e_var 6))))))) (e_new (l_lst (m_cons e_str (m_cons (e_op opl_add (e_op opl_add e_str (e_var 1)) e_str) (m_cons e_str m_nil))))))))
    (ss_cons (s_set 5 sc__law_no_line.nd (e_new (l_cat (e_var 5) (e_new (l_lst (m_cons (e_op opl_add e_str (e_var 1)) (m_cons (e_op opl_add (e_op opl_add e_str (e_var 1)) e_str) (m_cons (e_op opl_add (e_op opl_add e_str (e_var 1)) e_str) (m_cons e_str (m_cons e_str (m_cons e_str m_nil)))))))))))
    (ss_cons (s_set 5 sc__law_no_line.nd (e_new (l_cat (e_var 5) (e_new (l_lst (m_cons (e_op opl_add e_str (e_var 1)) (m_cons e_str (m_cons (e_op opl_add (e_op opl_add (e_slice (e_var 3) o_none (o_some (e_var 4))) e_str) (e_slice (e_var 3) (o_some (e_var 4)) o_none)) (m_cons (e_op opl_add (e_var 3) e_str) (m_cons (e_op opl_add (e_op opl_add e_str (e_var 1)) e_str) m_nil))))))))))
    (ss_one (s_ret (e_call D__law_some (hr.mono (by decide)) (takes_of rfl rfl rfl rfl) (a_cons (e_var 0) (a_cons (e_var 5) a_nil)))))))))))))))
theorem ok__law_web {f : Addr} {cdv : Value} (F : FD K "_law_web" "_law_web" s__law_web f cdv) (hmf : mg "_law_web" = some (.ref f)) (T : TX w K mg) (D__law_draw : Def P w K mg base tb "_law_draw" 2 F__law_draw 1) : Def P w K mg base tb "_law_web" 3 F__law_web 2 :=
  def_of (k := 1) F hmf sc__law_web bp__law_web fun A outer s H E hr => (ss_cons (s_set 3 sc__law_web.nd (e_op opl_add e_int (e_call D__law_draw (hr.mono (by decide)) (takes_of rfl rfl rfl rfl) (a_cons (e_var 0) (a_cons (e_op opl_sub (e_var 1) e_int) a_nil)))))
    (ss_cons (s_set 4 sc__law_web.nd (e_new (l_lst m_nil)))
    (ss_cons (s_for (passes_of rfl) rfl (i_range1 T.b_range (e_call D__law_draw (hr.mono (by decide)) (takes_of rfl rfl rfl rfl) (a_cons (e_var 0) (a_cons (e_op opl_add (e_var 2) e_int) a_nil)))) (g_name 5 sc__law_web.nd) (ss_cons (s_set 6 sc__law_web.nd (e_call D__law_draw (hr.mono (by decide)) (takes_of rfl rfl rfl rfl) (a_cons (e_var 0) (a_cons (e_op opl_sub (e_var 3) e_int) a_nil))))
    (ss_one (s_expr (e_lm ml_append PySem.F.slot_list_append PySem.F.type_list_append (e_var 4) (a_cons (e_tup (a_cons (e_var 6) (a_cons (e_op opl_add (e_op opl_add (e_var 6) e_int) (e_call D__law_draw (hr.mono (by decide)) (takes_of rfl rfl rfl rfl) (a_cons (e_var 0) (a_cons (e_op opl_sub (e_op opl_sub (e_var 3) e_int) (e_var 6)) a_nil)))) a_nil))) a_nil))))))
    (ss_one (s_ret (e_tup (a_cons (e_var 3) (a_cons (e_callQT cq_tuple T.b_tuple (q_ofE (e_var 4))) a_nil))))))))
theorem ok__law_wrong {f : Addr} {cdv : Value} (F : FD K "_law_wrong" "_law_wrong" s__law_wrong f cdv) (hmf : mg "_law_wrong" = some (.ref f)) (T : TX w K mg) (D__law_draw : Def P w K mg base tb "_law_draw" 2 F__law_draw 1) (D__law_some : Def P w K mg base tb "_law_some" 2 F__law_some 2) : Def P w K mg base tb "_law_wrong" 3 F__law_wrong 3 :=
  def_of (k := 2) F hmf sc__law_wrong bp__law_wrong fun A outer s H E hr => (ss_cons (s_set 3 sc__law_wrong.nd (e_ix (ixlD (huk1 hr)) (e_var 2) e_int))
    (ss_cons (s_set 4 sc__law_wrong.nd (e_callTy cl_str T.b_str (a_cons (e_op opl_add (e_var 3) (e_call D__law_draw (hr.mono (by decide)) (takes_of rfl rfl rfl rfl) (a_cons (e_var 0) (a_cons e_int a_nil)))) a_nil)))
    (ss_cons (s_set 5 sc__law_wrong.nd (e_new (l_lst (m_cons (e_tup (a_cons e_str (a_cons e_str a_nil))) (m_cons (e_tup (a_cons e_str (a_cons e_str a_nil))) (m_cons (e_tup (a_cons e_str (a_cons e_str a_nil))) (m_cons (e_tup (a_cons e_str (a_cons e_str a_nil))) m_nil)))))))
    (ss_cons (s_set 5 sc__law_wrong.nd (e_new (l_cat (e_var 5) (e_new (l_lst (m_cons (e_tup (a_cons e_str (a_cons e_str a_nil))) (m_cons (e_tup (a_cons e_str (a_cons e_str a_nil))) (m_cons (e_tup (a_cons e_str (a_cons e_str a_nil))) m_nil))))))))
    (ss_cons (s_set 5 sc__law_wrong.nd (e_new (l_cat (e_var 5) (e_new (l_lc (own := [("k", 6)]) rfl sc__law_wrong.nd (i_lst (l_lst (m_cons e_str (m_cons e_str (m_cons e_str m_nil))))) (show BlkOk ["hand", "name", "web", "many", "far", "odd", "k", "rest"] (defScope s__law_wrong) _ [("k", 6)] from blk_by (by decide +kernel)) (by decide) (fun _ _ _ _ _ => (g_name 6 sc__law_wrong.nd)) (fun _ _ _ _ _ => rfl) (fun _ _ _ _ _ => (e_tup (a_cons (e_op opl_add (e_op opl_add (e_op opl_add e_str (e_var 1)) e_str) (e_var 6)) (a_cons e_str a_nil)))))))))
    (ss_cons (s_set 5 sc__law_wrong.nd (e_new (l_cat (e_var 5) (e_new (l_lst (m_cons (e_tup (a_cons (e_op opl_add (e_op opl_add (e_op opl_add e_str (e_var 1)) e_str) (e_var 4)) (a_cons e_str a_nil))) (m_cons (e_tup (a_cons (e_op opl_add (e_op opl_add e_str (e_var 1)) e_str) (a_cons e_str a_nil))) m_nil)))))))
    (ss_cons (s_set 5 sc__law_wrong.nd (e_new (l_cat (e_var 5) (e_new (l_lst (m_cons (e_tup (a_cons (e_op opl_add (e_op opl_add (e_op opl_add (e_op opl_add e_str (e_var 1)) e_str) (e_var 4)) e_str) (a_cons e_str a_nil))) (m_cons (e_tup (a_cons (e_op opl_add (e_op opl_add (e_op opl_add e_str (e_var 1)) e_str) (e_var 4)) (a_cons e_str a_nil))) m_nil)))))))
    (ss_cons (s_set 5 sc__law_wrong.nd (e_new (l_cat (e_var 5) (e_new (l_lst (m_cons (e_tup (a_cons (e_op opl_add (e_op opl_add e_str (e_var 1)) e_str) (a_cons e_str a_nil))) (m_cons (e_tup (a_cons (e_op opl_add (e_op opl_add e_str (e_var 1)) e_str) (a_cons e_str a_nil))) m_nil)))))))
    (ss_cons (s_set 5 sc__law_wrong.nd (e_new (l_cat (e_var 5) (e_new (l_lc (own := [("rest", 7)]) rfl sc__law_wrong.nd (i_lst (l_lst (m_cons e_str (m_cons e_str (m_cons e_str (m_cons (e_op opl_add e_str (e_op opl_mulS e_str e_int)) m_nil)))))) (show BlkOk ["hand", "name", "web", "many", "far", "odd", "k", "rest"] (defScope s__law_wrong) _ [("rest", 7)] from blk_by (by decide +kernel)) (by decide) (fun _ _ _ _ _ => (g_name 7 sc__law_wrong.nd)) (fun _ _ _ _ _ => rfl) (fun _ _ _ _ _ => (e_tup (a_cons (e_op opl_add (e_op opl_add (e_op opl_add e_str (e_var 1)) e_str) (e_var 7)) (a_cons e_str a_nil)))))))))
    (ss_one (s_ret (e_call D__law_some (hr.mono (by decide)) (takes_of rfl rfl rfl rfl) (a_cons (e_var 0) (a_cons (e_var 5) a_nil))))))))))))))
theorem ok_law {f : Addr} {cdv : Value} (F : FD K "law" "law" s_law f cdv) (hmf : mg "law" = some (.ref f)) (T : TX w K mg) (D_Deskdd_initdd : CDef P w K mg base tb "Desk" 1 F_Deskdd_initdd 3) (D_Desk_say : MDef P w K mg base tb "Desk" "say" 2 F_Desk_say 9) (D__law_draw : Def P w K mg base tb "_law_draw" 2 F__law_draw 1) (D__law_hand : Def P w K mg base tb "_law_hand" 1 F__law_hand 1) (D__law_is_unchanged : Def P w K mg base tb "_law_is_unchanged" 2 F__law_is_unchanged 10) (D__law_no_line : Def P w K mg base tb "_law_no_line" 3 F__law_no_line 3) (D__law_some : Def P w K mg base tb "_law_some" 2 F__law_some 2) (D__law_web : Def P w K mg base tb "_law_web" 3 F__law_web 2) (D__law_web_line : Def P w K mg base tb "_law_web_line" 2 F__law_web_line 1) (D__law_wrong : Def P w K mg base tb "_law_wrong" 3 F__law_wrong 3) {c P_ : Addr} {gw : Addr} {cw : Value} (hcv : cdv = .ref c) (TW : FD K "_law_word" "_law_word" s__law_word gw cw) (mw : mg "_law_word" = some (.ref gw)) (TB_law : LamX.TabB base mg c P_) (hm_law : (P_, (("law" : Str) ++ (".<locals>." : Str)) ++ ("<lambda>" : Str)) ∈ tb) (hu_law : ∀ p ∈ tb, p.1 = P_ → p.2 = (("law" : Str) ++ (".<locals>." : Str)) ++ ("<lambda>" : Str)) : Def P w K mg base tb "law" 1 F_law 13 :=
  def_of (k := 12) F hmf sc_law bp_law fun A outer s H E hr => (ss_cons (s_set 1 sc_law.nd (e_call D__law_hand (hr.mono (by decide)) (takes_of rfl rfl rfl rfl) (a_cons (e_var 0) a_nil)))
    (ss_cons (s_asg (e_tup (a_cons (e_make0 D_Deskdd_initdd (hr.mono (by decide)) (takes_of rfl rfl rfl rfl)) (a_cons e_dnew a_nil))) (g_tup rfl (gs_cons (g_name 2 sc_law.nd) (gs_cons (g_name 3 sc_law.nd) gs_nil))))
    (ss_cons (s_for (passes_of rfl) rfl (i_seq (e_slice (e_new (l_lst (m_cons e_str (m_cons e_str (m_cons e_str m_nil))))) o_none (o_some (e_op opl_add e_int (e_call D__law_draw (hr.mono (by decide)) (takes_of rfl rfl rfl rfl) (a_cons (e_var 1) (a_cons e_int a_nil))))))) (g_name 4 sc_law.nd) (ss_cons (s_sub (huk1 hr) (e_var 3) (e_var 4) (e_new (l_lst m_nil)))
    (ss_one (s_for (passes_of rfl) rfl (i_range1 T.b_range (e_op opl_add e_int (e_call D__law_draw (hr.mono (by decide)) (takes_of rfl rfl rfl rfl) (a_cons (e_var 1) (a_cons e_int a_nil))))) (g_name 5 sc_law.nd) (ss_cons (s_sub (huk1 hr) (e_var 3) (e_var 4) (e_new (l_cat (e_ix (ixlD (huk1 hr)) (e_var 3) (e_var 4)) (e_new (l_lst (m_cons (e_call D__law_web (hr.mono (by decide)) (takes_of rfl rfl rfl rfl) (a_cons (e_var 1) (a_cons e_int (a_cons e_int a_nil)))) m_nil))))))
    (ss_one (s_if (t_cmp (opl_ne (huk64 hr)) (e_meth D_Desk_say (e_var 2) (hr.mono (by decide)) (takes_of rfl rfl rfl rfl) (a_cons (e_call D__law_web_line (hr.mono (by decide)) (takes_of rfl rfl rfl rfl) (a_cons (e_var 4) (a_cons (e_ix (ixlD (huk1 hr)) (e_ix (ixlD (huk1 hr)) (e_var 3) (e_var 4)) (e_neg e_int)) a_nil))) a_nil)) (e_op opl_add e_str (e_callTy cl_str T.b_str (a_cons (e_var 5) a_nil)))) (ss_one (s_ret e_bl)) ss_nil)))))))
    (ss_cons (s_for (passes_of rfl) rfl (i_range1 T.b_range e_int) (g_name 5 sc_law.nd) (ss_cons (s_set 4 sc_law.nd (e_call D__law_some (hr.mono (by decide)) (takes_of rfl rfl rfl rfl) (a_cons (e_var 1) (a_cons (e_new (l_sortD rfl T.b_sorted (e_var 3))) a_nil))))
    (ss_cons (s_set 6 sc_law.nd (e_call D__law_no_line (hr.mono (by decide)) (takes_of rfl rfl rfl rfl) (a_cons (e_var 1) (a_cons (e_var 4) (a_cons (e_ix (ixlD (huk1 hr)) (e_ix (ixlD (huk1 hr)) (e_var 3) (e_var 4)) (e_neg e_int)) a_nil)))))
    (ss_cons (s_if (t_cmp (opl_ne (huk64 hr)) (e_word (k := 10) T TW mw hcv TB_law hm_law hu_law (hr.mono (by decide)) (show LamX.LamS (defScope s_law) _ from LamX.lamS_by (by decide +kernel)) (fun A outer s H E1 f c hr2 => (e_meth D_Desk_say (e_var 2) (hr2.mono (by decide)) (takes_of rfl rfl rfl rfl) (a_cons (e_var 6) a_nil)))) e_str) (ss_one (s_ret e_bl)) ss_nil)
    (ss_cons (s_asg (e_call D__law_wrong (hr.mono (by decide)) (takes_of rfl rfl rfl rfl) (a_cons (e_var 1) (a_cons (e_var 4) (a_cons (e_ix (ixlD (huk1 hr)) (e_ix (ixlD (huk1 hr)) (e_var 3) (e_var 4)) (e_neg e_int)) a_nil)))) (g_tup rfl (gs_cons (g_name 7 sc_law.nd) (gs_cons (g_name 8 sc_law.nd) gs_nil))))
    (ss_one (s_if (t_w (w_or (t_cmp (opl_ne (huk64 hr)) (e_word (k := 10) T TW mw hcv TB_law hm_law hu_law (hr.mono (by decide)) (show LamX.LamS (defScope s_law) _ from LamX.lamS_by (by decide +kernel)) (fun A outer s H E1 f c hr2 => (e_meth D_Desk_say (e_var 2) (hr2.mono (by decide)) (takes_of rfl rfl rfl rfl) (a_cons (e_var 7) a_nil)))) (e_var 8)) (w_one (t_not (t_val (e_call D__law_is_unchanged (hr.mono (by decide)) (takes_of rfl rfl rfl rfl) (a_cons (e_var 2) (a_cons (e_var 3) a_nil))))) (.inr rfl)))) (ss_one (s_ret e_bl)) ss_nil)))))))
    (ss_one (s_ret e_bl))))))
end K81
set_option Elab.async false
set_option linter.all false
set_option maxRecDepth 100000
set_option maxHeartbeats 4000000
namespace K81
open PySem PySem.Spec PyProof.Rows L2 TL
abbrev s_TooManyddi : Stmt := inClass (top 3) 0
/-- a code object's table -/
def _root_.PySem.W.tabOf (K : PySem.W.Frag) (c : Addr) : Option Addr := match K.lookup c with
  | some ⟨.type "code", _, .fields vs, _⟩ => (match (vs[11]? : Option Value) with | some (.ref P) => some P | _ => none)
  | _ => none
theorem all_mk {l : PySem.W.OpenLaw} {w : World} {K : PySem.W.Frag} {h : Heap} {mg : Str → Option Value} {fa : Addr} (X : K.In h) (G : h.Ns mainGlobals mg) (hfa : mg "law" = some (.ref fa))
    {Te C_Store C_Desk f_Storedd_initdd f_Deskdd_initdd f_Store_now f_is_name f_Store_check_there f_Store_take f_is_int f_is_within f_check_place f_is_sized f_is_pair_of f_is_web f_check_web f_check_two_places f_level_of f_check_forests_many f_most_held f_is_play f_check_play f_outcome f_Desk_answer f_check_most f_Store_put f_number_of f_pair_of f_Desk_put_web f_Store_names f_Store_undo f_Desk_say f__law_draw f__law_hand f__law_web_line f__law_is_unchanged f__law_some f__law_no_line f__law_web f__law_word f__law_wrong f_law co_law P_law E_NoLine E_NoName E_NoNumber E_NoPlace E_NoPlay E_NoWeb E_TooMany d_NUMBERS f_TooManyddi co_TooManyddi cc_TooManyddi : Addr} {cd_Storedd_initdd oc_Storedd_initdd kV_Storedd_initdd dc_Storedd_initdd pm_Storedd_initdd ct_Storedd_initdd cd_Deskdd_initdd oc_Deskdd_initdd kV_Deskdd_initdd dc_Deskdd_initdd pm_Deskdd_initdd ct_Deskdd_initdd cd_Store_now oc_Store_now kV_Store_now dc_Store_now pm_Store_now ct_Store_now cd_is_name oc_is_name kV_is_name dc_is_name pm_is_name ct_is_name cd_Store_check_there oc_Store_check_there kV_Store_check_there dc_Store_check_there pm_Store_check_there ct_Store_check_there cd_Store_take oc_Store_take kV_Store_take dc_Store_take pm_Store_take ct_Store_take cd_is_int oc_is_int kV_is_int dc_is_int pm_is_int ct_is_int cd_is_within oc_is_within kV_is_within dc_is_within pm_is_within ct_is_within cd_check_place oc_check_place kV_check_place dc_check_place pm_check_place ct_check_place cd_is_sized oc_is_sized kV_is_sized dc_is_sized pm_is_sized ct_is_sized cd_is_pair_of oc_is_pair_of kV_is_pair_of dc_is_pair_of pm_is_pair_of ct_is_pair_of cd_is_web oc_is_web kV_is_web dc_is_web pm_is_web ct_is_web cd_check_web oc_check_web kV_check_web dc_check_web pm_check_web ct_check_web cd_check_two_places oc_check_two_places kV_check_two_places dc_check_two_places pm_check_two_places ct_check_two_places cd_level_of oc_level_of kV_level_of dc_level_of pm_level_of ct_level_of cd_check_forests_many oc_check_forests_many kV_check_forests_many dc_check_forests_many pm_check_forests_many ct_check_forests_many cd_most_held oc_most_held kV_most_held dc_most_held pm_most_held ct_most_held cd_is_play oc_is_play kV_is_play dc_is_play pm_is_play ct_is_play cd_check_play oc_check_play kV_check_play dc_check_play pm_check_play ct_check_play cd_outcome oc_outcome kV_outcome dc_outcome pm_outcome ct_outcome cd_Desk_answer oc_Desk_answer kV_Desk_answer dc_Desk_answer pm_Desk_answer ct_Desk_answer cd_check_most oc_check_most kV_check_most dc_check_most pm_check_most ct_check_most cd_Store_put oc_Store_put kV_Store_put dc_Store_put pm_Store_put ct_Store_put cd_number_of oc_number_of kV_number_of dc_number_of pm_number_of ct_number_of cd_pair_of oc_pair_of kV_pair_of dc_pair_of pm_pair_of ct_pair_of cd_Desk_put_web oc_Desk_put_web kV_Desk_put_web dc_Desk_put_web pm_Desk_put_web ct_Desk_put_web cd_Store_names oc_Store_names kV_Store_names dc_Store_names pm_Store_names ct_Store_names cd_Store_undo oc_Store_undo kV_Store_undo dc_Store_undo pm_Store_undo ct_Store_undo cd_Desk_say oc_Desk_say kV_Desk_say dc_Desk_say pm_Desk_say ct_Desk_say cd__law_draw oc__law_draw kV__law_draw dc__law_draw pm__law_draw ct__law_draw cd__law_hand oc__law_hand kV__law_hand dc__law_hand pm__law_hand ct__law_hand cd__law_web_line oc__law_web_line kV__law_web_line dc__law_web_line pm__law_web_line ct__law_web_line cd__law_is_unchanged oc__law_is_unchanged kV__law_is_unchanged dc__law_is_unchanged pm__law_is_unchanged ct__law_is_unchanged cd__law_some oc__law_some kV__law_some dc__law_some pm__law_some ct__law_some cd__law_no_line oc__law_no_line kV__law_no_line dc__law_no_line pm__law_no_line ct__law_no_line cd__law_web oc__law_web kV__law_web dc__law_web pm__law_web ct__law_web cd__law_word oc__law_word kV__law_word dc__law_word pm__law_word ct__law_word cd__law_wrong oc__law_wrong kV__law_wrong dc__law_wrong pm__law_wrong ct__law_wrong oc_law kV_law dc_law pm_law ct_law u_NUMBERS_tie u_NUMBERS_held u_NUMBERS_trees u_NUMBERS_forests u_NUMBERS_strength u_NUMBERS_level u_NUMBERS_play u_NUMBERS_count oc_TooManyddi kV_TooManyddi dc_TooManyddi pm_TooManyddi ct_TooManyddi cl_TooManyddi : Value} {od_Storedd_initdd an_Storedd_initdd od_Deskdd_initdd an_Deskdd_initdd od_Store_now an_Store_now od_is_name an_is_name od_Store_check_there an_Store_check_there od_Store_take an_Store_take od_is_int an_is_int od_is_within an_is_within od_check_place an_check_place od_is_sized an_is_sized od_is_pair_of an_is_pair_of od_is_web an_is_web od_check_web an_check_web od_check_two_places an_check_two_places od_level_of an_level_of od_check_forests_many an_check_forests_many od_most_held an_most_held od_is_play an_is_play od_check_play an_check_play od_outcome an_outcome od_Desk_answer an_Desk_answer od_check_most an_check_most od_Store_put an_Store_put od_number_of an_number_of od_pair_of an_pair_of od_Desk_put_web an_Desk_put_web od_Store_names an_Store_names od_Store_undo an_Store_undo od_Desk_say an_Desk_say od__law_draw an__law_draw od__law_hand an__law_hand od__law_web_line an__law_web_line od__law_is_unchanged an__law_is_unchanged od__law_some an__law_some od__law_no_line an__law_no_line od__law_web an__law_web od__law_word an__law_word od__law_wrong an__law_wrong od_law an_law od_TooManyddi an_TooManyddi cld_TooManyddi : Option Addr} {sl_Storedd_initdd sl_Deskdd_initdd sl_Store_now sl_is_name sl_Store_check_there sl_Store_take sl_is_int sl_is_within sl_check_place sl_is_sized sl_is_pair_of sl_is_web sl_check_web sl_check_two_places sl_level_of sl_check_forests_many sl_most_held sl_is_play sl_check_play sl_outcome sl_Desk_answer sl_check_most sl_Store_put sl_number_of sl_pair_of sl_Desk_put_web sl_Store_names sl_Store_undo sl_Desk_say sl__law_draw sl__law_hand sl__law_web_line sl__law_is_unchanged sl__law_some sl__law_no_line sl__law_web sl__law_word sl__law_wrong sl_law sl_TooManyddi csl_TooManyddi : Array (Option Value)} {tk_LETTERS tk_MOST_DIGITS tk_MOST_FORESTS tk_MOST_NAME tk_MOST_NAMES tk_MOST_PLACES tk_MOST_TIES tk_MOST_VERSIONS : Tok} {es_NUMBERS : Array DictEntry} {n_NUMBERS : Nat}
    (aC_Store : PySem.W.nsIn K mainGlobals "Store" = some (some (.ref C_Store)))
    (pg_Store : PySem.W.plainGet K C_Store Str.empty = true)
    (hd_Store : PySem.W.hasDictIn K C_Store = true)
    (po_Store : PySem.W.plainOver K C_Store = true)
    (sa_Store : PySem.W.findIn K (.ref C_Store) "__setattr__" = some (some (.builtin "object.__setattr__")))
    (mk_Store : PySem.W.makesIn K C_Store = true)
    (kc_Store : PySem.W.keepIn K (.ref C_Store) = true)
    (aC_Desk : PySem.W.nsIn K mainGlobals "Desk" = some (some (.ref C_Desk)))
    (pg_Desk : PySem.W.plainGet K C_Desk Str.empty = true)
    (hd_Desk : PySem.W.hasDictIn K C_Desk = true)
    (po_Desk : PySem.W.plainOver K C_Desk = true)
    (sa_Desk : PySem.W.findIn K (.ref C_Desk) "__setattr__" = some (some (.builtin "object.__setattr__")))
    (mk_Desk : PySem.W.makesIn K C_Desk = true)
    (kc_Desk : PySem.W.keepIn K (.ref C_Desk) = true)
    (a_Storedd_initdd : PySem.W.findIn K (.ref C_Store) "__init__" = some (some (.ref f_Storedd_initdd)))
    (i_Storedd_initdd : PySem.W.isFn K (.ref f_Storedd_initdd) = true)
    (l_Storedd_initdd : K.lookup f_Storedd_initdd = some ⟨oc_Storedd_initdd, od_Storedd_initdd, .func (PySem.W.fnOf "__init__" "Store.__init__" (defArgs s_Storedd_initdd) (defBody s_Storedd_initdd) (defScope s_Storedd_initdd) .none kV_Storedd_initdd dc_Storedd_initdd pm_Storedd_initdd an_Storedd_initdd cd_Storedd_initdd ct_Storedd_initdd), sl_Storedd_initdd⟩)
    (c_Storedd_initdd : PySem.W.codeIn K cd_Storedd_initdd "Store.__init__" = true)
    (k_Storedd_initdd : PySem.W.keepIn K (.ref f_Storedd_initdd) = true)
    (a_Deskdd_initdd : PySem.W.findIn K (.ref C_Desk) "__init__" = some (some (.ref f_Deskdd_initdd)))
    (i_Deskdd_initdd : PySem.W.isFn K (.ref f_Deskdd_initdd) = true)
    (l_Deskdd_initdd : K.lookup f_Deskdd_initdd = some ⟨oc_Deskdd_initdd, od_Deskdd_initdd, .func (PySem.W.fnOf "__init__" "Desk.__init__" (defArgs s_Deskdd_initdd) (defBody s_Deskdd_initdd) (defScope s_Deskdd_initdd) .none kV_Deskdd_initdd dc_Deskdd_initdd pm_Deskdd_initdd an_Deskdd_initdd cd_Deskdd_initdd ct_Deskdd_initdd), sl_Deskdd_initdd⟩)
    (c_Deskdd_initdd : PySem.W.codeIn K cd_Deskdd_initdd "Desk.__init__" = true)
    (k_Deskdd_initdd : PySem.W.keepIn K (.ref f_Deskdd_initdd) = true)
    (a_Store_now : PySem.W.findIn K (.ref C_Store) "now" = some (some (.ref f_Store_now)))
    (i_Store_now : PySem.W.isFn K (.ref f_Store_now) = true)
    (l_Store_now : K.lookup f_Store_now = some ⟨oc_Store_now, od_Store_now, .func (PySem.W.fnOf "now" "Store.now" (defArgs s_Store_now) (defBody s_Store_now) (defScope s_Store_now) .none kV_Store_now dc_Store_now pm_Store_now an_Store_now cd_Store_now ct_Store_now), sl_Store_now⟩)
    (c_Store_now : PySem.W.codeIn K cd_Store_now "Store.now" = true)
    (k_Store_now : PySem.W.keepIn K (.ref f_Store_now) = true)
    (a_is_name : PySem.W.nsIn K mainGlobals "is_name" = some (some (.ref f_is_name)))
    (l_is_name : K.lookup f_is_name = some ⟨oc_is_name, od_is_name, .func (PySem.W.fnOf "is_name" "is_name" (defArgs s_is_name) (defBody s_is_name) (defScope s_is_name) .none kV_is_name dc_is_name pm_is_name an_is_name cd_is_name ct_is_name), sl_is_name⟩)
    (c_is_name : PySem.W.codeIn K cd_is_name "is_name" = true)
    (k_is_name : PySem.W.keepIn K (.ref f_is_name) = true)
    (a_Store_check_there : PySem.W.findIn K (.ref C_Store) "check_there" = some (some (.ref f_Store_check_there)))
    (i_Store_check_there : PySem.W.isFn K (.ref f_Store_check_there) = true)
    (l_Store_check_there : K.lookup f_Store_check_there = some ⟨oc_Store_check_there, od_Store_check_there, .func (PySem.W.fnOf "check_there" "Store.check_there" (defArgs s_Store_check_there) (defBody s_Store_check_there) (defScope s_Store_check_there) .none kV_Store_check_there dc_Store_check_there pm_Store_check_there an_Store_check_there cd_Store_check_there ct_Store_check_there), sl_Store_check_there⟩)
    (c_Store_check_there : PySem.W.codeIn K cd_Store_check_there "Store.check_there" = true)
    (k_Store_check_there : PySem.W.keepIn K (.ref f_Store_check_there) = true)
    (a_Store_take : PySem.W.findIn K (.ref C_Store) "take" = some (some (.ref f_Store_take)))
    (i_Store_take : PySem.W.isFn K (.ref f_Store_take) = true)
    (l_Store_take : K.lookup f_Store_take = some ⟨oc_Store_take, od_Store_take, .func (PySem.W.fnOf "take" "Store.take" (defArgs s_Store_take) (defBody s_Store_take) (defScope s_Store_take) .none kV_Store_take dc_Store_take pm_Store_take an_Store_take cd_Store_take ct_Store_take), sl_Store_take⟩)
    (c_Store_take : PySem.W.codeIn K cd_Store_take "Store.take" = true)
    (k_Store_take : PySem.W.keepIn K (.ref f_Store_take) = true)
    (a_is_int : PySem.W.nsIn K mainGlobals "is_int" = some (some (.ref f_is_int)))
    (l_is_int : K.lookup f_is_int = some ⟨oc_is_int, od_is_int, .func (PySem.W.fnOf "is_int" "is_int" (defArgs s_is_int) (defBody s_is_int) (defScope s_is_int) .none kV_is_int dc_is_int pm_is_int an_is_int cd_is_int ct_is_int), sl_is_int⟩)
    (c_is_int : PySem.W.codeIn K cd_is_int "is_int" = true)
    (k_is_int : PySem.W.keepIn K (.ref f_is_int) = true)
    (a_is_within : PySem.W.nsIn K mainGlobals "is_within" = some (some (.ref f_is_within)))
    (l_is_within : K.lookup f_is_within = some ⟨oc_is_within, od_is_within, .func (PySem.W.fnOf "is_within" "is_within" (defArgs s_is_within) (defBody s_is_within) (defScope s_is_within) .none kV_is_within dc_is_within pm_is_within an_is_within cd_is_within ct_is_within), sl_is_within⟩)
    (c_is_within : PySem.W.codeIn K cd_is_within "is_within" = true)
    (k_is_within : PySem.W.keepIn K (.ref f_is_within) = true)
    (a_check_place : PySem.W.nsIn K mainGlobals "check_place" = some (some (.ref f_check_place)))
    (l_check_place : K.lookup f_check_place = some ⟨oc_check_place, od_check_place, .func (PySem.W.fnOf "check_place" "check_place" (defArgs s_check_place) (defBody s_check_place) (defScope s_check_place) .none kV_check_place dc_check_place pm_check_place an_check_place cd_check_place ct_check_place), sl_check_place⟩)
    (c_check_place : PySem.W.codeIn K cd_check_place "check_place" = true)
    (k_check_place : PySem.W.keepIn K (.ref f_check_place) = true)
    (a_is_sized : PySem.W.nsIn K mainGlobals "is_sized" = some (some (.ref f_is_sized)))
    (l_is_sized : K.lookup f_is_sized = some ⟨oc_is_sized, od_is_sized, .func (PySem.W.fnOf "is_sized" "is_sized" (defArgs s_is_sized) (defBody s_is_sized) (defScope s_is_sized) .none kV_is_sized dc_is_sized pm_is_sized an_is_sized cd_is_sized ct_is_sized), sl_is_sized⟩)
    (c_is_sized : PySem.W.codeIn K cd_is_sized "is_sized" = true)
    (k_is_sized : PySem.W.keepIn K (.ref f_is_sized) = true)
    (a_is_pair_of : PySem.W.nsIn K mainGlobals "is_pair_of" = some (some (.ref f_is_pair_of)))
    (l_is_pair_of : K.lookup f_is_pair_of = some ⟨oc_is_pair_of, od_is_pair_of, .func (PySem.W.fnOf "is_pair_of" "is_pair_of" (defArgs s_is_pair_of) (defBody s_is_pair_of) (defScope s_is_pair_of) .none kV_is_pair_of dc_is_pair_of pm_is_pair_of an_is_pair_of cd_is_pair_of ct_is_pair_of), sl_is_pair_of⟩)
    (c_is_pair_of : PySem.W.codeIn K cd_is_pair_of "is_pair_of" = true)
    (k_is_pair_of : PySem.W.keepIn K (.ref f_is_pair_of) = true)
    (a_is_web : PySem.W.nsIn K mainGlobals "is_web" = some (some (.ref f_is_web)))
    (l_is_web : K.lookup f_is_web = some ⟨oc_is_web, od_is_web, .func (PySem.W.fnOf "is_web" "is_web" (defArgs s_is_web) (defBody s_is_web) (defScope s_is_web) .none kV_is_web dc_is_web pm_is_web an_is_web cd_is_web ct_is_web), sl_is_web⟩)
    (c_is_web : PySem.W.codeIn K cd_is_web "is_web" = true)
    (k_is_web : PySem.W.keepIn K (.ref f_is_web) = true)
    (a_check_web : PySem.W.nsIn K mainGlobals "check_web" = some (some (.ref f_check_web)))
    (l_check_web : K.lookup f_check_web = some ⟨oc_check_web, od_check_web, .func (PySem.W.fnOf "check_web" "check_web" (defArgs s_check_web) (defBody s_check_web) (defScope s_check_web) .none kV_check_web dc_check_web pm_check_web an_check_web cd_check_web ct_check_web), sl_check_web⟩)
    (c_check_web : PySem.W.codeIn K cd_check_web "check_web" = true)
    (k_check_web : PySem.W.keepIn K (.ref f_check_web) = true)
    (a_check_two_places : PySem.W.nsIn K mainGlobals "check_two_places" = some (some (.ref f_check_two_places)))
    (l_check_two_places : K.lookup f_check_two_places = some ⟨oc_check_two_places, od_check_two_places, .func (PySem.W.fnOf "check_two_places" "check_two_places" (defArgs s_check_two_places) (defBody s_check_two_places) (defScope s_check_two_places) .none kV_check_two_places dc_check_two_places pm_check_two_places an_check_two_places cd_check_two_places ct_check_two_places), sl_check_two_places⟩)
    (c_check_two_places : PySem.W.codeIn K cd_check_two_places "check_two_places" = true)
    (k_check_two_places : PySem.W.keepIn K (.ref f_check_two_places) = true)
    (a_level_of : PySem.W.nsIn K mainGlobals "level_of" = some (some (.ref f_level_of)))
    (l_level_of : K.lookup f_level_of = some ⟨oc_level_of, od_level_of, .func (PySem.W.fnOf "level_of" "level_of" (defArgs s_level_of) (defBody s_level_of) (defScope s_level_of) .none kV_level_of dc_level_of pm_level_of an_level_of cd_level_of ct_level_of), sl_level_of⟩)
    (c_level_of : PySem.W.codeIn K cd_level_of "level_of" = true)
    (k_level_of : PySem.W.keepIn K (.ref f_level_of) = true)
    (a_check_forests_many : PySem.W.nsIn K mainGlobals "check_forests_many" = some (some (.ref f_check_forests_many)))
    (l_check_forests_many : K.lookup f_check_forests_many = some ⟨oc_check_forests_many, od_check_forests_many, .func (PySem.W.fnOf "check_forests_many" "check_forests_many" (defArgs s_check_forests_many) (defBody s_check_forests_many) (defScope s_check_forests_many) .none kV_check_forests_many dc_check_forests_many pm_check_forests_many an_check_forests_many cd_check_forests_many ct_check_forests_many), sl_check_forests_many⟩)
    (c_check_forests_many : PySem.W.codeIn K cd_check_forests_many "check_forests_many" = true)
    (k_check_forests_many : PySem.W.keepIn K (.ref f_check_forests_many) = true)
    (a_most_held : PySem.W.nsIn K mainGlobals "most_held" = some (some (.ref f_most_held)))
    (l_most_held : K.lookup f_most_held = some ⟨oc_most_held, od_most_held, .func (PySem.W.fnOf "most_held" "most_held" (defArgs s_most_held) (defBody s_most_held) (defScope s_most_held) .none kV_most_held dc_most_held pm_most_held an_most_held cd_most_held ct_most_held), sl_most_held⟩)
    (c_most_held : PySem.W.codeIn K cd_most_held "most_held" = true)
    (k_most_held : PySem.W.keepIn K (.ref f_most_held) = true)
    (a_is_play : PySem.W.nsIn K mainGlobals "is_play" = some (some (.ref f_is_play)))
    (l_is_play : K.lookup f_is_play = some ⟨oc_is_play, od_is_play, .func (PySem.W.fnOf "is_play" "is_play" (defArgs s_is_play) (defBody s_is_play) (defScope s_is_play) .none kV_is_play dc_is_play pm_is_play an_is_play cd_is_play ct_is_play), sl_is_play⟩)
    (c_is_play : PySem.W.codeIn K cd_is_play "is_play" = true)
    (k_is_play : PySem.W.keepIn K (.ref f_is_play) = true)
    (a_check_play : PySem.W.nsIn K mainGlobals "check_play" = some (some (.ref f_check_play)))
    (l_check_play : K.lookup f_check_play = some ⟨oc_check_play, od_check_play, .func (PySem.W.fnOf "check_play" "check_play" (defArgs s_check_play) (defBody s_check_play) (defScope s_check_play) .none kV_check_play dc_check_play pm_check_play an_check_play cd_check_play ct_check_play), sl_check_play⟩)
    (c_check_play : PySem.W.codeIn K cd_check_play "check_play" = true)
    (k_check_play : PySem.W.keepIn K (.ref f_check_play) = true)
    (a_outcome : PySem.W.nsIn K mainGlobals "outcome" = some (some (.ref f_outcome)))
    (l_outcome : K.lookup f_outcome = some ⟨oc_outcome, od_outcome, .func (PySem.W.fnOf "outcome" "outcome" (defArgs s_outcome) (defBody s_outcome) (defScope s_outcome) .none kV_outcome dc_outcome pm_outcome an_outcome cd_outcome ct_outcome), sl_outcome⟩)
    (c_outcome : PySem.W.codeIn K cd_outcome "outcome" = true)
    (k_outcome : PySem.W.keepIn K (.ref f_outcome) = true)
    (a_Desk_answer : PySem.W.findIn K (.ref C_Desk) "answer" = some (some (.ref f_Desk_answer)))
    (i_Desk_answer : PySem.W.isFn K (.ref f_Desk_answer) = true)
    (l_Desk_answer : K.lookup f_Desk_answer = some ⟨oc_Desk_answer, od_Desk_answer, .func (PySem.W.fnOf "answer" "Desk.answer" (defArgs s_Desk_answer) (defBody s_Desk_answer) (defScope s_Desk_answer) .none kV_Desk_answer dc_Desk_answer pm_Desk_answer an_Desk_answer cd_Desk_answer ct_Desk_answer), sl_Desk_answer⟩)
    (c_Desk_answer : PySem.W.codeIn K cd_Desk_answer "Desk.answer" = true)
    (k_Desk_answer : PySem.W.keepIn K (.ref f_Desk_answer) = true)
    (a_check_most : PySem.W.nsIn K mainGlobals "check_most" = some (some (.ref f_check_most)))
    (l_check_most : K.lookup f_check_most = some ⟨oc_check_most, od_check_most, .func (PySem.W.fnOf "check_most" "check_most" (defArgs s_check_most) (defBody s_check_most) (defScope s_check_most) .none kV_check_most dc_check_most pm_check_most an_check_most cd_check_most ct_check_most), sl_check_most⟩)
    (c_check_most : PySem.W.codeIn K cd_check_most "check_most" = true)
    (k_check_most : PySem.W.keepIn K (.ref f_check_most) = true)
    (a_Store_put : PySem.W.findIn K (.ref C_Store) "put" = some (some (.ref f_Store_put)))
    (i_Store_put : PySem.W.isFn K (.ref f_Store_put) = true)
    (l_Store_put : K.lookup f_Store_put = some ⟨oc_Store_put, od_Store_put, .func (PySem.W.fnOf "put" "Store.put" (defArgs s_Store_put) (defBody s_Store_put) (defScope s_Store_put) .none kV_Store_put dc_Store_put pm_Store_put an_Store_put cd_Store_put ct_Store_put), sl_Store_put⟩)
    (c_Store_put : PySem.W.codeIn K cd_Store_put "Store.put" = true)
    (k_Store_put : PySem.W.keepIn K (.ref f_Store_put) = true)
    (a_number_of : PySem.W.nsIn K mainGlobals "number_of" = some (some (.ref f_number_of)))
    (l_number_of : K.lookup f_number_of = some ⟨oc_number_of, od_number_of, .func (PySem.W.fnOf "number_of" "number_of" (defArgs s_number_of) (defBody s_number_of) (defScope s_number_of) .none kV_number_of dc_number_of pm_number_of an_number_of cd_number_of ct_number_of), sl_number_of⟩)
    (c_number_of : PySem.W.codeIn K cd_number_of "number_of" = true)
    (k_number_of : PySem.W.keepIn K (.ref f_number_of) = true)
    (a_pair_of : PySem.W.nsIn K mainGlobals "pair_of" = some (some (.ref f_pair_of)))
    (l_pair_of : K.lookup f_pair_of = some ⟨oc_pair_of, od_pair_of, .func (PySem.W.fnOf "pair_of" "pair_of" (defArgs s_pair_of) (defBody s_pair_of) (defScope s_pair_of) .none kV_pair_of dc_pair_of pm_pair_of an_pair_of cd_pair_of ct_pair_of), sl_pair_of⟩)
    (c_pair_of : PySem.W.codeIn K cd_pair_of "pair_of" = true)
    (k_pair_of : PySem.W.keepIn K (.ref f_pair_of) = true)
    (a_Desk_put_web : PySem.W.findIn K (.ref C_Desk) "put_web" = some (some (.ref f_Desk_put_web)))
    (i_Desk_put_web : PySem.W.isFn K (.ref f_Desk_put_web) = true)
    (l_Desk_put_web : K.lookup f_Desk_put_web = some ⟨oc_Desk_put_web, od_Desk_put_web, .func (PySem.W.fnOf "put_web" "Desk.put_web" (defArgs s_Desk_put_web) (defBody s_Desk_put_web) (defScope s_Desk_put_web) .none kV_Desk_put_web dc_Desk_put_web pm_Desk_put_web an_Desk_put_web cd_Desk_put_web ct_Desk_put_web), sl_Desk_put_web⟩)
    (c_Desk_put_web : PySem.W.codeIn K cd_Desk_put_web "Desk.put_web" = true)
    (k_Desk_put_web : PySem.W.keepIn K (.ref f_Desk_put_web) = true)
    (a_Store_names : PySem.W.findIn K (.ref C_Store) "names" = some (some (.ref f_Store_names)))
    (i_Store_names : PySem.W.isFn K (.ref f_Store_names) = true)
    (l_Store_names : K.lookup f_Store_names = some ⟨oc_Store_names, od_Store_names, .func (PySem.W.fnOf "names" "Store.names" (defArgs s_Store_names) (defBody s_Store_names) (defScope s_Store_names) .none kV_Store_names dc_Store_names pm_Store_names an_Store_names cd_Store_names ct_Store_names), sl_Store_names⟩)
    (c_Store_names : PySem.W.codeIn K cd_Store_names "Store.names" = true)
    (k_Store_names : PySem.W.keepIn K (.ref f_Store_names) = true)
    (a_Store_undo : PySem.W.findIn K (.ref C_Store) "undo" = some (some (.ref f_Store_undo)))
    (i_Store_undo : PySem.W.isFn K (.ref f_Store_undo) = true)
    (l_Store_undo : K.lookup f_Store_undo = some ⟨oc_Store_undo, od_Store_undo, .func (PySem.W.fnOf "undo" "Store.undo" (defArgs s_Store_undo) (defBody s_Store_undo) (defScope s_Store_undo) .none kV_Store_undo dc_Store_undo pm_Store_undo an_Store_undo cd_Store_undo ct_Store_undo), sl_Store_undo⟩)
    (c_Store_undo : PySem.W.codeIn K cd_Store_undo "Store.undo" = true)
    (k_Store_undo : PySem.W.keepIn K (.ref f_Store_undo) = true)
    (a_Desk_say : PySem.W.findIn K (.ref C_Desk) "say" = some (some (.ref f_Desk_say)))
    (i_Desk_say : PySem.W.isFn K (.ref f_Desk_say) = true)
    (l_Desk_say : K.lookup f_Desk_say = some ⟨oc_Desk_say, od_Desk_say, .func (PySem.W.fnOf "say" "Desk.say" (defArgs s_Desk_say) (defBody s_Desk_say) (defScope s_Desk_say) .none kV_Desk_say dc_Desk_say pm_Desk_say an_Desk_say cd_Desk_say ct_Desk_say), sl_Desk_say⟩)
    (c_Desk_say : PySem.W.codeIn K cd_Desk_say "Desk.say" = true)
    (k_Desk_say : PySem.W.keepIn K (.ref f_Desk_say) = true)
    (a__law_draw : PySem.W.nsIn K mainGlobals "_law_draw" = some (some (.ref f__law_draw)))
    (l__law_draw : K.lookup f__law_draw = some ⟨oc__law_draw, od__law_draw, .func (PySem.W.fnOf "_law_draw" "_law_draw" (defArgs s__law_draw) (defBody s__law_draw) (defScope s__law_draw) .none kV__law_draw dc__law_draw pm__law_draw an__law_draw cd__law_draw ct__law_draw), sl__law_draw⟩)
    (c__law_draw : PySem.W.codeIn K cd__law_draw "_law_draw" = true)
    (k__law_draw : PySem.W.keepIn K (.ref f__law_draw) = true)
    (a__law_hand : PySem.W.nsIn K mainGlobals "_law_hand" = some (some (.ref f__law_hand)))
    (l__law_hand : K.lookup f__law_hand = some ⟨oc__law_hand, od__law_hand, .func (PySem.W.fnOf "_law_hand" "_law_hand" (defArgs s__law_hand) (defBody s__law_hand) (defScope s__law_hand) .none kV__law_hand dc__law_hand pm__law_hand an__law_hand cd__law_hand ct__law_hand), sl__law_hand⟩)
    (c__law_hand : PySem.W.codeIn K cd__law_hand "_law_hand" = true)
    (k__law_hand : PySem.W.keepIn K (.ref f__law_hand) = true)
    (a__law_web_line : PySem.W.nsIn K mainGlobals "_law_web_line" = some (some (.ref f__law_web_line)))
    (l__law_web_line : K.lookup f__law_web_line = some ⟨oc__law_web_line, od__law_web_line, .func (PySem.W.fnOf "_law_web_line" "_law_web_line" (defArgs s__law_web_line) (defBody s__law_web_line) (defScope s__law_web_line) .none kV__law_web_line dc__law_web_line pm__law_web_line an__law_web_line cd__law_web_line ct__law_web_line), sl__law_web_line⟩)
    (c__law_web_line : PySem.W.codeIn K cd__law_web_line "_law_web_line" = true)
    (k__law_web_line : PySem.W.keepIn K (.ref f__law_web_line) = true)
    (a__law_is_unchanged : PySem.W.nsIn K mainGlobals "_law_is_unchanged" = some (some (.ref f__law_is_unchanged)))
    (l__law_is_unchanged : K.lookup f__law_is_unchanged = some ⟨oc__law_is_unchanged, od__law_is_unchanged, .func (PySem.W.fnOf "_law_is_unchanged" "_law_is_unchanged" (defArgs s__law_is_unchanged) (defBody s__law_is_unchanged) (defScope s__law_is_unchanged) .none kV__law_is_unchanged dc__law_is_unchanged pm__law_is_unchanged an__law_is_unchanged cd__law_is_unchanged ct__law_is_unchanged), sl__law_is_unchanged⟩)
    (c__law_is_unchanged : PySem.W.codeIn K cd__law_is_unchanged "_law_is_unchanged" = true)
    (k__law_is_unchanged : PySem.W.keepIn K (.ref f__law_is_unchanged) = true)
    (a__law_some : PySem.W.nsIn K mainGlobals "_law_some" = some (some (.ref f__law_some)))
    (l__law_some : K.lookup f__law_some = some ⟨oc__law_some, od__law_some, .func (PySem.W.fnOf "_law_some" "_law_some" (defArgs s__law_some) (defBody s__law_some) (defScope s__law_some) .none kV__law_some dc__law_some pm__law_some an__law_some cd__law_some ct__law_some), sl__law_some⟩)
    (c__law_some : PySem.W.codeIn K cd__law_some "_law_some" = true)
    (k__law_some : PySem.W.keepIn K (.ref f__law_some) = true)
    (a__law_no_line : PySem.W.nsIn K mainGlobals "_law_no_line" = some (some (.ref f__law_no_line)))
    (l__law_no_line : K.lookup f__law_no_line = some ⟨oc__law_no_line, od__law_no_line, .func (PySem.W.fnOf "_law_no_line" "_law_no_line" (defArgs s__law_no_line) (defBody s__law_no_line) (defScope s__law_no_line) .none kV__law_no_line dc__law_no_line pm__law_no_line an__law_no_line cd__law_no_line ct__law_no_line), sl__law_no_line⟩)
    (c__law_no_line : PySem.W.codeIn K cd__law_no_line "_law_no_line" = true)
    (k__law_no_line : PySem.W.keepIn K (.ref f__law_no_line) = true)
    (a__law_web : PySem.W.nsIn K mainGlobals "_law_web" = some (some (.ref f__law_web)))
    (l__law_web : K.lookup f__law_web = some ⟨oc__law_web, od__law_web, .func (PySem.W.fnOf "_law_web" "_law_web" (defArgs s__law_web) (defBody s__law_web) (defScope s__law_web) .none kV__law_web dc__law_web pm__law_web an__law_web cd__law_web ct__law_web), sl__law_web⟩)
    (c__law_web : PySem.W.codeIn K cd__law_web "_law_web" = true)
    (k__law_web : PySem.W.keepIn K (.ref f__law_web) = true)
    (a__law_word : PySem.W.nsIn K mainGlobals "_law_word" = some (some (.ref f__law_word)))
    (l__law_word : K.lookup f__law_word = some ⟨oc__law_word, od__law_word, .func (PySem.W.fnOf "_law_word" "_law_word" (defArgs s__law_word) (defBody s__law_word) (defScope s__law_word) .none kV__law_word dc__law_word pm__law_word an__law_word cd__law_word ct__law_word), sl__law_word⟩)
    (c__law_word : PySem.W.codeIn K cd__law_word "_law_word" = true)
    (k__law_word : PySem.W.keepIn K (.ref f__law_word) = true)
    (a__law_wrong : PySem.W.nsIn K mainGlobals "_law_wrong" = some (some (.ref f__law_wrong)))
    (l__law_wrong : K.lookup f__law_wrong = some ⟨oc__law_wrong, od__law_wrong, .func (PySem.W.fnOf "_law_wrong" "_law_wrong" (defArgs s__law_wrong) (defBody s__law_wrong) (defScope s__law_wrong) .none kV__law_wrong dc__law_wrong pm__law_wrong an__law_wrong cd__law_wrong ct__law_wrong), sl__law_wrong⟩)
    (c__law_wrong : PySem.W.codeIn K cd__law_wrong "_law_wrong" = true)
    (k__law_wrong : PySem.W.keepIn K (.ref f__law_wrong) = true)
    (a_law : PySem.W.nsIn K mainGlobals "law" = some (some (.ref f_law)))
    (l_law : K.lookup f_law = some ⟨oc_law, od_law, .func (PySem.W.fnOf "law" "law" (defArgs s_law) (defBody s_law) (defScope s_law) .none kV_law dc_law pm_law an_law (.ref co_law) ct_law), sl_law⟩)
    (c_law : PySem.W.codeIn K (.ref co_law) "law" = true)
    (k_law : PySem.W.keepIn K (.ref f_law) = true)
    (tp_law : PySem.W.tabOf K co_law = some P_law)
    (th_law : PySem.W.codeHdIn K co_law P_law = true)
    (tn_law : K.lookup P_law = none)
    (tt_law : h.get? P_law = some (PySem.W.tabObj #[]))
    (z_abs : PySem.W.nsIn K mainGlobals "abs" = some none)
    (z_all : PySem.W.nsIn K mainGlobals "all" = some none)
    (z_bool : PySem.W.nsIn K mainGlobals "bool" = some none)
    (z_dict : PySem.W.nsIn K mainGlobals "dict" = some none)
    (z_int : PySem.W.nsIn K mainGlobals "int" = some none)
    (z_isinstance : PySem.W.nsIn K mainGlobals "isinstance" = some none)
    (z_len : PySem.W.nsIn K mainGlobals "len" = some none)
    (z_list : PySem.W.nsIn K mainGlobals "list" = some none)
    (z_range : PySem.W.nsIn K mainGlobals "range" = some none)
    (z_sorted : PySem.W.nsIn K mainGlobals "sorted" = some none)
    (z_str : PySem.W.nsIn K mainGlobals "str" = some none)
    (z_tuple : PySem.W.nsIn K mainGlobals "tuple" = some none)
    (g_LETTERS : PySem.W.nsIn K mainGlobals "LETTERS" = some (some (.str "abcdefghijklmnopqrstuvwxyz" tk_LETTERS)))
    (g_MOST_DIGITS : PySem.W.nsIn K mainGlobals "MOST_DIGITS" = some (some (.int 4 tk_MOST_DIGITS)))
    (g_MOST_FORESTS : PySem.W.nsIn K mainGlobals "MOST_FORESTS" = some (some (.int 6 tk_MOST_FORESTS)))
    (g_MOST_NAME : PySem.W.nsIn K mainGlobals "MOST_NAME" = some (some (.int 8 tk_MOST_NAME)))
    (g_MOST_NAMES : PySem.W.nsIn K mainGlobals "MOST_NAMES" = some (some (.int 50 tk_MOST_NAMES)))
    (g_MOST_PLACES : PySem.W.nsIn K mainGlobals "MOST_PLACES" = some (some (.int 12 tk_MOST_PLACES)))
    (g_MOST_TIES : PySem.W.nsIn K mainGlobals "MOST_TIES" = some (some (.int 40 tk_MOST_TIES)))
    (g_MOST_VERSIONS : PySem.W.nsIn K mainGlobals "MOST_VERSIONS" = some (some (.int 20 tk_MOST_VERSIONS)))
    (nf_Desk_desk_store : PySem.W.findIn K (.ref C_Desk) "desk_store" = some none)
    (nf_Store_store_stages : PySem.W.findIn K (.ref C_Store) "store_stages" = some none)
    (aTe : PySem.W.nsIn K mainGlobals "TreeError" = some (some (.ref Te)))
    (e0_NoLine : PySem.W.nsIn K mainGlobals "NoLine" = some (some (.ref E_NoLine)))
    (e0_NoName : PySem.W.nsIn K mainGlobals "NoName" = some (some (.ref E_NoName)))
    (e0_NoNumber : PySem.W.nsIn K mainGlobals "NoNumber" = some (some (.ref E_NoNumber)))
    (e0_NoPlace : PySem.W.nsIn K mainGlobals "NoPlace" = some (some (.ref E_NoPlace)))
    (e0_NoPlay : PySem.W.nsIn K mainGlobals "NoPlay" = some (some (.ref E_NoPlay)))
    (e0_NoWeb : PySem.W.nsIn K mainGlobals "NoWeb" = some (some (.ref E_NoWeb)))
    (e0_TooMany : PySem.W.nsIn K mainGlobals "TooMany" = some (some (.ref E_TooMany)))
    (e2_NoLine : PySem.W.keepIn K (.ref E_NoLine) = true)
    (e3_NoLine : PySem.W.subIn K (.ref E_NoLine) (.type "BaseException") = some true)
    (e4_NoLine : PySem.W.typeIn K (.ref E_NoLine) = some (.type "type"))
    (e2_NoName : PySem.W.keepIn K (.ref E_NoName) = true)
    (e3_NoName : PySem.W.subIn K (.ref E_NoName) (.type "BaseException") = some true)
    (e4_NoName : PySem.W.typeIn K (.ref E_NoName) = some (.type "type"))
    (e2_NoNumber : PySem.W.keepIn K (.ref E_NoNumber) = true)
    (e3_NoNumber : PySem.W.subIn K (.ref E_NoNumber) (.type "BaseException") = some true)
    (e4_NoNumber : PySem.W.typeIn K (.ref E_NoNumber) = some (.type "type"))
    (e2_NoPlace : PySem.W.keepIn K (.ref E_NoPlace) = true)
    (e3_NoPlace : PySem.W.subIn K (.ref E_NoPlace) (.type "BaseException") = some true)
    (e4_NoPlace : PySem.W.typeIn K (.ref E_NoPlace) = some (.type "type"))
    (e2_NoPlay : PySem.W.keepIn K (.ref E_NoPlay) = true)
    (e3_NoPlay : PySem.W.subIn K (.ref E_NoPlay) (.type "BaseException") = some true)
    (e4_NoPlay : PySem.W.typeIn K (.ref E_NoPlay) = some (.type "type"))
    (e2_NoWeb : PySem.W.keepIn K (.ref E_NoWeb) = true)
    (e3_NoWeb : PySem.W.subIn K (.ref E_NoWeb) (.type "BaseException") = some true)
    (e4_NoWeb : PySem.W.typeIn K (.ref E_NoWeb) = some (.type "type"))
    (e2_TooMany : PySem.W.keepIn K (.ref E_TooMany) = true)
    (e3_TooMany : PySem.W.subIn K (.ref E_TooMany) (.type "BaseException") = some true)
    (e4_TooMany : PySem.W.typeIn K (.ref E_TooMany) = some (.type "type"))
    (e5_NoLine : (PySem.W.clsIn K E_NoLine).isSome = true)
    (e6_NoLine : PySem.W.findIn K (.ref E_NoLine) "__getattribute__" = some (some (.builtin "BaseException.__getattribute__")))
    (e7_NoLine : PySem.W.findIn K (.ref E_NoLine) "__getattr__" = some none)
    (e8_NoLine : PySem.W.findIn K (.ref E_NoLine) "__class__" = some (some (.builtin "object.__class__")))
    (e9_NoLine : PySem.W.mroIn K E_NoLine (.type "object") = some true)
    (ex_NoLine : PySem.W.exmOne K (.ref E_NoLine) (.ref Te) = some true)
    (kt_NoLine_NoLine : PySem.W.kitOne K (.ref E_NoLine) (.ref E_NoLine) = some true)
    (kt_NoLine_NoName : PySem.W.kitOne K (.ref E_NoLine) (.ref E_NoName) = some false)
    (kt_NoLine_NoNumber : PySem.W.kitOne K (.ref E_NoLine) (.ref E_NoNumber) = some false)
    (kt_NoLine_NoPlace : PySem.W.kitOne K (.ref E_NoLine) (.ref E_NoPlace) = some false)
    (kt_NoLine_NoPlay : PySem.W.kitOne K (.ref E_NoLine) (.ref E_NoPlay) = some false)
    (kt_NoLine_NoWeb : PySem.W.kitOne K (.ref E_NoLine) (.ref E_NoWeb) = some false)
    (e5_NoName : (PySem.W.clsIn K E_NoName).isSome = true)
    (e6_NoName : PySem.W.findIn K (.ref E_NoName) "__getattribute__" = some (some (.builtin "BaseException.__getattribute__")))
    (e7_NoName : PySem.W.findIn K (.ref E_NoName) "__getattr__" = some none)
    (e8_NoName : PySem.W.findIn K (.ref E_NoName) "__class__" = some (some (.builtin "object.__class__")))
    (e9_NoName : PySem.W.mroIn K E_NoName (.type "object") = some true)
    (ex_NoName : PySem.W.exmOne K (.ref E_NoName) (.ref Te) = some true)
    (kt_NoName_NoLine : PySem.W.kitOne K (.ref E_NoName) (.ref E_NoLine) = some false)
    (kt_NoName_NoName : PySem.W.kitOne K (.ref E_NoName) (.ref E_NoName) = some true)
    (kt_NoName_NoNumber : PySem.W.kitOne K (.ref E_NoName) (.ref E_NoNumber) = some false)
    (kt_NoName_NoPlace : PySem.W.kitOne K (.ref E_NoName) (.ref E_NoPlace) = some false)
    (kt_NoName_NoPlay : PySem.W.kitOne K (.ref E_NoName) (.ref E_NoPlay) = some false)
    (kt_NoName_NoWeb : PySem.W.kitOne K (.ref E_NoName) (.ref E_NoWeb) = some false)
    (e5_NoNumber : (PySem.W.clsIn K E_NoNumber).isSome = true)
    (e6_NoNumber : PySem.W.findIn K (.ref E_NoNumber) "__getattribute__" = some (some (.builtin "BaseException.__getattribute__")))
    (e7_NoNumber : PySem.W.findIn K (.ref E_NoNumber) "__getattr__" = some none)
    (e8_NoNumber : PySem.W.findIn K (.ref E_NoNumber) "__class__" = some (some (.builtin "object.__class__")))
    (e9_NoNumber : PySem.W.mroIn K E_NoNumber (.type "object") = some true)
    (ex_NoNumber : PySem.W.exmOne K (.ref E_NoNumber) (.ref Te) = some true)
    (kt_NoNumber_NoLine : PySem.W.kitOne K (.ref E_NoNumber) (.ref E_NoLine) = some false)
    (kt_NoNumber_NoName : PySem.W.kitOne K (.ref E_NoNumber) (.ref E_NoName) = some false)
    (kt_NoNumber_NoNumber : PySem.W.kitOne K (.ref E_NoNumber) (.ref E_NoNumber) = some true)
    (kt_NoNumber_NoPlace : PySem.W.kitOne K (.ref E_NoNumber) (.ref E_NoPlace) = some false)
    (kt_NoNumber_NoPlay : PySem.W.kitOne K (.ref E_NoNumber) (.ref E_NoPlay) = some false)
    (kt_NoNumber_NoWeb : PySem.W.kitOne K (.ref E_NoNumber) (.ref E_NoWeb) = some false)
    (e5_NoPlace : (PySem.W.clsIn K E_NoPlace).isSome = true)
    (e6_NoPlace : PySem.W.findIn K (.ref E_NoPlace) "__getattribute__" = some (some (.builtin "BaseException.__getattribute__")))
    (e7_NoPlace : PySem.W.findIn K (.ref E_NoPlace) "__getattr__" = some none)
    (e8_NoPlace : PySem.W.findIn K (.ref E_NoPlace) "__class__" = some (some (.builtin "object.__class__")))
    (e9_NoPlace : PySem.W.mroIn K E_NoPlace (.type "object") = some true)
    (ex_NoPlace : PySem.W.exmOne K (.ref E_NoPlace) (.ref Te) = some true)
    (kt_NoPlace_NoLine : PySem.W.kitOne K (.ref E_NoPlace) (.ref E_NoLine) = some false)
    (kt_NoPlace_NoName : PySem.W.kitOne K (.ref E_NoPlace) (.ref E_NoName) = some false)
    (kt_NoPlace_NoNumber : PySem.W.kitOne K (.ref E_NoPlace) (.ref E_NoNumber) = some false)
    (kt_NoPlace_NoPlace : PySem.W.kitOne K (.ref E_NoPlace) (.ref E_NoPlace) = some true)
    (kt_NoPlace_NoPlay : PySem.W.kitOne K (.ref E_NoPlace) (.ref E_NoPlay) = some false)
    (kt_NoPlace_NoWeb : PySem.W.kitOne K (.ref E_NoPlace) (.ref E_NoWeb) = some false)
    (e5_NoPlay : (PySem.W.clsIn K E_NoPlay).isSome = true)
    (e6_NoPlay : PySem.W.findIn K (.ref E_NoPlay) "__getattribute__" = some (some (.builtin "BaseException.__getattribute__")))
    (e7_NoPlay : PySem.W.findIn K (.ref E_NoPlay) "__getattr__" = some none)
    (e8_NoPlay : PySem.W.findIn K (.ref E_NoPlay) "__class__" = some (some (.builtin "object.__class__")))
    (e9_NoPlay : PySem.W.mroIn K E_NoPlay (.type "object") = some true)
    (ex_NoPlay : PySem.W.exmOne K (.ref E_NoPlay) (.ref Te) = some true)
    (kt_NoPlay_NoLine : PySem.W.kitOne K (.ref E_NoPlay) (.ref E_NoLine) = some false)
    (kt_NoPlay_NoName : PySem.W.kitOne K (.ref E_NoPlay) (.ref E_NoName) = some false)
    (kt_NoPlay_NoNumber : PySem.W.kitOne K (.ref E_NoPlay) (.ref E_NoNumber) = some false)
    (kt_NoPlay_NoPlace : PySem.W.kitOne K (.ref E_NoPlay) (.ref E_NoPlace) = some false)
    (kt_NoPlay_NoPlay : PySem.W.kitOne K (.ref E_NoPlay) (.ref E_NoPlay) = some true)
    (kt_NoPlay_NoWeb : PySem.W.kitOne K (.ref E_NoPlay) (.ref E_NoWeb) = some false)
    (e5_NoWeb : (PySem.W.clsIn K E_NoWeb).isSome = true)
    (e6_NoWeb : PySem.W.findIn K (.ref E_NoWeb) "__getattribute__" = some (some (.builtin "BaseException.__getattribute__")))
    (e7_NoWeb : PySem.W.findIn K (.ref E_NoWeb) "__getattr__" = some none)
    (e8_NoWeb : PySem.W.findIn K (.ref E_NoWeb) "__class__" = some (some (.builtin "object.__class__")))
    (e9_NoWeb : PySem.W.mroIn K E_NoWeb (.type "object") = some true)
    (ex_NoWeb : PySem.W.exmOne K (.ref E_NoWeb) (.ref Te) = some true)
    (kt_NoWeb_NoLine : PySem.W.kitOne K (.ref E_NoWeb) (.ref E_NoLine) = some false)
    (kt_NoWeb_NoName : PySem.W.kitOne K (.ref E_NoWeb) (.ref E_NoName) = some false)
    (kt_NoWeb_NoNumber : PySem.W.kitOne K (.ref E_NoWeb) (.ref E_NoNumber) = some false)
    (kt_NoWeb_NoPlace : PySem.W.kitOne K (.ref E_NoWeb) (.ref E_NoPlace) = some false)
    (kt_NoWeb_NoPlay : PySem.W.kitOne K (.ref E_NoWeb) (.ref E_NoPlay) = some false)
    (kt_NoWeb_NoWeb : PySem.W.kitOne K (.ref E_NoWeb) (.ref E_NoWeb) = some true)
    (sp1 : PySem.W.specialIn K (.builtin "object.__class__") "__get__" = some (some (.builtin "getset_descriptor.__get__")))
    (sp2 : PySem.W.takesIn K (.builtin "object.__class__") = some true)
    (e1_NoLine : PySem.W.excIn K E_NoLine [.type "ValueError", .type "Exception", .type "BaseException", .type "object"] "ValueError.__new__" = true)
    (e1_NoName : PySem.W.excIn K E_NoName [.type "ValueError", .type "Exception", .type "BaseException", .type "object"] "ValueError.__new__" = true)
    (e1_NoNumber : PySem.W.excIn K E_NoNumber [.type "ValueError", .type "Exception", .type "BaseException", .type "object"] "ValueError.__new__" = true)
    (e1_NoPlace : PySem.W.excIn K E_NoPlace [.type "ValueError", .type "Exception", .type "BaseException", .type "object"] "ValueError.__new__" = true)
    (e1_NoPlay : PySem.W.excIn K E_NoPlay [.type "ValueError", .type "Exception", .type "BaseException", .type "object"] "ValueError.__new__" = true)
    (e1_NoWeb : PySem.W.excIn K E_NoWeb [.type "ValueError", .type "Exception", .type "BaseException", .type "object"] "ValueError.__new__" = true)
    (wa_NUMBERS : PySem.W.nsIn K mainGlobals "NUMBERS" = some (some (.ref d_NUMBERS)))
    (wl_NUMBERS : K.lookup d_NUMBERS = some ⟨.type "dict", none, .dict es_NUMBERS n_NUMBERS, #[]⟩)
    (wk_NUMBERS : PySem.W.KeysLit w.params es_NUMBERS.toList)
    (ws_NUMBERS : (d_NUMBERS == sysModules) = false)
    (wy_NUMBERS : wdKeys K d_NUMBERS = some (["tie", "held", "trees", "forests", "strength", "level", "play", "count"] : List Str))
    (wv_NUMBERS_tie : PySem.W.nsIn K d_NUMBERS "tie" = some (some u_NUMBERS_tie))
    (wr_NUMBERS_tie : readK K 4 u_NUMBERS_tie = some (.int 2))
    (wv_NUMBERS_held : PySem.W.nsIn K d_NUMBERS "held" = some (some u_NUMBERS_held))
    (wr_NUMBERS_held : readK K 4 u_NUMBERS_held = some (.int 1))
    (wv_NUMBERS_trees : PySem.W.nsIn K d_NUMBERS "trees" = some (some u_NUMBERS_trees))
    (wr_NUMBERS_trees : readK K 4 u_NUMBERS_trees = some (.int 0))
    (wv_NUMBERS_forests : PySem.W.nsIn K d_NUMBERS "forests" = some (some u_NUMBERS_forests))
    (wr_NUMBERS_forests : readK K 4 u_NUMBERS_forests = some (.int 0))
    (wv_NUMBERS_strength : PySem.W.nsIn K d_NUMBERS "strength" = some (some u_NUMBERS_strength))
    (wr_NUMBERS_strength : readK K 4 u_NUMBERS_strength = some (.int 0))
    (wv_NUMBERS_level : PySem.W.nsIn K d_NUMBERS "level" = some (some u_NUMBERS_level))
    (wr_NUMBERS_level : readK K 4 u_NUMBERS_level = some (.int 2))
    (wv_NUMBERS_play : PySem.W.nsIn K d_NUMBERS "play" = some (some u_NUMBERS_play))
    (wr_NUMBERS_play : readK K 4 u_NUMBERS_play = some (.int 2))
    (wv_NUMBERS_count : PySem.W.nsIn K d_NUMBERS "count" = some (some u_NUMBERS_count))
    (wr_NUMBERS_count : readK K 4 u_NUMBERS_count = some (.int 0))
    (x1_TooMany : oexIn K E_TooMany = true)
    (x2_TooMany : PySem.W.findIn K (.ref E_TooMany) "__setattr__" = some (some (.builtin "object.__setattr__")))
    (x6_TooMany : PySem.W.findIn K (.ref E_TooMany) "__init__" = some (some (.ref f_TooManyddi)))
    (x7_TooMany : PySem.W.typeIn K (.ref f_TooManyddi) = some (.type "function"))
    (xl_TooMany : K.lookup f_TooManyddi = some ⟨oc_TooManyddi, od_TooManyddi, .func (PySem.W.ksFn "__init__" "TooMany.__init__" (defArgs s_TooManyddi) (defBody s_TooManyddi) (defScope s_TooManyddi) .none kV_TooManyddi dc_TooManyddi pm_TooManyddi an_TooManyddi (.ref co_TooManyddi) ct_TooManyddi cc_TooManyddi), sl_TooManyddi⟩)
    (xc_TooMany : K.lookup cc_TooManyddi = some ⟨cl_TooManyddi, cld_TooManyddi, .cell (some (.ref E_TooMany)), csl_TooManyddi⟩)
    (xf_TooMany : codeFileIn K co_TooManyddi l.prog.main.file = true)
    (xt_TooMany : (l.prog.main.scope.names.lookup ("super" : Str)).isSome = false)
    (xs_TooMany : PySem.W.nsIn K mainGlobals "super" = some none)
    (x8_TooMany : PySem.W.mroIn K E_TooMany (.ref E_TooMany) = some true)
    (x9_TooMany : PySem.W.subIn K (.ref E_TooMany) (.type "ValueError") = some true)
    (x10_TooMany : PySem.W.ks_superIn K E_TooMany E_TooMany "__init__" = some (some (.builtin "ValueError.__init__")))
    (x11_TooMany : PySem.W.nsIn K PySem.cStatics "thirdparty.any" = some none)
    (xd_TooMany : PySem.W.codeIn K (.ref co_TooManyddi) "TooMany.__init__" = true)
    (xn_TooMany : PySem.W.findIn K (.ref E_TooMany) "most" = some none)
    (math : ∀ ns : List Int, ns.length ≤ 63 → (∃ μ, F_law [.fl ns] [] = .ok (.bl true) μ) ∧ ∃ μ, F_law [.ref 0] [.lst (ns.map T.int)] = .ok (.bl true) μ) :
    LamX.LawAtS l w K (L2.CX l.prog w) 13 63 "script" mg fa h := by
  have e := hfa.symm.trans (PySem.W.mg_of X G a_law)
  cases e
  have m_NoLine : mg "NoLine" = some (.ref E_NoLine) := PySem.W.mg_of X G e0_NoLine
  have K_NoLine : ErK K E_NoLine := ⟨e5_NoLine, e6_NoLine, e7_NoLine, e3_NoLine, e8_NoLine, sp1, sp2, e9_NoLine⟩
  have m_NoName : mg "NoName" = some (.ref E_NoName) := PySem.W.mg_of X G e0_NoName
  have K_NoName : ErK K E_NoName := ⟨e5_NoName, e6_NoName, e7_NoName, e3_NoName, e8_NoName, sp1, sp2, e9_NoName⟩
  have m_NoNumber : mg "NoNumber" = some (.ref E_NoNumber) := PySem.W.mg_of X G e0_NoNumber
  have K_NoNumber : ErK K E_NoNumber := ⟨e5_NoNumber, e6_NoNumber, e7_NoNumber, e3_NoNumber, e8_NoNumber, sp1, sp2, e9_NoNumber⟩
  have m_NoPlace : mg "NoPlace" = some (.ref E_NoPlace) := PySem.W.mg_of X G e0_NoPlace
  have K_NoPlace : ErK K E_NoPlace := ⟨e5_NoPlace, e6_NoPlace, e7_NoPlace, e3_NoPlace, e8_NoPlace, sp1, sp2, e9_NoPlace⟩
  have m_NoPlay : mg "NoPlay" = some (.ref E_NoPlay) := PySem.W.mg_of X G e0_NoPlay
  have K_NoPlay : ErK K E_NoPlay := ⟨e5_NoPlay, e6_NoPlay, e7_NoPlay, e3_NoPlay, e8_NoPlay, sp1, sp2, e9_NoPlay⟩
  have m_NoWeb : mg "NoWeb" = some (.ref E_NoWeb) := PySem.W.mg_of X G e0_NoWeb
  have K_NoWeb : ErK K E_NoWeb := ⟨e5_NoWeb, e6_NoWeb, e7_NoWeb, e3_NoWeb, e8_NoWeb, sp1, sp2, e9_NoWeb⟩
  have m_TooMany : mg "TooMany" = some (.ref E_TooMany) := PySem.W.mg_of X G e0_TooMany
  have T : TX w K mg := {
    b_abs := PySem.W.mg_none_of X G z_abs
    b_all := PySem.W.mg_none_of X G z_all
    b_bool := PySem.W.mg_none_of X G z_bool
    b_dict := PySem.W.mg_none_of X G z_dict
    b_int := PySem.W.mg_none_of X G z_int
    b_isinstance := PySem.W.mg_none_of X G z_isinstance
    b_len := PySem.W.mg_none_of X G z_len
    b_list := PySem.W.mg_none_of X G z_list
    b_range := PySem.W.mg_none_of X G z_range
    b_sorted := PySem.W.mg_none_of X G z_sorted
    b_str := PySem.W.mg_none_of X G z_str
    b_tuple := PySem.W.mg_none_of X G z_tuple
    g_LETTERS := ⟨_, .str "abcdefghijklmnopqrstuvwxyz", PySem.W.mg_of X G g_LETTERS, ⟨_, rfl⟩, fun _ _ _ => rfl⟩
    g_MOST_DIGITS := ⟨_, .int 4, PySem.W.mg_of X G g_MOST_DIGITS, ⟨_, rfl⟩, fun _ _ _ => rfl⟩
    g_MOST_FORESTS := ⟨_, .int 6, PySem.W.mg_of X G g_MOST_FORESTS, ⟨_, rfl⟩, fun _ _ _ => rfl⟩
    g_MOST_NAME := ⟨_, .int 8, PySem.W.mg_of X G g_MOST_NAME, ⟨_, rfl⟩, fun _ _ _ => rfl⟩
    g_MOST_NAMES := ⟨_, .int 50, PySem.W.mg_of X G g_MOST_NAMES, ⟨_, rfl⟩, fun _ _ _ => rfl⟩
    g_MOST_PLACES := ⟨_, .int 12, PySem.W.mg_of X G g_MOST_PLACES, ⟨_, rfl⟩, fun _ _ _ => rfl⟩
    g_MOST_TIES := ⟨_, .int 40, PySem.W.mg_of X G g_MOST_TIES, ⟨_, rfl⟩, fun _ _ _ => rfl⟩
    g_MOST_VERSIONS := ⟨_, .int 20, PySem.W.mg_of X G g_MOST_VERSIONS, ⟨_, rfl⟩, fun _ _ _ => rfl⟩
    x_NoLine := ⟨_, _, _, _, _, m_NoLine, F.excBase_ValueError, e1_NoLine, e2_NoLine, e3_NoLine, e4_NoLine⟩
    x_NoName := ⟨_, _, _, _, _, m_NoName, F.excBase_ValueError, e1_NoName, e2_NoName, e3_NoName, e4_NoName⟩
    x_NoNumber := ⟨_, _, _, _, _, m_NoNumber, F.excBase_ValueError, e1_NoNumber, e2_NoNumber, e3_NoNumber, e4_NoNumber⟩
    x_NoPlace := ⟨_, _, _, _, _, m_NoPlace, F.excBase_ValueError, e1_NoPlace, e2_NoPlace, e3_NoPlace, e4_NoPlace⟩
    x_NoPlay := ⟨_, _, _, _, _, m_NoPlay, F.excBase_ValueError, e1_NoPlay, e2_NoPlay, e3_NoPlay, e4_NoPlay⟩
    x_NoWeb := ⟨_, _, _, _, _, m_NoWeb, F.excBase_ValueError, e1_NoWeb, e2_NoWeb, e3_NoWeb, e4_NoWeb⟩
    f_Desk_desk_store := ⟨_, PySem.W.mg_of X G aC_Desk, ⟨pg_Desk, hd_Desk, po_Desk, sa_Desk⟩, nf_Desk_desk_store⟩
    f_Store_store_stages := ⟨_, PySem.W.mg_of X G aC_Store, ⟨pg_Store, hd_Store, po_Store, sa_Store⟩, nf_Store_store_stages⟩
    w_NUMBERS := ⟨_, _, _, PySem.W.mg_of X G wa_NUMBERS, wl_NUMBERS, wk_NUMBERS, ws_NUMBERS, wy_NUMBERS, fun q hq => by
      simp only [tab_NUMBERS, List.mem_cons, List.not_mem_nil, or_false] at hq
      rcases hq with rfl | rfl | rfl | rfl | rfl | rfl | rfl | rfl
      · obtain ⟨v, h1, h2⟩ := readK_ok 4 _ _ wr_NUMBERS_tie; exact ⟨v, _, wv_NUMBERS_tie, h1, h2⟩
      · obtain ⟨v, h1, h2⟩ := readK_ok 4 _ _ wr_NUMBERS_held; exact ⟨v, _, wv_NUMBERS_held, h1, h2⟩
      · obtain ⟨v, h1, h2⟩ := readK_ok 4 _ _ wr_NUMBERS_trees; exact ⟨v, _, wv_NUMBERS_trees, h1, h2⟩
      · obtain ⟨v, h1, h2⟩ := readK_ok 4 _ _ wr_NUMBERS_forests; exact ⟨v, _, wv_NUMBERS_forests, h1, h2⟩
      · obtain ⟨v, h1, h2⟩ := readK_ok 4 _ _ wr_NUMBERS_strength; exact ⟨v, _, wv_NUMBERS_strength, h1, h2⟩
      · obtain ⟨v, h1, h2⟩ := readK_ok 4 _ _ wr_NUMBERS_level; exact ⟨v, _, wv_NUMBERS_level, h1, h2⟩
      · obtain ⟨v, h1, h2⟩ := readK_ok 4 _ _ wr_NUMBERS_play; exact ⟨v, _, wv_NUMBERS_play, h1, h2⟩
      · obtain ⟨v, h1, h2⟩ := readK_ok 4 _ _ wr_NUMBERS_count; exact ⟨v, _, wv_NUMBERS_count, h1, h2⟩⟩
    er := fun cn hcn C hC => by
      simp only [errs, List.mem_cons, List.not_mem_nil, or_false] at hcn
      rcases hcn with rfl | rfl | rfl | rfl | rfl | rfl
      · rw [m_NoLine] at hC; cases hC
        refine ⟨K_NoLine, fun x hx D hD => ?_⟩
        simp only [errs, List.mem_cons, List.not_mem_nil, or_false] at hx
        rcases hx with rfl | rfl | rfl | rfl | rfl | rfl
        · rw [m_NoLine] at hD; cases hD; exact kt_NoLine_NoLine
        · rw [m_NoName] at hD; cases hD; exact kt_NoLine_NoName
        · rw [m_NoNumber] at hD; cases hD; exact kt_NoLine_NoNumber
        · rw [m_NoPlace] at hD; cases hD; exact kt_NoLine_NoPlace
        · rw [m_NoPlay] at hD; cases hD; exact kt_NoLine_NoPlay
        · rw [m_NoWeb] at hD; cases hD; exact kt_NoLine_NoWeb
      · rw [m_NoName] at hC; cases hC
        refine ⟨K_NoName, fun x hx D hD => ?_⟩
        simp only [errs, List.mem_cons, List.not_mem_nil, or_false] at hx
        rcases hx with rfl | rfl | rfl | rfl | rfl | rfl
        · rw [m_NoLine] at hD; cases hD; exact kt_NoName_NoLine
        · rw [m_NoName] at hD; cases hD; exact kt_NoName_NoName
        · rw [m_NoNumber] at hD; cases hD; exact kt_NoName_NoNumber
        · rw [m_NoPlace] at hD; cases hD; exact kt_NoName_NoPlace
        · rw [m_NoPlay] at hD; cases hD; exact kt_NoName_NoPlay
        · rw [m_NoWeb] at hD; cases hD; exact kt_NoName_NoWeb
      · rw [m_NoNumber] at hC; cases hC
        refine ⟨K_NoNumber, fun x hx D hD => ?_⟩
        simp only [errs, List.mem_cons, List.not_mem_nil, or_false] at hx
        rcases hx with rfl | rfl | rfl | rfl | rfl | rfl
        · rw [m_NoLine] at hD; cases hD; exact kt_NoNumber_NoLine
        · rw [m_NoName] at hD; cases hD; exact kt_NoNumber_NoName
        · rw [m_NoNumber] at hD; cases hD; exact kt_NoNumber_NoNumber
        · rw [m_NoPlace] at hD; cases hD; exact kt_NoNumber_NoPlace
        · rw [m_NoPlay] at hD; cases hD; exact kt_NoNumber_NoPlay
        · rw [m_NoWeb] at hD; cases hD; exact kt_NoNumber_NoWeb
      · rw [m_NoPlace] at hC; cases hC
        refine ⟨K_NoPlace, fun x hx D hD => ?_⟩
        simp only [errs, List.mem_cons, List.not_mem_nil, or_false] at hx
        rcases hx with rfl | rfl | rfl | rfl | rfl | rfl
        · rw [m_NoLine] at hD; cases hD; exact kt_NoPlace_NoLine
        · rw [m_NoName] at hD; cases hD; exact kt_NoPlace_NoName
        · rw [m_NoNumber] at hD; cases hD; exact kt_NoPlace_NoNumber
        · rw [m_NoPlace] at hD; cases hD; exact kt_NoPlace_NoPlace
        · rw [m_NoPlay] at hD; cases hD; exact kt_NoPlace_NoPlay
        · rw [m_NoWeb] at hD; cases hD; exact kt_NoPlace_NoWeb
      · rw [m_NoPlay] at hC; cases hC
        refine ⟨K_NoPlay, fun x hx D hD => ?_⟩
        simp only [errs, List.mem_cons, List.not_mem_nil, or_false] at hx
        rcases hx with rfl | rfl | rfl | rfl | rfl | rfl
        · rw [m_NoLine] at hD; cases hD; exact kt_NoPlay_NoLine
        · rw [m_NoName] at hD; cases hD; exact kt_NoPlay_NoName
        · rw [m_NoNumber] at hD; cases hD; exact kt_NoPlay_NoNumber
        · rw [m_NoPlace] at hD; cases hD; exact kt_NoPlay_NoPlace
        · rw [m_NoPlay] at hD; cases hD; exact kt_NoPlay_NoPlay
        · rw [m_NoWeb] at hD; cases hD; exact kt_NoPlay_NoWeb
      · rw [m_NoWeb] at hC; cases hC
        refine ⟨K_NoWeb, fun x hx D hD => ?_⟩
        simp only [errs, List.mem_cons, List.not_mem_nil, or_false] at hx
        rcases hx with rfl | rfl | rfl | rfl | rfl | rfl
        · rw [m_NoLine] at hD; cases hD; exact kt_NoWeb_NoLine
        · rw [m_NoName] at hD; cases hD; exact kt_NoWeb_NoName
        · rw [m_NoNumber] at hD; cases hD; exact kt_NoWeb_NoNumber
        · rw [m_NoPlace] at hD; cases hD; exact kt_NoWeb_NoPlace
        · rw [m_NoPlay] at hD; cases hD; exact kt_NoWeb_NoPlay
        · rw [m_NoWeb] at hD; cases hD; exact kt_NoWeb_NoWeb
    te := ⟨Te, PySem.W.mg_of X G aTe, fun cn hcn C hC => by
      simp only [errs, List.mem_cons, List.not_mem_nil, or_false] at hcn
      rcases hcn with rfl | rfl | rfl | rfl | rfl | rfl
      · rw [m_NoLine] at hC; cases hC; exact ex_NoLine
      · rw [m_NoName] at hC; cases hC; exact ex_NoName
      · rw [m_NoNumber] at hC; cases hC; exact ex_NoNumber
      · rw [m_NoPlace] at hC; cases hC; exact ex_NoPlace
      · rw [m_NoPlay] at hC; cases hC; exact ex_NoPlay
      · rw [m_NoWeb] at hC; cases hC; exact ex_NoWeb⟩
    es := fun cn hcn => by
      simp only [errs, List.mem_cons, List.not_mem_nil, or_false] at hcn
      rcases hcn with rfl | rfl | rfl | rfl | rfl | rfl
      · exact ⟨_, m_NoLine⟩
      · exact ⟨_, m_NoName⟩
      · exact ⟨_, m_NoNumber⟩
      · exact ⟨_, m_NoPlace⟩
      · exact ⟨_, m_NoPlay⟩
      · exact ⟨_, m_NoWeb⟩ }
  let tb : List (Addr × Str) := [(P_law, (("law" : Str) ++ (".<locals>." : Str)) ++ ("<lambda>" : Str))]
  have hm_law : (P_law, (("law" : Str) ++ (".<locals>." : Str)) ++ ("<lambda>" : Str)) ∈ tb := by simp [tb]
  have hu_law : ∀ p ∈ tb, p.1 = P_law → p.2 = (("law" : Str) ++ (".<locals>." : Str)) ++ ("<lambda>" : Str) := fun p hp e => by
    simp only [tb, List.mem_cons, List.not_mem_nil, or_false] at hp
    rcases hp with rfl
    · rfl
  refine ⟨PySem.W.fnOf "law" "law" (defArgs s_law) (defBody s_law) (defScope s_law) .none kV_law dc_law pm_law an_law (.ref co_law) ct_law, [(co_law, P_law)], spT ⟨K, mg, tb⟩ 1 F_law, fun p hp => ?_, fun p hp => ?_, fun p hp => ?_, fun s v => .of_eq rfl, fun H a ns hl _ hT hS => law_start (fun q hq => ?_) hS (math ns hl).1 (math ns hl).2, fun base KB GB TBs => ?_⟩
  · simp only [List.mem_cons, List.not_mem_nil, or_false] at hp
    rcases hp with rfl
    · exact tt_law
  · simp only [List.mem_cons, List.not_mem_nil, or_false] at hp
    rcases hp with rfl
    · exact tn_law
  · simp only [List.mem_cons, List.not_mem_nil, or_false] at hp
    rcases hp with rfl
    · exact PySem.W.codeHd_of_K X th_law
  · simp only [tb, List.mem_cons, List.not_mem_nil, or_false] at hq
    rcases hq with rfl
    · exact hT (co_law, P_law) (by simp)
  · have xdummy : True := trivial
    have X_TooMany : Exc1 l.prog w K mg base "TooMany" "most" 1 := exc1_of m_TooMany x1_TooMany x2_TooMany e3_TooMany e4_TooMany e2_TooMany x6_TooMany x7_TooMany xl_TooMany xc_TooMany xf_TooMany xt_TooMany (PySem.W.mg_none_of X G xs_TooMany) x8_TooMany x9_TooMany x10_TooMany x11_TooMany xd_TooMany xn_TooMany ⟨_, rfl, rfl⟩ rfl rfl rfl rfl rfl (by decide) (by decide) (by decide) (by decide +kernel) rfl rfl (fun _ => rfl) (fun _ => rfl) (fun _ _ => rfl)
    have TB_law := TBs (co_law, P_law) (by simp)
    have TW := fd_mk (st := s__law_word) l__law_word c__law_word k__law_word
    have mw := PySem.W.mg_of X G a__law_word
    have D_Storedd_initdd := ok_Storedd_initdd (P := l.prog) (base := base) (tb := tb) (fd_mk (st := s_Storedd_initdd) l_Storedd_initdd c_Storedd_initdd k_Storedd_initdd) (PySem.W.mg_of X G aC_Store) ⟨mk_Store, a_Storedd_initdd, i_Storedd_initdd, kc_Store⟩ T
    have D_Deskdd_initdd := ok_Deskdd_initdd (P := l.prog) (base := base) (tb := tb) (fd_mk (st := s_Deskdd_initdd) l_Deskdd_initdd c_Deskdd_initdd k_Deskdd_initdd) (PySem.W.mg_of X G aC_Desk) ⟨mk_Desk, a_Deskdd_initdd, i_Deskdd_initdd, kc_Desk⟩ T D_Storedd_initdd
    have D_Store_now := ok_Store_now (P := l.prog) (base := base) (tb := tb) (fd_mk (st := s_Store_now) l_Store_now c_Store_now k_Store_now) (PySem.W.mg_of X G aC_Store) ⟨pg_Store, hd_Store, po_Store, sa_Store⟩ ⟨a_Store_now, i_Store_now, k_Store_now⟩ T
    have D_is_name := ok_is_name (P := l.prog) (base := base) (tb := tb) (fd_mk (st := s_is_name) l_is_name c_is_name k_is_name) (PySem.W.mg_of X G a_is_name) T
    have D_Store_check_there := ok_Store_check_there (P := l.prog) (base := base) (tb := tb) (fd_mk (st := s_Store_check_there) l_Store_check_there c_Store_check_there k_Store_check_there) (PySem.W.mg_of X G aC_Store) ⟨pg_Store, hd_Store, po_Store, sa_Store⟩ ⟨a_Store_check_there, i_Store_check_there, k_Store_check_there⟩ T D_Store_now D_is_name
    have D_Store_take := ok_Store_take (P := l.prog) (base := base) (tb := tb) (fd_mk (st := s_Store_take) l_Store_take c_Store_take k_Store_take) (PySem.W.mg_of X G aC_Store) ⟨pg_Store, hd_Store, po_Store, sa_Store⟩ ⟨a_Store_take, i_Store_take, k_Store_take⟩ T D_Store_check_there D_Store_now
    have D_is_int := ok_is_int (P := l.prog) (base := base) (tb := tb) (fd_mk (st := s_is_int) l_is_int c_is_int k_is_int) (PySem.W.mg_of X G a_is_int) T
    have D_is_within := ok_is_within (P := l.prog) (base := base) (tb := tb) (fd_mk (st := s_is_within) l_is_within c_is_within k_is_within) (PySem.W.mg_of X G a_is_within) T D_is_int
    have D_check_place := ok_check_place (P := l.prog) (base := base) (tb := tb) (fd_mk (st := s_check_place) l_check_place c_check_place k_check_place) (PySem.W.mg_of X G a_check_place) T D_is_within
    have D_is_sized := ok_is_sized (P := l.prog) (base := base) (tb := tb) (fd_mk (st := s_is_sized) l_is_sized c_is_sized k_is_sized) (PySem.W.mg_of X G a_is_sized) T
    have D_is_pair_of := ok_is_pair_of (P := l.prog) (base := base) (tb := tb) (fd_mk (st := s_is_pair_of) l_is_pair_of c_is_pair_of k_is_pair_of) (PySem.W.mg_of X G a_is_pair_of) T D_is_sized D_is_within
    have D_is_web := ok_is_web (P := l.prog) (base := base) (tb := tb) (fd_mk (st := s_is_web) l_is_web c_is_web k_is_web) (PySem.W.mg_of X G a_is_web) T D_is_pair_of D_is_sized D_is_within
    have D_check_web := ok_check_web (P := l.prog) (base := base) (tb := tb) (fd_mk (st := s_check_web) l_check_web c_check_web k_check_web) (PySem.W.mg_of X G a_check_web) T D_is_web
    have D_check_two_places := ok_check_two_places (P := l.prog) (base := base) (tb := tb) (fd_mk (st := s_check_two_places) l_check_two_places c_check_two_places k_check_two_places) (PySem.W.mg_of X G a_check_two_places) T D_check_place D_check_web
    have D_level_of := ok_level_of (P := l.prog) (base := base) (tb := tb) (fd_mk (st := s_level_of) l_level_of c_level_of k_level_of) (PySem.W.mg_of X G a_level_of) T D_check_two_places
    have D_check_forests_many := ok_check_forests_many (P := l.prog) (base := base) (tb := tb) (fd_mk (st := s_check_forests_many) l_check_forests_many c_check_forests_many k_check_forests_many) (PySem.W.mg_of X G a_check_forests_many) T D_check_web D_is_within
    have D_most_held := ok_most_held (P := l.prog) (base := base) (tb := tb) (fd_mk (st := s_most_held) l_most_held c_most_held k_most_held) (PySem.W.mg_of X G a_most_held) T D_check_forests_many
    have D_is_play := ok_is_play (P := l.prog) (base := base) (tb := tb) (fd_mk (st := s_is_play) l_is_play c_is_play k_is_play) (PySem.W.mg_of X G a_is_play) T D_is_sized D_is_web D_is_within
    have D_check_play := ok_check_play (P := l.prog) (base := base) (tb := tb) (fd_mk (st := s_check_play) l_check_play c_check_play k_check_play) (PySem.W.mg_of X G a_check_play) T D_is_play
    have D_outcome := ok_outcome (P := l.prog) (base := base) (tb := tb) (fd_mk (st := s_outcome) l_outcome c_outcome k_outcome) (PySem.W.mg_of X G a_outcome) T D_check_play
    have D_Desk_answer := ok_Desk_answer (P := l.prog) (base := base) (tb := tb) (fd_mk (st := s_Desk_answer) l_Desk_answer c_Desk_answer k_Desk_answer) (PySem.W.mg_of X G aC_Desk) ⟨pg_Desk, hd_Desk, po_Desk, sa_Desk⟩ ⟨a_Desk_answer, i_Desk_answer, k_Desk_answer⟩ T D_Store_take D_check_two_places D_level_of D_most_held D_outcome
    have D_check_most := ok_check_most (P := l.prog) (base := base) (tb := tb) (fd_mk (st := s_check_most) l_check_most c_check_most k_check_most) (PySem.W.mg_of X G a_check_most) T X_TooMany
    have D_Store_put := ok_Store_put (P := l.prog) (base := base) (tb := tb) (fd_mk (st := s_Store_put) l_Store_put c_Store_put k_Store_put) (PySem.W.mg_of X G aC_Store) ⟨pg_Store, hd_Store, po_Store, sa_Store⟩ ⟨a_Store_put, i_Store_put, k_Store_put⟩ T D_Store_now D_check_most D_check_web D_is_name
    have D_number_of := ok_number_of (P := l.prog) (base := base) (tb := tb) (fd_mk (st := s_number_of) l_number_of c_number_of k_number_of) (PySem.W.mg_of X G a_number_of) T
    have D_pair_of := ok_pair_of (P := l.prog) (base := base) (tb := tb) (fd_mk (st := s_pair_of) l_pair_of c_pair_of k_pair_of) (PySem.W.mg_of X G a_pair_of) T D_number_of
    have D_Desk_put_web := ok_Desk_put_web (P := l.prog) (base := base) (tb := tb) (fd_mk (st := s_Desk_put_web) l_Desk_put_web c_Desk_put_web k_Desk_put_web) (PySem.W.mg_of X G aC_Desk) ⟨pg_Desk, hd_Desk, po_Desk, sa_Desk⟩ ⟨a_Desk_put_web, i_Desk_put_web, k_Desk_put_web⟩ T D_Store_put D_is_name D_number_of D_pair_of
    have D_Store_names := ok_Store_names (P := l.prog) (base := base) (tb := tb) (fd_mk (st := s_Store_names) l_Store_names c_Store_names k_Store_names) (PySem.W.mg_of X G aC_Store) ⟨pg_Store, hd_Store, po_Store, sa_Store⟩ ⟨a_Store_names, i_Store_names, k_Store_names⟩ T D_Store_now
    have D_Store_undo := ok_Store_undo (P := l.prog) (base := base) (tb := tb) (fd_mk (st := s_Store_undo) l_Store_undo c_Store_undo k_Store_undo) (PySem.W.mg_of X G aC_Store) ⟨pg_Store, hd_Store, po_Store, sa_Store⟩ ⟨a_Store_undo, i_Store_undo, k_Store_undo⟩ T
    have D_Desk_say := ok_Desk_say (P := l.prog) (base := base) (tb := tb) (fd_mk (st := s_Desk_say) l_Desk_say c_Desk_say k_Desk_say) (PySem.W.mg_of X G aC_Desk) ⟨pg_Desk, hd_Desk, po_Desk, sa_Desk⟩ ⟨a_Desk_say, i_Desk_say, k_Desk_say⟩ T D_Desk_answer D_Desk_put_web D_Store_names D_Store_undo D_is_name D_number_of
    have D__law_draw := ok__law_draw (P := l.prog) (base := base) (tb := tb) (fd_mk (st := s__law_draw) l__law_draw c__law_draw k__law_draw) (PySem.W.mg_of X G a__law_draw) T
    have D__law_hand := ok__law_hand (P := l.prog) (base := base) (tb := tb) (fd_mk (st := s__law_hand) l__law_hand c__law_hand k__law_hand) (PySem.W.mg_of X G a__law_hand) T
    have D__law_web_line := ok__law_web_line (P := l.prog) (base := base) (tb := tb) (fd_mk (st := s__law_web_line) l__law_web_line c__law_web_line k__law_web_line) (PySem.W.mg_of X G a__law_web_line) T
    have D__law_is_unchanged := ok__law_is_unchanged (P := l.prog) (base := base) (tb := tb) (fd_mk (st := s__law_is_unchanged) l__law_is_unchanged c__law_is_unchanged k__law_is_unchanged) (PySem.W.mg_of X G a__law_is_unchanged) T D_Desk_say D__law_web_line
    have D__law_some := ok__law_some (P := l.prog) (base := base) (tb := tb) (fd_mk (st := s__law_some) l__law_some c__law_some k__law_some) (PySem.W.mg_of X G a__law_some) T D__law_draw
    have D__law_no_line := ok__law_no_line (P := l.prog) (base := base) (tb := tb) (fd_mk (st := s__law_no_line) l__law_no_line c__law_no_line k__law_no_line) (PySem.W.mg_of X G a__law_no_line) T D__law_draw D__law_some D__law_web_line
    have D__law_web := ok__law_web (P := l.prog) (base := base) (tb := tb) (fd_mk (st := s__law_web) l__law_web c__law_web k__law_web) (PySem.W.mg_of X G a__law_web) T D__law_draw
    have D__law_wrong := ok__law_wrong (P := l.prog) (base := base) (tb := tb) (fd_mk (st := s__law_wrong) l__law_wrong c__law_wrong k__law_wrong) (PySem.W.mg_of X G a__law_wrong) T D__law_draw D__law_some
    exact fd_okE (k := 12) l_law c_law sc_law (d := d_law) fun A outer s H E hr => (ss_cons (s_set 1 sc_law.nd (e_call D__law_hand (hr.mono (by decide)) (takes_of rfl rfl rfl rfl) (a_cons (e_var 0) a_nil)))
    (ss_cons (s_asg (e_tup (a_cons (e_make0 D_Deskdd_initdd (hr.mono (by decide)) (takes_of rfl rfl rfl rfl)) (a_cons e_dnew a_nil))) (g_tup rfl (gs_cons (g_name 2 sc_law.nd) (gs_cons (g_name 3 sc_law.nd) gs_nil))))
    (ss_cons (s_for (passes_of rfl) rfl (i_seq (e_slice (e_new (l_lst (m_cons e_str (m_cons e_str (m_cons e_str m_nil))))) o_none (o_some (e_op opl_add e_int (e_call D__law_draw (hr.mono (by decide)) (takes_of rfl rfl rfl rfl) (a_cons (e_var 1) (a_cons e_int a_nil))))))) (g_name 4 sc_law.nd) (ss_cons (s_sub (huk1 hr) (e_var 3) (e_var 4) (e_new (l_lst m_nil)))
    (ss_one (s_for (passes_of rfl) rfl (i_range1 T.b_range (e_op opl_add e_int (e_call D__law_draw (hr.mono (by decide)) (takes_of rfl rfl rfl rfl) (a_cons (e_var 1) (a_cons e_int a_nil))))) (g_name 5 sc_law.nd) (ss_cons (s_sub (huk1 hr) (e_var 3) (e_var 4) (e_new (l_cat (e_ix (ixlD (huk1 hr)) (e_var 3) (e_var 4)) (e_new (l_lst (m_cons (e_call D__law_web (hr.mono (by decide)) (takes_of rfl rfl rfl rfl) (a_cons (e_var 1) (a_cons e_int (a_cons e_int a_nil)))) m_nil))))))
    (ss_one (s_if (t_cmp (opl_ne (huk64 hr)) (e_meth D_Desk_say (e_var 2) (hr.mono (by decide)) (takes_of rfl rfl rfl rfl) (a_cons (e_call D__law_web_line (hr.mono (by decide)) (takes_of rfl rfl rfl rfl) (a_cons (e_var 4) (a_cons (e_ix (ixlD (huk1 hr)) (e_ix (ixlD (huk1 hr)) (e_var 3) (e_var 4)) (e_neg e_int)) a_nil))) a_nil)) (e_op opl_add e_str (e_callTy cl_str T.b_str (a_cons (e_var 5) a_nil)))) (ss_one (s_ret e_bl)) ss_nil)))))))
    (ss_cons (s_for (passes_of rfl) rfl (i_range1 T.b_range e_int) (g_name 5 sc_law.nd) (ss_cons (s_set 4 sc_law.nd (e_call D__law_some (hr.mono (by decide)) (takes_of rfl rfl rfl rfl) (a_cons (e_var 1) (a_cons (e_new (l_sortD rfl T.b_sorted (e_var 3))) a_nil))))
    (ss_cons (s_set 6 sc_law.nd (e_call D__law_no_line (hr.mono (by decide)) (takes_of rfl rfl rfl rfl) (a_cons (e_var 1) (a_cons (e_var 4) (a_cons (e_ix (ixlD (huk1 hr)) (e_ix (ixlD (huk1 hr)) (e_var 3) (e_var 4)) (e_neg e_int)) a_nil)))))
    (ss_cons (s_if (t_cmp (opl_ne (huk64 hr)) (e_word (k := 10) T TW mw rfl TB_law hm_law hu_law (hr.mono (by decide)) (show LamX.LamS (defScope s_law) _ from LamX.lamS_by (by decide +kernel)) (fun A outer s H E1 f c hr2 => (e_meth D_Desk_say (e_var 2) (hr2.mono (by decide)) (takes_of rfl rfl rfl rfl) (a_cons (e_var 6) a_nil)))) e_str) (ss_one (s_ret e_bl)) ss_nil)
    (ss_cons (s_asg (e_call D__law_wrong (hr.mono (by decide)) (takes_of rfl rfl rfl rfl) (a_cons (e_var 1) (a_cons (e_var 4) (a_cons (e_ix (ixlD (huk1 hr)) (e_ix (ixlD (huk1 hr)) (e_var 3) (e_var 4)) (e_neg e_int)) a_nil)))) (g_tup rfl (gs_cons (g_name 7 sc_law.nd) (gs_cons (g_name 8 sc_law.nd) gs_nil))))
    (ss_one (s_if (t_w (w_or (t_cmp (opl_ne (huk64 hr)) (e_word (k := 10) T TW mw rfl TB_law hm_law hu_law (hr.mono (by decide)) (show LamX.LamS (defScope s_law) _ from LamX.lamS_by (by decide +kernel)) (fun A outer s H E1 f c hr2 => (e_meth D_Desk_say (e_var 2) (hr2.mono (by decide)) (takes_of rfl rfl rfl rfl) (a_cons (e_var 7) a_nil)))) (e_var 8)) (w_one (t_not (t_val (e_call D__law_is_unchanged (hr.mono (by decide)) (takes_of rfl rfl rfl rfl) (a_cons (e_var 2) (a_cons (e_var 3) a_nil))))) (.inr rfl)))) (ss_one (s_ret e_bl)) ss_nil)))))))
    (ss_one (s_ret e_bl))))))
end K81
set_option linter.all false
set_option maxRecDepth 100000
set_option maxHeartbeats 1000000
namespace K81
open PySem PySem.Spec PyProof.Rows L2 TL
/-! ### webs as data -/
abbrev Web := Int × List (Int × Int)
def pairT (p : Int × Int) : T := .tup [.int p.1, .int p.2]
def webT (w : Web) : T := .tup [.int w.1, .tup (w.2.map pairT)]
def pairD (p : Int × Int) : PyData := .tuple [.int p.1, .int p.2]
def webD (w : Web) : PyData := .tuple [.int w.1, .tuple (w.2.map pairD)]
theorem toDWs_map {α : Type} {f : Nat → Option PyData} {g : α → T} {d : α → PyData} (h : ∀ a, toDW f (g a) = some (d a)) : ∀ l : List α, toDWs f (l.map g) = some (l.map d)
  | [] => rfl
  | a :: r => by simp [toDWs, h a, toDWs_map h r]
theorem toDW_pair {f : Nat → Option PyData} (p : Int × Int) : toDW f (pairT p) = some (pairD p) := by simp [pairT, pairD, toDW, toDWs]
theorem toDW_web {f : Nat → Option PyData} (w : Web) : toDW f (webT w) = some (webD w) := by
  simp [webT, webD, toDW, toDWs, toDWs_map (f := f) toDW_pair]
theorem canAll_map {α : Type} {d : α → PyData} : ∀ l : List α, (∀ a ∈ l, (d a).canLay0 = true) → PyData.canLayAll0 (l.map d) = true
  | [], _ => by simp [PyData.canLayAll0]
  | a :: r, h => by simp [PyData.canLayAll0, h a (by simp), canAll_map r fun b hb => h b (by simp [hb])]
theorem depthAll_map {α : Type} {d : α → PyData} {k : Nat} (h : ∀ a, (d a).depth ≤ k) : ∀ l : List α, PyData.depthAll (l.map d) ≤ k
  | [] => by simp [PyData.depthAll]
  | a :: r => by simp only [List.map_cons, PyData.depthAll]; exact Nat.max_le.mpr ⟨h a, depthAll_map h r⟩
theorem can_web (w : Web) : (webD w).canLay0 = true := by
  have := canAll_map (d := pairD) w.2 fun p _ => by simp [pairD, PyData.canLay0, PyData.canLayAll0]
  simp [webD, PyData.canLay0, PyData.canLayAll0, this]
theorem depth_pair (p : Int × Int) : (pairD p).depth ≤ 1 := by simp [pairD, PyData.depth, PyData.depthAll]
theorem depth_web (w : Web) : (webD w).depth ≤ 3 := by
  have := depthAll_map (k := 1) depth_pair w.2
  simp only [webD, PyData.depth, PyData.depthAll]
  omega
theorem shaped_of {d : PyData} (h : d.canLay0 = true) (h2 : d.depth ≤ 64) : SeqAt.shaped d = true := by unfold SeqAt.shaped; simp [h, h2]
/-- the same data compare as the same -/
theorem eqT_same {x y : T} {μ : Mem} {d : PyData} (hx : toD μ x = some d) (hy : toD μ y = some d) (h : d.canLay0 = true) (h2 : d.depth ≤ 64) (hn : (∃ ts, x = .tup ts) ∨ ∃ k, x = .ref k) : eqT x y μ = .ok (.bl true) μ := by
  have e : eqT x y μ = (match toD μ x, toD μ y with
    | some d, some e => if SeqAt.shaped d = true ∧ SeqAt.shaped e = true then Res.ok (.bl (PyData.eqv d e)) μ else .bad
    | _, _ => .bad) := by
    rcases hn with ⟨ts, rfl⟩ | ⟨k, rfl⟩ <;> (unfold TL.eqT; rfl)
  rw [e, hx, hy]
  dsimp only
  rw [if_pos ⟨shaped_of h h2, shaped_of h h2⟩, PySem.SeqAt.eqv_refl d h]
theorem neT_same {x y : T} {μ : Mem} {d : PyData} (hx : toD μ x = some d) (hy : toD μ y = some d) (h : d.canLay0 = true) (h2 : d.depth ≤ 64) (hn : (∃ ts, x = .tup ts) ∨ ∃ k, x = .ref k) : neT x y μ = .ok (.bl false) μ := by
  rw [neT_e, eqT_same hx hy h h2 hn]; rfl
theorem neT_web (w : Web) (μ : Mem) : neT (webT w) (webT w) μ = .ok (.bl false) μ := neT_same (toDW_web w) (toDW_web w) (can_web w) (Nat.le_trans (depth_web w) (by decide)) (.inl ⟨_, rfl⟩)
theorem neT_webs {i j : Nat} {ws : List Web} {μ : Mem} (hi : μ[i]? = some (.lst (ws.map webT))) (hj : μ[j]? = some (.lst (ws.map webT))) : neT (.ref i) (.ref j) μ = .ok (.bl false) μ := by
  have q : ∀ k, μ[k]? = some (.lst (ws.map webT)) → toD μ (.ref k) = some (.list (ws.map webD)) := fun k hk => by
    unfold toD toDW refD
    rw [hk]
    dsimp only
    rw [toDWs_map (d := webD) toDW_web]
    rfl
  refine neT_same (q i hi) (q j hj) ?_ ?_ (.inr ⟨_, rfl⟩)
  · simp only [PyData.canLay0]
    exact canAll_map ws fun w _ => can_web w
  · have := depthAll_map (k := 3) depth_web ws
    simp only [PyData.depth]; omega
def strD (x : Str) : PyData := .str x
theorem neT_strs {xs : List Str} {μ : Mem} (h : ∀ x ∈ xs, PyData.strOk x = true) : neT (.tup (xs.map T.str)) (.tup (xs.map T.str)) μ = .ok (.bl false) μ := by
  have q : toD μ (.tup (xs.map T.str)) = some (.tuple (xs.map PyData.str)) := by
    unfold toD toDW
    rw [toDWs_map (d := PyData.str) fun x => rfl]
    rfl
  refine neT_same q q ?_ ?_ (.inl ⟨_, rfl⟩)
  · simp only [PyData.canLay0]
    exact canAll_map xs fun x hx => by simpa [PyData.canLay0] using h x hx
  · have := depthAll_map (k := 0) (d := PyData.str) (fun x => by simp [PyData.depth]) xs
    simp only [PyData.depth]; omega
/-! ### what stays -/
/-- every object but those of S is as it was -/
def Keep (S : List Nat) (μ μ' : Mem) : Prop := μ.length ≤ μ'.length ∧ ∀ i, i < μ.length → i ∉ S → μ'[i]? = μ[i]?
theorem Keep.refl (S : List Nat) (μ : Mem) : Keep S μ μ := ⟨Nat.le_refl _, fun _ _ _ => rfl⟩
theorem Keep.trans {S S' : List Nat} {μ μ1 μ2 : Mem} (a : Keep S μ μ1) (b : Keep S' μ1 μ2) (h : ∀ i ∈ S', i < μ.length → i ∈ S) : Keep S μ μ2 :=
  ⟨Nat.le_trans a.1 b.1, fun i hi hn => (b.2 i (Nat.lt_of_lt_of_le hi a.1) fun z => hn (h i z hi)).trans (a.2 i hi hn)⟩
theorem Keep.at {S : List Nat} {μ μ' : Mem} (k : Keep S μ μ') {i : Nat} {o : MO} (h : μ[i]? = some o) (hn : i ∉ S) : μ'[i]? = some o := by
  rw [k.2 i (List.getElem?_eq_some_iff.mp h).1 hn]; exact h
theorem Keep.mono {S S' : List Nat} {μ μ' : Mem} (k : Keep S μ μ') (h : ∀ i ∈ S, i ∈ S') : Keep S' μ μ' := ⟨k.1, fun i hi hn => k.2 i hi fun z => hn (h i z)⟩
theorem keep_app (S : List Nat) (μ g : Mem) : Keep S μ (μ ++ g) := ⟨by simp, fun i hi _ => List.getElem?_append_left hi⟩
theorem keep_set {μ : Mem} {k : Nat} {o : MO} {S : List Nat} (h : k ∈ S) : Keep S μ (μ.set k o) := ⟨by simp, fun i hi hn => List.getElem?_set_ne (fun z => hn (by rw [← z]; exact h))⟩
/-! ### the hand -/
/-- the hand at h: its cells, its numbers -/
def Hand (μ : Mem) (h hc : Nat) : Prop := ∃ (cs : List Int) (j v s c : Int), hc ≠ h ∧ μ[h]? = some (.lst [.ref hc, .int j, .int v, .int s, .int c]) ∧ μ[hc]? = some (.lst (cs.map T.int)) ∧ 0 ≤ j ∧ 0 ≤ v ∧ ∀ x ∈ cs, 0 ≤ x
theorem Hand.keep {μ μ' : Mem} {h hc : Nat} {S : List Nat} (H : Hand μ h hc) (k : Keep S μ μ') (hn : h ∉ S) (hl : hc ∉ S) : Hand μ' h hc := by
  obtain ⟨cs, j, v, s, c, n, h1, h2, r⟩ := H
  exact ⟨cs, j, v, s, c, n, k.at h1 hn, k.at h2 hl, r⟩
theorem Hand.lt {μ : Mem} {h hc : Nat} (H : Hand μ h hc) : h < μ.length ∧ hc < μ.length := by
  obtain ⟨cs, j, v, s, c, n, h1, h2, r⟩ := H
  exact ⟨(List.getElem?_eq_some_iff.mp h1).1, (List.getElem?_eq_some_iff.mp h2).1⟩
theorem set_at {μ : Mem} {k : Nat} {o o' : MO} (h : μ[k]? = some o) : (μ.set k o')[k]? = some o' := List.getElem?_set_self (List.getElem?_eq_some_iff.mp h).1
theorem set_ne {μ : Mem} {k i : Nat} {o' : MO} (h : k ≠ i) : (μ.set k o')[i]? = μ[i]? := List.getElem?_set_ne h
theorem cmul_r {i j : Int} (h : -(2 ^ 64) < j ∧ j < 2 ^ 64) : CMul i j := .inr h
theorem cmul_l {i j : Int} (h : -(2 ^ 64) < i ∧ i < 2 ^ 64) : CMul i j := .inl h
theorem draw_spec {μ : Mem} {h hc : Nat} {many : Int} (H : Hand μ h hc) (hm : 0 < many) (hm2 : many < 1073741824) : ∃ r μ', F__law_draw [.ref h, .int many] μ = .ok (.int r) μ' ∧ 0 ≤ r ∧ r < many ∧ Keep [h] μ μ' ∧ Hand μ' h hc ∧ μ'.length = μ.length := by
  obtain ⟨cs, j, v, s, c, n, h1, h2, h3, h4, h5⟩ := H
  -- behind the first if
  have hl := (List.getElem?_eq_some_iff.mp h1).1
  have step1 : ∃ (j' v' s' : Int) (o : Option T), 0 ≤ j' ∧ 0 ≤ v' ∧ (sIf (dAnd (d2 TL.eqT (d2 subT' (dVar 0) (dC (.int 2))) (dC (.int 0))) (d2 ltT (d2 subT' (dVar 0) (dC (.int 1))) (dCall lenC (aCons (d2 subT' (dVar 0) (dC (.int 0))) aNil)))) (sSeq (sSet 2 (d2 subT' (d2 subT' (dVar 0) (dC (.int 0))) (d2 subT' (dVar 0) (dC (.int 1)))))
    (sSeq (sSub (dVar 0) (dC (.int 1)) (d2 addT (d2 subT' (dVar 0) (dC (.int 1))) (dC (.int 1))))
    (sSeq (sSub (dVar 0) (dC (.int 3)) (d2 modT (dCall intC (aCons (d2 addT (d2 addT (d2 mulT (d2 subT' (dVar 0) (dC (.int 3))) (dC (.int 69621))) (d2 mulT (dVar 2) (dC (.int 40692)))) (dC (.int 41))) aNil)) (dC (.int 2147483629))))
    (sSub (dVar 0) (dC (.int 2)) (dIfE (d2 geT (dVar 2) (d2 powT (dC (.int 10)) (dC (.int 18)))) (dVar 2) (dC (.int 0))))))) sNil) [some (.ref h), some (.int many), none, none, none] μ
      = .nx [some (.ref h), some (.int many), o, none, none] (μ.set h (.lst [.ref hc, .int j', .int v', .int s', .int c])) := by
    have a0 : subT' (.ref h) (.int 0) μ = .ok (.ref hc) μ := subL h1 rfl
    have a1 : subT' (.ref h) (.int 1) μ = .ok (.int j) μ := subL h1 rfl
    have a2 : subT' (.ref h) (.int 2) μ = .ok (.int v) μ := subL h1 rfl
    have a3 : lenC [.ref hc] μ = .ok (.int cs.length) μ := by rw [lenC_l h2, List.length_map]
    have self : μ.set h (.lst [.ref hc, .int j, .int v, .int s, .int c]) = μ := by
      apply List.ext_getElem?
      intro i
      by_cases q : h = i
      · subst q; rw [set_at h1, h1]
      · rw [set_ne q]
    by_cases q : v = 0 ∧ j < cs.length
    · obtain ⟨rfl, q⟩ := q
      have hj : j.toNat < cs.length := by omega
      have e1 : L2.atI (cs.map T.int) j = some (.int cs[j.toNat]) := by
        unfold L2.atI ixN
        rw [if_pos h3, List.length_map, if_pos q]
        simp [hj]
      have a4 : subT' (.ref hc) (.int j) μ = .ok (.int cs[j.toNat]) μ := subL h2 e1
      have hnn := h5 cs[j.toNat] (List.getElem_mem hj)
      refine ⟨j + 1, if cs[j.toNat] ≥ 10 ^ 18 then cs[j.toNat] else 0, (s * 69621 + cs[j.toNat] * 40692 + 41) % 2147483629, some (.int cs[j.toNat]), by omega, by split <;> omega, ?_⟩
      have b1 : ∀ (y : T), setT (.ref h) (.int 1) y μ = some (μ.set h (.lst [.ref hc, y, .int 0, .int s, .int c])) := fun y => setL (n := 1) h1 rfl
      have k1 : ∀ y, (μ.set h (.lst [.ref hc, .int y, .int 0, .int s, .int c]))[h]? = some (.lst [.ref hc, .int y, .int 0, .int s, .int c]) := fun y => set_at h1
      simp only [sIf_e, dAnd_e, d2_e, dVar_0, dVar_s, dC_e, bind_ok, a2, eqT_i, andK_e, decide_true, if_true, a1, dCall_e, aCons_e, aNil_e, a0, a3, ltT_i, q, toS_ok, sIfK_e, sSeq_e, sSet_e, a4, seq_nx, List.set_cons_zero, List.set_cons_succ, sSub_e, addT_i, b1]
      simp only [subL (k1 _) (i := 3) (t := .int s) rfl, bind_ok, mulT_i (cmul_r (j := 69621) (by decide)), mulT_i (cmul_r (j := 40692) (by decide)), addT_i, intC_i, modT_i (show (0 : Int) < 2147483629 by decide), toS_ok, setL (k1 _) (i := 3) (n := 3) rfl, seq_nx, dVar_s, dVar_0, List.set_cons_zero, List.set_cons_succ, dIfE_e, d2_e, dC_e, powT_i (show CPow 10 18 by decide), geT_i, ifK_e, aCons_e, aNil_e, dCall_e, List.set_set]
      have k2 : ∀ y z, (μ.set h (.lst [.ref hc, .int y, .int 0, .int z, .int c]))[h]? = some (.lst [.ref hc, .int y, .int 0, .int z, .int c]) := fun y z => set_at h1
      by_cases g : cs[j.toNat] ≥ 10 ^ 18
      · have g' : cs[j.toNat] ≥ 10 ^ (18 : Int).toNat := g
        simp only [sSub_e, dIfE_e, d2_e, dC_e, powT_i (show CPow 10 18 by decide), geT_i, ifK_e, g', decide_true, if_true, dVar_s, dVar_0, toS_ok, setL (k2 _ _) (i := 2) (n := 2) rfl, List.set_cons_zero, List.set_cons_succ, List.set_set, bind_ok]
        rw [if_pos g]
      · have g' : ¬ cs[j.toNat] ≥ 10 ^ (18 : Int).toNat := g
        simp only [sSub_e, dIfE_e, d2_e, powT_i (show CPow 10 18 by decide), geT_i, ifK_e, g', decide_false, Bool.false_eq_true, if_false, dVar_s, dVar_0, dC_e, toS_ok, setL (k2 _ _) (i := 2) (n := 2) rfl, List.set_cons_zero, List.set_cons_succ, List.set_set, bind_ok]
        rw [if_neg g]
    · refine ⟨j, v, s, none, h3, h4, ?_⟩
      rw [self]
      simp only [sIf_e, dAnd_e, d2_e, dVar_0, dC_e, bind_ok, a2, eqT_i, andK_e]
      by_cases q1 : v = 0
      · have q2 : ¬ j < cs.length := fun z => q ⟨q1, z⟩
        simp only [q1, decide_true, if_true, d2_e, dVar_0, dC_e, bind_ok, a1, dCall_e, aCons_e, aNil_e, a0, a3, ltT_i, q2, decide_false, toS_ok, sIfK_e, Bool.false_eq_true, if_false, sNil_e]
      · simp only [q1, decide_false, Bool.false_eq_true, if_false, toS_ok, sIfK_e, sNil_e]
  obtain ⟨j', v', s', o, g1, g2, g3⟩ := step1
  have hc2 : (μ.set h (.lst [.ref hc, .int j', .int v', .int s', .int c]))[hc]? = some (.lst (cs.map T.int)) := by rw [set_ne n.symm]; exact h2
  have kk : ∀ x y z w, (μ.set h (.lst [.ref hc, .int x, .int y, .int z, .int w]))[h]? = some (.lst [.ref hc, .int x, .int y, .int z, .int w]) := fun x y z w => set_at h1
  have fin : ∀ x y z w, 0 ≤ x → 0 ≤ y → Keep [h] μ (μ.set h (.lst [.ref hc, .int x, .int y, .int z, .int w])) ∧ Hand (μ.set h (.lst [.ref hc, .int x, .int y, .int z, .int w])) h hc ∧ (μ.set h (.lst [.ref hc, .int x, .int y, .int z, .int w])).length = μ.length := fun x y z w hx hy =>
    ⟨keep_set (by simp), ⟨cs, x, y, z, w, n, kk x y z w, by rw [set_ne n.symm]; exact h2, hx, hy, h5⟩, by simp⟩
  have m0 := Int.ne_of_gt hm
  by_cases q : 0 < v'
  · refine ⟨v' % many, μ.set h (.lst [.ref hc, .int j', .int (v' / many), .int s', .int c]), ?_, Int.emod_nonneg _ m0, Int.emod_lt_of_pos _ hm, fin _ _ _ _ g1 (Int.ediv_nonneg g2 (Int.le_of_lt hm))⟩
    unfold F__law_draw runF d__law_draw
    show (sSeq _ _ [some (.ref h), some (.int many), none, none, none] μ).toR = _
    rw [sSeq_e, g3, seq_nx]
    have q' : v' > 0 := q
    simp only [sSeq_e, sIf_e, d2_e, dVar_0, dVar_s, dC_e, bind_ok, subL (kk j' v' s' c) (i := 2) (t := .int v') rfl, gtT_i, q', decide_true, toS_ok, sIfK_e, if_true, sSet_e, dCall_e, aCons_e, aNil_e, intC_i, modT_i hm, List.set_cons_zero, List.set_cons_succ, seq_nx, sSub_e, fdivT_i (show CDiv v' many from ⟨hm, hm2⟩), setL (kk j' v' s' c) (i := 2) (n := 2) rfl, List.set_set, sRet_e, seq_rt, toR_rt]
  · have q' : ¬ v' > 0 := q
    have e0 : v' = 0 := by omega
    subst e0
    generalize hN1 : (s' + 7927 * (c + 1)) * 48271 % 2147483647 = N1
    have r1 : 0 ≤ N1 ∧ N1 < 2147483647 := by rw [← hN1]; exact ⟨Int.emod_nonneg _ (by decide), Int.emod_lt_of_pos _ (by decide)⟩
    generalize hN2 : N1 * (N1 / 1013 + 69621) % 2147483647 = N2
    have r2 : 0 ≤ N2 ∧ N2 < 2147483647 := by rw [← hN2]; exact ⟨Int.emod_nonneg _ (by decide), Int.emod_lt_of_pos _ (by decide)⟩
    generalize hN3 : N2 * (N2 / 2017 + 40014) % 2147483563 = N3
    refine ⟨N3 / 16 % many, μ.set h (.lst [.ref hc, .int j', .int 0, .int s', .int (c + 1)]), ?_, Int.emod_nonneg _ m0, Int.emod_lt_of_pos _ hm, fin _ _ _ _ g1 (Int.le_refl 0)⟩
    unfold F__law_draw runF d__law_draw
    show (sSeq _ _ [some (.ref h), some (.int many), none, none, none] μ).toR = _
    rw [sSeq_e, g3, seq_nx]
    have c1 : ∀ X : Int, 0 ≤ N1 → CMul N1 X := fun X _ => .inl ⟨by omega, by omega⟩
    have c2 : ∀ X : Int, CMul N2 X := fun X => .inl ⟨by omega, by omega⟩
    simp only [sSeq_e, sIf_e, d2_e, dVar_0, dVar_s, dC_e, bind_ok, subL (kk j' 0 s' c) (i := 2) (t := .int 0) rfl, gtT_i, q', decide_false, toS_ok, sIfK_e, Bool.false_eq_true, if_false, sNil_e, seq_nx, sSub_e, subL (kk j' 0 s' c) (i := 4) (t := .int c) rfl, addT_i, setL (kk j' 0 s' c) (i := 4) (n := 4) rfl, List.set_cons_zero, List.set_cons_succ, List.set_set]
    simp only [sSeq_e, sSet_e, d2_e, dCall_e, aCons_e, aNil_e, dVar_0, dVar_s, dC_e, bind_ok, subL (kk j' 0 s' (c + 1)) (i := 3) (t := .int s') rfl, subL (kk j' 0 s' (c + 1)) (i := 4) (t := .int (c + 1)) rfl, mulT_i (cmul_l (i := 7927) (by decide)), addT_i, intC_i, mulT_i (cmul_r (j := 48271) (by decide)), modT_i (show (0 : Int) < 2147483647 by decide), hN1, toS_ok, List.set_cons_zero, List.set_cons_succ, seq_nx, fdivT_i (show CDiv N1 1013 from ⟨by decide, by decide⟩), mulT_i (c1 _ r1.1), hN2, fdivT_i (show CDiv N2 2017 from ⟨by decide, by decide⟩), mulT_i (c2 _), modT_i (show (0 : Int) < 2147483563 by decide), hN3, sRet_e, fdivT_i (show CDiv N3 16 from ⟨by decide, by decide⟩), modT_i hm, toR_rt]
end K81
set_option linter.all false
set_option maxRecDepth 100000
set_option maxHeartbeats 1000000
namespace K81
open PySem PySem.Spec PyProof.Rows L2 TL
theorem chain_e {k k' : T → T → Mem → Res} {da db dc : EM} {σ : List (Option T)} {μ : Mem} {x y z : T} (ha : da σ μ = .ok x μ) (hb : db σ μ = .ok y μ) (hc : dc σ μ = .ok z μ) (h : k x y μ = .ok (.bl true) μ) (h' : k' y z μ = .ok (.bl true) μ) : dChain k k' da db dc σ μ = .ok (.bl true) μ := by
  unfold dChain; rw [ha, bind_ok, hb, bind_ok, h, bind_ok]; dsimp only; rw [hc, bind_ok, h']
theorem within_t {i a b : Int} {μ : Mem} (h : a ≤ i) (h' : i ≤ b) : F_is_within [.int i, .int a, .int b] μ = .ok (.bl true) μ := by
  have e : F_is_int [.int i] μ = .ok (.bl true) μ := rfl
  have c := chain_e (k := leT) (k' := leT) (da := dVar 1) (db := dVar 0) (dc := dVar 2) (σ := [some (.int i), some (.int a), some (.int b)]) (μ := μ) (x := .int a) (y := .int i) (z := .int b) rfl rfl rfl (by simp [h]) (by simp [h'])
  show (d_is_within [some (.int i), some (.int a), some (.int b)] μ).toR = _
  simp [d_is_within, e, c]
theorem sized_t {ts : List T} {a b : Int} {μ : Mem} (h : a ≤ ts.length) (h' : (ts.length : Int) ≤ b) : F_is_sized [.tup ts, .int a, .int b] μ = .ok (.bl true) μ := by
  have c := chain_e (k := leT) (k' := leT) (da := dVar 1) (db := dCall lenC (aCons (dVar 0) aNil)) (dc := dVar 2) (σ := [some (.tup ts), some (.int a), some (.int b)]) (μ := μ) (x := .int a) (y := .int ts.length) (z := .int b) rfl rfl rfl (by simp [h]) (by simp [h'])
  have e : isiT "tuple" (.tup ts) μ = .ok (.bl true) μ := rfl
  show (d_is_sized [some (.tup ts), some (.int a), some (.int b)] μ).toR = _
  simp [d_is_sized, e, c]
theorem pair_t {m : Int} {p : Int × Int} {μ : Mem} (h : 0 ≤ p.1 ∧ p.1 < p.2 ∧ p.2 < m) : F_is_pair_of [.int m, pairT p] μ = .ok (.bl true) μ := by
  obtain ⟨h1, h2, h3⟩ := h
  have e1 : F_is_sized [pairT p, .int 2, .int 2] μ = .ok (.bl true) μ := sized_t (by simp) (by simp)
  have e2 : F_is_within [.int p.1, .int 0, .int (m - 1)] μ = .ok (.bl true) μ := within_t h1 (by omega)
  have e3 : F_is_within [.int p.2, .int 0, .int (m - 1)] μ = .ok (.bl true) μ := within_t (by omega) (by omega)
  have a0 : subT' (pairT p) (.int 0) μ = .ok (.int p.1) μ := subTp rfl
  have a1 : subT' (pairT p) (.int 1) μ = .ok (.int p.2) μ := subTp rfl
  show (d_is_pair_of [some (.int m), some (pairT p)] μ).toR = _
  simp [d_is_pair_of, e1, e2, e3, a0, a1, h2]
/-- a web -/
def WebOk (w : Web) : Prop := 1 ≤ w.1 ∧ w.1 ≤ 12 ∧ w.2.length ≤ 40 ∧ ∀ p ∈ w.2, 0 ≤ p.1 ∧ p.1 < p.2 ∧ p.2 < w.1
theorem lc_all {ws : List (Nat × List T)} {i : Nat} {el : EM} {σ : List (Option T)} {μ : Mem} {f : T → T} (hw : watched ws μ = true) : ∀ (xs acc : List T), (∀ x ∈ xs, el (σ.set i (some x)) μ = .ok (f x) μ) → acc.length + xs.length ≤ 1000 → lcGo ws (.nm i) none el σ xs acc μ = .ok (acc ++ xs.map f) μ
  | [], acc, _, _ => by unfold lcGo; rw [if_pos hw]; simp
  | x :: r, acc, h, hz => by
    unfold lcGo
    rw [if_pos hw]
    show ((el (σ.set i (some x)) μ).toL _) = _
    rw [h x (by simp), toL_ok]
    rw [if_pos (szl (by simp at hz; omega))]
    rw [lc_all hw r (acc ++ [f x]) (fun y hy => h y (by simp [hy])) (by simp at hz ⊢; omega)]
    simp
theorem unB_true : ∀ n : Nat, unB (List.replicate n (T.bl true)) = some (List.replicate n true)
  | 0 => rfl
  | n + 1 => by simp [List.replicate_succ, unB, unB_true n]
theorem web_t {w : Web} {μ : Mem} (h : WebOk w) : F_is_web [webT w] μ = .ok (.bl true) μ := by
  obtain ⟨h1, h2, h3, h4⟩ := h
  have e1 : F_is_sized [webT w, .int 2, .int 2] μ = .ok (.bl true) μ := sized_t (by simp) (by simp)
  have e2 : F_is_within [.int w.1, .int 1, .int 12] μ = .ok (.bl true) μ := within_t h1 h2
  have e3 : F_is_sized [.tup (w.2.map pairT), .int 0, .int 40] μ = .ok (.bl true) μ := sized_t (by omega) (by simp; omega)
  have a0 : subT' (webT w) (.int 0) μ = .ok (.int w.1) μ := subTp rfl
  have a1 : subT' (webT w) (.int 1) μ = .ok (.tup (w.2.map pairT)) μ := subTp rfl
  have lc : dLc (dIter (d2 subT' (dVar 0) (dC (.int 1)))) (.nm 1) [1] none (dFn 2 F_is_pair_of (aCons (d2 subT' (dVar 0) (dC (.int 0))) (aCons (dVar 1) aNil))) [some (webT w), none] μ = .ok (List.replicate w.2.length (T.bl true)) μ := by
    have er : ([] : List T) ++ (w.2.map pairT).map (fun _ => T.bl true) = List.replicate w.2.length (T.bl true) := by
      rw [List.nil_append, List.map_const', List.length_map]
    unfold dLc dIter
    simp only [d2_e, dVar_0, dC_e, bind_ok, a1]
    have q := lc_all (ws := []) (i := 1) (el := dFn 2 F_is_pair_of (aCons (d2 subT' (dVar 0) (dC (.int 0))) (aCons (dVar 1) aNil))) (σ := [some (webT w), none]) (μ := μ) (f := fun _ => T.bl true) rfl (w.2.map pairT) [] (fun x hx => by
      obtain ⟨p, hp, rfl⟩ := List.mem_map.mp hx
      have e := pair_t (m := w.1) (μ := μ) (h4 p hp)
      simp [a0, e]) (by simp; omega)
    rw [er] at q
    exact q
  have all : allQ (List.replicate w.2.length (T.bl true)) μ = .ok (.bl true) μ := by
    unfold allQ
    rw [unB_true]
    simp
  show (d_is_web [some (webT w), none] μ).toR = _
  simp [d_is_web, e1, e2, e3, a0, a1, lc, all]
theorem check_web_t {w : Web} {μ : Mem} (h : WebOk w) : F_check_web [webT w] μ = .ok .non μ := by
  show (d_check_web [some (webT w)] μ).toR = _
  simp [d_check_web, web_t h]
/-! ### loops -/
theorem for_inv {i : Nat} {body : SM} (Inv : List (Option T) → Mem → Prop) : ∀ (xs : List T), (∀ x ∈ xs, ∀ σ μ, Inv σ μ → ∃ σ' μ', body (σ.set i (some x)) μ = .nx σ' μ' ∧ Inv σ' μ') → ∀ σ μ, Inv σ μ → ∃ σ' μ', forL [] (.nm i) body xs σ μ = .nx σ' μ' ∧ Inv σ' μ'
  | [], _, σ, μ, h => ⟨σ, μ, rfl, h⟩
  | x :: r, hs, σ, μ, h => by
    obtain ⟨σ1, μ1, e1, h1⟩ := hs x (by simp) σ μ h
    obtain ⟨σ2, μ2, e2, h2⟩ := for_inv Inv r (fun y hy => hs y (by simp [hy])) σ1 μ1 h1
    refine ⟨σ2, μ2, ?_, h2⟩
    show ((body (σ.set i (some x)) μ).loop (forL [] (.nm i) body r)) = _
    rw [e1, loop_nx, e2]
theorem for_invN {i : Nat} {body : SM} (Inv : Nat → List (Option T) → Mem → Prop) : ∀ (xs : List T) (n : Nat), (∀ x ∈ xs, ∀ m σ μ, m < n + xs.length → Inv m σ μ → ∃ σ' μ', body (σ.set i (some x)) μ = .nx σ' μ' ∧ Inv (m + 1) σ' μ') → ∀ σ μ, Inv n σ μ → ∃ σ' μ', forL [] (.nm i) body xs σ μ = .nx σ' μ' ∧ Inv (n + xs.length) σ' μ'
  | [], n, _, σ, μ, h => ⟨σ, μ, rfl, h⟩
  | x :: r, n, hs, σ, μ, h => by
    obtain ⟨σ1, μ1, e1, h1⟩ := hs x (by simp) n σ μ (by simp) h
    obtain ⟨σ2, μ2, e2, h2⟩ := for_invN Inv r (n + 1) (fun y hy m σ μ hm => hs y (by simp [hy]) m σ μ (by simp; omega)) σ1 μ1 h1
    refine ⟨σ2, μ2, ?_, by rw [show n + (x :: r).length = n + 1 + r.length by simp; omega]; exact h2⟩
    show ((body (σ.set i (some x)) μ).loop (forL [] (.nm i) body r)) = _
    rw [e1, loop_nx, e2]
theorem rngL_len (q : Int) : (rngL 0 q).length = q.toNat := by unfold rngL; simp
theorem seqT_l {μ : Mem} {k : Nat} {xs : List T} (h : μ[k]? = some (.lst xs)) : seqT μ (.ref k) = some xs := by unfold seqT; dsimp only; rw [h]
theorem dSeq_l {μ : Mem} {k : Nat} {xs : List T} {d : EM} {σ : List (Option T)} {μ0 : Mem} (e : d σ μ0 = .ok (.ref k) μ) (h : μ[k]? = some (.lst xs)) : dSeq d σ μ0 = .ok xs μ := by
  unfold dSeq; rw [e, bindL_ok, seqT_l h]
theorem lm_l {k : T → List T → Mem → Res} {dd : EM} {d : AM} {σ : List (Option T)} {μ μ1 : Mem} {n : Nat} {xs : List T} (e : dd σ μ = .ok (.ref n) μ1) (h : μ1[n]? = some (.lst xs)) : dLM k dd d σ μ = d σ μ1 fun ts μ2 => k (.ref n) ts μ2 := by
  unfold dLM
  rw [e, bind_ok]
  have q : isLst μ1 (.ref n) = true := by unfold isLst; dsimp only; rw [h]
  rw [if_pos q]
theorem app_l {k : Nat} {xs : List T} {y : T} {μ : Mem} (h : μ[k]? = some (.lst xs)) (hz : xs.length < 1000) : appendT (.ref k) [y] μ = .ok .non (μ.set k (.lst (xs ++ [y]))) := by
  unfold appendT; dsimp only; rw [h]; show (if _ then _ else _) = _; rw [if_pos (szl (by omega))]
/-! ### the draws -/
theorem some_spec {μ : Mem} {h hc t : Nat} {xs : List T} (H : Hand μ h hc) (ht : μ[t]? = some (.lst xs)) (hth : t ≠ h) (hn : 0 < xs.length) (hz : xs.length < 1000) : ∃ x μ', F__law_some [.ref h, .ref t] μ = .ok x μ' ∧ x ∈ xs ∧ Keep [h] μ μ' ∧ Hand μ' h hc ∧ μ'.length = μ.length := by
  obtain ⟨r, μ', e, h1, h2, k, H', hl⟩ := draw_spec (many := xs.length) H (by omega) (by omega)
  have ht' : μ'[t]? = some (.lst xs) := k.at ht (by simp [hth])
  have hr : r.toNat < xs.length := by omega
  refine ⟨xs[r.toNat], μ', ?_, List.getElem_mem hr, k, H', hl⟩
  have e1 : L2.atI xs r = some xs[r.toNat] := by
    unfold L2.atI ixN
    rw [if_pos h1, if_pos h2]
    simp [hr]
  show (d__law_some [some (.ref h), some (.ref t)] μ).toR = _
  simp [d__law_some, lenC_l ht, e, subL ht' e1]
theorem web_spec {μ : Mem} {h hc : Nat} (H : Hand μ h hc) : ∃ (w : Web) (μ' : Mem), F__law_web [.ref h, .int 5, .int 7] μ = .ok (webT w) μ' ∧ WebOk w ∧ 2 ≤ w.1 ∧ w.1 ≤ 5 ∧ w.2.length ≤ 7 ∧ Keep [h] μ μ' ∧ Hand μ' h hc := by
  obtain ⟨r, μ1, e1, r1, r2, k1, H1, l1⟩ := draw_spec (many := 4) H (by decide) (by decide)
  have e0 : subT (.int 5) (.int 1) μ = .ok (.int 4) μ := rfl
  -- found = []
  have H2 : Hand (μ1 ++ [.lst []]) h hc := H1.keep (keep_app [] _ _) (by simp) (by simp)
  obtain ⟨q, μ3, e3, q1, q2, k3, H3, l3⟩ := draw_spec (many := 8) H2 (by decide) (by decide)
  obtain ⟨hh1, hh2⟩ := H1.lt
  have nf : μ1.length ≠ h := by omega
  have nf2 : μ1.length ≠ hc := by omega
  have f3 : μ3[μ1.length]? = some (.lst []) := k3.at (by simp) (by simp [nf])
  have k13 : Keep [h] μ1 μ3 := (keep_app [h] μ1 [.lst []]).trans k3 (fun i hi _ => hi)
  let Inv : Nat → List (Option T) → Mem → Prop := fun m σ μ' => ∃ (o1 o2 : Option T) (ps : List (Int × Int)), σ = [some (.ref h), some (.int 5), some (.int 7), some (.int (2 + r)), some (.ref μ1.length), o1, o2] ∧ Hand μ' h hc ∧ μ'[μ1.length]? = some (.lst (ps.map pairT)) ∧ Keep [h] μ1 μ' ∧ (∀ p ∈ ps, 0 ≤ p.1 ∧ p.1 < p.2 ∧ p.2 < 2 + r) ∧ ps.length = m
  have loop := for_invN (i := 5) (body := sSeq (sSet 6 (dFn 2 F__law_draw (aCons (dVar 0) (aCons (d2 subT (dVar 3) (dC (.int 1))) aNil))))
    (sExpr (dLM appendT (dVar 4) (aCons (dTup (aCons (dVar 6) (aCons (d2 addT (d2 addT (dVar 6) (dC (.int 1))) (dFn 2 F__law_draw (aCons (dVar 0) (aCons (d2 subT (d2 subT (dVar 3) (dC (.int 1))) (dVar 6)) aNil)))) aNil))) aNil)))) Inv (rngL 0 q) 0 (fun x _ m σ μ' hm hI => by
      obtain ⟨o1, o2, ps, rfl, HH, hf, kk, hp, hl⟩ := hI
      rw [rngL_len] at hm
      obtain ⟨a, μa, ea, a1, a2, ka, Ha, la⟩ := draw_spec (many := 2 + r - 1) HH (by omega) (by omega)
      have fa : μa[μ1.length]? = some (.lst (ps.map pairT)) := ka.at hf (by simp [nf])
      obtain ⟨b, μb, eb, b1, b2, kb, Hb, lb⟩ := draw_spec (many := 2 + r - 1 - a) Ha (by omega) (by omega)
      have fb : μb[μ1.length]? = some (.lst (ps.map pairT)) := kb.at fa (by simp [nf])
      have z2 : (2 : Nat) ≤ sizeLine := sz (by omega)
      have L4 : ∀ (d : AM), dLM appendT (dVar 4) d [some (.ref h), some (.int 5), some (.int 7), some (.int (2 + r)), some (.ref μ1.length), some x, some (.int a)] μa = d [some (.ref h), some (.int 5), some (.int 7), some (.int (2 + r)), some (.ref μ1.length), some x, some (.int a)] μa fun ts μ2 => appendT (.ref μ1.length) ts μ2 := fun d => lm_l (μ := μa) (n := μ1.length) rfl fa
      have ap := app_l (y := .tup [.int a, .int (a + 1 + b)]) fb (by simp; omega)
      refine ⟨[some (.ref h), some (.int 5), some (.int 7), some (.int (2 + r)), some (.ref μ1.length), some x, some (.int a)], μb.set μ1.length (.lst (ps.map pairT ++ [.tup [.int a, .int (a + 1 + b)]])), ?_, some x, some (.int a), ps ++ [(a, a + 1 + b)], rfl, ?_, ?_, ?_, ?_, by simp [hl]⟩
      · simp only [List.set_cons_zero, List.set_cons_succ, sSeq_e, sSet_e, dFn_e, aCons_e, aNil_e, dVar_0, dVar_s, d2_e, dC_e, bind_ok, subT_i, List.length_cons, List.length_nil, Nat.zero_add, Nat.reduceAdd, if_true, ea, toS_ok, seq_nx, sExpr_e, L4, dTup_e, addT_i, eb, if_pos z2, ap]
      · exact Hb.keep (keep_set (S := [μ1.length]) (by simp)) (by simp; omega) (by simp; omega)
      · rw [set_at fb]; simp [pairT]
      · refine (kk.trans (ka.trans kb (fun i hi _ => hi)) (fun i hi _ => hi)).trans (keep_set (S := [μ1.length]) (by simp)) ?_
        intro i hi hlt
        simp at hi; omega
      · intro p hp'
        rcases List.mem_append.mp hp' with hp' | hp'
        · exact hp p hp'
        · simp at hp'; subst hp'
          exact ⟨a1, by show a < a + 1 + b; omega, by show a + 1 + b < 2 + r; omega⟩)
    [some (.ref h), some (.int 5), some (.int 7), some (.int (2 + r)), some (.ref μ1.length), none, none] μ3 ⟨none, none, [], rfl, H3, f3, k13, by simp, rfl⟩
  obtain ⟨σ4, μ4, e4, o1, o2, ps, rfl, H4, f4, k4, p4, l4⟩ := loop
  rw [rngL_len] at l4
  refine ⟨(2 + r, ps), μ4, ?_, ⟨by show 1 ≤ 2 + r; omega, by show 2 + r ≤ 12; omega, by show ps.length ≤ 40; omega, p4⟩, by show 2 ≤ 2 + r; omega, by show 2 + r ≤ 5; omega, by show ps.length ≤ 7; omega, k1.trans k4 (fun i hi _ => hi), H4⟩
  have z2 : (2 : Nat) ≤ sizeLine := sz (by omega)
  have z0 : (0 : Nat) ≤ sizeLine := Nat.zero_le _
  have rq : rngOk q = true := by unfold rngOk; simp; omega
  have rg : dRng1 (dFn 2 F__law_draw (aCons (dVar 0) (aCons (d2 addT (dVar 2) (dC (.int 1))) aNil))) [some (.ref h), some (.int 5), some (.int 7), some (.int (2 + r)), some (.ref μ1.length), none, none] (μ1 ++ [.lst []]) = .its (rngL 0 q) [] μ3 := by
    unfold dRng1
    have e9 : (7 : Int) + 1 = 8 := rfl
    simp only [dFn_e, aCons_e, aNil_e, dVar_0, dVar_s, d2_e, dC_e, bind_ok, addT_i, e9, List.length_cons, List.length_nil, Nat.zero_add, Nat.reduceAdd, if_true, e3]
    rw [if_pos rq]
  have S4 : dSeq (dVar 4) [some (.ref h), some (.int 5), some (.int 7), some (.int (2 + r)), some (.ref μ1.length), o1, o2] μ4 = .ok (ps.map pairT) μ4 := dSeq_l (k := μ1.length) rfl f4
  show (d__law_web [some (.ref h), some (.int 5), some (.int 7), none, none, none, none] μ).toR = _
  unfold d__law_web
  simp only [sSeq_e, sSet_e, d2_e, dC_e, bind_ok, dFn_e, aCons_e, aNil_e, dVar_0, dVar_s, e0, List.length_cons, List.length_nil, Nat.zero_add, Nat.reduceAdd, if_true, e1, addT_i, toS_ok, seq_nx, List.set_cons_zero, List.set_cons_succ, dNew_e, dLstL_e, lNil_e, if_pos z0, lbind_ok]
  unfold sFor
  rw [rg]
  dsimp only
  rw [e4]
  simp only [seq_nx, sRet_e, dTup_e, aCons_e, aNil_e, dVar_0, dVar_s, bind_ok, dQ_e, S4, lbind_ok, tupQ_e, List.length_cons, List.length_nil, Nat.zero_add, Nat.reduceAdd, if_pos z2, toS_ok, toR_rt, webT]
end K81
set_option linter.all false
set_option maxRecDepth 100000
set_option maxHeartbeats 1000000
namespace K81
open PySem PySem.Spec PyProof.Rows L2 TL
/-! ### the store -/
abbrev Model := List (Str × List Web)
def wsT (ws : List Web) : T := .tup (ws.map webT)
def rep (m : Model) : List (Key × T) := m.map fun p => (Sum.inr p.1, wsT p.2)
def putM (m : Model) (n : Str) (ws : List Web) : Model := if (m.any fun p => decide (p.1 = n)) = true then m.map (fun p => if p.1 = n then (p.1, ws) else p) else m ++ [(n, ws)]
def NameOk (n : Str) : Prop := ∀ μ : Mem, F_is_name [.str n] μ = .ok (.bl true) μ
theorem val_rep {n : Str} : ∀ m : Model, valT (rep m) (Sum.inr n) = (m.lookup n).map wsT
  | [] => rfl
  | (k, ws) :: r => by
    have ih := val_rep (n := n) r
    unfold valT rep at ih ⊢
    by_cases h : k = n
    · subst h; simp [List.lookup]
    · have h2 : (n == k) = false := by simpa using fun z : n = k => h z.symm
      simp only [List.map_cons, List.find?_cons, List.lookup, h2]
      have h3 : decide ((Sum.inr k : Key) = Sum.inr n) = false := by simpa using h
      rw [h3]
      exact ih
theorem any_rep {n : Str} : ∀ m : Model, ((rep m).any fun kv => decide (kv.1 = (Sum.inr n : Key))) = m.any fun p => decide (p.1 = n)
  | [] => rfl
  | (k, ws) :: r => by
    have ih := any_rep (n := n) r
    unfold rep at ih ⊢
    simp only [List.map_cons, List.any_cons]
    rw [ih]
    congr 1
    simp
theorem put_rep {n : Str} {ws : List Web} (m : Model) : putKT (rep m) (Sum.inr n) (wsT ws) = rep (putM m n ws) := by
  unfold putKT putM
  rw [any_rep]
  split
  · unfold rep
    rw [List.map_map, List.map_map]
    apply List.map_congr_left
    intro p _
    by_cases h : p.1 = n
    · simp [h]
    · simp [h]
  · unfold rep; simp
theorem keys_rep : ∀ m : Model, keyS (rep m) = some (m.map (·.1))
  | [] => rfl
  | (k, ws) :: r => by
    have ih := keys_rep r
    unfold rep at ih ⊢
    simp only [List.map_cons, keyS, ih, Option.map_some]
/-- the store s, its stages st, at most n of them ahead of the newest; m its names and versions -/
def St (μ : Mem) (s st : Nat) (m : Model) (n : Nat) : Prop := ∃ (pre : List T) (d : Nat), μ[s]? = some (.ins "Store" [("store_stages", .ref st)]) ∧ μ[st]? = some (.lst (pre ++ [.ref d])) ∧ μ[d]? = some (.dct (rep m)) ∧ pre.length ≤ n
theorem St.keep {μ μ' : Mem} {s st : Nat} {m : Model} {n : Nat} {S : List Nat} (h : St μ s st m n) (k : Keep S μ μ') (hs : ∀ i ∈ S, ∀ o, μ[i]? = some o → (∃ xs, o = .lst xs) ∧ i ≠ st) : St μ' s st m n := by
  obtain ⟨pre, d, h1, h2, h3, h4⟩ := h
  refine ⟨pre, d, k.at h1 fun z => ?_, k.at h2 fun z => (hs _ z _ h2).2 rfl, k.at h3 fun z => ?_, h4⟩
  · obtain ⟨⟨xs, e⟩, _⟩ := hs _ z _ h1; cases e
  · obtain ⟨⟨xs, e⟩, _⟩ := hs _ z _ h3; cases e
theorem atI_last {α : Type} {pre : List α} {x : α} : L2.atI (pre ++ [x]) (-1) = some x := by
  unfold L2.atI ixN
  have h1 : ¬ (0 : Int) ≤ -1 := by decide
  have h2 : -((pre ++ [x]).length : Int) ≤ -1 := by simp; omega
  rw [if_neg h1, if_pos h2]
  have h3 : (-1 + ((pre ++ [x]).length : Int)).toNat = pre.length := by simp; omega
  simp only [Option.bind_some]
  rw [h3]
  simp
theorem fld_s {μ : Mem} {s st : Nat} (h : μ[s]? = some (.ins "Store" [("store_stages", .ref st)])) : fldT "Store" "store_stages" (.ref s) μ = .ok (.ref st) μ := by
  unfold fldT; dsimp only; rw [h]; rfl
theorem now_e {μ : Mem} {s st d : Nat} {pre : List T} (h1 : μ[s]? = some (.ins "Store" [("store_stages", .ref st)])) (h2 : μ[st]? = some (.lst (pre ++ [.ref d]))) : F_Store_now [.ref s] μ = .ok (.ref d) μ := by
  have e : subT' (.ref st) (.int (-1)) μ = .ok (.ref d) μ := subL h2 atI_last
  show (d_Store_now [some (.ref s)] μ).toR = _
  simp [d_Store_now, fld_s h1, e]
theorem meth_now {μ : Mem} {s st d : Nat} {pre : List T} {dd : EM} {σ : List (Option T)} (h1 : μ[s]? = some (.ins "Store" [("store_stages", .ref st)])) (h2 : μ[st]? = some (.lst (pre ++ [.ref d]))) (e : dd σ μ = .ok (.ref s) μ) : dMeth "Store" "now" 1 F_Store_now dd aNil σ μ = .ok (.ref d) μ := by
  rw [methK e h1 (by rfl), aNil_e]
  simp [now_e h1 h2]
theorem notIn_d {μ : Mem} {d : Nat} {m : Model} {n : Str} (h : μ[d]? = some (.dct (rep m))) : notInDT (.str n) (.ref d) μ = .ok (.bl (!(m.lookup n).isSome)) μ := by
  unfold notInDT
  have e : dctT μ (.ref d) = some (rep m) := by unfold dctT; dsimp only; rw [h]
  rw [e]
  dsimp only [keyT]
  rw [val_rep]
  simp
theorem in_d {μ : Mem} {d : Nat} {m : Model} {n : Str} (h : μ[d]? = some (.dct (rep m))) : inDT (.str n) (.ref d) μ = .ok (.bl (m.lookup n).isSome) μ := by
  unfold inDT
  have e : dctT μ (.ref d) = some (rep m) := by unfold dctT; dsimp only; rw [h]
  rw [e]
  dsimp only [keyT]
  rw [val_rep]
  simp
theorem there_ok {μ : Mem} {s st : Nat} {m : Model} {n : Nat} {x : Str} {ws : List Web} (h : St μ s st m n) (hx : NameOk x) (hl : m.lookup x = some ws) : F_Store_check_there [.ref s, .str x] μ = .ok .non μ := by
  obtain ⟨pre, d, h1, h2, h3, h4⟩ := h
  show (d_Store_check_there [some (.ref s), some (.str x)] μ).toR = _
  simp [d_Store_check_there, hx μ, meth_now (dd := dVar 0) (σ := [some (.ref s), some (.str x)]) h1 h2 rfl, notIn_d h3, hl]
theorem there_no {μ : Mem} {s st : Nat} {m : Model} {n : Nat} {x : Str} (h : St μ s st m n) (hx : NameOk x) (hl : m.lookup x = none) : F_Store_check_there [.ref s, .str x] μ = .exc "NoName" [] μ := by
  obtain ⟨pre, d, h1, h2, h3, h4⟩ := h
  show (d_Store_check_there [some (.ref s), some (.str x)] μ).toR = _
  simp [d_Store_check_there, hx μ, meth_now (dd := dVar 0) (σ := [some (.ref s), some (.str x)]) h1 h2 rfl, notIn_d h3, hl]
theorem there_bad {μ : Mem} {s : Nat} {x : T} (hx : F_is_name [x] μ = .ok (.bl false) μ) : F_Store_check_there [.ref s, x] μ = .exc "NoName" [] μ := by
  show (d_Store_check_there [some (.ref s), some x] μ).toR = _
  simp [d_Store_check_there, hx]
theorem meth_there {μ : Mem} {s st : Nat} {x : T} {dd dx : EM} {σ : List (Option T)} {r : Res} (h1 : μ[s]? = some (.ins "Store" [("store_stages", .ref st)])) (e : dd σ μ = .ok (.ref s) μ) (ex : dx σ μ = .ok x μ) (hr : F_Store_check_there [.ref s, x] μ = r) : dMeth "Store" "check_there" 2 F_Store_check_there dd (aCons dx aNil) σ μ = r := by
  rw [methK e h1 (by rfl), aCons_e, ex]
  simp [hr]
theorem sub_d {μ : Mem} {d : Nat} {m : Model} {x : Str} {ws : List Web} (h : μ[d]? = some (.dct (rep m))) (hl : m.lookup x = some ws) : subT' (.ref d) (.str x) μ = .ok (wsT ws) μ := subD h rfl (by rw [val_rep, hl]; rfl)
theorem take_ok {μ : Mem} {s st : Nat} {m : Model} {n : Nat} {x : Str} {ws : List Web} {w : Web} (h : St μ s st m n) (hx : NameOk x) (hl : m.lookup x = some (ws ++ [w])) : F_Store_take [.ref s, .str x] μ = .ok (webT w) μ := by
  have ht := there_ok h hx hl
  obtain ⟨pre, d, h1, h2, h3, h4⟩ := h
  have e : subT' (wsT (ws ++ [w])) (.int (-1)) μ = .ok (webT w) μ := by
    unfold wsT; rw [List.map_append]; exact subTp atI_last
  show (d_Store_take [some (.ref s), some (.str x)] μ).toR = _
  simp [d_Store_take, meth_there (dd := dVar 0) (dx := dVar 1) (σ := [some (.ref s), some (.str x)]) h1 rfl rfl ht, meth_now (dd := dVar 0) (σ := [some (.ref s), some (.str x)]) h1 h2 rfl, sub_d h3 hl, e]
theorem take_exc {μ : Mem} {s st : Nat} {m : Model} {n : Nat} {x : T} (h : St μ s st m n) (hx : F_Store_check_there [.ref s, x] μ = .exc "NoName" [] μ) : F_Store_take [.ref s, x] μ = .exc "NoName" [] μ := by
  obtain ⟨pre, d, h1, h2, h3, h4⟩ := h
  show (d_Store_take [some (.ref s), some x] μ).toR = _
  simp [d_Store_take, meth_there (dd := dVar 0) (dx := dVar 1) (σ := [some (.ref s), some x]) h1 rfl rfl hx]
theorem atI_nn {α : Type} {xs : List α} {i : Nat} (h : i < xs.length) : L2.atI xs (i : Int) = some xs[i] := by
  unfold L2.atI ixN
  rw [if_pos (Int.natCast_nonneg i), if_pos (by omega)]
  simp [h]
theorem unS_map : ∀ xs : List Str, unS (xs.map T.str) = some xs
  | [] => rfl
  | x :: r => by simp [unS, unS_map r]
theorem unI_strs {x : Str} {r : List T} : unI (T.str x :: r) = none := rfl
theorem sort_strs {xs : List Str} {μ : Mem} (h : xs.length < 64) : sortQ (xs.map T.str) μ = .ok ((sortS xs).map T.str) μ := by
  cases xs with
  | nil => simp [sortQ, TL.unI, sortI, sortS]
  | cons x r =>
    unfold sortQ
    rw [show unI ((x :: r).map T.str) = none from rfl]
    dsimp only
    rw [unS_map]
    dsimp only
    rw [if_pos h]
theorem names_ok {μ : Mem} {s st : Nat} {m : Model} {n : Nat} (h : St μ s st m n) (hl : m.length < 64) : F_Store_names [.ref s] μ = .ok (.tup ((sortS (m.map (·.1))).map T.str)) μ := by
  obtain ⟨pre, d, h1, h2, h3, h4⟩ := h
  have ek : dKeys (dMeth "Store" "now" 1 F_Store_now (dVar 0) aNil) [some (.ref s)] μ = .ok ((m.map (·.1)).map T.str) μ := by
    unfold dKeys
    rw [meth_now (dd := dVar 0) (σ := [some (.ref s)]) h1 h2 rfl, bindL_ok]
    have e : dctT μ (.ref d) = some (rep m) := by unfold dctT; dsimp only; rw [h3]
    rw [e]
    simp [rep, ktT]
  show (d_Store_names [some (.ref s)] μ).toR = _
  simp only [d_Store_names, sRet_e, dQ_e, dQL_e, ek, lbindL_ok, sort_strs (xs := m.map (·.1)) (μ := μ) (by simpa using hl), lbind_ok, tupQ_e, toS_ok, toR_rt]
end K81
set_option linter.all false
set_option maxRecDepth 100000
set_option maxHeartbeats 1000000
namespace K81
open PySem PySem.Spec PyProof.Rows L2 TL
theorem most_ok {a b : Int} {μ : Mem} (h : a ≤ b) : F_check_most [.int a, .int b] μ = .ok .non μ := by
  have h' : ¬ a > b := by omega
  show (d_check_most [some (.int a), some (.int b)] μ).toR = _
  simp only [d_check_most, sIf_e, d2_e, dVar_0, dVar_s, bind_ok, gtT_i, h', decide_false, toS_ok, sIfK_e, Bool.false_eq_true, if_false, sNil_e, toR_nx]
theorem most_no {a b : Int} {μ : Mem} (h : b < a) : F_check_most [.int a, .int b] μ = .exc "TooMany" [("most", .int b)] μ := by
  have h' : a > b := h
  show (d_check_most [some (.int a), some (.int b)] μ).toR = _
  simp only [d_check_most, sIf_e, d2_e, dVar_0, dVar_s, bind_ok, gtT_i, h', decide_true, toS_ok, sIfK_e, if_true, sRaise1_e, toR_exc]
/-- the versions of a name -/
def vers (m : Model) (n : Str) : List Web := (m.lookup n).getD []
/-- put up to its two counts -/
theorem put_noName {μ : Mem} {s : Nat} {x y : T} (hx : F_is_name [x] μ = .ok (.bl false) μ) : F_Store_put [.ref s, x, y] μ = .exc "NoName" [] μ := by
  show (d_Store_put [some (.ref s), some x, some y, none] μ).toR = _
  simp [d_Store_put, hx]
theorem put_noWeb {μ : Mem} {s : Nat} {x y : T} (hx : F_is_name [x] μ = .ok (.bl true) μ) (hy : F_is_web [y] μ = .ok (.bl false) μ) : F_Store_put [.ref s, x, y] μ = .exc "NoWeb" [] μ := by
  have e : F_check_web [y] μ = .exc "NoWeb" [] μ := by
    show (d_check_web [some y] μ).toR = _
    simp [d_check_web, hy]
  show (d_Store_put [some (.ref s), some x, some y, none] μ).toR = _
  simp [d_Store_put, hx, e]
theorem dict_d {μ : Mem} {d : Nat} {m : Model} (h : μ[d]? = some (.dct (rep m))) : dictC [.ref d] μ = .ok (.ref μ.length) (μ ++ [.dct (rep m)]) := by
  unfold dictC
  have e : dctT μ (.ref d) = some (rep m) := by unfold dctT; dsimp only; rw [h]
  dsimp only
  rw [e]
theorem get_d {μ : Mem} {k : Nat} {m : Model} {x : Str} (h : μ[k]? = some (.dct (rep m))) : get2T (.ref k) (.str x) (.tup []) μ = .ok (wsT (vers m x)) μ := by
  unfold get2T
  have e : dctT μ (.ref k) = some (rep m) := by unfold dctT; dsimp only; rw [h]
  rw [e]
  dsimp only [keyT]
  rw [val_rep]
  unfold vers
  cases m.lookup x <;> rfl
theorem dget_d {μ : Mem} {k : Nat} {m : Model} {x : Str} {dd dk dx : EM} {σ : List (Option T)} (h : μ[k]? = some (.dct (rep m))) (e1 : dd σ μ = .ok (.ref k) μ) (e2 : dk σ μ = .ok (.str x) μ) (e3 : dx σ μ = .ok (.tup []) μ) : dGet2 dd dk dx σ μ = .ok (wsT (vers m x)) μ := by
  unfold dGet2
  rw [e1, bind_ok]
  have e : (dctT μ (.ref k)).isSome = true := by unfold dctT; dsimp only; rw [h]; rfl
  rw [if_pos e, e2, bind_ok, e3, bind_ok, get_d h]
theorem len_ws {ws : List Web} {μ : Mem} : lenC [wsT ws] μ = .ok (.int ws.length) μ := by unfold wsT; rw [lenC_t, List.length_map]
theorem put_front {μ : Mem} {s st : Nat} {m : Model} {n : Nat} {x : Str} {w : Web} (h : St μ s st m n) (hx : NameOk x) (hw : WebOk w) :
    ∃ d, d_Store_put [some (.ref s), some (.str x), some (webT w), none] μ = (sSeq (sExpr (dFn 2 F_check_most (aCons (d2 addT (dCall lenC (aCons (dVar 3) aNil)) (dIfE (d2 inDT (dVar 1) (dVar 3)) (dC (.int 0)) (dC (.int 1)))) (aCons (dC (.int 50)) aNil))))
    (sSeq (sExpr (dFn 2 F_check_most (aCons (d2 addT (dCall lenC (aCons (dGet2 (dVar 3) (dVar 1) (dTup aNil)) aNil)) (dC (.int 1))) (aCons (dC (.int 20)) aNil))))
    (sSeq (sSub (dVar 3) (dVar 1) (d2 addT (dGet2 (dVar 3) (dVar 1) (dTup aNil)) (dTup (aCons (dVar 2) aNil))))
    (sSeq (sExpr (dLM appendT (d1 (fldT "Store" "store_stages") (dVar 0)) (aCons (dVar 3) aNil)))
    (sRet (d2 subT (dCall lenC (aCons (d2 subT' (dVar 3) (dVar 1)) aNil)) (dC (.int 1)))))))) [some (.ref s), some (.str x), some (webT w), some (.ref μ.length)] (μ ++ [.dct (rep m)]) ∧ d = μ.length := by
  obtain ⟨pre, d, h1, h2, h3, h4⟩ := h
  refine ⟨_, ?_, rfl⟩
  unfold d_Store_put
  have e1 := meth_now (dd := dVar 0) (σ := [some (.ref s), some (.str x), some (webT w), none]) h1 h2 rfl
  rw [sSeq_e]
  simp only [sIf_e, dNot_e, dFn_e, aCons_e, aNil_e, dVar_0, dVar_s, bind_ok, List.length_cons, List.length_nil, Nat.zero_add, if_true, hx μ, notT_e, Bool.not_true, toS_ok, sIfK_e, Bool.false_eq_true, if_false, sNil_e, seq_nx]
  rw [sSeq_e]
  simp only [sExpr_e, dFn_e, aCons_e, aNil_e, dVar_0, dVar_s, bind_ok, List.length_cons, List.length_nil, Nat.zero_add, if_true, check_web_t hw, toS_ok, seq_nx]
  rw [sSeq_e]
  simp only [sSet_e, dCall_e, aCons_e, aNil_e, e1, bind_ok, dict_d h3, toS_ok, List.set_cons_succ, List.set_cons_zero, seq_nx]
end K81
set_option linter.all false
set_option maxRecDepth 100000
set_option maxHeartbeats 1000000
namespace K81
open PySem PySem.Spec PyProof.Rows L2 TL
theorem look_put_self {n : Str} {ws : List Web} : ∀ m : Model, (putM m n ws).lookup n = some ws := by
  intro m
  unfold putM
  split
  · rename_i h
    induction m with
    | nil => simp at h
    | cons p r ih =>
      by_cases hp : p.1 = n
      · simp [hp, List.lookup]
      · have h2 : (n == p.1) = false := by simpa using fun z : n = p.1 => hp z.symm
        simp only [List.map_cons, if_neg hp, List.lookup, h2]
        simp [hp] at h
        exact ih (by simpa using h)
  · rename_i h
    induction m with
    | nil => simp [List.lookup]
    | cons p r ih =>
      simp at h
      have h2 : (n == p.1) = false := by simpa using fun z : n = p.1 => h.1 z.symm
      simp only [List.cons_append, List.lookup, h2]
      exact ih (by simpa using h.2)
theorem look_put_ne {n k : Str} {ws : List Web} (hk : k ≠ n) : ∀ m : Model, (putM m n ws).lookup k = m.lookup k := by
  intro m
  unfold putM
  split
  · rename_i h
    clear h
    induction m with
    | nil => rfl
    | cons p r ih =>
      by_cases hp : p.1 = n
      · have h2 : (k == p.1) = false := by simpa [hp] using hk
        have h3 : (k == n) = false := by simpa using hk
        simp only [List.map_cons, if_pos hp, List.lookup, h2]
        exact ih
      · simp only [List.map_cons, if_neg hp, List.lookup]
        rw [ih]
  · induction m with
    | nil =>
      have h3 : (k == n) = false := by simpa using hk
      simp [List.lookup, h3]
    | cons p r ih =>
      simp only [List.cons_append, List.lookup]
      rw [ih]
      rename_i h
      intro z
      exact h (by simp [z])
theorem keys_put {n : Str} {ws : List Web} (m : Model) : (putM m n ws).map (·.1) = if (m.any fun p => decide (p.1 = n)) = true then m.map (·.1) else m.map (·.1) ++ [n] := by
  unfold putM
  split
  · rw [List.map_map]
    apply List.map_congr_left
    intro p _
    by_cases h : p.1 = n <;> simp [h]
  · simp
theorem rep_len (m : Model) : (rep m).length = m.length := by unfold rep; simp
theorem any_look {n : Str} : ∀ m : Model, (m.any fun p => decide (p.1 = n)) = (m.lookup n).isSome
  | [] => rfl
  | (k, ws) :: r => by
    have ih := any_look (n := n) r
    by_cases h : k = n
    · subst h; simp [List.lookup]
    · have h2 : (n == k) = false := by simpa using fun z : n = k => h z.symm
      simp only [List.any_cons, h, decide_false, Bool.false_or, ih, List.lookup, h2]
theorem put_ok {μ : Mem} {s st : Nat} {m : Model} {n : Nat} {x : Str} {w : Web} (h : St μ s st m n) (hn : n ≤ 500) (hx : NameOk x) (hw : WebOk w) (hl : m.length + (if (m.lookup x).isSome = true then 0 else 1) ≤ 50) (hv : (vers m x).length + 1 ≤ 20) :
    ∃ μ', F_Store_put [.ref s, .str x, webT w] μ = .ok (.int (vers m x).length) μ' ∧ St μ' s st (putM m x (vers m x ++ [w])) (n + 1) ∧ Keep [st] μ μ' := by
  obtain ⟨_, e0, _⟩ := put_front h hx hw
  obtain ⟨pre, d, h1, h2, h3, h4⟩ := h
  have l1 := (List.getElem?_eq_some_iff.mp h1).1
  have l2 := (List.getElem?_eq_some_iff.mp h2).1
  have nst : μ.length ≠ st := by omega
  have ns : μ.length ≠ s := by omega
  have nss : st ≠ s := fun z => by rw [z, h1] at h2; cases h2
  have m1 : (μ ++ [MO.dct (rep m)])[μ.length]? = some (.dct (rep m)) := by simp
  have e1 : lenC [.ref μ.length] (μ ++ [.dct (rep m)]) = .ok (.int m.length) (μ ++ [.dct (rep m)]) := by rw [lenC_d m1, rep_len]
  have c1 : F_check_most [.int ((m.length : Int) + (if (m.lookup x).isSome = true then 0 else 1)), .int 50] (μ ++ [.dct (rep m)]) = .ok .non (μ ++ [.dct (rep m)]) := most_ok (by split <;> rename_i z <;> simp [z] at hl ⊢ <;> omega)
  have c2 : F_check_most [.int (((vers m x).length : Int) + 1), .int 20] (μ ++ [.dct (rep m)]) = .ok .non (μ ++ [.dct (rep m)]) := most_ok (by omega)
  have z0 : (0 : Nat) ≤ sizeLine := Nat.zero_le _
  have z1 : (1 : Nat) ≤ sizeLine := sz (by omega)
  let m' := putM m x (vers m x ++ [w])
  let μ2 := (μ ++ [MO.dct (rep m)]).set μ.length (.dct (rep m'))
  have f2 : μ2[μ.length]? = some (.dct (rep m')) := set_at m1
  have f2s : μ2[s]? = some (.ins "Store" [("store_stages", .ref st)]) := by
    show ((μ ++ [MO.dct (rep m)]).set μ.length _)[s]? = _
    rw [set_ne ns, List.getElem?_append_left l1]; exact h1
  have f2t : μ2[st]? = some (.lst (pre ++ [.ref d])) := by
    show ((μ ++ [MO.dct (rep m)]).set μ.length _)[st]? = _
    rw [set_ne nst, List.getElem?_append_left l2]; exact h2
  let μ3 := μ2.set st (.lst (pre ++ [.ref d] ++ [.ref μ.length]))
  have f3 : μ3[μ.length]? = some (.dct (rep m')) := by show (μ2.set st _)[μ.length]? = _; rw [set_ne nst.symm]; exact f2
  have gd : ∀ σ : List (Option T), dGet2 (dVar 3) (dVar 1) (dTup aNil) [some (.ref s), some (.str x), some (webT w), some (.ref μ.length)] (μ ++ [.dct (rep m)]) = .ok (wsT (vers m x)) (μ ++ [.dct (rep m)]) := fun _ => dget_d m1 rfl rfl (by simp [z0])
  have gd := gd []
  have ad : addT (wsT (vers m x)) (.tup [webT w]) (μ ++ [.dct (rep m)]) = .ok (wsT (vers m x ++ [w])) (μ ++ [.dct (rep m)]) := by
    unfold wsT addT
    dsimp only
    rw [if_pos (sz (by simp; omega))]
    simp
  have sd : setT (.ref μ.length) (.str x) (wsT (vers m x ++ [w])) (μ ++ [.dct (rep m)]) = some μ2 := by
    rw [setD m1 rfl (szl (by rw [rep_len]; split at hl <;> omega)), put_rep]
  have ap : appendT (.ref st) [.ref μ.length] μ2 = .ok .non μ3 := app_l f2t (by simp; omega)
  have L4 : ∀ (d' : AM), dLM appendT (d1 (fldT "Store" "store_stages") (dVar 0)) d' [some (.ref s), some (.str x), some (webT w), some (.ref μ.length)] μ2 = d' [some (.ref s), some (.str x), some (webT w), some (.ref μ.length)] μ2 fun ts μ4 => appendT (.ref st) ts μ4 := fun d' => lm_l (by simp [fld_s f2s]) f2t
  have sb : subT' (.ref μ.length) (.str x) μ3 = .ok (wsT (vers m x ++ [w])) μ3 := sub_d f3 (look_put_self m)
  refine ⟨μ3, ?_, ⟨pre ++ [.ref d], μ.length, ?_, set_at f2t, f3, by simp; omega⟩, ?_⟩
  · show (d_Store_put [some (.ref s), some (.str x), some (webT w), none] μ).toR = _
    rw [e0]
    rw [sSeq_e]
    simp only [sExpr_e, dFn_e, aCons_e, aNil_e, d2_e, dCall_e, dVar_0, dVar_s, bind_ok, e1, dIfE_e, in_d m1, ifK_e, dC_e]
    have ite : ∀ b : Bool, (if b = true then Res.ok (T.int 0) (μ ++ [.dct (rep m)]) else Res.ok (T.int 1) (μ ++ [.dct (rep m)])) = Res.ok (T.int (if b = true then 0 else 1)) (μ ++ [.dct (rep m)]) := fun b => by cases b <;> rfl
    simp only [ite, bind_ok, addT_i, List.length_cons, List.length_nil, Nat.zero_add, Nat.reduceAdd, if_true, c1, toS_ok, seq_nx]
    rw [sSeq_e]
    simp only [sExpr_e, dFn_e, aCons_e, aNil_e, d2_e, dCall_e, dVar_0, dVar_s, bind_ok, gd, len_ws, dC_e, addT_i, List.length_cons, List.length_nil, Nat.zero_add, Nat.reduceAdd, if_true, c2, toS_ok, seq_nx]
    rw [sSeq_e]
    simp only [sSub_e, d2_e, gd, bind_ok, dTup_e, aCons_e, aNil_e, dVar_0, dVar_s, List.length_cons, List.length_nil, Nat.zero_add, if_pos z1, ad, toS_ok, sd, seq_nx]
    rw [sSeq_e]
    simp only [sExpr_e, L4, aCons_e, aNil_e, dVar_0, dVar_s, bind_ok, ap, toS_ok, seq_nx, sRet_e, d2_e, dCall_e, sb, len_ws, dC_e, subT_i, toR_rt]
    congr 2
    simp
  · show (μ2.set st _)[s]? = _
    rw [set_ne nss]; exact f2s
  · refine ((keep_app [st] μ [.dct (rep m)]).trans (keep_set (S := [μ.length]) (by simp)) ?_).trans (keep_set (S := [st]) (by simp)) fun i hi _ => hi
    intro i hi hlt
    simp at hi; omega
end K81
set_option linter.all false
set_option maxRecDepth 100000
set_option maxHeartbeats 1000000
namespace K81
open PySem PySem.Spec PyProof.Rows L2 TL
/-! ### numbers and pairs as words -/
abbrev cs (z : Str) : List Nat := z.cps.toList
def digs : List Nat := [48, 49, 50, 51, 52, 53, 54, 55, 56, 57]
theorem digs_e : cs ("0123456789" : Str) = digs := by decide +kernel
theorem len_cs (z : Str) : z.length = (cs z).length := (Array.length_toList).symm
def numOf (w : Str) : Option Int := if (decide (1 ≤ w.length) && decide (w.length ≤ 4) && (cs w).all fun c => decide (c ∈ digs)) = true then (if (decide ((cs w)[0]? = some 48) && decide (1 < w.length)) = true then none else PySem.intText? w) else none
def optI : Option Int → T
  | some i => .int i
  | none => .non
theorem lenS {z : Str} {μ : Mem} (h : z.length ≤ 100000) : lenC [.str z] μ = .ok (.int z.length) μ := by
  unfold lenC; dsimp only; rw [if_pos (by rw [sizeLine_eq]; omega)]
theorem chainF {k k' : T → T → Mem → Res} {da db dc : EM} {σ : List (Option T)} {μ : Mem} {x y z : T} {b b' : Bool} (ha : da σ μ = .ok x μ) (hb : db σ μ = .ok y μ) (hc : dc σ μ = .ok z μ) (h : k x y μ = .ok (.bl b) μ) (h' : k' y z μ = .ok (.bl b') μ) : dChain k k' da db dc σ μ = .ok (.bl (b && b')) μ := by
  unfold dChain; rw [ha, bind_ok, hb, bind_ok, h, bind_ok]
  cases b
  · rfl
  · dsimp only; rw [hc, bind_ok, h']; simp
theorem unB_map {α : Type} (f : α → Bool) : ∀ l : List α, unB (l.map fun a => T.bl (f a)) = some (l.map f)
  | [] => rfl
  | a :: r => by simp [unB, unB_map f r]
theorem allQ_map {α : Type} (f : α → Bool) (l : List α) (μ : Mem) : allQ (l.map fun a => T.bl (f a)) μ = .ok (.bl (l.all f)) μ := by
  unfold allQ
  rw [unB_map]
  simp [List.all_map, Function.comp_def]
/-- all signs of a word are among those of a text -/
theorem signs_all {n : Nat} {i : Nat} {w z : Str} {rest : List (Option T)} {μ : Mem} (hw : w.length ≤ 900) :
    (dQ allQ (dLc (dIter (dVar 0)) (.nm 1) [1] none (d2 inTx (dVar 1) (dC (.str z))))) (some (.str w) :: none :: rest) μ = .ok (.bl ((cs w).all fun c => decide (c ∈ cs z))) μ := by
  have q := lc_all (ws := []) (i := 1) (el := d2 inTx (dVar 1) (dC (.str z))) (σ := some (.str w) :: none :: rest) (μ := μ) (f := fun t => match t with | .str ⟨⟨[c]⟩⟩ => T.bl (decide (c ∈ cs z)) | _ => .non) rfl (signsT w) [] (fun x hx => by
    unfold signsT at hx
    obtain ⟨c, hc, rfl⟩ := List.mem_map.mp hx
    simp only [List.set_cons_succ, List.set_cons_zero, d2_e, dVar_s, dVar_0, bind_ok, dC_e]
    rfl) (by unfold signsT; rw [List.length_map, List.length_nil, ← len_cs]; omega)
  have l : dLc (dIter (dVar 0)) (.nm 1) [1] none (d2 inTx (dVar 1) (dC (.str z))) (some (.str w) :: none :: rest) μ = .ok ((cs w).map fun c => T.bl (decide (c ∈ cs z))) μ := by
    unfold dLc dIter
    simp only [dVar_0]
    have e : ([] : List T) ++ (signsT w).map (fun t => match t with | .str ⟨⟨[c]⟩⟩ => T.bl (decide (c ∈ cs z)) | _ => .non) = (cs w).map fun c => T.bl (decide (c ∈ cs z)) := by
      unfold signsT
      rw [List.nil_append, List.map_map]
      rfl
    rw [e] at q
    exact q
  rw [dQ_e, l, lbind_ok, allQ_map]
theorem intSC_e {w : Str} {n : Int} {μ : Mem} (h : PySem.intText? w = some n) (hw : w.length ≤ 640) : intSC [.str w] μ = .ok (.int n) μ := by
  unfold intSC; dsimp only; rw [h]; dsimp only; rw [if_pos hw]
theorem sub0 {w : Str} {c : Nat} {r : List Nat} {μ : Mem} (h : cs w = c :: r) (hw : w.length ≤ 1000) : subT' (.str w) (.int 0) μ = .ok (.str ⟨#[c]⟩) μ := by
  unfold subT'
  show ixT (.str w) (.int 0) μ = _
  unfold ixT
  dsimp only
  rw [if_pos (by rw [sizeLine_eq]; omega)]
  have e : L2.atI w.cps.toList 0 = some c := by
    rw [show w.cps.toList = c :: r from h]
    unfold L2.atI ixN
    simp
  rw [e]
theorem str1_eq {c : Nat} : ((⟨#[c]⟩ : Str) = ("0" : Str)) ↔ c = 48 := by
  constructor
  · intro h
    have := congrArg (fun z : Str => z.cps.toList) h
    have e : (("0" : Str)).cps.toList = [48] := by decide +kernel
    simp only at this
    rw [e] at this
    simpa using this
  · intro h
    subst h
    decide +kernel
/-- digits alone are a number -/
theorem num_total {w : Str} (h1 : 1 ≤ w.length) (h4 : w.length ≤ 4) (hd : ((cs w).all fun c => decide (c ∈ digs)) = true) : ∃ n, PySem.intText? w = some n := by
  obtain ⟨⟨l⟩⟩ := w
  have hl : ∀ l : List Nat, 1 ≤ l.length → l.length ≤ 4 → (l.all fun c => decide (c ∈ digs)) = true → (PySem.intText? ⟨⟨l⟩⟩).isSome = true := by
    intro l h1 h4 hd
    match l, h1, h4 with
    | [a], _, _ =>
      have key : ∀ a ∈ digs, (PySem.intText? ⟨⟨[a]⟩⟩).isSome = true := by decide +kernel
      simp at hd
      exact key a hd
    | [a, b], _, _ =>
      have key : ∀ a ∈ digs, ∀ b ∈ digs, (PySem.intText? ⟨⟨[a, b]⟩⟩).isSome = true := by decide +kernel
      simp at hd
      exact key a hd.1 b hd.2
    | [a, b, c], _, _ =>
      have key : ∀ a ∈ digs, ∀ b ∈ digs, ∀ c ∈ digs, (PySem.intText? ⟨⟨[a, b, c]⟩⟩).isSome = true := by decide +kernel
      simp at hd
      exact key a hd.1 b hd.2.1 c hd.2.2
    | [a, b, c, d], _, _ =>
      have key : ∀ a ∈ digs, ∀ b ∈ digs, ∀ c ∈ digs, ∀ d ∈ digs, (PySem.intText? ⟨⟨[a, b, c, d]⟩⟩).isSome = true := by decide +kernel
      simp at hd
      exact key a hd.1 b hd.2.1 c hd.2.2.1 d hd.2.2.2
  exact Option.isSome_iff_exists.mp (hl l h1 h4 hd)
theorem number_e {w : Str} {μ : Mem} (hw : w.length ≤ 900) : F_number_of [.str w] μ = .ok (optI (numOf w)) μ := by
  have c1 := chainF (k := leT) (k' := leT) (da := dC (.int 1)) (db := dCall lenC (aCons (dVar 0) aNil)) (dc := dC (.int 4)) (σ := [some (.str w), none]) (μ := μ) (x := .int 1) (y := .int w.length) (z := .int 4) rfl (by simp only [dCall_e, aCons_e, aNil_e, dVar_0, bind_ok]; exact lenS (by omega)) rfl (leT_i) (leT_i)
  have c2 := signs_all (n := 0) (i := 0) (z := ("0123456789" : Str)) (rest := []) (μ := μ) hw
  rw [digs_e] at c2
  show (d_number_of [some (.str w), none] μ).toR = _
  unfold d_number_of numOf
  rw [sSeq_e, sIf_e, dOr_e, dNot_e, c1, bind_ok, notT_e]
  have i1 : decide ((1 : Int) ≤ (w.length : Int)) = decide (1 ≤ w.length) := by simp; omega
  have i2 : decide ((w.length : Int) ≤ 4) = decide (w.length ≤ 4) := by simp; omega
  rw [i1, i2]
  by_cases hb : (decide (1 ≤ w.length) && decide (w.length ≤ 4)) = true
  · rw [hb]
    simp only [bind_ok, Bool.not_true, orK_e, Bool.false_eq_true, if_false, dNot_e, c2, notT_e, toS_ok, sIfK_e, Bool.true_and]
    cases ha : (cs w).all fun c => decide (c ∈ digs)
    · simp only [Bool.not_false, if_true, sRet_e, dC_e, toS_ok, seq_rt, toR_rt, Bool.false_eq_true, if_false, optI]
    · simp only [Bool.not_true, Bool.false_eq_true, if_false, sNil_e, seq_nx, if_true]
      simp only [Bool.and_eq_true, decide_eq_true_eq] at hb
      obtain ⟨n, hn⟩ := num_total hb.1 hb.2 ha
      have hne : cs w ≠ [] := fun z => by have := len_cs w; rw [z] at this; simp at this; omega
      obtain ⟨c, r, hc⟩ := List.exists_cons_of_ne_nil hne
      have l0 := lenS (z := w) (μ := μ) (by omega)
      have q0 : (cs w)[0]? = some c := by rw [hc]; rfl
      rw [q0]
      have i3 : decide ((w.length : Int) > 1) = decide (1 < w.length) := by simp; omega
      simp only [sRet_e, dIfE_e, dAnd_e, d2_e, dVar_0, dC_e, bind_ok, sub0 hc (by omega), eqT_s, str1_eq, andK_e, dCall_e, aCons_e, aNil_e, l0, gtT_i, i3]
      by_cases h48 : c = 48
      · simp only [h48, decide_true, if_true, bind_ok, ifK_e, Bool.true_and]
        by_cases hlen : 1 < w.length
        · simp only [hlen, decide_true, if_true, dC_e, toS_ok, toR_rt, optI]
        · simp only [hlen, decide_false, Bool.false_eq_true, if_false, dCall_e, aCons_e, aNil_e, dVar_0, bind_ok, intSC_e hn (by omega), toS_ok, toR_rt, hn, optI]
      · have h48' : ¬ some c = some 48 := by simpa using h48
        simp only [h48, h48', decide_false, Bool.false_eq_true, if_false, bind_ok, ifK_e, Bool.false_and, dCall_e, aCons_e, aNil_e, dVar_0, intSC_e hn (show w.length ≤ 640 by omega), toS_ok, toR_rt, hn, optI]
  · have hb' : (decide (1 ≤ w.length) && decide (w.length ≤ 4)) = false := by simpa using hb
    rw [hb']
    simp only [bind_ok, Bool.not_false, orK_e, if_true, toS_ok, sIfK_e, sRet_e, dC_e, seq_rt, toR_rt, Bool.false_and, Bool.false_eq_true, if_false, optI]
end K81
set_option linter.all false
set_option maxRecDepth 100000
set_option maxHeartbeats 1000000
namespace K81
open PySem PySem.Spec PyProof.Rows L2 TL
/-! ### words of a line -/
/-- cut at each sign c -/
def cut (c : Nat) : List Nat → List (List Nat)
  | [] => [[]]
  | x :: r => if x = c then [] :: cut c r else match cut c r with
    | p :: q => (x :: p) :: q
    | [] => [[x]]
theorem cut_ne (c : Nat) : ∀ l, cut c l ≠ []
  | [] => by simp [cut]
  | x :: r => by
    unfold cut
    split
    · simp
    · split <;> simp
theorem cut_app {c : Nat} : ∀ {p : List Nat} (r : List Nat), c ∉ p → cut c (p ++ c :: r) = p :: cut c r
  | [], r, _ => by simp [cut]
  | x :: p, r, h => by
    simp only [List.mem_cons, not_or] at h
    rw [List.cons_append, cut, if_neg (Ne.symm h.1), cut_app r h.2]
theorem cut_none {c : Nat} : ∀ {p : List Nat}, c ∉ p → cut c p = [p]
  | [], _ => rfl
  | x :: p, h => by
    simp only [List.mem_cons, not_or] at h
    rw [cut, if_neg (Ne.symm h.1), cut_none h.2]
theorem spl_cut {c : Nat} : ∀ (n : Nat) (l : List Nat), l.length ≤ n → spl [c] 0 [] l = cut c l
  | 0, l, h => by
    have : l = [] := List.eq_nil_of_length_eq_zero (by omega)
    subst this; rfl
  | n + 1, l, h => by
    by_cases hc : c ∈ l
    · obtain ⟨p, r, rfl, hp⟩ : ∃ p r, l = p ++ c :: r ∧ c ∉ p := by
        clear h
        induction l with
        | nil => cases hc
        | cons x l ih =>
          by_cases hx : x = c
          · exact ⟨[], l, by rw [hx]; rfl, by simp⟩
          · obtain ⟨p, r, e, hp⟩ := ih ((List.mem_cons.mp hc).resolve_left (Ne.symm hx))
            exact ⟨x :: p, r, by rw [e]; rfl, by simp [hp, Ne.symm hx]⟩
      have q := spl_part1 (S := []) (rest := r) (acc := []) hp
      rw [show p ++ c :: r = p ++ ([c] ++ r) from rfl, q, List.nil_append, spl_cut n r (by simp at h; omega), show p ++ ([c] ++ r) = p ++ c :: r from rfl, cut_app r hp]
    · rw [spl_last1 hc, cut_none hc]; rfl
theorem mem_cut {c x : Nat} : ∀ {l : List Nat}, x ∈ l → x ≠ c → ∃ p ∈ cut c l, x ∈ p
  | y :: r, h, hx => by
    rw [cut]
    split
    · rename_i hy
      rcases List.mem_cons.mp h with rfl | h
      · exact absurd hy hx
      · obtain ⟨p, hp, hm⟩ := mem_cut h hx
        exact ⟨p, List.mem_cons_of_mem _ hp, hm⟩
    · split
      · rename_i p q e
        rcases List.mem_cons.mp h with rfl | h
        · exact ⟨_, List.mem_cons_self .., List.mem_cons_self ..⟩
        · obtain ⟨p', hp, hm⟩ := mem_cut h hx
          rw [e] at hp
          rcases List.mem_cons.mp hp with rfl | hp
          · exact ⟨_, List.mem_cons_self .., List.mem_cons_of_mem _ hm⟩
          · exact ⟨p', List.mem_cons_of_mem _ hp, hm⟩
      · rename_i e
        exact absurd e (cut_ne c r)
theorem cut_mem {c x : Nat} : ∀ {l p : List Nat}, p ∈ cut c l → x ∈ p → x ∈ l
  | [], p, h, hx => by simp [cut] at h; subst h; exact hx
  | y :: r, p, h, hx => by
    rw [cut] at h
    split at h
    · rcases List.mem_cons.mp h with rfl | h
      · cases hx
      · exact List.mem_cons_of_mem _ (cut_mem h hx)
    · split at h
      · rename_i p' q e
        rcases List.mem_cons.mp h with rfl | h
        · rcases List.mem_cons.mp hx with rfl | hx
          · exact List.mem_cons_self ..
          · exact List.mem_cons_of_mem _ (cut_mem (by rw [e]; exact List.mem_cons_self ..) hx)
        · exact List.mem_cons_of_mem _ (cut_mem (by rw [e]; exact List.mem_cons_of_mem _ h) hx)
      · rename_i e
        exact absurd e (cut_ne c r)
theorem cut_len {c : Nat} : ∀ (l : List Nat), (cut c l).length ≤ l.length + 1 ∧ ∀ p ∈ cut c l, p.length ≤ l.length
  | [] => by simp [cut]
  | y :: r => by
    obtain ⟨h1, h2⟩ := cut_len (c := c) r
    rw [cut]
    split
    · refine ⟨by simp; omega, fun p hp => ?_⟩
      rcases List.mem_cons.mp hp with rfl | hp
      · simp
      · have := h2 p hp; simp; omega
    · split
      · rename_i p' q e
        rw [e] at h1 h2
        refine ⟨by simp at h1 ⊢; omega, fun p hp => ?_⟩
        rcases List.mem_cons.mp hp with rfl | hp
        · have := h2 p' (by simp); simp; omega
        · have := h2 p (by simp [hp]); simp; omega
      · rename_i e
        exact absurd e (cut_ne c r)
abbrev SP : Str := " "
abbrev DA : Str := "-"
theorem sp_cs : cs SP = [32] := by decide +kernel
theorem da_cs : cs DA = [45] := by decide +kernel
theorem split_sp (z : Str) : (Txt.split z SP).map cs = cut 32 (cs z) := by
  have h := split_spl z SP (by rw [show tl SP = [32] from sp_cs]; simp) (kind_ok (by decide +kernel))
  rw [show tl SP = [32] from sp_cs, spl_cut _ _ (Nat.le_refl _)] at h
  exact h
theorem split_da (z : Str) : (Txt.split z DA).map cs = cut 45 (cs z) := by
  have h := split_spl z DA (by rw [show tl DA = [45] from da_cs]; simp) (kind_ok (by decide +kernel))
  rw [show tl DA = [45] from da_cs, spl_cut _ _ (Nat.le_refl _)] at h
  exact h
theorem strOk_iff {z : Str} : PyData.strOk z = true ↔ ∀ c ∈ cs z, c < 0x110000 := by
  unfold PyData.strOk
  rw [Array.all_eq_true]
  simp only [decide_eq_true_eq]
  constructor
  · intro h c hc
    obtain ⟨i, hi, rfl⟩ := Array.getElem_of_mem (Array.mem_toList_iff.mp hc)
    exact h i hi
  · intro h i hi
    exact h _ (Array.mem_toList_iff.mpr (Array.getElem_mem hi))
/-- the parts of a plain text are plain -/
theorem parts_ok {z : Str} {c : Nat} {ps : List Str} (h : ps.map cs = cut c (cs z)) : ps.length ≤ z.length + 1 ∧ ∀ p ∈ ps, p.length ≤ z.length ∧ (PyData.strOk z = true → PyData.strOk p = true) := by
  have hl := cut_len (c := c) (cs z)
  refine ⟨by rw [← h, List.length_map, ← len_cs] at hl; exact hl.1, fun p hp => ?_⟩
  have hm : cs p ∈ cut c (cs z) := by rw [← h]; exact List.mem_map_of_mem hp
  refine ⟨by rw [len_cs, len_cs z]; exact hl.2 _ hm, fun hz => ?_⟩
  rw [strOk_iff] at hz ⊢
  exact fun x hx => hz x (cut_mem hm hx)
theorem splitLM_e {z s : Str} {μ : Mem} (hs : (s.length == 0) = false) (hz : z.length ≤ 100000) : splitLM (.str z) (.str s) μ = .ok ((Txt.split z s).map T.str) μ := by
  unfold splitLM; dsimp only; rw [if_pos ⟨hs, by rw [sizeLine_eq]; omega⟩]
theorem dSplit_e {dd db : EM} {σ : List (Option T)} {z s : Str} {μ : Mem} (e1 : dd σ μ = .ok (.str z) μ) (e2 : db σ μ = .ok (.str s) μ) (hs : (s.length == 0) = false) (hz : z.length ≤ 100000) : dSplit dd db σ μ = .ok ((Txt.split z s).map T.str) μ := by
  unfold dSplit
  rw [e1, bindL_ok, if_pos (show isStr (T.str z) = true from rfl), e2, bindL_ok, splitLM_e hs hz]
/-! ### pairs -/
def pairOf (w : Str) : Option (Int × Int) := match (Txt.split w DA).map numOf with
  | [some a, some b] => some (a, b)
  | _ => none
def optP : Option (Int × Int) → T
  | some p => pairT p
  | none => .non
theorem toDWs_optI {f : Nat → Option PyData} : ∀ l : List (Option Int), toDWs f (l.map optI) = some (l.map fun o => match o with | some i => PyData.int i | none => .none)
  | [] => rfl
  | none :: r => by simp [toDWs, optI, toDW, toDWs_optI r]
  | some i :: r => by simp [toDWs, optI, toDW, toDWs_optI r]
theorem flat_optI (o : Option Int) : flatT (optI o) = true := by cases o <;> rfl
theorem eqF_optI (o : Option Int) : eqF (optI o) .non = decide (o = none) := by cases o <;> simp [optI, eqF]
theorem notDct_l {μ : Mem} {k : Nat} {xs : List T} (h : μ[k]? = some (.lst xs)) : dctT μ (.ref k) = none := by unfold dctT; dsimp only; rw [h]
theorem noneIn {μ : Mem} {k : Nat} {l : List (Option Int)} (h : μ[k]? = some (.lst (l.map optI))) : inDT .non (.ref k) μ = .ok (.bl (l.any Option.isNone)) μ := by
  unfold inDT
  rw [notDct_l h]
  dsimp only
  unfold inT inB
  dsimp only
  rw [seqT_l h]
  dsimp only
  have h1 : flatT T.non = true ∧ (l.map optI).all flatT = true := ⟨rfl, by rw [List.all_map]; simp [Function.comp_def, flat_optI]⟩
  rw [if_pos h1]
  dsimp only
  have e : ((l.map optI).any fun z => eqF z .non) = l.any Option.isNone := by
    rw [List.any_map]
    congr 1
    funext o
    cases o <;> rfl
  rw [e]
theorem lc_nums {i : Nat} {σ : List (Option T)} {μ : Mem} {ws : List Str} (hz : ws.length ≤ 1000) (hw : ∀ w ∈ ws, w.length ≤ 900) (el : EM) (he : ∀ w : Str, el (σ.set i (some (.str w))) μ = F_number_of [.str w] μ) : lcGo [] (.nm i) none el σ (ws.map T.str) [] μ = .ok ((ws.map numOf).map optI) μ := by
  have q := lc_all (ws := []) (i := i) (el := el) (σ := σ) (μ := μ) (f := fun t => match t with | .str w => optI (numOf w) | _ => .non) rfl (ws.map T.str) [] (fun x hx => by
    obtain ⟨w, hw', rfl⟩ := List.mem_map.mp hx
    rw [he, number_e (hw w hw')]) (by simp; omega)
  rw [q]
  simp [List.map_map, Function.comp_def]
theorem pair_e {w : Str} {μ : Mem} (hw : w.length ≤ 900) : ∃ g, F_pair_of [.str w] μ = .ok (optP (pairOf w)) (μ ++ g) := by
  have hp := parts_ok (split_da w)
  have s1 : dSplit (dVar 0) (dC (.str "-")) [some (.str w), none, none] μ = .ok ((Txt.split w DA).map T.str) μ := dSplit_e rfl rfl (by decide +kernel) (by omega)
  have l1 := lc_nums (i := 2) (σ := [some (.str w), none, none]) (μ := μ) (ws := Txt.split w DA) (by omega) (fun x hx => by have := (hp.2 x hx).1; omega) (dFn 1 F_number_of (aCons (dVar 2) aNil)) (fun z => by simp)
  have l2 : dLc (dIterL (dSplit (dVar 0) (dC (.str "-")))) (.nm 2) [2] none (dFn 1 F_number_of (aCons (dVar 2) aNil)) [some (.str w), none, none] μ = .ok (((Txt.split w DA).map numOf).map optI) μ := by
    unfold dLc dIterL
    rw [s1]
    exact l1
  refine ⟨[.lst (((Txt.split w DA).map numOf).map optI)], ?_⟩
  have k1 : (μ ++ [MO.lst (((Txt.split w DA).map numOf).map optI)])[μ.length]? = some (.lst (((Txt.split w DA).map numOf).map optI)) := by simp
  show (d_pair_of [some (.str w), none, none] μ).toR = _
  unfold d_pair_of
  rw [sSeq_e, sSet_e, dNew_e, l2, lbind_ok, toS_ok, seq_nx]
  simp only [List.set_cons_succ, List.set_cons_zero, sRet_e, dIfE_e, dOr_e, d2_e, dCall_e, aCons_e, aNil_e, dVar_s, dVar_0, bind_ok, lenC_l k1, dC_e, neT_e, eqT_i, notT_e, orK_e, noneIn k1, dQ_e, List.length_map]
  unfold pairOf
  generalize hl : (Txt.split w DA).map numOf = l at *
  have hlen : (Txt.split w DA).length = l.length := by rw [← hl, List.length_map]
  rw [hlen]
  have S1 : dSeq (dVar 1) [some (.str w), some (.ref μ.length), none] (μ ++ [MO.lst (l.map optI)]) = .ok (l.map optI) (μ ++ [MO.lst (l.map optI)]) := dSeq_l (dVar_e rfl) k1
  match l with
  | [some a, some b] =>
    simp only [List.map_cons, List.map_nil, optI] at S1
    simp [S1, ifK_e, optP, optI, pairT]
  | [none, _] => simp [ifK_e, optP]
  | [some _, none] => simp [ifK_e, optP]
  | [] => simp [ifK_e, optP]
  | [_] => simp [ifK_e, optP]
  | _ :: _ :: _ :: r =>
    have : ¬ ((r.length : Int) + 1 + 1 + 1 = 2) := by omega
    simp [ifK_e, optP, this]
end K81
set_option linter.all false
set_option maxRecDepth 100000
set_option maxHeartbeats 1000000
namespace K81
open PySem PySem.Spec PyProof.Rows L2 TL
def letters : List Nat := cs ("abcdefghijklmnopqrstuvwxyz" : Str)
def nameB (w : Str) : Bool := decide (1 ≤ w.length) && decide (w.length ≤ 8) && (cs w).all fun c => decide (c ∈ letters)
theorem name_e {w : Str} {μ : Mem} (hw : w.length ≤ 900) : F_is_name [.str w] μ = .ok (.bl (nameB w)) μ := by
  have c1 := chainF (k := leT) (k' := leT) (da := dC (.int 1)) (db := dCall lenC (aCons (dVar 0) aNil)) (dc := dC (.int 8)) (σ := [some (.str w), none]) (μ := μ) (x := .int 1) (y := .int w.length) (z := .int 8) rfl (by simp only [dCall_e, aCons_e, aNil_e, dVar_0, bind_ok]; exact lenS (by omega)) rfl (leT_i) (leT_i)
  have c2 := signs_all (n := 0) (i := 0) (z := ("abcdefghijklmnopqrstuvwxyz" : Str)) (rest := []) (μ := μ) hw
  have i1 : decide ((1 : Int) ≤ (w.length : Int)) = decide (1 ≤ w.length) := by simp; omega
  have i2 : decide ((w.length : Int) ≤ 8) = decide (w.length ≤ 8) := by simp; omega
  have e0 : isiT "str" (.str w) μ = .ok (.bl true) μ := rfl
  show (d_is_name [some (.str w), none] μ).toR = _
  unfold d_is_name nameB letters
  rw [i1, i2] at c1
  rw [sRet_e, dAnd_e, d1_e, dVar_0, bind_ok, e0, bind_ok, andK_e, if_pos rfl, dAnd_e, c1, bind_ok, andK_e]
  cases (decide (1 ≤ w.length) && decide (w.length ≤ 8))
  · simp only [Bool.false_eq_true, if_false, toS_ok, toR_rt, Bool.false_and]
  · rw [if_pos rfl, c2]; simp only [toS_ok, toR_rt, Bool.true_and]
@[simp] theorem dFn1 {F : Fn} {d : EM} {σ : List (Option T)} {μ : Mem} : dFn 1 F (aCons d aNil) σ μ = (d σ μ).bind fun x μ1 => F [x] μ1 := by simp only [dFn_e, aCons_e, aNil_e, List.length_cons, List.length_nil, Nat.zero_add, if_true]
@[simp] theorem dFn2 {F : Fn} {d e : EM} {σ : List (Option T)} {μ : Mem} : dFn 2 F (aCons d (aCons e aNil)) σ μ = (d σ μ).bind fun x μ1 => (e σ μ1).bind fun y μ2 => F [x, y] μ2 := by simp only [dFn_e, aCons_e, aNil_e, List.length_cons, List.length_nil, Nat.zero_add, Nat.reduceAdd, if_true]
@[simp] theorem dFn3 {F : Fn} {d e f : EM} {σ : List (Option T)} {μ : Mem} : dFn 3 F (aCons d (aCons e (aCons f aNil))) σ μ = (d σ μ).bind fun x μ1 => (e σ μ1).bind fun y μ2 => (f σ μ2).bind fun z μ3 => F [x, y, z] μ3 := by simp only [dFn_e, aCons_e, aNil_e, List.length_cons, List.length_nil, Nat.zero_add, Nat.reduceAdd, if_true]
theorem watched_app {ws : List (Nat × List T)} {μ : Mem} (g : Mem) (h : watched ws μ = true) : watched ws (μ ++ g) = true := by
  unfold watched at *
  rw [List.all_eq_true] at *
  intro w hw
  have q := h w hw
  split at q
  · rename_i xs hx
    rw [List.getElem?_append_left (List.getElem?_eq_some_iff.mp hx).1, hx]
    exact q
  · cases q
theorem lc_grow {ws : List (Nat × List T)} {i : Nat} {el : EM} {σ : List (Option T)} {f : T → T} : ∀ (xs acc : List T) (μ : Mem), watched ws μ = true → (∀ x ∈ xs, ∀ μ', ∃ g, el (σ.set i (some x)) μ' = .ok (f x) (μ' ++ g)) → acc.length + xs.length ≤ 1000 → ∃ g, lcGo ws (.nm i) none el σ xs acc μ = .ok (acc ++ xs.map f) (μ ++ g)
  | [], acc, μ, hw, _, _ => ⟨[], by unfold lcGo; rw [if_pos hw]; simp⟩
  | x :: r, acc, μ, hw, h, hz => by
    obtain ⟨g1, e1⟩ := h x (by simp) μ
    obtain ⟨g2, e2⟩ := lc_grow r (acc ++ [f x]) (μ ++ g1) (watched_app g1 hw) (fun y hy => h y (by simp [hy])) (by simp at hz ⊢; omega)
    refine ⟨g1 ++ g2, ?_⟩
    unfold lcGo
    rw [if_pos hw]
    show ((el (σ.set i (some x)) μ).toL _) = _
    rw [e1, toL_ok, if_pos (szl (by simp at hz; omega)), e2]
    simp
/-! ### none among pairs -/
def dP : Option (Int × Int) → PyData
  | some p => pairD p
  | none => .none
theorem toDWs_optP {f : Nat → Option PyData} : ∀ l : List (Option (Int × Int)), toDWs f (l.map optP) = some (l.map dP)
  | [] => rfl
  | none :: r => by simp [toDWs, optP, dP, toDW, toDWs_optP r]
  | some p :: r => by
    have := toDW_pair (f := f) p
    simp [toDWs, optP, dP, this, toDWs_optP r]
theorem noneInP {μ : Mem} {k : Nat} {l : List (Option (Int × Int))} (h : μ[k]? = some (.lst (l.map optP))) : inDT .non (.ref k) μ = .ok (.bl (l.any Option.isNone)) μ := by
  unfold inDT
  rw [notDct_l h]
  dsimp only
  unfold inT inB
  dsimp only
  rw [seqT_l h]
  dsimp only
  by_cases hf : flatT T.non = true ∧ (l.map optP).all flatT = true
  · rw [if_pos hf]
    dsimp only
    have ha : ∀ o ∈ l, o = none := fun o ho => by
      have := List.all_eq_true.mp hf.2 _ (List.mem_map_of_mem ho)
      cases o with
      | none => rfl
      | some p => simp [optP, pairT, flatT] at this
    have e : ((l.map optP).any fun z => eqF z .non) = l.any Option.isNone := by
      cases l with
      | nil => simp
      | cons o r =>
        have := ha o (by simp)
        subst this
        simp [optP, eqF]
    rw [e]
  · rw [if_neg hf]
    have e1 : toD μ T.non = some .none := rfl
    have e2 : refD μ 4 k = some (.list (l.map dP)) := by
      unfold refD
      rw [h]
      dsimp only
      rw [toDWs_optP]
      rfl
    rw [e1, e2]
    dsimp only
    have c1 : SeqAt.shaped PyData.none = true := by decide +kernel
    have c2 : SeqAt.shaped (.list (l.map dP)) = true := by
      refine shaped_of ?_ ?_
      · simp only [PyData.canLay0]
        exact canAll_map l fun o _ => by cases o <;> simp [dP, pairD, PyData.canLay0, PyData.canLayAll0]
      · have := depthAll_map (k := 1) (d := dP) (fun o => by cases o with | none => simp [dP, PyData.depth] | some p => exact depth_pair p) l
        simp only [PyData.depth]; omega
    rw [if_pos ⟨c1, c2⟩]
    dsimp only
    have e : ((l.map dP).any fun z => PyData.eqv z .none) = l.any Option.isNone := by
      rw [List.any_map]
      congr 1
      funext o
      cases o <;> simp [dP, pairD, PyData.eqv]
    rw [e]
/-! ### a web's line, behind its first word -/
def putNo : List Str → Bool
  | nm :: n :: ts => !nameB nm || (numOf n).isNone || ts.any fun w => (pairOf w).isNone
  | _ => true
theorem sub_l {μ : Mem} {k : Nat} {xs : List T} {i : Nat} {t : T} (h : μ[k]? = some (.lst xs)) (e : xs[i]? = some t) : subT' (.ref k) (.int i) μ = .ok t μ := by
  have hi := (List.getElem?_eq_some_iff.mp e).1
  refine subL h ?_
  unfold L2.atI ixN
  rw [if_pos (Int.natCast_nonneg i), if_pos (by omega)]
  simpa using e
theorem cut_drop {xs : List T} {n : Nat} : cutT xs (some (n : Int)) none = xs.drop n := by
  unfold cutT
  rw [HT.sIx_nat, HT.sIx_none]
  by_cases h : n ≤ xs.length
  · rw [Nat.min_eq_left h, List.take_of_length_le (by simp)]
  · rw [Nat.min_eq_right (by omega), List.drop_length, List.drop_eq_nil_of_le (by omega)]
    simp
theorem slice_l {μ : Mem} {k n : Nat} {xs : List T} {dd : EM} {σ : List (Option T)} (e : dd σ μ = .ok (.ref k) μ) (h : μ[k]? = some (.lst xs)) : dSl dd (some (dC (.int (n : Int)))) none σ μ = .ok (.ref μ.length) (μ ++ [.lst (xs.drop n)]) := by
  unfold dSl
  rw [e, bind_ok]
  unfold odRunR
  simp only [dC_e, bind_ok]
  unfold sliceT
  dsimp only
  rw [h]
  dsimp only
  rw [cut_drop]
def allP : List (Option (Int × Int)) → Option (List (Int × Int))
  | [] => some []
  | some p :: r => (allP r).map (p :: ·)
  | none :: _ => none
theorem allP_none : ∀ {l : List (Option (Int × Int))}, none ∈ l → allP l = none
  | none :: _, _ => rfl
  | some p :: r, h => by
    have : none ∈ r := by simpa using h
    simp [allP, allP_none this]
theorem allP_some : ∀ {l : List (Option (Int × Int))}, none ∉ l → ∃ ps, allP l = some ps ∧ l = ps.map some
  | [], _ => ⟨[], rfl, rfl⟩
  | none :: _, h => absurd (List.mem_cons_self ..) h
  | some p :: r, h => by
    obtain ⟨ps, e1, e2⟩ := allP_some (l := r) fun z => h (List.mem_cons_of_mem _ z)
    exact ⟨p :: ps, by simp [allP, e1], by simp [e2]⟩
/-- the end of a put: its number told -/
def verT : T → Mem → Res := fun t μ => match t with
  | .int i => if i.natAbs.log2 < 1920 then addT (.str "version ") (.str (toString i)) μ else .bad
  | _ => .bad
/-- the words r lie at k, the desk at dk over the store s -/
theorem put_web_e {μ : Mem} {dk s k : Nat} {r : List Str} (hd : μ[dk]? = some (.ins "Desk" [("desk_store", .ref s)])) (hs : ∃ st, μ[s]? = some (.ins "Store" [("store_stages", .ref st)])) (hk : μ[k]? = some (.lst (r.map T.str))) (hl : r.length ≤ 900) (hw : ∀ w ∈ r, w.length ≤ 900) :
    (putNo r = true → ∃ g, F_Desk_put_web [.ref dk, .ref k] μ = .exc "NoLine" [] (μ ++ g)) ∧
    (putNo r = false → ∃ nm n ts ps g, r = nm :: n :: ts ∧ nameB nm = true ∧ ∃ i, numOf n = some i ∧ ts.map pairOf = ps.map some ∧ F_Desk_put_web [.ref dk, .ref k] μ = (F_Store_put [.ref s, .str nm, webT (i, ps)] (μ ++ g)).bind verT) := by
  have ln : ∀ σ : List (Option T), dCall lenC (aCons (dVar 1) aNil) (some (.ref dk) :: some (.ref k) :: σ) μ = .ok (.int r.length) μ := fun σ => by
    simp only [dCall_e, aCons_e, aNil_e, dVar_s, dVar_0, bind_ok, lenC_l hk, List.length_map]
  match r, hk, hl, hw, ln with
  | [], hk, hl, hw, ln =>
    refine ⟨fun _ => ⟨[], ?_⟩, fun z => by simp [putNo] at z⟩
    show (d_Desk_put_web [some (.ref dk), some (.ref k), none, none] μ).toR = _
    unfold d_Desk_put_web
    rw [sSeq_e, sIf_e, dOr_e, d2_e, ln, bind_ok, dC_e, bind_ok, ltT_i, bind_ok, orK_e]
    simp
  | [a], hk, hl, hw, ln =>
    refine ⟨fun _ => ⟨[], ?_⟩, fun z => by simp [putNo] at z⟩
    show (d_Desk_put_web [some (.ref dk), some (.ref k), none, none] μ).toR = _
    unfold d_Desk_put_web
    rw [sSeq_e, sIf_e, dOr_e, d2_e, ln, bind_ok, dC_e, bind_ok, ltT_i, bind_ok, orK_e]
    simp
  | nm :: n :: ts, hk, hl, hw, ln =>
    have i0 : ∀ (σ : List (Option T)) (μ' : Mem), μ'[k]? = some (.lst ((nm :: n :: ts).map T.str)) → d2 subT' (dVar 1) (dC (.int 0)) (some (.ref dk) :: some (.ref k) :: σ) μ' = .ok (.str nm) μ' := fun σ μ' h => by
      simp only [d2_e, dVar_s, dVar_0, bind_ok, dC_e]
      exact sub_l (i := 0) h rfl
    have i1 : ∀ (σ : List (Option T)) (μ' : Mem), μ'[k]? = some (.lst ((nm :: n :: ts).map T.str)) → d2 subT' (dVar 1) (dC (.int 1)) (some (.ref dk) :: some (.ref k) :: σ) μ' = .ok (.str n) μ' := fun σ μ' h => by
      simp only [d2_e, dVar_s, dVar_0, bind_ok, dC_e]
      exact sub_l (i := 1) h rfl
    have nm_e := fun μ' => name_e (w := nm) (μ := μ') (hw nm (by simp))
    have n_e := fun μ' => number_e (w := n) (μ := μ') (hw n (by simp))
    have lt2 : ¬ (((nm :: n :: ts).length : Int) < 2) := by simp; omega
    have front : ∀ rest : SM, (sSeq (sIf (dOr (d2 ltT (dCall lenC (aCons (dVar 1) aNil)) (dC (.int 2))) (dOr (dNot (dFn 1 F_is_name (aCons (d2 subT' (dVar 1) (dC (.int 0))) aNil))) (d1 isNT (dFn 1 F_number_of (aCons (d2 subT' (dVar 1) (dC (.int 1))) aNil))))) (sRaise0 "NoLine") sNil) rest) [some (.ref dk), some (.ref k), none, none] μ = if (!nameB nm || (numOf n).isNone) = true then .exc "NoLine" [] μ else rest [some (.ref dk), some (.ref k), none, none] μ := fun rest => by
      rw [sSeq_e, sIf_e, dOr_e, d2_e, ln, bind_ok, dC_e, bind_ok, ltT_i, bind_ok, orK_e, decide_eq_false lt2, if_neg Bool.false_ne_true, dOr_e, dNot_e, dFn1, i0 _ _ hk, bind_ok, nm_e, bind_ok, notT_e, bind_ok, orK_e]
      cases nameB nm
      · simp
      · simp only [Bool.not_true, Bool.false_eq_true, if_false, d1_e, dFn1, i1 _ _ hk, bind_ok, n_e, Bool.false_or]
        cases numOf n
        · simp [optI, isNT]
        · simp [optI, isNT]
    -- the pairs
    let μ1 : Mem := μ ++ [.lst (ts.map T.str)]
    have sl : dSl (dVar 1) (some (dC (.int 2))) none [some (.ref dk), some (.ref k), none, none] μ = .ok (.ref μ.length) μ1 := slice_l (n := 2) rfl hk
    have k1 : μ1[μ.length]? = some (.lst (ts.map T.str)) := by simp [μ1]
    obtain ⟨g, eg⟩ := lc_grow (ws := [(μ.length, ts.map T.str)]) (i := 3) (el := dFn 1 F_pair_of (aCons (dVar 3) aNil)) (σ := [some (.ref dk), some (.ref k), none, none]) (f := fun t => match t with | .str w => optP (pairOf w) | _ => .non) (ts.map T.str) [] μ1 (watched_one k1) (fun x hx μ' => by
      obtain ⟨w, hw', rfl⟩ := List.mem_map.mp hx
      obtain ⟨g, e⟩ := pair_e (w := w) (μ := μ') (hw w (by simp [hw']))
      exact ⟨g, by simp [e]⟩) (by simp at hl ⊢; omega)
    have em : ([] : List T) ++ (ts.map T.str).map (fun t => match t with | .str w => optP (pairOf w) | _ => .non) = (ts.map pairOf).map optP := by simp [List.map_map, Function.comp_def]
    rw [em] at eg
    have lc : dLc (dIter (dSl (dVar 1) (some (dC (.int 2))) none)) (.nm 3) [3] none (dFn 1 F_pair_of (aCons (dVar 3) aNil)) [some (.ref dk), some (.ref k), none, none] μ = .ok ((ts.map pairOf).map optP) (μ1 ++ g) := by
      unfold dLc dIter
      rw [sl]
      dsimp only
      rw [k1]
      exact eg
    let L := μ1 ++ g
    let μ2 : Mem := L ++ [.lst ((ts.map pairOf).map optP)]
    have k2 : μ2[L.length]? = some (.lst ((ts.map pairOf).map optP)) := by simp [μ2]
    have e2 : μ2 = μ ++ ([.lst (ts.map T.str)] ++ g ++ [.lst ((ts.map pairOf).map optP)]) := by simp [μ2, L, μ1]
    have any_e : putNo (nm :: n :: ts) = ((!nameB nm || (numOf n).isNone) || ts.any fun w => (pairOf w).isNone) := by simp [putNo]
    have hnone : (ts.map pairOf).any Option.isNone = ts.any fun w => (pairOf w).isNone := by rw [List.any_map]; rfl
    constructor
    · intro hno
      rw [any_e] at hno
      cases hf : (!nameB nm || (numOf n).isNone)
      · rw [hf, Bool.false_or] at hno
        refine ⟨[.lst (ts.map T.str)] ++ g ++ [.lst ((ts.map pairOf).map optP)], ?_⟩
        show (d_Desk_put_web [some (.ref dk), some (.ref k), none, none] μ).toR = _
        unfold d_Desk_put_web
        rw [front, if_neg (by rw [hf]; exact Bool.false_ne_true), sSeq_e, sSet_e, dNew_e, lc, lbind_ok, toS_ok, seq_nx, sSeq_e, sIf_e]
        simp only [d2_e, dC_e, bind_ok, List.set_cons_succ, List.set_cons_zero, dVar_s, dVar_0]
        rw [show (μ1 ++ g).length = L.length from rfl, show (μ1 ++ g ++ [MO.lst ((ts.map pairOf).map optP)]) = μ2 from rfl, noneInP k2, hnone, hno]
        simp [e2]
      · refine ⟨[], ?_⟩
        show (d_Desk_put_web [some (.ref dk), some (.ref k), none, none] μ).toR = _
        unfold d_Desk_put_web
        rw [front, if_pos hf]
        simp
    · intro hno
      rw [any_e] at hno
      simp only [Bool.or_eq_false_iff] at hno
      obtain ⟨⟨h1, h2⟩, h3⟩ := hno
      have hf : (!nameB nm || (numOf n).isNone) = false := by simp [h1, h2]
      have hn : nameB nm = true := by simpa using h1
      obtain ⟨i, hi⟩ : ∃ i, numOf n = some i := by
        cases hq : numOf n with
        | none => rw [hq] at h2; cases h2
        | some i => exact ⟨i, rfl⟩
      have hnot : none ∉ ts.map pairOf := by
        intro z
        obtain ⟨w, hw', e⟩ := List.mem_map.mp z
        have := List.any_eq_false.mp h3 w hw'
        rw [e] at this
        exact this rfl
      obtain ⟨ps, _, hps⟩ := allP_some hnot
      refine ⟨nm, n, ts, ps, [.lst (ts.map T.str)] ++ g ++ [.lst ((ts.map pairOf).map optP)], rfl, hn, i, hi, hps, ?_⟩
      show (d_Desk_put_web [some (.ref dk), some (.ref k), none, none] μ).toR = _
      unfold d_Desk_put_web
      rw [front, if_neg (by rw [hf]; exact Bool.false_ne_true), sSeq_e, sSet_e, dNew_e, lc, lbind_ok, toS_ok, seq_nx, sSeq_e, sIf_e]
      simp only [d2_e, dC_e, bind_ok, List.set_cons_succ, List.set_cons_zero, dVar_s, dVar_0]
      rw [show (μ1 ++ g).length = L.length from rfl, show (μ1 ++ g ++ [MO.lst ((ts.map pairOf).map optP)]) = μ2 from rfl, noneInP k2, hnone, h3]
      simp only [toS_ok, sIfK_e, Bool.false_eq_true, if_false, sNil_e, seq_nx]
      have gd : μ2[dk]? = some (.ins "Desk" [("desk_store", .ref s)]) := by rw [e2, List.getElem?_append_left (List.getElem?_eq_some_iff.mp hd).1]; exact hd
      have gk : μ2[k]? = some (.lst ((nm :: n :: ts).map T.str)) := by rw [e2, List.getElem?_append_left (List.getElem?_eq_some_iff.mp hk).1]; exact hk
      obtain ⟨st, hs⟩ := hs
      have gs : μ2[s]? = some (.ins "Store" [("store_stages", .ref st)]) := by rw [e2, List.getElem?_append_left (List.getElem?_eq_some_iff.mp hs).1]; exact hs
      have fl : d1 (fldT "Desk" "desk_store") (dVar 0) [some (.ref dk), some (.ref k), some (.ref L.length), none] μ2 = .ok (.ref s) μ2 := by
        simp only [d1_e, dVar_0, bind_ok]
        unfold fldT
        dsimp only
        rw [gd]
        rfl
      have S2 : dSeq (dVar 2) [some (.ref dk), some (.ref k), some (.ref L.length), none] μ2 = .ok (ps.map pairT) μ2 := by
        have : (ts.map pairOf).map optP = ps.map pairT := by rw [hps]; simp [List.map_map, Function.comp_def, optP]
        rw [← this]
        exact dSeq_l rfl k2
      rw [sRet_e, d2_e, dC_e, bind_ok, dCall_e, aCons_e, methK fl gs rfl, aCons_e, i0 _ _ gk, bind_ok, aCons_e, dTup_e, aCons_e, dFn1, i1 _ _ gk, bind_ok, n_e, hi, bind_ok, aCons_e, dQ_e, S2, lbind_ok, tupQ_e, bind_ok, aNil_e]
      rw [if_pos (sz (by simp)), bind_ok, aNil_e, if_pos (by simp), ← e2]
      show ((((F_Store_put [.ref s, .str nm, webT (i, ps)] μ2).bind fun x μ1 => strC [x] μ1).bind fun y μ2 => addT (.str "version ") y μ2).toS fun t μ1 => SRes.rt t μ1).toR = _
      generalize F_Store_put [.ref s, .str nm, webT (i, ps)] μ2 = R
      cases R with
      | ok t μ3 =>
        simp only [bind_ok]
        unfold verT strC
        cases t with
        | int j =>
          dsimp only
          split
          · simp only [bind_ok]
            cases addT (.str "version ") (.str (toString j)) μ3 <;> rfl
          · rfl
        | _ => rfl
      | exc c fs μ3 => rfl
      | bad => rfl
end K81
set_option linter.all false
set_option maxRecDepth 100000
set_option maxHeartbeats 1000000
namespace K81
open PySem PySem.Spec PyProof.Rows L2 TL
theorem eqv_strs : ∀ xs ys : List Str, PyData.eqvAll (xs.map PyData.str) (ys.map PyData.str) = decide (xs = ys)
  | [], [] => rfl
  | [], y :: ys => by simp [PyData.eqvAll]
  | x :: xs, [] => by simp [PyData.eqvAll]
  | x :: xs, y :: ys => by
    simp only [List.map_cons, PyData.eqvAll, PyData.eqv, eqv_strs xs ys]
    rw [Bool.eq_iff_iff]
    simp
theorem eq_strs {μ : Mem} {i j : Nat} {xs ys : List Str} (hi : μ[i]? = some (.lst (xs.map T.str))) (hj : μ[j]? = some (.lst (ys.map T.str))) (ox : ∀ x ∈ xs, PyData.strOk x = true) (oy : ∀ y ∈ ys, PyData.strOk y = true) : eqT (.ref i) (.ref j) μ = .ok (.bl (decide (xs = ys))) μ := by
  have q : ∀ (k : Nat) (zs : List Str), μ[k]? = some (.lst (zs.map T.str)) → toD μ (.ref k) = some (.list (zs.map PyData.str)) := fun k zs hk => by
    unfold toD toDW refD
    rw [hk]
    dsimp only
    rw [toDWs_map (d := PyData.str) fun x => rfl]
    rfl
  have sh : ∀ zs : List Str, (∀ z ∈ zs, PyData.strOk z = true) → SeqAt.shaped (.list (zs.map PyData.str)) = true := fun zs hz => by
    refine shaped_of ?_ ?_
    · simp only [PyData.canLay0]
      exact canAll_map zs fun x hx => by simpa [PyData.canLay0] using hz x hx
    · have := depthAll_map (k := 0) (d := PyData.str) (fun x => by simp [PyData.depth]) zs
      simp only [PyData.depth]; omega
  unfold TL.eqT
  dsimp only
  rw [q i xs hi, q j ys hj]
  dsimp only
  rw [if_pos ⟨sh xs ox, sh ys oy⟩]
  show Res.ok (.bl (PyData.eqvAll _ _)) μ = _
  rw [eqv_strs]
def askNo (w : Str) (r : List Str) : Bool := match tab_NUMBERS.lookup w with
  | some (.int k) => decide ((r.length : Int) + 1 ≠ k + 2) || match r with
    | nm :: ns => !nameB nm || ns.any fun z => (numOf z).isNone
    | [] => true
  | _ => true
theorem tab_int : ∀ w t, tab_NUMBERS.lookup w = some t → ∃ k : Nat, t = .int (k : Nat) := fun w t h => by
  have hm := lookup_mem h
  simp only [tab_NUMBERS, List.mem_cons, List.not_mem_nil, or_false, Prod.mk.injEq] at hm
  rcases hm with ⟨_, rfl⟩ | ⟨_, rfl⟩ | ⟨_, rfl⟩ | ⟨_, rfl⟩ | ⟨_, rfl⟩ | ⟨_, rfl⟩ | ⟨_, rfl⟩ | ⟨_, rfl⟩
  · exact ⟨2, rfl⟩
  · exact ⟨1, rfl⟩
  · exact ⟨0, rfl⟩
  · exact ⟨0, rfl⟩
  · exact ⟨0, rfl⟩
  · exact ⟨2, rfl⟩
  · exact ⟨2, rfl⟩
  · exact ⟨0, rfl⟩
abbrev DeskAt (μ : Mem) (dk s : Nat) : Prop := μ[dk]? = some (.ins "Desk" [("desk_store", .ref s)])
/-- a line whose words are ws -/
structure LineOk (z : Str) (ws : List Str) : Prop where
  sp : Txt.split z SP = ws
  len : z.length ≤ 890
  ok : PyData.strOk z = true
theorem LineOk.words {z : Str} {ws : List Str} (L : LineOk z ws) : ws.length ≤ 891 ∧ ∀ w ∈ ws, w.length ≤ 890 ∧ PyData.strOk w = true := by
  have h := parts_ok (split_sp z)
  rw [L.sp] at h
  have := L.len
  exact ⟨by omega, fun w hw => ⟨by have := (h.2 w hw).1; omega, (h.2 w hw).2 L.ok⟩⟩
def sayRest : SM := (sSeq (sIf (d2 eqT (d2 subT' (dVar 2) (dC (.int 0))) (dC (.str "web"))) (sRet (dMeth "Desk" "put_web" 2 F_Desk_put_web (dVar 0) (aCons (dSl (dVar 2) (some (dC (.int 1))) none) aNil))) sNil)
    (sSeq (sIf (dOr (d1 (wdOut tab_NUMBERS) (d2 subT' (dVar 2) (dC (.int 0)))) (dOr (d2 neT (dCall lenC (aCons (dVar 2) aNil)) (d2 addT (d1 (wdT tab_NUMBERS) (d2 subT' (dVar 2) (dC (.int 0)))) (dC (.int 2)))) (dNot (dFn 1 F_is_name (aCons (d2 subT' (dVar 2) (dC (.int 1))) aNil))))) (sRaise0 "NoLine") sNil)
    (sSeq (sSet 3 (dNew (dLc (dIter (dSl (dVar 2) (some (dC (.int 2))) none)) (.nm 4) [4] none (dFn 1 F_number_of (aCons (dVar 4) aNil)))))
    (sSeq (sIf (d2 inDT (dC .non) (dVar 3)) (sRaise0 "NoLine") sNil)
    (sRet (dMeth "Desk" "answer" 4 F_Desk_answer (dVar 0) (aCons (d2 subT' (dVar 2) (dC (.int 0))) (aCons (d2 subT' (dVar 2) (dC (.int 1))) (aCons (dVar 3) aNil)))))))))
theorem say_front {μ : Mem} {dk : Nat} {z : Str} {ws : List Str} (L : LineOk z ws) (h1 : ws ≠ [("undo" : Str)]) (h2 : ws ≠ [("names" : Str)]) :
    d_Desk_say [some (.ref dk), some (.str z), none, none, none] μ = sayRest [some (.ref dk), some (.str z), some (.ref μ.length), none, none] (μ ++ [.lst (ws.map T.str)] ++ [.lst [.str "undo"]] ++ [.lst [.str "names"]]) := by
  unfold d_Desk_say
  have e0 : isiT "str" (.str z) μ = .ok (.bl true) μ := rfl
  have e1 : dSplit (dVar 1) (dC (.str " ")) [some (.ref dk), some (.str z), none, none, none] μ = .ok (ws.map T.str) μ := by
    rw [← L.sp]
    exact dSplit_e rfl rfl (by decide +kernel) (by have := L.len; omega)
  have z1 : (1 : Nat) ≤ sizeLine := sz (by omega)
  let μ1 : Mem := μ ++ [.lst (ws.map T.str)]
  let μ2 : Mem := μ1 ++ [.lst [.str "undo"]]
  let μ3 : Mem := μ2 ++ [.lst [.str "names"]]
  have a2 : μ2[μ.length]? = some (.lst (ws.map T.str)) := by simp [μ2, μ1]
  have b2 : μ2[μ1.length]? = some (.lst (([("undo" : Str)]).map T.str)) := by simp [μ2]
  have a3 : μ3[μ.length]? = some (.lst (ws.map T.str)) := by simp [μ3, μ2, μ1]
  have b3 : μ3[μ2.length]? = some (.lst (([("names" : Str)]).map T.str)) := by simp [μ3]
  have q1 := eq_strs a2 b2 (fun x hx => (L.words.2 x hx).2) (by decide +kernel)
  have q2 := eq_strs a3 b3 (fun x hx => (L.words.2 x hx).2) (by decide +kernel)
  rw [decide_eq_false h1] at q1
  rw [decide_eq_false h2] at q2
  rw [sSeq_e, sIf_e, dNot_e, d1_e, dVar_s, dVar_0, bind_ok, e0, bind_ok, notT_e, toS_ok, Bool.not_true, sIfK_e, if_neg Bool.false_ne_true, sNil_e, seq_nx]
  rw [sSeq_e, sSet_e, dNew_e, e1, lbind_ok, toS_ok, seq_nx]
  simp only [List.set_cons_succ, List.set_cons_zero]
  rw [sSeq_e, sIf_e, d2_e, dVar_s, dVar_s, dVar_0, bind_ok, dNew_e, dLstL_e, lCons_e, dC_e, bindL_ok, lNil_e]
  simp only [List.length_cons, List.length_nil, Nat.zero_add, if_pos z1, lbind_ok, bind_ok]
  rw [show eqT (.ref μ.length) (.ref (μ ++ [MO.lst (ws.map T.str)]).length) (μ ++ [MO.lst (ws.map T.str)] ++ [MO.lst [T.str "undo"]]) = .ok (.bl false) μ2 from q1]
  rw [toS_ok, sIfK_e, if_neg Bool.false_ne_true, sNil_e, seq_nx]
  rw [sSeq_e, sIf_e, d2_e, dVar_s, dVar_s, dVar_0, bind_ok, dNew_e, dLstL_e, lCons_e, dC_e, bindL_ok, lNil_e]
  simp only [List.length_cons, List.length_nil, Nat.zero_add, if_pos z1, lbind_ok, bind_ok]
  rw [show eqT (.ref μ.length) (.ref μ2.length) (μ2 ++ [MO.lst [T.str "names"]]) = .ok (.bl false) μ3 from q2]
  rw [toS_ok, sIfK_e, if_neg Bool.false_ne_true, sNil_e, seq_nx]
  rfl
end K81
set_option linter.all false
set_option maxRecDepth 100000
set_option maxHeartbeats 1000000
namespace K81
open PySem PySem.Spec PyProof.Rows L2 TL
def noForm : List Str → Bool
  | w :: r => if w = "web" then putNo r else askNo w r
  | [] => true
theorem app_at {μ : Mem} {g : Mem} {i : Nat} {o : MO} (h : μ[i]? = some o) : (μ ++ g)[i]? = some o := by
  rw [List.getElem?_append_left (List.getElem?_eq_some_iff.mp h).1]; exact h
theorem say_web {μ : Mem} {dk : Nat} {z : Str} {r : List Str} (L : LineOk z ((("web" : Str)) :: r)) {s : Nat} (hd : DeskAt μ dk s) :
    ∃ g, (μ ++ g)[μ.length + 3]? = some (.lst (r.map T.str)) ∧ F_Desk_say [.ref dk, .str z] μ = F_Desk_put_web [.ref dk, .ref (μ.length + 3)] (μ ++ g) := by
  have hf := say_front (μ := μ) (dk := dk) L (by simp; intro h; exact absurd h (by decide +kernel)) (by simp; intro h; exact absurd h (by decide +kernel))
  let μ3 : Mem := μ ++ [.lst (((("web" : Str)) :: r).map T.str)] ++ [.lst [.str "undo"]] ++ [.lst [.str "names"]]
  have a3 : μ3[μ.length]? = some (.lst (((("web" : Str)) :: r).map T.str)) := by simp [μ3]
  have d3 : DeskAt μ3 dk s := app_at (app_at (app_at hd))
  refine ⟨[.lst (((("web" : Str)) :: r).map T.str)] ++ [.lst [.str "undo"]] ++ [.lst [.str "names"]] ++ [.lst (r.map T.str)], by simp, ?_⟩
  show (d_Desk_say [some (.ref dk), some (.str z), none, none, none] μ).toR = _
  rw [hf]
  unfold sayRest
  have sl : dSl (dVar 2) (some (dC (.int 1))) none [some (.ref dk), some (.str z), some (.ref μ.length), none, none] μ3 = .ok (.ref μ3.length) (μ3 ++ [.lst (r.map T.str)]) := slice_l (n := 1) rfl a3
  rw [sSeq_e, sIf_e, d2_e, d2_e, dVar_s, dVar_s, dVar_0, bind_ok, dC_e, bind_ok, show subT' (T.ref μ.length) (T.int 0) (μ ++ [MO.lst (List.map T.str (("web" : Str) :: r))] ++ [MO.lst [T.str "undo"]] ++ [MO.lst [T.str "names"]]) = .ok (.str "web") μ3 from sub_l (i := 0) a3 rfl, bind_ok, dC_e, bind_ok, eqT_s, decide_eq_true rfl, toS_ok, sIfK_e, if_pos rfl, sRet_e, methK (k := dk) rfl d3 rfl, aCons_e, sl, bind_ok, aNil_e]
  simp only [List.length_cons, List.length_nil, Nat.zero_add, Nat.reduceAdd, if_true]
  have e3 : μ3.length = μ.length + 3 := by simp [μ3]
  have e4 : μ3 ++ [MO.lst (r.map T.str)] = μ ++ ([.lst (((("web" : Str)) :: r).map T.str)] ++ [.lst [.str "undo"]] ++ [.lst [.str "names"]] ++ [.lst (r.map T.str)]) := by simp [μ3]
  rw [e3, e4]
  generalize F_Desk_put_web _ _ = R
  cases R <;> rfl
theorem lc_numsW {W : List (Nat × List T)} {i : Nat} {σ : List (Option T)} {μ : Mem} {ws : List Str} (hW : watched W μ = true) (hz : ws.length ≤ 1000) (hw : ∀ w ∈ ws, w.length ≤ 900) (el : EM) (he : ∀ w : Str, el (σ.set i (some (.str w))) μ = F_number_of [.str w] μ) : lcGo W (.nm i) none el σ (ws.map T.str) [] μ = .ok ((ws.map numOf).map optI) μ := by
  have q := lc_all (ws := W) (i := i) (el := el) (σ := σ) (μ := μ) (f := fun t => match t with | .str w => optI (numOf w) | _ => .non) hW (ws.map T.str) [] (fun x hx => by
    obtain ⟨w, hw', rfl⟩ := List.mem_map.mp hx
    rw [he, number_e (hw w hw')]) (by simp; omega)
  rw [q]
  simp [List.map_map, Function.comp_def]
theorem all_num : ∀ {l : List Str}, (l.any fun z => (numOf z).isNone) = false → ∃ ns : List Int, l.map numOf = ns.map some
  | [], _ => ⟨[], rfl⟩
  | z :: r, h => by
    simp only [List.any_cons, Bool.or_eq_false_iff] at h
    obtain ⟨ns, e⟩ := all_num h.2
    cases hn : numOf z with
    | none => rw [hn] at h; cases h.1
    | some n => exact ⟨n :: ns, by simp [hn, e]⟩
def headBad : List Str → Bool
  | nm :: _ => !nameB nm
  | [] => true
def tailBad : List Str → Bool
  | _ :: ns => ns.any fun z => (numOf z).isNone
  | [] => false
def formBad (w : Str) (r : List Str) : Bool := match tab_NUMBERS.lookup w with
  | some (.int k) => decide ((r.length : Int) + 1 ≠ k + 2) || headBad r
  | _ => true
theorem askNo_e (w : Str) (r : List Str) : askNo w r = (formBad w r || tailBad r) := by
  unfold askNo formBad
  cases ht : tab_NUMBERS.lookup w with
  | none => simp
  | some t =>
    obtain ⟨k, rfl⟩ := tab_int w t ht
    cases r with
    | nil => simp [headBad, tailBad]
    | cons nm ns => simp [headBad, tailBad, Bool.or_assoc]
theorem formBad_false {w : Str} {r : List Str} (h : formBad w r = false) : ∃ nm ts, r = nm :: ts ∧ nameB nm = true := by
  unfold formBad at h
  split at h
  · simp only [Bool.or_eq_false_iff] at h
    cases r with
    | nil => simp [headBad] at h
    | cons nm ts => exact ⟨nm, ts, rfl, by simpa [headBad] using h.2⟩
  · cases h
theorem say_ask {μ : Mem} {dk : Nat} {z w : Str} {r : List Str} (L : LineOk z (w :: r)) (h1 : w :: r ≠ [("undo" : Str)]) (h2 : w :: r ≠ [("names" : Str)]) (h3 : w ≠ "web") {s : Nat} (hd : DeskAt μ dk s) :
    (askNo w r = true → ∃ g, F_Desk_say [.ref dk, .str z] μ = .exc "NoLine" [] (μ ++ g)) ∧
    (askNo w r = false → ∃ (nm : Str) (ts : List Str) (ns : List Int) (g : Mem) (l : Nat), r = nm :: ts ∧ nameB nm = true ∧ ts.map numOf = ns.map some ∧ (μ ++ g)[l]? = some (.lst (ns.map T.int)) ∧ F_Desk_say [.ref dk, .str z] μ = F_Desk_answer [.ref dk, .str w, .str nm, .ref l] (μ ++ g)) := by
  have hf := say_front (μ := μ) (dk := dk) L h1 h2
  let g3 : Mem := [.lst ((w :: r).map T.str)] ++ [.lst [.str "undo"]] ++ [.lst [.str "names"]]
  let μ3 : Mem := μ ++ [.lst ((w :: r).map T.str)] ++ [.lst [.str "undo"]] ++ [.lst [.str "names"]]
  have eg3 : μ3 = μ ++ g3 := by simp [μ3, g3]
  have a3 : μ3[μ.length]? = some (.lst ((w :: r).map T.str)) := by simp [μ3]
  have d3 : DeskAt μ3 dk s := app_at (app_at (app_at hd))
  have hlen := L.words.1
  have hwl := L.words.2
  let σ3 : List (Option T) := [some (.ref dk), some (.str z), some (.ref μ.length), none, none]
  have i0 : d2 subT' (dVar 2) (dC (.int 0)) σ3 μ3 = .ok (.str w) μ3 := by
    simp only [σ3, d2_e, dVar_s, dVar_0, bind_ok, dC_e]
    exact sub_l (i := 0) a3 rfl
  have ln : dCall lenC (aCons (dVar 2) aNil) σ3 μ3 = .ok (.int ((r.length : Int) + 1)) μ3 := by
    simp only [σ3, dCall_e, aCons_e, aNil_e, dVar_s, dVar_0, bind_ok, lenC_l a3]
    simp
  -- the three questions
  have test : (dOr (d1 (wdOut tab_NUMBERS) (d2 subT' (dVar 2) (dC (.int 0)))) (dOr (d2 neT (dCall lenC (aCons (dVar 2) aNil)) (d2 addT (d1 (wdT tab_NUMBERS) (d2 subT' (dVar 2) (dC (.int 0)))) (dC (.int 2)))) (dNot (dFn 1 F_is_name (aCons (d2 subT' (dVar 2) (dC (.int 1))) aNil))))) σ3 μ3 =
      .ok (.bl (formBad w r)) μ3 := by
    unfold formBad
    rw [dOr_e, d1_e, i0, bind_ok]
    unfold wdOut
    dsimp only
    cases ht : tab_NUMBERS.lookup w with
    | none => simp
    | some t =>
      obtain ⟨k, rfl⟩ := tab_int w t ht
      have wd : wdT tab_NUMBERS (.str w) μ3 = .ok (.int k) μ3 := by unfold wdT; dsimp only; rw [ht]
      simp only [Option.isSome_some, Bool.not_true, bind_ok, orK_e, Bool.false_eq_true, if_false]
      rw [dOr_e, d2_e, ln, bind_ok, d2_e, d1_e, i0, bind_ok, wd, bind_ok, dC_e, bind_ok, addT_i, bind_ok, neT_e, eqT_i, bind_ok, notT_e, bind_ok, orK_e]
      by_cases hk : (r.length : Int) + 1 = k + 2
      · rw [decide_eq_true hk]
        simp only [Bool.not_true, Bool.false_eq_true, if_false]
        match r, a3, hwl, hk with
        | nm :: ts, a3, hwl, hk =>
          have i1 : d2 subT' (dVar 2) (dC (.int 1)) σ3 μ3 = .ok (.str nm) μ3 := by
            simp only [σ3, d2_e, dVar_s, dVar_0, bind_ok, dC_e]
            exact sub_l (i := 1) a3 rfl
          rw [dNot_e, dFn1, i1, bind_ok, name_e (by have := (hwl nm (by simp)).1; omega), bind_ok, notT_e]
          have hk' : decide (((nm :: ts).length : Int) + 1 ≠ (k : Int) + 2) = false := by simpa using hk
          rw [hk']
          rfl
        | [], _, _, hk => simp at hk; omega
      · rw [decide_eq_false hk]
        simp [hk]
  have hno := askNo_e w r
  have web0 : eqT (.str w) (.str "web") μ3 = .ok (.bl false) μ3 := by rw [eqT_s, decide_eq_false h3]
  cases hB : formBad w r
  · -- of the form: the numbers
    rw [hB] at test hno
    obtain ⟨nm, ts, rfl, hnm⟩ := formBad_false hB
    have i1 : d2 subT' (dVar 2) (dC (.int 1)) σ3 μ3 = .ok (.str nm) μ3 := by
      simp only [σ3, d2_e, dVar_s, dVar_0, bind_ok, dC_e]
      exact sub_l (i := 1) a3 rfl
    let μ4 : Mem := μ3 ++ [.lst (ts.map T.str)]
    have sl : dSl (dVar 2) (some (dC (.int 2))) none σ3 μ3 = .ok (.ref μ3.length) μ4 := slice_l (n := 2) rfl a3
    have k4 : μ4[μ3.length]? = some (.lst (ts.map T.str)) := by simp [μ4]
    have lc : dLc (dIter (dSl (dVar 2) (some (dC (.int 2))) none)) (.nm 4) [4] none (dFn 1 F_number_of (aCons (dVar 4) aNil)) σ3 μ3 = .ok ((ts.map numOf).map optI) μ4 := by
      unfold dLc dIter
      rw [sl]
      dsimp only
      rw [k4]
      exact lc_numsW (i := 4) (σ := σ3) (watched_one k4) (by simp at hlen; omega) (fun x hx => by have := (hwl x (by simp [hx])).1; omega) _ (fun x => by simp [σ3])
    let μ5 : Mem := μ4 ++ [.lst ((ts.map numOf).map optI)]
    have k5 : μ5[μ4.length]? = some (.lst ((ts.map numOf).map optI)) := by simp [μ5]
    have e5 : μ5 = μ ++ (g3 ++ [.lst (ts.map T.str)] ++ [.lst ((ts.map numOf).map optI)]) := by simp [μ5, μ4, eg3]
    have hany : (ts.map numOf).any Option.isNone = ts.any fun z => (numOf z).isNone := by rw [List.any_map]; rfl
    have front : ∀ X : Res, (∀ (Y : SM), (sSeq (sIf (d2 inDT (dC .non) (dVar 3)) (sRaise0 "NoLine") sNil) Y) [some (.ref dk), some (.str z), some (.ref μ.length), some (.ref μ4.length), none] μ5 = (sIfK (sRaise0 "NoLine") sNil [some (.ref dk), some (.str z), some (.ref μ.length), some (.ref μ4.length), none] (.bl (ts.any fun z => (numOf z).isNone)) μ5).seq Y) := fun _ Y => by
      rw [sSeq_e, sIf_e, d2_e, dC_e, bind_ok, dVar_s, dVar_s, dVar_s, dVar_0, bind_ok, noneIn k5, hany, toS_ok]
    have front := front .bad
    have run : F_Desk_say [.ref dk, .str z] μ = ((sIfK (sRaise0 "NoLine") sNil [some (.ref dk), some (.str z), some (.ref μ.length), some (.ref μ4.length), none] (.bl (ts.any fun z => (numOf z).isNone)) μ5).seq (sRet (dMeth "Desk" "answer" 4 F_Desk_answer (dVar 0) (aCons (d2 subT' (dVar 2) (dC (.int 0))) (aCons (d2 subT' (dVar 2) (dC (.int 1))) (aCons (dVar 3) aNil)))))).toR := by
      show (d_Desk_say [some (.ref dk), some (.str z), none, none, none] μ).toR = _
      rw [hf]
      unfold sayRest
      rw [sSeq_e, sIf_e, d2_e, i0, bind_ok, dC_e, bind_ok, web0, toS_ok, sIfK_e, if_neg Bool.false_ne_true, sNil_e, seq_nx]
      rw [sSeq_e, sIf_e, test, toS_ok, sIfK_e, if_neg Bool.false_ne_true, sNil_e, seq_nx]
      rw [sSeq_e, sSet_e, dNew_e, lc, lbind_ok, toS_ok, seq_nx]
      rw [← front]
      rfl
    constructor
    · intro hn
      rw [hno, Bool.false_or] at hn
      have hn : (ts.any fun z => (numOf z).isNone) = true := hn
      exact ⟨_, by rw [run, hn, sIfK_e, if_pos rfl, sRaise0_e, seq_exc, toR_exc, e5]⟩
    · intro hn
      rw [hno, Bool.false_or] at hn
      have hn : (ts.any fun z => (numOf z).isNone) = false := hn
      obtain ⟨ns, hns⟩ := all_num hn
      have k5' : μ5[μ4.length]? = some (.lst (ns.map T.int)) := by
        rw [k5, hns]
        simp [List.map_map, Function.comp_def, optI]
      have a5 : μ5[μ.length]? = some (.lst ((w :: nm :: ts).map T.str)) := app_at (app_at a3)
      have d5 : DeskAt μ5 dk s := app_at (app_at d3)
      refine ⟨nm, ts, ns, _, μ4.length, rfl, hnm, hns, by rw [← e5]; exact k5', ?_⟩
      rw [run, hn, sIfK_e, if_neg Bool.false_ne_true, sNil_e, seq_nx, sRet_e, methK (k := dk) rfl d5 rfl, aCons_e, d2_e, dVar_s, dVar_s, dVar_0, bind_ok, dC_e, bind_ok, show subT' (T.ref μ.length) (T.int 0) μ5 = .ok (.str w) μ5 from sub_l (i := 0) a5 rfl, bind_ok, aCons_e, d2_e, dVar_s, dVar_s, dVar_0, bind_ok, dC_e, bind_ok, show subT' (T.ref μ.length) (T.int 1) μ5 = .ok (.str nm) μ5 from sub_l (i := 1) a5 rfl, bind_ok, aCons_e, dVar_s, dVar_s, dVar_s, dVar_0, bind_ok, aNil_e]
      simp only [List.length_cons, List.length_nil, Nat.zero_add, Nat.reduceAdd, if_true]
      rw [← e5]
      generalize F_Desk_answer _ _ = R
      cases R <;> rfl
  · rw [hB] at test hno
    constructor
    · intro _
      refine ⟨g3, ?_⟩
      show (d_Desk_say [some (.ref dk), some (.str z), none, none, none] μ).toR = _
      rw [hf]
      unfold sayRest
      rw [sSeq_e, sIf_e, d2_e, i0, bind_ok, dC_e, bind_ok, web0, toS_ok, sIfK_e, if_neg Bool.false_ne_true, sNil_e, seq_nx]
      rw [sSeq_e, sIf_e, test, toS_ok, sIfK_e, if_pos rfl, sRaise0_e, seq_exc, toR_exc]
      rw [← eg3]
    · intro hn
      rw [hno] at hn
      cases hn
end K81
set_option linter.all false
set_option maxRecDepth 100000
set_option maxHeartbeats 1000000
namespace K81
open PySem PySem.Spec PyProof.Rows L2 TL
def names3 : List Str := ["a", "bee", "longname"]
/-! ### numbers of one sign -/
abbrev dg (i : Int) : Str := toString i
theorem small_cases {P : Int → Prop} (h : P 0 ∧ P 1 ∧ P 2 ∧ P 3 ∧ P 4 ∧ P 5 ∧ P 6 ∧ P 7 ∧ P 8 ∧ P 9) {i : Int} (h0 : 0 ≤ i) (h9 : i ≤ 9) : P i := by
  obtain ⟨p0, p1, p2, p3, p4, p5, p6, p7, p8, p9⟩ := h
  have : i = 0 ∨ i = 1 ∨ i = 2 ∨ i = 3 ∨ i = 4 ∨ i = 5 ∨ i = 6 ∨ i = 7 ∨ i = 8 ∨ i = 9 := by omega
  rcases this with rfl | rfl | rfl | rfl | rfl | rfl | rfl | rfl | rfl | rfl <;> assumption
theorem dg_cs {i : Int} (h0 : 0 ≤ i) (h9 : i ≤ 9) : cs (dg i) = [48 + i.toNat] := small_cases (P := fun i => cs (dg i) = [48 + i.toNat]) (by decide +kernel) h0 h9
theorem dg_num {i : Int} (h0 : 0 ≤ i) (h9 : i ≤ 9) : numOf (dg i) = some i := small_cases (P := fun i => numOf (dg i) = some i) (by decide +kernel) h0 h9
theorem dg_str {i : Int} {μ : Mem} (h0 : 0 ≤ i) (h9 : i ≤ 9) : strC [.int i] μ = .ok (.str (dg i)) μ := by
  unfold strC
  dsimp only
  have : i.natAbs.log2 < 1920 := small_cases (P := fun i => i.natAbs.log2 < 1920) (by decide +kernel) h0 h9
  rw [if_pos this]
theorem dg_len {i : Int} (h0 : 0 ≤ i) (h9 : i ≤ 9) : (dg i).length = 1 := by rw [len_cs, dg_cs h0 h9]; rfl
def pw (p : Int × Int) : Str := dg p.1 ++ "-" ++ dg p.2
theorem cs_app (a b : Str) : cs (a ++ b) = cs a ++ cs b := tl_append a b
theorem len_app (a b : Str) : (a ++ b).length = a.length + b.length := by rw [len_cs, len_cs a, len_cs b, cs_app, List.length_append]
theorem pw_cs {p : Int × Int} (h1 : 0 ≤ p.1) (h2 : p.1 ≤ 9) (h3 : 0 ≤ p.2) (h4 : p.2 ≤ 9) : cs (pw p) = [48 + p.1.toNat, 45, 48 + p.2.toNat] := by
  unfold pw
  rw [cs_app, cs_app, dg_cs h1 h2, dg_cs h3 h4, show cs ("-" : Str) = [45] from da_cs]
  rfl
theorem pw_pair {p : Int × Int} (h1 : 0 ≤ p.1) (h2 : p.1 ≤ 9) (h3 : 0 ≤ p.2) (h4 : p.2 ≤ 9) : pairOf (pw p) = some p := by
  have e : Txt.split (pw p) DA = [dg p.1, dg p.2] := by
    refine map_tl_inj ?_
    show (Txt.split (pw p) DA).map cs = _
    rw [split_da, pw_cs h1 h2 h3 h4]
    have q : cut 45 ([48 + p.1.toNat] ++ 45 :: [48 + p.2.toNat]) = [48 + p.1.toNat] :: cut 45 [48 + p.2.toNat] := cut_app _ (by simp; omega)
    show cut 45 ([48 + p.1.toNat] ++ 45 :: [48 + p.2.toNat]) = _
    rw [q, cut_none (by simp; omega)]
    show _ = [cs (dg p.1), cs (dg p.2)]
    rw [dg_cs h1 h2, dg_cs h3 h4]
  unfold pairOf
  rw [e]
  simp only [List.map_cons, List.map_nil, dg_num h1 h2, dg_num h3 h4]
/-! ### lines of webs -/
def wordsOf (nm : Str) (w : Web) : List Str := "web" :: nm :: dg w.1 :: w.2.map pw
def WebS (w : Web) : Prop := WebOk w ∧ 2 ≤ w.1 ∧ w.1 ≤ 5 ∧ w.2.length ≤ 7
def lineOf (nm : Str) (w : Web) : Str := Txt.join SP (wordsOf nm w)
theorem WebS.pr {w : Web} (h : WebS w) : ∀ p ∈ w.2, 0 ≤ p.1 ∧ p.1 ≤ 9 ∧ 0 ≤ p.2 ∧ p.2 ≤ 9 := fun p hp => by
  obtain ⟨⟨_, _, _, h4⟩, h5, h6, _⟩ := h
  have := h4 p hp
  omega
theorem nm_facts : ∀ nm ∈ names3, (cs nm).all (fun c => decide (c ≠ 32) && decide (c < 0x110000)) = true ∧ nm.length ≤ 8 ∧ nameB nm = true ∧ 1 ≤ nm.length ∧ PyData.strOk nm = true := by decide +kernel
theorem words_sp {nm : Str} {w : Web} (hn : nm ∈ names3) (hw : WebS w) : ∀ x ∈ wordsOf nm w, 32 ∉ cs x ∧ x.length ≤ 8 ∧ ∀ c ∈ cs x, c < 0x110000 := by
  intro x hx
  simp only [wordsOf, List.mem_cons, List.mem_map] at hx
  have hf := nm_facts nm hn
  have h2 := hw.2
  rcases hx with rfl | rfl | rfl | ⟨p, hp, rfl⟩
  · decide +kernel
  · have := hf.1
    rw [List.all_eq_true] at this
    refine ⟨fun z => ?_, hf.2.1, fun c hc => ?_⟩
    · have := this 32 z; simp at this
    · have := this c hc; simp at this; exact this.2
  · rw [dg_cs (by omega) (by omega), dg_len (by omega) (by omega)]
    refine ⟨by simp; omega, by omega, fun c hc => by simp at hc; omega⟩
  · obtain ⟨a, b, c, d⟩ := hw.pr p hp
    rw [len_cs, pw_cs a b c d]
    refine ⟨by simp; omega, by simp, fun c hc => by simp at hc; omega⟩
theorem cut_app2 {c : Nat} : ∀ (l r : List Nat), cut c (l ++ c :: r) = cut c l ++ cut c r
  | [], r => by simp [cut]
  | x :: l, r => by
    rw [List.cons_append, cut, cut]
    split
    · rw [cut_app2 l r]; rfl
    · rw [cut_app2 l r]
      split
      · rename_i p q e
        cases hl : cut c l with
        | nil => exact absurd hl (cut_ne c l)
        | cons p' q' =>
          rw [hl] at e
          cases e
          rfl
      · rename_i e
        exact absurd (List.append_eq_nil_iff.mp e).1 (cut_ne c l)
theorem cut_join {c : Nat} : ∀ {ps : List (List Nat)}, ps ≠ [] → (∀ p ∈ ps, c ∉ p) → cut c (joinL [c] ps) = ps
  | [], h, _ => absurd rfl h
  | [p], _, h => by show cut c p = _; rw [cut_none (h p (by simp))]
  | p :: q :: r, _, h => by
    show cut c (p ++ (c :: joinL [c] (q :: r))) = _
    rw [cut_app _ (h p (by simp)), cut_join (by simp) fun x hx => h x (by simp [hx])]
theorem line_cs (nm : Str) (w : Web) : cs (lineOf nm w) = joinL [32] ((wordsOf nm w).map cs) := by
  unfold lineOf
  rw [join_eq]
  show tl (Str.join SP _) = _
  rw [tl_join, show tl SP = [32] from sp_cs]
theorem line_cut {nm : Str} {w : Web} (hn : nm ∈ names3) (hw : WebS w) : cut 32 (cs (lineOf nm w)) = (wordsOf nm w).map cs := by
  rw [line_cs, cut_join (by simp [wordsOf])]
  intro p hp
  obtain ⟨x, hx, rfl⟩ := List.mem_map.mp hp
  exact (words_sp hn hw x hx).1
theorem join_len : ∀ {ps : List (List Nat)} {k : Nat}, (∀ p ∈ ps, p.length ≤ k) → (joinL [32] ps).length ≤ ps.length * (k + 1)
  | [], _, _ => by simp [joinL]
  | [p], k, h => by simp [joinL]; have := h p (by simp); omega
  | p :: q :: r, k, h => by
    have := join_len (ps := q :: r) fun x hx => h x (by simp [hx])
    have := h p (by simp)
    simp only [joinL, List.length_append, List.length_cons, List.length_nil] at *
    rw [show (r.length + 1 + 1) * (k + 1) = (r.length + 1) * (k + 1) + (k + 1) by rw [Nat.add_mul (r.length + 1) 1]; omega]
    omega
theorem join_mem {c : Nat} : ∀ {ps : List (List Nat)}, c ∈ joinL [32] ps → c = 32 ∨ ∃ p ∈ ps, c ∈ p
  | [p], h => .inr ⟨p, by simp, h⟩
  | p :: q :: r, h => by
    simp only [joinL, List.mem_append, List.mem_cons, List.not_mem_nil, or_false] at h
    rcases h with h | h | h
    · exact .inr ⟨p, by simp, h⟩
    · exact .inl h
    · rcases join_mem h with h | ⟨x, hx, h⟩
      · exact .inl h
      · exact .inr ⟨x, by simp [hx], h⟩
theorem words_len {nm : Str} {w : Web} (hw : WebS w) : (wordsOf nm w).length ≤ 10 := by
  have := hw.2.2.2
  simp [wordsOf]; omega
theorem line_len {nm : Str} {w : Web} (hn : nm ∈ names3) (hw : WebS w) : (lineOf nm w).length ≤ 90 := by
  rw [len_cs, line_cs]
  have := join_len (ps := (wordsOf nm w).map cs) (k := 8) fun p hp => by
    obtain ⟨x, hx, rfl⟩ := List.mem_map.mp hp
    rw [← len_cs]; exact (words_sp hn hw x hx).2.1
  have h2 := words_len (nm := nm) hw
  rw [List.length_map] at this
  omega
theorem line_ok {nm : Str} {w : Web} (hn : nm ∈ names3) (hw : WebS w) : PyData.strOk (lineOf nm w) = true := by
  rw [strOk_iff]
  intro c hc
  rw [line_cs] at hc
  rcases join_mem hc with rfl | ⟨p, hp, hc⟩
  · decide
  · obtain ⟨x, hx, rfl⟩ := List.mem_map.mp hp
    exact (words_sp hn hw x hx).2.2 c hc
theorem line_split {nm : Str} {w : Web} (hn : nm ∈ names3) (hw : WebS w) : LineOk (lineOf nm w) (wordsOf nm w) :=
  ⟨map_tl_inj (by show (Txt.split _ SP).map cs = _; rw [split_sp, line_cut hn hw]), by have := line_len hn hw; omega, line_ok hn hw⟩
/-- the law's own line -/
theorem lc_pairs {σ : List (Option T)} {μ : Mem} {a b : T} : ∀ (ps acc : List (Int × Int)), (∀ p ∈ ps, 0 ≤ p.1 ∧ p.1 ≤ 9 ∧ 0 ≤ p.2 ∧ p.2 ≤ 9) → acc.length + ps.length ≤ 1000 →
    lcGo [] (.tp [.nm 2, .nm 3]) none (d2 addT (d2 addT (dCall strC (aCons (dVar 2) aNil)) (dC (.str "-"))) (dCall strC (aCons (dVar 3) aNil))) [some a, some b, none, none] (ps.map pairT) (acc.map fun p => T.str (pw p)) μ = .ok ((acc ++ ps).map fun p => T.str (pw p)) μ
  | [], acc, _, _ => by rw [List.map_nil]; unfold lcGo; rw [if_pos (watched_nil μ)]; simp
  | p :: r, acc, h, hz => by
    obtain ⟨a1, a2, a3, a4⟩ := h p (by simp)
    rw [List.map_cons]
    unfold lcGo
    rw [if_pos (watched_nil μ)]
    show ((d2 addT (d2 addT (dCall strC (aCons (dVar 2) aNil)) (dC (.str "-"))) (dCall strC (aCons (dVar 3) aNil))) [some a, some b, some (.int p.1), some (.int p.2)] μ).toL _ = _
    have e1 : addT (.str (dg p.1)) (.str "-") μ = .ok (.str (dg p.1 ++ "-")) μ := by
      unfold addT; dsimp only; rw [if_pos (by rw [dg_len a1 a2, sizeLine_eq]; decide +kernel)]
    have e2 : addT (.str (dg p.1 ++ "-")) (.str (dg p.2)) μ = .ok (.str (pw p)) μ := by
      unfold addT; dsimp only; rw [if_pos (by rw [len_app, dg_len a1 a2, dg_len a3 a4, sizeLine_eq]; decide +kernel)]; rfl
    have e : (d2 addT (d2 addT (dCall strC (aCons (dVar 2) aNil)) (dC (.str "-"))) (dCall strC (aCons (dVar 3) aNil))) [some a, some b, some (.int p.1), some (.int p.2)] μ = .ok (.str (pw p)) μ := by
      simp only [d2_e, dCall_e, aCons_e, aNil_e, dVar_s, dVar_0, bind_ok, dg_str a1 a2, dg_str a3 a4, dC_e, e1, e2]
    rw [e, toL_ok, if_pos (szl (by simp at hz ⊢; omega))]
    have := lc_pairs (σ := σ) (μ := μ) (a := a) (b := b) r (acc ++ [p]) (fun q hq => h q (by simp [hq])) (by simp at hz ⊢; omega)
    simp only [List.map_append, List.map_cons, List.map_nil, List.append_assoc, List.cons_append, List.nil_append] at this ⊢
    exact this
theorem web_line_e {nm : Str} {w : Web} {μ : Mem} (hn : nm ∈ names3) (hw : WebS w) : ∃ g, F__law_web_line [.str nm, webT w] μ = .ok (.str (lineOf nm w)) (μ ++ g) := by
  have h2 := hw.2
  have a0 : ∀ μ', subT' (webT w) (.int 0) μ' = .ok (.int w.1) μ' := fun _ => subTp rfl
  have a1 : ∀ μ', subT' (webT w) (.int 1) μ' = .ok (.tup (w.2.map pairT)) μ' := fun _ => subTp rfl
  have lc : ∀ μ', dLc (dIter (d2 subT' (dVar 1) (dC (.int 1)))) (.tp [(.nm 2), (.nm 3)]) [2, 3] none (d2 addT (d2 addT (dCall strC (aCons (dVar 2) aNil)) (dC (.str "-"))) (dCall strC (aCons (dVar 3) aNil))) [some (.str nm), some (webT w), none, none] μ' = .ok (w.2.map fun p => T.str (pw p)) μ' := fun μ' => by
    unfold dLc dIter
    simp only [d2_e, dVar_s, dVar_0, dC_e, bind_ok, a1]
    exact lc_pairs (σ := []) (μ := μ') (a := .str nm) (b := webT w) w.2 [] hw.pr (by simp; omega)
  let A : List T := [.str "web", .str nm, .str (dg w.1)]
  let B : List T := w.2.map fun p => T.str (pw p)
  let μ1 : Mem := μ ++ [.lst A]
  let μ2 : Mem := μ1 ++ [.lst B]
  have k1 : μ2[μ.length]? = some (.lst A) := by simp [μ2, μ1]
  have k2 : μ2[μ1.length]? = some (.lst B) := by simp [μ2]
  have z3 : (3 : Nat) ≤ sizeLine := sz (by omega)
  have eA : dNew (dLstL (lCons (dC (.str "web")) (lCons (dVar 0) (lCons (dCall strC (aCons (d2 subT' (dVar 1) (dC (.int 0))) aNil)) lNil)))) [some (.str nm), some (webT w), none, none] μ = .ok (.ref μ.length) μ1 := by
    simp only [dNew_e, dLstL_e, lCons_e, dC_e, bindL_ok, dVar_0, dCall_e, aCons_e, d2_e, dVar_s, bind_ok, a0, aNil_e, dg_str (show 0 ≤ w.1 by omega) (show w.1 ≤ 9 by omega), lNil_e, List.length_cons, List.length_nil, Nat.zero_add, Nat.reduceAdd, if_pos z3, lbind_ok]
    rfl
  have cat : dCat (dNew (dLstL (lCons (dC (.str "web")) (lCons (dVar 0) (lCons (dCall strC (aCons (d2 subT' (dVar 1) (dC (.int 0))) aNil)) lNil))))) (dNew (dLc (dIter (d2 subT' (dVar 1) (dC (.int 1)))) (.tp [(.nm 2), (.nm 3)]) [2, 3] none (d2 addT (d2 addT (dCall strC (aCons (dVar 2) aNil)) (dC (.str "-"))) (dCall strC (aCons (dVar 3) aNil))))) [some (.str nm), some (webT w), none, none] μ = .ok (A ++ B) μ2 := by
    unfold dCat
    rw [eA, bindL_ok, dNew_e, lc, lbind_ok, bindL_ok]
    dsimp only
    rw [show (μ1 ++ [MO.lst (w.2.map fun p => T.str (pw p))]) = μ2 from rfl, k1, k2]
    dsimp only
    rw [if_pos (sz (by simp [A, B]; omega))]
  have eAB : A ++ B = (wordsOf nm w).map T.str := by simp [A, B, wordsOf, List.map_map, Function.comp_def]
  refine ⟨[.lst A, .lst B], ?_⟩
  show (d__law_web_line [some (.str nm), some (webT w), none, none] μ).toR = _
  unfold d__law_web_line
  rw [sRet_e]
  unfold dJoin
  rw [dC_e, bind_ok, if_pos (show isStr (T.str " ") = true from rfl), cat, lbind_ok]
  unfold joinQ
  rw [eAB, unS_map]
  dsimp only
  have hs : ((wordsOf nm w).map (·.length)).sum ≤ (wordsOf nm w).length * 8 := by
    have : ∀ l : List Str, (∀ x ∈ l, x.length ≤ 8) → (l.map (·.length)).sum ≤ l.length * 8 := by
      intro l
      induction l with
      | nil => intro _; simp
      | cons x r ih =>
        intro h
        have := ih fun y hy => h y (by simp [hy])
        have := h x (by simp)
        simp only [List.map_cons, List.sum_cons, List.length_cons]
        omega
    exact this _ fun x hx => (words_sp hn hw x hx).2.1
  have hl := words_len (nm := nm) hw
  have l1 : (" " : Str).length = 1 := by decide +kernel
  rw [if_pos (by rw [l1]; omega), toS_ok, toR_rt]
  simp [μ2, μ1, lineOf]
end K81
set_option linter.all false
set_option maxRecDepth 100000
set_option maxHeartbeats 1000000
namespace K81
open PySem PySem.Spec PyProof.Rows L2 TL
/-- a text of no form -/
def badLine (z : Str) : Bool := decide (z.length ≤ 890) && PyData.strOk z && !decide (Txt.split z SP = [("undo" : Str)]) && !decide (Txt.split z SP = [("names" : Str)]) && noForm (Txt.split z SP)
def BadT (μ : Mem) : T → Prop
  | .non => True
  | .int _ => True
  | .ref k => ∃ xs, μ[k]? = some (.lst xs)
  | .str z => badLine z = true
  | _ => False
theorem BadT.app {μ : Mem} {t : T} (g : Mem) (h : BadT μ t) : BadT (μ ++ g) t := by
  cases t with
  | ref k => obtain ⟨xs, e⟩ := h; exact ⟨xs, app_at e⟩
  | non => trivial
  | int i => trivial
  | str z => exact h
  | _ => exact h.elim
theorem noForm_c (w : Str) (r : List Str) : noForm (w :: r) = if w = "web" then putNo r else askNo w r := rfl
theorem putNo_c (nm n : Str) (ts : List Str) : putNo (nm :: n :: ts) = (!nameB nm || (numOf n).isNone || ts.any fun w => (pairOf w).isNone) := rfl
theorem say_bad {μ : Mem} {dk s st : Nat} {t : T} (h : BadT μ t) (hd : DeskAt μ dk s) (hs : μ[s]? = some (.ins "Store" [("store_stages", .ref st)])) : ∃ g, F_Desk_say [.ref dk, t] μ = .exc "NoLine" [] (μ ++ g) := by
  have ns : ∀ t, isiT "str" t μ = .ok (.bl false) μ → ∃ g, F_Desk_say [.ref dk, t] μ = .exc "NoLine" [] (μ ++ g) := fun t e => by
    refine ⟨[], ?_⟩
    show (d_Desk_say [some (.ref dk), some t, none, none, none] μ).toR = _
    unfold d_Desk_say
    rw [sSeq_e, sIf_e, dNot_e, d1_e, dVar_s, dVar_0, bind_ok, e, bind_ok, notT_e, toS_ok, Bool.not_false, sIfK_e, if_pos rfl, sRaise0_e, seq_exc, toR_exc]
    simp
  cases t with
  | non => exact ns _ rfl
  | int i => exact ns _ rfl
  | ref k =>
    obtain ⟨xs, e⟩ := h
    exact ns _ (by unfold isiT tyName; dsimp only; rw [e]; rfl)
  | str z =>
    have h : badLine z = true := h
    unfold badLine at h
    simp only [Bool.and_eq_true, decide_eq_true_eq, Bool.not_eq_true', decide_eq_false_iff_not] at h
    obtain ⟨⟨⟨⟨h1, h2⟩, h3⟩, h4⟩, h5⟩ := h
    generalize hws : Txt.split z SP = ws at *
    have L : LineOk z ws := ⟨hws, h1, h2⟩
    cases ws with
    | nil =>
      exfalso
      have := split_sp z
      rw [hws] at this
      exact cut_ne _ _ this.symm
    | cons w r =>
      rw [noForm_c] at h5
      by_cases hw : w = "web"
      · rw [if_pos hw] at h5
        subst hw
        obtain ⟨g, k1, e⟩ := say_web (μ := μ) L hd
        have hl := L.words
        obtain ⟨g2, e2⟩ := (put_web_e (dk := dk) (s := s) (app_at (g := g) hd) ⟨st, app_at hs⟩ k1 (by have := hl.1; simp at this; omega) (fun x hx => by have := (hl.2 x (by simp [hx])).1; omega)).1 h5
        exact ⟨g ++ g2, by rw [e, e2, List.append_assoc]⟩
      · rw [if_neg hw] at h5
        exact (say_ask L h3 h4 hw hd).1 h5
  | _ => exact h.elim
/-! ### spoiled lines -/
theorem bad_num {c : Nat} {p : Str} (hc : c ∉ digs) (h : c ∈ cs p) : numOf p = none := by
  unfold numOf
  rw [if_neg]
  intro z
  simp only [Bool.and_eq_true, List.all_eq_true, decide_eq_true_eq] at z
  exact hc (z.2 c h)
theorem bad_pair {c : Nat} {p : Str} (hc : c ∉ digs) (h45 : c ≠ 45) (h : c ∈ cs p) : pairOf p = none := by
  have hs := split_da p
  obtain ⟨x, hx, hm⟩ := mem_cut (c := 45) h h45
  rw [← hs] at hx
  obtain ⟨y, hy, rfl⟩ := List.mem_map.mp hx
  have hn := bad_num hc hm
  have hin : none ∈ (Txt.split p DA).map numOf := by rw [← hn]; exact List.mem_map_of_mem hy
  unfold pairOf
  split
  · rename_i a b e
    rw [e] at hin
    simp at hin
  · rfl
theorem nm_cut {nm : Str} (hn : nm ∈ names3) (X : List Nat) : cut 32 (cs ("web" : Str) ++ 32 :: (cs nm ++ 32 :: X)) = cs ("web" : Str) :: cs nm :: cut 32 X := by
  rw [cut_app _ (by decide +kernel), cut_app]
  intro z
  have := (nm_facts nm hn).1
  rw [List.all_eq_true] at this
  have := this 32 z
  simp at this
theorem badLine_of {z : Str} {nm : Str} {X : List Nat} {c : Nat} (hn : nm ∈ names3) (e : cs z = cs ("web" : Str) ++ 32 :: (cs nm ++ 32 :: X)) (hX : X.length ≤ 800) (hok : ∀ x ∈ X, x < 0x110000) (hc : c ∉ digs) (h45 : c ≠ 45) (h32 : c ≠ 32) (h : c ∈ X) : badLine z = true := by
  have hs := split_sp z
  rw [e, nm_cut hn] at hs
  have hf := nm_facts nm hn
  obtain ⟨ws, hws⟩ : ∃ ws : List Str, ws.map cs = cut 32 X := ⟨(cut 32 X).map fun l => ⟨l.toArray⟩, by simp [List.map_map, Function.comp_def]⟩
  have hsp : Txt.split z SP = ("web" : Str) :: nm :: ws := map_tl_inj (by
    show (Txt.split z SP).map cs = (("web" : Str) :: nm :: ws).map cs
    rw [hs, List.map_cons, List.map_cons, hws])
  have hlen : z.length ≤ 890 := by
    rw [len_cs, e]
    have l1 : (cs ("web" : Str)).length = 3 := by decide +kernel
    have := hf.2.1
    rw [len_cs] at this
    simp only [List.length_append, List.length_cons, l1]
    omega
  have hst : PyData.strOk z = true := by
    rw [strOk_iff, e]
    intro x hx
    simp only [List.mem_append, List.mem_cons] at hx
    have w : ∀ x ∈ cs ("web" : Str), x < 0x110000 := by decide +kernel
    rcases hx with hx | rfl | hx | rfl | hx
    · exact w x hx
    · decide
    · exact strOk_iff.mp hf.2.2.2.2 x hx
    · decide
    · exact hok x hx
  obtain ⟨p, hp, hm⟩ := mem_cut (c := 32) h h32
  rw [← hws] at hp
  obtain ⟨y, hy, rfl⟩ := List.mem_map.mp hp
  have hno : putNo (nm :: ws) = true := by
    cases ws with
    | nil => rfl
    | cons n ts =>
      rw [putNo_c]
      rcases List.mem_cons.mp hy with rfl | hy
      · rw [bad_num hc hm]; simp
      · have : (ts.any fun w => (pairOf w).isNone) = true := List.any_eq_true.mpr ⟨y, hy, by rw [bad_pair hc h45 hm]; rfl⟩
        rw [this]; simp
  unfold badLine
  rw [hsp]
  have n1 : ¬ (("web" : Str) :: nm :: ws = [("undo" : Str)]) := by simp
  have n2 : ¬ (("web" : Str) :: nm :: ws = [("names" : Str)]) := by simp
  have e3 : noForm (("web" : Str) :: nm :: ws) = true := by rw [noForm_c, if_pos rfl, hno]
  rw [decide_eq_true hlen, hst, decide_eq_false n1, decide_eq_false n2, e3]
  rfl
/-- what stands behind web and the name -/
def tailOf (w : Web) : List Nat := joinL [32] ((dg w.1 :: w.2.map pw).map cs)
theorem line_tail (nm : Str) (w : Web) : cs (lineOf nm w) = cs ("web" : Str) ++ 32 :: (cs nm ++ 32 :: tailOf w) := by
  rw [line_cs]
  rfl
theorem tail_len {nm : Str} {w : Web} (hn : nm ∈ names3) (hw : WebS w) : (tailOf w).length ≤ 90 ∧ ∀ x ∈ tailOf w, x < 0x110000 := by
  have h1 := line_len hn hw
  have h2 := strOk_iff.mp (line_ok hn hw)
  rw [len_cs] at h1
  rw [line_tail] at h1 h2
  refine ⟨by simp at h1; omega, fun x hx => h2 x (by simp [hx])⟩
theorem good_nl {nm : Str} {w : Web} (hn : nm ∈ names3) (hw : WebS w) : badLine (lineOf nm w ++ "\n") = true := by
  have ht := tail_len hn hw
  refine badLine_of (nm := nm) (X := tailOf w ++ [10]) (c := 10) hn ?_ (by simp; omega) (fun x hx => ?_) (by decide) (by decide) (by decide) (by simp)
  · rw [cs_app, line_tail, show cs ("\n" : Str) = [10] by decide +kernel]; simp
  · simp only [List.mem_append, List.mem_cons, List.not_mem_nil, or_false] at hx
    rcases hx with hx | rfl
    · exact ht.2 x hx
    · decide
theorem slice_lo (z : Str) (k : Nat) : cs (Txt.slice z none (some (k : Int))) = (cs z).take k := by
  rw [← C8.cutS_slice]
  unfold cutS
  show (List.take _ _) = _
  rw [HT.sIx_none, HT.sIx_nat, List.drop_zero, Nat.sub_zero]
  by_cases h : k ≤ z.length
  · rw [Nat.min_eq_left h]
  · rw [Nat.min_eq_right (by omega), List.take_of_length_le (by rw [← len_cs]; exact Nat.le_refl _), List.take_of_length_le (by rw [← len_cs]; omega)]
theorem slice_hi (z : Str) (k : Nat) : cs (Txt.slice z (some (k : Int)) none) = (cs z).drop k := by
  rw [← C8.cutS_slice]
  unfold cutS
  show (List.take _ _) = _
  rw [HT.sIx_none, HT.sIx_nat]
  by_cases h : k ≤ z.length
  · rw [Nat.min_eq_left h, List.take_of_length_le (by rw [List.length_drop, ← len_cs]; exact Nat.le_refl _)]
  · rw [Nat.min_eq_right (by omega), List.drop_of_length_le (by rw [← len_cs]; exact Nat.le_refl _), List.drop_of_length_le (by rw [← len_cs]; omega)]
    simp
/-- a sign put in behind the name -/
def hashed (z : Str) (k : Nat) : Str := Txt.slice z none (some (k : Int)) ++ "#" ++ Txt.slice z (some (k : Int)) none
theorem good_hash {nm : Str} {w : Web} {k : Nat} (hn : nm ∈ names3) (hw : WebS w) (hk : 5 + nm.length ≤ k) : badLine (hashed (lineOf nm w) k) = true := by
  have ht := tail_len hn hw
  let j := k - (5 + nm.length)
  have hp : (cs ("web" : Str) ++ 32 :: (cs nm ++ [32])).length = 5 + nm.length := by
    have : (cs ("web" : Str)).length = 3 := by decide +kernel
    rw [len_cs]; simp [this]; omega
  have e0 : cs (lineOf nm w) = (cs ("web" : Str) ++ 32 :: (cs nm ++ [32])) ++ tailOf w := by rw [line_tail]; simp
  refine badLine_of (nm := nm) (X := (tailOf w).take j ++ 35 :: (tailOf w).drop j) (c := 35) hn ?_ (by simp; omega) (fun x hx => ?_) (by decide) (by decide) (by decide) (by simp)
  · unfold hashed
    rw [cs_app, cs_app, slice_lo, slice_hi, e0, show cs ("#" : Str) = [35] by decide +kernel]
    rw [show k = (cs ("web" : Str) ++ 32 :: (cs nm ++ [32])).length + j by rw [hp]; omega, List.take_length_add_append, List.drop_length_add_append]
    simp
  · simp only [List.mem_append, List.mem_cons] at hx
    rcases hx with hx | rfl | hx
    · exact ht.2 x (List.mem_of_mem_take hx)
    · decide
    · exact ht.2 x (List.mem_of_mem_drop hx)
theorem words_any {z : Str} {ws : List Str} (h : (Txt.split z SP) = ws) (h1 : z.length ≤ 890) (h2 : PyData.strOk z = true) (h3 : ws ≠ [("undo" : Str)]) (h4 : ws ≠ [("names" : Str)]) (h5 : noForm ws = true) : badLine z = true := by
  unfold badLine
  rw [h, decide_eq_true h1, h2, decide_eq_false h3, decide_eq_false h4, h5]
  rfl
theorem good_end {nm : Str} {w : Web} (hn : nm ∈ names3) (hw : WebS w) : badLine (lineOf nm w ++ " ") = true := by
  have L := line_split hn hw
  have hl := line_len hn hw
  have e : Txt.split (lineOf nm w ++ " ") SP = wordsOf nm w ++ [("" : Str)] := map_tl_inj (by
    show (Txt.split _ SP).map cs = _
    rw [split_sp, cs_app, show cs (" " : Str) = 32 :: [] from sp_cs, cut_app2, line_cut hn hw, List.map_append]
    rfl)
  refine words_any e (by rw [len_app]; have : (" " : Str).length = 1 := by decide +kernel
                         omega) (by rw [strOk_iff, cs_app]; intro c hc; rcases List.mem_append.mp hc with hc | hc; exact strOk_iff.mp L.ok c hc; have := (show ∀ c ∈ cs (" " : Str), c < 0x110000 by decide +kernel); exact this c hc) (by simp [wordsOf]) (by simp [wordsOf]) ?_
  show noForm (("web" : Str) :: (nm :: dg w.1 :: (w.2.map pw ++ [("" : Str)]))) = true
  rw [noForm_c, if_pos rfl, putNo_c]
  have : ((w.2.map pw ++ [("" : Str)]).any fun w => (pairOf w).isNone) = true := by
    rw [List.any_append]
    have : ([("" : Str)].any fun w => (pairOf w).isNone) = true := by decide +kernel
    rw [this]; simp
  rw [this]; simp
theorem good_begin {nm : Str} {w : Web} (hn : nm ∈ names3) (hw : WebS w) : badLine (" " ++ lineOf nm w) = true := by
  have L := line_split hn hw
  have hl := line_len hn hw
  have e : Txt.split (" " ++ lineOf nm w) SP = ("" : Str) :: wordsOf nm w := map_tl_inj (by
    show (Txt.split _ SP).map cs = _
    rw [split_sp, cs_app, show cs (" " : Str) = [32] from sp_cs]
    show cut 32 ([] ++ 32 :: cs (lineOf nm w)) = _
    rw [cut_app2, line_cut hn hw]
    rfl)
  refine words_any e (by rw [len_app]; have : (" " : Str).length = 1 := by decide +kernel
                         omega) (by rw [strOk_iff, cs_app]; intro c hc; rcases List.mem_append.mp hc with hc | hc; have := (show ∀ c ∈ cs (" " : Str), c < 0x110000 by decide +kernel); exact this c hc; exact strOk_iff.mp L.ok c hc) (by simp [wordsOf]) (by simp [wordsOf]) ?_
  rw [noForm_c, if_neg (by decide +kernel)]
  unfold askNo
  rw [show tab_NUMBERS.lookup ("" : Str) = none by decide +kernel]
theorem replace_cs (z : Str) : cs (Txt.replace z SP ("  " : Str)) = joinL [32, 32] (cut 32 (cs z)) := by
  have hs := split_sp z
  have hk : ¬ Builtin.Str.strKind z < Builtin.Str.strKind SP := kind_ok (by decide +kernel)
  have t2 : tl ("  " : Str) = [32, 32] := by decide +kernel
  have l1 : SP.length = 1 := by decide +kernel
  have key : Txt.replace z SP ("  " : Str) = Txt.join ("  " : Str) (Txt.split z SP) := by
    unfold Txt.replace Txt.split
    cases ho : (Builtin.Str.occurrences z SP 0 z.length (z.length + 1)).isEmpty
    · have hlt : ¬ z.length < SP.length := by
        intro hz
        rw [l1] at hz
        have : z.length = 0 := by omega
        have h0 := StrLaws.occ_length_le z SP 0 z.length (z.length + 1)
        have hne : Builtin.Str.occurrences z SP 0 z.length (z.length + 1) ≠ [] := fun e => by rw [e] at ho; cases ho
        obtain ⟨a, b, e⟩ := List.exists_cons_of_ne_nil hne
        have z0 : z = Str.empty := by
          have : cs z = [] := by apply List.eq_nil_of_length_eq_zero; rw [← len_cs]; exact this
          exact ext_tl this
        rw [z0] at ho
        revert ho
        decide +kernel
      have c1 : (decide (z.length < SP.length) || decide (Builtin.Str.strKind z < Builtin.Str.strKind SP)) = false := by rw [decide_eq_false hlt, decide_eq_false hk]; rfl
      have c2 : (SP.length == 0 && ("  " : Str).length == 0) = false := by decide +kernel
      rw [c2, c1]
      simp only [Bool.or_false, Bool.false_eq_true, if_false]
      rfl
    · simp only [Bool.true_or, if_true]
      split
      · rfl
      · rfl
  rw [key, join_eq]
  show tl (Str.join _ _) = _
  rw [tl_join, t2]
  show joinL [32, 32] ((Txt.split z SP).map cs) = _
  rw [hs]
theorem good_wide {nm : Str} {w : Web} (hn : nm ∈ names3) (hw : WebS w) : badLine (Txt.replace (lineOf nm w) SP ("  " : Str)) = true ∧ (lineOf nm w).length ≤ 90 := by
  have L := line_split hn hw
  have hl := line_len hn hw
  refine ⟨?_, hl⟩
  have hr := replace_cs (lineOf nm w)
  rw [line_cut hn hw] at hr
  let Y : List Nat := joinL [32, 32] ((nm :: dg w.1 :: w.2.map pw).map cs)
  have e1 : cs (Txt.replace (lineOf nm w) SP ("  " : Str)) = cs ("web" : Str) ++ 32 :: 32 :: Y := by rw [hr]; rfl
  have hlen : (Txt.replace (lineOf nm w) SP ("  " : Str)).length ≤ 890 := by
    have := TK.replace_len (lineOf nm w) SP ("  " : Str)
    have l2 : ("  " : Str).length = 2 := by decide +kernel
    rw [l2] at this
    omega
  have hok : ∀ c ∈ cs (Txt.replace (lineOf nm w) SP ("  " : Str)), c < 0x110000 := by
    rw [hr]
    have jm : ∀ (ps : List (List Nat)) (c : Nat), c ∈ joinL [32, 32] ps → c = 32 ∨ ∃ p ∈ ps, c ∈ p := by
      intro ps
      induction ps with
      | nil => intro c h; cases h
      | cons p q ih =>
        intro c h
        cases q with
        | nil => exact .inr ⟨p, by simp, h⟩
        | cons q r =>
          simp only [joinL, List.mem_append, List.mem_cons, List.not_mem_nil, or_false] at h
          rcases h with h | (h | h) | h
          · exact .inr ⟨p, by simp, h⟩
          · exact .inl h
          · exact .inl h
          · rcases ih c h with h | ⟨x, hx, h⟩
            · exact .inl h
            · exact .inr ⟨x, by simp [hx], h⟩
    intro c hc
    rcases jm _ c hc with rfl | ⟨p, hp, hc⟩
    · decide
    · obtain ⟨x, hx, rfl⟩ := List.mem_map.mp hp
      exact (words_sp hn hw x hx).2.2 c hc
  obtain ⟨ws, hws⟩ : ∃ ws : List Str, ws.map cs = cut 32 Y := ⟨(cut 32 Y).map fun l => ⟨l.toArray⟩, by simp [List.map_map, Function.comp_def]⟩
  have hsp : Txt.split (Txt.replace (lineOf nm w) SP ("  " : Str)) SP = ("web" : Str) :: ("" : Str) :: ws := map_tl_inj (by
    show (Txt.split _ SP).map cs = (("web" : Str) :: ("" : Str) :: ws).map cs
    rw [split_sp, e1, cut_app _ (by decide +kernel), List.map_cons, List.map_cons, hws, cut, if_pos rfl]
    rfl)
  refine words_any hsp hlen (strOk_iff.mpr hok) (by simp) (by simp) ?_
  rw [noForm_c, if_pos rfl]
  cases ws with
  | nil => rfl
  | cons n ts =>
    rw [putNo_c, show nameB ("" : Str) = false by decide +kernel]
    rfl
end K81
set_option linter.all false
set_option maxRecDepth 100000
set_option maxHeartbeats 1000000
namespace K81
open PySem PySem.Spec PyProof.Rows L2 TL
/-! ### expressions that leave the memory -/
def Pu (σ : List (Option T)) (d : EM) (t : T) : Prop := ∀ μ, d σ μ = .ok t μ
def PuL (σ : List (Option T)) (d : LM) (ts : List T) : Prop := ∀ μ, d σ μ = .ok ts μ
def PuA (σ : List (Option T)) (r : ALM) (ts : List T) : Prop := ∀ μ k, r σ μ k = k ts μ
theorem pu_nil {σ : List (Option T)} : PuA σ lNil [] := fun _ _ => rfl
theorem pu_cons {σ : List (Option T)} {d : EM} {r : ALM} {t : T} {ts : List T} (h : Pu σ d t) (h' : PuA σ r ts) : PuA σ (lCons d r) (t :: ts) := fun μ k => by
  rw [lCons_e, h μ, bindL_ok, h' μ]
theorem pu_lst {σ : List (Option T)} {r : ALM} {ts : List T} (h : PuA σ r ts) (hz : ts.length ≤ 1000) : PuL σ (dLstL r) ts := fun μ => by
  rw [dLstL_e, h μ, if_pos (sz hz)]
theorem pu_add {σ : List (Option T)} {a b : EM} {x y : Str} (h1 : Pu σ a (.str x)) (h2 : Pu σ b (.str y)) (hz : x.length + y.length ≤ 5000) : Pu σ (d2 addT a b) (.str (x ++ y)) := fun μ => by
  rw [d2_e, h1 μ, bind_ok, h2 μ, bind_ok]
  unfold addT
  dsimp only
  rw [if_pos (by rw [sizeLine_eq]; omega)]
theorem pu_c {σ : List (Option T)} {t : T} : Pu σ (dC t) t := fun _ => rfl
/-- odd = odd + [..] -/
theorem st_cat {σ : List (Option T)} {i : Nat} {dl : LM} {ys xs : List T} {μ : Mem} {k : Nat} (h : PuL σ dl ys) (hi : σ[i]? = some (some (.ref k))) (hk : μ[k]? = some (.lst xs)) (hz : xs.length + ys.length ≤ 1000) :
    sSet i (dNew (dCat (dVar i) (dNew dl))) σ μ = .nx (σ.set i (some (.ref (μ.length + 1)))) (μ ++ [.lst ys] ++ [.lst (xs ++ ys)]) := by
  rw [sSet_e, dNew_e]
  unfold dCat
  rw [dVar_e hi, bindL_ok, dNew_e, h μ, lbind_ok, bindL_ok]
  dsimp only
  rw [app_at hk, show (μ ++ [MO.lst ys])[μ.length]? = some (.lst ys) by simp]
  dsimp only
  rw [if_pos (sz hz), lbind_ok, toS_ok]
  simp
theorem rest_set {σ : List (Option T)} {i : Nat} {t : T} (h : i < σ.length) : (σ.set i (some t))[i]? = some (some t) := by simp [h]
theorem allBad_app {μ : Mem} {xs ys : List T} {g : Mem} (h1 : ∀ t ∈ xs, BadT μ t) (h2 : ∀ t ∈ ys, BadT (μ ++ g) t) : ∀ t ∈ xs ++ ys, BadT (μ ++ g) t := fun t ht => by
  rcases List.mem_append.mp ht with ht | ht
  · exact (h1 t ht).app g
  · exact h2 t ht
/-- one more row of the odd things -/
theorem odd_step {rest : SM} {σ : List (Option T)} {dl : LM} {ys xs : List T} {μ : Mem} {k : Nat} {R : SRes → Prop} (h : PuL σ dl ys) (hi : σ[5]? = some (some (.ref k))) (hk : μ[k]? = some (.lst xs)) (hz : xs.length + ys.length ≤ 1000) (hx : ∀ t ∈ xs, BadT μ t) (hy : ∀ (μ' : Mem) (t : T), t ∈ ys → BadT μ' t)
    (hR : ∀ k' g, (μ ++ g)[k']? = some (.lst (xs ++ ys)) → (∀ t ∈ xs ++ ys, BadT (μ ++ g) t) → R (rest (σ.set 5 (some (.ref k'))) (μ ++ g))) : R ((sSeq (sSet 5 (dNew (dCat (dVar 5) (dNew dl)))) rest) σ μ) := by
  rw [sSeq_e, st_cat h hi hk hz, seq_nx]
  have := hR (μ.length + 1) ([.lst ys] ++ [.lst (xs ++ ys)]) (by simp) (allBad_app hx fun t ht => hy _ t ht)
  rw [← List.append_assoc] at this
  exact this
def allBad (l : List Str) : Bool := l.all badLine
theorem bad_map {l : List Str} (h : allBad l = true) : ∀ (μ' : Mem) (t : T), t ∈ l.map T.str → BadT μ' t := fun μ' t ht => by
  obtain ⟨z, hz, rfl⟩ := List.mem_map.mp ht
  exact List.all_eq_true.mp h z hz
end K81
set_option linter.all false
set_option maxRecDepth 100000
set_option maxHeartbeats 2000000
namespace K81
open PySem PySem.Spec PyProof.Rows L2 TL
theorem names3_cases {P : Str → Prop} (h1 : P "a") (h2 : P "bee") (h3 : P "longname") : ∀ nm ∈ names3, P nm := by
  intro nm hn
  simp only [names3, List.mem_cons, List.not_mem_nil, or_false] at hn
  rcases hn with rfl | rfl | rfl <;> assumption
def l4 (nm : Str) : List Str := [("3 0-1 1" : Str), "3 0_1", "3 0-1-2", "12345", "3 0-01", "3 0-"].map fun r => "web " ++ nm ++ " " ++ r
theorem b4 : ∀ nm ∈ names3, allBad (l4 nm) = true := names3_cases (by decide +kernel) (by decide +kernel) (by decide +kernel)
def l5 (nm : Str) : List Str := [("" : Str), " 0", " 0 1 2", " 0-1", " 00 1", " 0 x"].map fun r => "tie " ++ nm ++ r
theorem b5 : ∀ nm ∈ names3, allBad (l5 nm) = true := names3_cases (by decide +kernel) (by decide +kernel) (by decide +kernel)
def l6a (nm : Str) : List Str := [("" : Str), " k", " 1 1", " 01"].map fun r => "held " ++ nm ++ r
theorem b6a : ∀ nm ∈ names3, allBad (l6a nm) = true := names3_cases (by decide +kernel) (by decide +kernel) (by decide +kernel)
def l6b (nm : Str) : List Str := [("trees" : Str), "trees " ++ nm ++ " 1", "undo 1"]
theorem b6b : ∀ nm ∈ names3, allBad (l6b nm) = true := names3_cases (by decide +kernel) (by decide +kernel) (by decide +kernel)
def l7 (nm : Str) : List Str := [("names " : Str) ++ nm, "level " ++ nm ++ " 0", "play " ++ nm ++ " 0 1 2", "count", "forests", "strength"]
theorem b7 : ∀ nm ∈ names3, allBad (l7 nm) = true := names3_cases (by decide +kernel) (by decide +kernel) (by decide +kernel)
def l3s (nm : Str) : List Str := [("web " : Str) ++ nm ++ " 02", "web " ++ nm ++ " two", "web " ++ nm ++ " -2"]
theorem b3s : ∀ nm ∈ names3, allBad (l3s nm) = true := names3_cases (by decide +kernel) (by decide +kernel) (by decide +kernel)
def l8s (nm : Str) : List Str := [("drop " : Str) ++ nm, "undo.", "version " ++ nm ++ " 0"]
theorem b8s : ∀ nm ∈ names3, allBad (l8s nm) = true := names3_cases (by decide +kernel) (by decide +kernel) (by decide +kernel)
def l2s (nm : Str) : List Str := [("" : Str), " ", "web", "web " ++ nm, "Web " ++ nm ++ " 2"]
theorem b2s : ∀ nm ∈ names3, allBad (l2s nm) = true := names3_cases (by decide +kernel) (by decide +kernel) (by decide +kernel)
theorem p4 : ∀ nm ∈ names3, ∀ (a b c d e f : Option T), PuL [a, some (.str nm), b, c, d, e, f] (dLc (dIterL (dLstL (lCons (dC (.str "3 0-1 1")) (lCons (dC (.str "3 0_1")) (lCons (dC (.str "3 0-1-2")) (lCons (dC (.str "12345")) (lCons (dC (.str "3 0-01")) (lCons (dC (.str "3 0-")) lNil)))))))) (.nm 6) [6] none (d2 addT (d2 addT (d2 addT (dC (.str "web ")) (dVar 1)) (dC (.str " "))) (dVar 6))) ((l4 nm).map T.str) := names3_cases (fun _ _ _ _ _ _ _ => rfl) (fun _ _ _ _ _ _ _ => rfl) (fun _ _ _ _ _ _ _ => rfl)
theorem p5 : ∀ nm ∈ names3, ∀ (a b c d e f : Option T), PuL [a, some (.str nm), b, c, d, e, f] (dLc (dIterL (dLstL (lCons (dC (.str "")) (lCons (dC (.str " 0")) (lCons (dC (.str " 0 1 2")) (lCons (dC (.str " 0-1")) (lCons (dC (.str " 00 1")) (lCons (dC (.str " 0 x")) lNil)))))))) (.nm 6) [6] none (d2 addT (d2 addT (dC (.str "tie ")) (dVar 1)) (dVar 6))) ((l5 nm).map T.str) := names3_cases (fun _ _ _ _ _ _ _ => rfl) (fun _ _ _ _ _ _ _ => rfl) (fun _ _ _ _ _ _ _ => rfl)
theorem p6a : ∀ nm ∈ names3, ∀ (a b c d e f : Option T), PuL [a, some (.str nm), b, c, d, e, f] (dLc (dIterL (dLstL (lCons (dC (.str "")) (lCons (dC (.str " k")) (lCons (dC (.str " 1 1")) (lCons (dC (.str " 01")) lNil)))))) (.nm 6) [6] none (d2 addT (d2 addT (dC (.str "held ")) (dVar 1)) (dVar 6))) ((l6a nm).map T.str) := names3_cases (fun _ _ _ _ _ _ _ => rfl) (fun _ _ _ _ _ _ _ => rfl) (fun _ _ _ _ _ _ _ => rfl)
theorem p6b : ∀ nm ∈ names3, ∀ (a b c d e f : Option T), PuL [a, some (.str nm), b, c, d, e, f] (dLstL (lCons (dC (.str "trees")) (lCons (d2 addT (d2 addT (dC (.str "trees ")) (dVar 1)) (dC (.str " 1"))) (lCons (dC (.str "undo 1")) lNil)))) ((l6b nm).map T.str) := names3_cases (fun _ _ _ _ _ _ _ => rfl) (fun _ _ _ _ _ _ _ => rfl) (fun _ _ _ _ _ _ _ => rfl)
theorem p7 : ∀ nm ∈ names3, ∀ (a b c d e f : Option T), PuL [a, some (.str nm), b, c, d, e, f] (dLstL (lCons (d2 addT (dC (.str "names ")) (dVar 1)) (lCons (d2 addT (d2 addT (dC (.str "level ")) (dVar 1)) (dC (.str " 0"))) (lCons (d2 addT (d2 addT (dC (.str "play ")) (dVar 1)) (dC (.str " 0 1 2"))) (lCons (dC (.str "count")) (lCons (dC (.str "forests")) (lCons (dC (.str "strength")) lNil))))))) ((l7 nm).map T.str) := names3_cases (fun _ _ _ _ _ _ _ => rfl) (fun _ _ _ _ _ _ _ => rfl) (fun _ _ _ _ _ _ _ => rfl)
theorem p3 : ∀ nm ∈ names3, ∀ (a b d e f : Option T) (G : Str), G.length ≤ 90 → PuL [a, some (.str nm), b, some (.str G), d, e, f] (dLstL (lCons (d1 (replT " " "  ") (dVar 3)) (lCons (d2 addT (d2 addT (dC (.str "web ")) (dVar 1)) (dC (.str " 02"))) (lCons (d2 addT (d2 addT (dC (.str "web ")) (dVar 1)) (dC (.str " two"))) (lCons (d2 addT (d2 addT (dC (.str "web ")) (dVar 1)) (dC (.str " -2"))) lNil))))) (.str (Txt.replace G SP ("  " : Str)) :: (l3s nm).map T.str) := by
  have r : ∀ (σ : List (Option T)) (G : Str), σ[3]? = some (some (.str G)) → G.length ≤ 90 → Pu σ (d1 (replT " " "  ") (dVar 3)) (.str (Txt.replace G SP ("  " : Str))) := fun σ G h hz μ => by
    rw [d1_e, dVar_e h, bind_ok]
    unfold replT
    dsimp only
    rw [if_pos (by have l2 : ("  " : Str).length = 2 := by decide +kernel
                   rw [l2]; omega)]
  refine names3_cases ?_ ?_ ?_ <;> exact fun a b d e f G hz => pu_lst (pu_cons (r _ G rfl hz) (pu_cons (fun _ => rfl) (pu_cons (fun _ => rfl) (pu_cons (fun _ => rfl) pu_nil)))) (by simp [l3s])
theorem p8 : ∀ nm ∈ names3, ∀ (a b e f : Option T) (G : Str) (k : Nat), G.length ≤ 90 → PuL [a, some (.str nm), b, some (.str G), some (.int (k : Int)), e, f] (dLstL (lCons (d2 addT (dC (.str "drop ")) (dVar 1)) (lCons (dC (.str "undo.")) (lCons (d2 addT (d2 addT (dSl (dVar 3) none (some (dVar 4))) (dC (.str "#"))) (dSl (dVar 3) (some (dVar 4)) none)) (lCons (d2 addT (dVar 3) (dC (.str "\n"))) (lCons (d2 addT (d2 addT (dC (.str "version ")) (dVar 1)) (dC (.str " 0"))) lNil)))))) [.str ("drop " ++ nm), .str "undo.", .str (hashed G k), .str (G ++ "\n"), .str ("version " ++ nm ++ " 0")] := by
  have sl : ∀ (σ : List (Option T)) (G : Str) (k : Nat), σ[3]? = some (some (.str G)) → σ[4]? = some (some (.int (k : Int))) → G.length ≤ 90 → Pu σ (dSl (dVar 3) none (some (dVar 4))) (.str (Txt.slice G none (some (k : Int)))) ∧ Pu σ (dSl (dVar 3) (some (dVar 4)) none) (.str (Txt.slice G (some (k : Int)) none)) := fun σ G k h3 h4 hz => by
    constructor
    all_goals
      intro μ
      unfold dSl odRunR
      simp only [dVar_e h3, dVar_e h4, bind_ok]
      unfold sliceT
      dsimp only
      rw [if_pos (by rw [sizeLine_eq]; omega)]
  have ll : ∀ (G : Str) (k : Nat), (Txt.slice G none (some (k : Int))).length ≤ G.length ∧ (Txt.slice G (some (k : Int)) none).length ≤ G.length := fun G k => by
    exact ⟨by rw [len_cs, slice_lo, len_cs G, List.length_take]; omega, by rw [len_cs, slice_hi, len_cs G, List.length_drop]; omega⟩
  have l1 : ("#" : Str).length = 1 := by decide +kernel
  have l2 : ("\n" : Str).length = 1 := by decide +kernel
  refine names3_cases ?_ ?_ ?_ <;> exact fun a b e f G k hz => pu_lst (pu_cons (fun _ => rfl) (pu_cons (fun _ => rfl) (pu_cons (pu_add (pu_add (sl _ G k rfl rfl hz).1 pu_c (by have := (ll G k).1; rw [l1]; omega)) (sl _ G k rfl rfl hz).2 (by have := ll G k; rw [len_app, l1]; omega)) (pu_cons (pu_add (fun _ => rfl) pu_c (by rw [l2]; omega)) (pu_cons (fun _ => rfl) pu_nil))))) (by simp)
end K81
set_option linter.all false
set_option maxRecDepth 100000
set_option maxHeartbeats 2000000
namespace K81
open PySem PySem.Spec PyProof.Rows L2 TL
theorem BadT.keepH {μ μ' : Mem} {h hc : Nat} {t : T} (b : BadT μ t) (k : Keep [h] μ μ') (H' : Hand μ' h hc) : BadT μ' t := by
  cases t with
  | ref j =>
    obtain ⟨xs, e⟩ := b
    by_cases q : j = h
    · subst q
      obtain ⟨_, _, _, _, _, _, e', _⟩ := H'
      exact ⟨_, e'⟩
    · exact ⟨xs, k.at e (by simp [q])⟩
  | non => trivial
  | int i => trivial
  | str z => exact b
  | _ => exact b.elim
theorem hand_app {μ : Mem} {h hc : Nat} (H : Hand μ h hc) (g : Mem) : Hand (μ ++ g) h hc := H.keep (keep_app [] μ g) (by simp) (by simp)
theorem keep_nil {S : List Nat} {μ μ' : Mem} (g : Mem) (k : Keep S μ μ') : Keep S μ (μ' ++ g) := k.trans (keep_app [] μ' g) (fun i hi _ => by simp at hi)
theorem dCat_e {da db : EM} {σ : List (Option T)} {μ μ1 μ2 : Mem} {i j : Nat} {xs ys : List T} (h1 : da σ μ = .ok (.ref i) μ1) (h2 : db σ μ1 = .ok (.ref j) μ2) (hi : μ2[i]? = some (.lst xs)) (hj : μ2[j]? = some (.lst ys)) (hz : xs.length + ys.length ≤ 1000) : dCat da db σ μ = .ok (xs ++ ys) μ2 := by
  unfold dCat
  rw [h1, bindL_ok, h2, bindL_ok]
  dsimp only
  rw [hi, hj]
  dsimp only
  rw [if_pos (sz hz)]
theorem odd_step2 {rest : SM} {σ : List (Option T)} {dl dl2 : LM} {ys zs xs : List T} {μ : Mem} {k : Nat} {R : SRes → Prop} (h : PuL σ dl ys) (h2 : PuL σ dl2 zs) (hi : σ[5]? = some (some (.ref k))) (hk : μ[k]? = some (.lst xs)) (hz : xs.length + ys.length + zs.length ≤ 1000) (hx : ∀ t ∈ xs, BadT μ t) (hy : ∀ (μ' : Mem) (t : T), t ∈ ys → BadT μ' t) (hy2 : ∀ (μ' : Mem) (t : T), t ∈ zs → BadT μ' t)
    (hR : ∀ k' g, (μ ++ g)[k']? = some (.lst (xs ++ ys ++ zs)) → (∀ t ∈ xs ++ ys ++ zs, BadT (μ ++ g) t) → R (rest (σ.set 5 (some (.ref k'))) (μ ++ g))) : R ((sSeq (sSet 5 (dNew (dCat (dNew (dCat (dVar 5) (dNew dl))) (dNew dl2)))) rest) σ μ) := by
  have e1 : dNew (dCat (dVar 5) (dNew dl)) σ μ = .ok (.ref (μ.length + 1)) (μ ++ [.lst ys] ++ [.lst (xs ++ ys)]) := by
    rw [dNew_e]
    unfold dCat
    rw [dVar_e hi, bindL_ok, dNew_e, h μ, lbind_ok, bindL_ok]
    dsimp only
    rw [app_at hk, show (μ ++ [MO.lst ys])[μ.length]? = some (.lst ys) by simp]
    dsimp only
    rw [if_pos (sz (by omega)), lbind_ok]
    simp
  have e2 : dNew dl2 σ (μ ++ [.lst ys] ++ [.lst (xs ++ ys)]) = .ok (.ref (μ.length + 2)) (μ ++ [.lst ys] ++ [.lst (xs ++ ys)] ++ [.lst zs]) := by
    rw [dNew_e, h2 _, lbind_ok]; simp
  rw [sSeq_e, sSet_e, dNew_e, dCat_e e1 e2 (xs := xs ++ ys) (ys := zs) (by simp) (by simp) (by simp; omega), lbind_ok, toS_ok, seq_nx]
  have := hR (μ.length + 3) ([.lst ys] ++ [.lst (xs ++ ys)] ++ [.lst zs] ++ [.lst (xs ++ ys ++ zs)]) (by simp) (fun t ht => by
    rcases List.mem_append.mp ht with ht | ht
    · exact allBad_app hx (fun t ht => hy _ t ht) t ht
    · exact hy2 _ t ht)
  simpa using this
theorem no_line_e {μ : Mem} {h hc : Nat} {nm : Str} {w : Web} (H : Hand μ h hc) (hn : nm ∈ names3) (hw : WebS w) : ∃ t μ', F__law_no_line [.ref h, .str nm, webT w] μ = .ok t μ' ∧ BadT μ' t ∧ Keep [h] μ μ' ∧ Hand μ' h hc := by
  obtain ⟨g0, e0⟩ := web_line_e (μ := μ) hn hw
  have hl := line_len hn hw
  have hf := nm_facts nm hn
  let G := lineOf nm w
  have hG : 5 + nm.length + 1 ≤ G.length := by
    have := line_tail nm w
    have l1 : (cs ("web" : Str)).length = 3 := by decide +kernel
    have l2 : 1 ≤ (tailOf w).length := by
      unfold tailOf
      have h2 := hw.2
      have d := dg_cs (i := w.1) (by omega) (by omega)
      cases w.2 with
      | nil => simp [joinL, d]
      | cons p r => simp [joinL, d]
    show 5 + nm.length + 1 ≤ (lineOf nm w).length
    rw [len_cs (lineOf nm w), this, len_cs nm]
    simp [l1]
    omega
  have hlG : G.length ≤ 90 := hl
  have H0 := hand_app H g0
  obtain ⟨r, μ1, e1, r1, r2, k1, H1, hl1⟩ := draw_spec (many := (G.length : Int) - 4 - nm.length) H0 (by omega) (by omega)
  have k01 : Keep [h] μ μ1 := (keep_app [h] μ g0).trans k1 (fun i hi _ => hi)
  let k : Nat := 5 + nm.length + r.toNat
  have hk : (5 : Int) + (nm.length : Int) + r = (k : Int) := by omega
  let σ4 : List (Option T) := [some (.ref h), some (.str nm), some (webT w), some (.str G), some (.int (k : Int)), none, none]
  -- the first two rows
  have s01 : ∀ rest : SM, (sSeq (sSet 3 (dFn 2 F__law_web_line (aCons (dVar 1) (aCons (dVar 2) aNil)))) (sSeq (sSet 4 (d2 addT (d2 addT (dC (.int 5)) (dCall lenC (aCons (dVar 1) aNil))) (dFn 2 F__law_draw (aCons (dVar 0) (aCons (d2 subT (d2 subT (dCall lenC (aCons (dVar 3) aNil)) (dC (.int 4))) (dCall lenC (aCons (dVar 1) aNil))) aNil))))) rest)) [some (.ref h), some (.str nm), some (webT w), none, none, none, none] μ = rest σ4 μ1 := fun rest => by
    rw [sSeq_e, sSet_e, dFn2, dVar_s, dVar_0, bind_ok, dVar_s, dVar_s, dVar_0, bind_ok, e0, toS_ok, seq_nx]
    simp only [List.set_cons_succ, List.set_cons_zero]
    rw [sSeq_e, sSet_e]
    simp only [d2_e, dC_e, bind_ok, dCall_e, aCons_e, aNil_e, dVar_s, dVar_0, lenS (show nm.length ≤ 100000 by omega), lenS (show (lineOf nm w).length ≤ 100000 by omega), addT_i, dFn2, subT_i]
    rw [show F__law_draw [.ref h, .int ((lineOf nm w).length - 4 - nm.length)] (μ ++ g0) = .ok (.int r) μ1 from e1]
    simp only [bind_ok, addT_i, hk, toS_ok, List.set_cons_succ, List.set_cons_zero, seq_nx]
    rfl
  -- the third
  let A : List T := [.non, .int 0, .ref μ1.length] ++ (l2s nm).map T.str ++ [.str (G ++ " "), .str (" " ++ G)]
  let μ2 : Mem := μ1 ++ [.lst [.str "names"]] ++ [.lst A]
  let σ5 : List (Option T) := [some (.ref h), some (.str nm), some (webT w), some (.str G), some (.int (k : Int)), some (.ref (μ1.length + 1)), none]
  have s2 : ∀ rest : SM, (sSeq (sSet 5 (dNew (dLstL (lCons (dC .non) (lCons (dC (.int 0)) (lCons (dNew (dLstL (lCons (dC (.str "names")) lNil))) (lCons (dC (.str "")) (lCons (dC (.str " ")) (lCons (dC (.str "web")) (lCons (d2 addT (dC (.str "web ")) (dVar 1)) (lCons (d2 addT (d2 addT (dC (.str "Web ")) (dVar 1)) (dC (.str " 2"))) (lCons (d2 addT (dVar 3) (dC (.str " "))) (lCons (d2 addT (dC (.str " ")) (dVar 3)) lNil))))))))))))) rest) σ4 μ1 = rest σ5 μ2 := fun rest => by
    have z1 : (1 : Nat) ≤ sizeLine := sz (by omega)
    have la : ∀ (x y : Str) (μ' : Mem), x.length + y.length ≤ 5000 → addT (.str x) (.str y) μ' = .ok (.str (x ++ y)) μ' := fun x y μ' hz => by
      unfold addT; dsimp only; rw [if_pos (by rw [sizeLine_eq]; omega)]
    have c1 : ("web " : Str).length = 4 := by decide +kernel
    have c2 : ("Web " : Str).length = 4 := by decide +kernel
    have c3 : (" 2" : Str).length = 2 := by decide +kernel
    have c4 : (" " : Str).length = 1 := by decide +kernel
    rw [sSeq_e, sSet_e, dNew_e, dLstL_e]
    simp only [σ4, lCons_e, lNil_e, dC_e, bindL_ok, dNew_e, dLstL_e, List.length_cons, List.length_nil, Nat.zero_add, if_pos z1, lbind_ok, d2_e, dVar_s, dVar_0, bind_ok]
    rw [la _ _ _ (by rw [c1]; omega)]
    simp only [bindL_ok, bind_ok]
    rw [la _ _ _ (by rw [c2]; omega)]
    simp only [bindL_ok, bind_ok]
    rw [la _ _ _ (by rw [len_app, c2, c3]; omega)]
    simp only [bindL_ok, bind_ok]
    rw [la _ _ _ (by rw [c4]; omega)]
    simp only [bindL_ok, bind_ok]
    rw [la _ _ _ (by rw [c4]; omega)]
    simp only [bindL_ok, bind_ok, List.length_cons, List.length_nil, Nat.zero_add, Nat.reduceAdd]
    rw [if_pos (sz (by omega)), lbind_ok, toS_ok, seq_nx]
    simp only [List.set_cons_succ, List.set_cons_zero, List.length_append, List.length_cons, List.length_nil, Nat.zero_add]
    rfl
  have n2 : μ2[μ1.length]? = some (.lst [.str "names"]) := by simp [μ2]
  have k2 : μ2[μ1.length + 1]? = some (.lst A) := by simp [μ2]
  have bA : ∀ t ∈ A, BadT μ2 t := by
    intro t ht
    simp only [A, List.mem_append, List.mem_cons, List.not_mem_nil, or_false] at ht
    rcases ht with ((rfl | rfl | rfl) | ht) | rfl | rfl
    · trivial
    · trivial
    · exact ⟨_, n2⟩
    · exact bad_map (b2s nm hn) μ2 t ht
    · exact good_end hn hw
    · exact good_begin hn hw
  have lA : A.length = 10 := by simp [A, l2s]
  let R : SRes → Prop := fun q => ∃ t μ', q = .rt t μ' ∧ BadT μ' t ∧ Keep [h] μ μ' ∧ Hand μ' h hc
  have H2 : Hand μ2 h hc := hand_app (hand_app H1 _) _
  have K2 : Keep [h] μ μ2 := keep_nil _ (keep_nil _ k01)
  suffices hR : R (d__law_no_line [some (.ref h), some (.str nm), some (webT w), none, none, none, none] μ) by
    obtain ⟨t, μ', e, b, kk, HH⟩ := hR
    exact ⟨t, μ', by show (d__law_no_line [some (.ref h), some (.str nm), some (webT w), none, none, none, none] μ).toR = _; rw [e]; rfl, b, kk, HH⟩
  unfold d__law_no_line
  rw [s01, s2]
  -- the rows put behind
  refine odd_step (R := R) (p3 nm hn (some (.ref h)) (some (webT w)) (some (.int (k : Int))) (some (.ref (μ1.length + 1))) none G hl) rfl k2 (by rw [lA]; simp [l3s]) bA (fun μ' t ht => ?_) fun k3 g3 q3 b3 => ?_
  · rcases List.mem_cons.mp ht with rfl | ht
    · exact (good_wide hn hw).1
    · exact bad_map (b3s nm hn) μ' t ht
  refine odd_step (R := R) (p4 nm hn (some (.ref h)) (some (webT w)) (some (.str G)) (some (.int (k : Int))) (some (.ref k3)) none) rfl q3 (by simp [lA, l3s, l4]) b3 (bad_map (b4 nm hn)) fun k4 g4 q4 b4' => ?_
  refine odd_step (R := R) (p5 nm hn (some (.ref h)) (some (webT w)) (some (.str G)) (some (.int (k : Int))) (some (.ref k4)) none) rfl q4 (by simp [lA, l3s, l4, l5]) b4' (bad_map (b5 nm hn)) fun k5 g5 q5 b5' => ?_
  refine odd_step2 (R := R) (p6a nm hn (some (.ref h)) (some (webT w)) (some (.str G)) (some (.int (k : Int))) (some (.ref k5)) none) (p6b nm hn (some (.ref h)) (some (webT w)) (some (.str G)) (some (.int (k : Int))) (some (.ref k5)) none) rfl q5 (by simp [lA, l3s, l4, l5, l6a, l6b]) b5' (bad_map (b6a nm hn)) (bad_map (b6b nm hn)) fun k6 g6 q6 b6' => ?_
  refine odd_step (R := R) (p7 nm hn (some (.ref h)) (some (webT w)) (some (.str G)) (some (.int (k : Int))) (some (.ref k6)) none) rfl q6 (by simp [lA, l3s, l4, l5, l6a, l6b, l7]) b6' (bad_map (b7 nm hn)) fun k7 g7 q7 b7' => ?_
  refine odd_step (R := R) (p8 nm hn (some (.ref h)) (some (webT w)) (some (.ref k7)) none G k hlG) rfl q7 (by simp [lA, l3s, l4, l5, l6a, l6b, l7]) b7' (fun μ' t ht => ?_) fun k8 g8 q8 b8' => ?_
  · have b8 := List.all_eq_true.mp (b8s nm hn)
    simp only [List.mem_cons, List.not_mem_nil, or_false] at ht
    rcases ht with rfl | rfl | rfl | rfl | rfl
    · exact b8 _ (by simp [l8s])
    · exact b8 _ (by simp [l8s])
    · exact good_hash hn hw (by omega)
    · exact good_nl hn hw
    · exact b8 _ (by simp [l8s])
  have H8 : Hand (μ2 ++ g3 ++ g4 ++ g5 ++ g6 ++ g7 ++ g8) h hc := hand_app (hand_app (hand_app (hand_app (hand_app (hand_app H2 _) _) _) _) _) _
  have K8 : Keep [h] μ (μ2 ++ g3 ++ g4 ++ g5 ++ g6 ++ g7 ++ g8) := keep_nil _ (keep_nil _ (keep_nil _ (keep_nil _ (keep_nil _ (keep_nil _ K2)))))
  have n8 : k8 ≠ h := by
    intro z
    subst z
    obtain ⟨cs', j, v, s', c, _, e', _⟩ := H8
    rw [q8] at e'
    have e2 := congrArg List.length (MO.lst.inj (Option.some.inj e'))
    simp [lA] at e2
    omega
  obtain ⟨x, μ9, e9, m9, k9, H9, _⟩ := some_spec H8 q8 n8 (by simp [lA]; omega) (by simp [lA, l3s, l4, l5, l6a, l6b, l7])
  refine ⟨x, μ9, ?_, (b8' x m9).keepH k9 H9, K8.trans k9 (fun i hi _ => hi), H9⟩
  show (sRet (dFn 2 F__law_some (aCons (dVar 0) (aCons (dVar 5) aNil)))) [some (.ref h), some (.str nm), some (webT w), some (.str G), some (.int (k : Int)), some (.ref k8), none] _ = _
  rw [sRet_e, dFn2]
  simp only [dVar_s, dVar_0, bind_ok, e9, toS_ok]
end K81
set_option linter.all false
set_option maxRecDepth 100000
set_option maxHeartbeats 2000000
namespace K81
open PySem PySem.Spec PyProof.Rows L2 TL
/-! ### what is a web, in general -/
theorem within_e {i a b : Int} {μ : Mem} : F_is_within [.int i, .int a, .int b] μ = .ok (.bl (decide (a ≤ i) && decide (i ≤ b))) μ := by
  have e : F_is_int [.int i] μ = .ok (.bl true) μ := rfl
  have c := chainF (k := leT) (k' := leT) (da := dVar 1) (db := dVar 0) (dc := dVar 2) (σ := [some (.int i), some (.int a), some (.int b)]) (μ := μ) (x := .int a) (y := .int i) (z := .int b) rfl rfl rfl (leT_i) (leT_i)
  show (d_is_within [some (.int i), some (.int a), some (.int b)] μ).toR = _
  unfold d_is_within
  rw [sRet_e, dAnd_e, dFn1, dVar_0, bind_ok, e, bind_ok, andK_e, if_pos rfl, c, toS_ok, toR_rt]
theorem sized_e {ts : List T} {a b : Int} {μ : Mem} : F_is_sized [.tup ts, .int a, .int b] μ = .ok (.bl (decide (a ≤ ts.length) && decide ((ts.length : Int) ≤ b))) μ := by
  have c := chainF (k := leT) (k' := leT) (da := dVar 1) (db := dCall lenC (aCons (dVar 0) aNil)) (dc := dVar 2) (σ := [some (.tup ts), some (.int a), some (.int b)]) (μ := μ) (x := .int a) (y := .int ts.length) (z := .int b) rfl rfl rfl (leT_i) (leT_i)
  have e : isiT "tuple" (.tup ts) μ = .ok (.bl true) μ := rfl
  show (d_is_sized [some (.tup ts), some (.int a), some (.int b)] μ).toR = _
  unfold d_is_sized
  rw [sRet_e, dAnd_e, d1_e, dVar_0, bind_ok, e, bind_ok, andK_e, if_pos rfl, c, toS_ok, toR_rt]
def pairB (m : Int) (p : Int × Int) : Bool := decide (0 ≤ p.1) && decide (p.1 ≤ m - 1) && (decide (0 ≤ p.2) && decide (p.2 ≤ m - 1)) && decide (p.1 < p.2)
theorem pairB_e {m : Int} {p : Int × Int} {μ : Mem} : F_is_pair_of [.int m, pairT p] μ = .ok (.bl (pairB m p)) μ := by
  have e1 : F_is_sized [pairT p, .int 2, .int 2] μ = .ok (.bl true) μ := sized_t (by simp) (by simp)
  have a0 : subT' (pairT p) (.int 0) μ = .ok (.int p.1) μ := subTp rfl
  have a1 : subT' (pairT p) (.int 1) μ = .ok (.int p.2) μ := subTp rfl
  show (d_is_pair_of [some (.int m), some (pairT p)] μ).toR = _
  unfold d_is_pair_of pairB
  rw [sSeq_e, sIf_e, dOr_e, dNot_e, dFn3]
  simp only [dVar_s, dVar_0, bind_ok, dC_e, e1, notT_e, Bool.not_true, orK_e, Bool.false_eq_true, if_false, dOr_e, dNot_e, dFn3, d2_e, a0, a1, subT_i, within_e]
  cases (decide (0 ≤ p.1) && decide (p.1 ≤ m - 1))
  · simp
  · cases (decide (0 ≤ p.2) && decide (p.2 ≤ m - 1))
    · simp
    · simp [a0, a1]
def webB (w : Web) : Bool := decide (1 ≤ w.1) && decide (w.1 ≤ 12) && decide (w.2.length ≤ 40) && w.2.all (pairB w.1)
theorem webB_e {w : Web} {μ : Mem} (hz : w.2.length ≤ 900) : F_is_web [webT w] μ = .ok (.bl (webB w)) μ := by
  have e1 : F_is_sized [webT w, .int 2, .int 2] μ = .ok (.bl true) μ := sized_t (by simp) (by simp)
  have a0 : subT' (webT w) (.int 0) μ = .ok (.int w.1) μ := subTp rfl
  have a1 : subT' (webT w) (.int 1) μ = .ok (.tup (w.2.map pairT)) μ := subTp rfl
  have lc : dLc (dIter (d2 subT' (dVar 0) (dC (.int 1)))) (.nm 1) [1] none (dFn 2 F_is_pair_of (aCons (d2 subT' (dVar 0) (dC (.int 0))) (aCons (dVar 1) aNil))) [some (webT w), none] μ = .ok (w.2.map fun p => T.bl (pairB w.1 p)) μ := by
    unfold dLc dIter
    simp only [d2_e, dVar_0, dC_e, bind_ok, a1]
    have q := lc_all (ws := []) (i := 1) (el := dFn 2 F_is_pair_of (aCons (d2 subT' (dVar 0) (dC (.int 0))) (aCons (dVar 1) aNil))) (σ := [some (webT w), none]) (μ := μ) (f := fun t => match t with | .tup [.int a, .int b] => T.bl (pairB w.1 (a, b)) | _ => .non) rfl (w.2.map pairT) [] (fun x hx => by
      obtain ⟨p, hp, rfl⟩ := List.mem_map.mp hx
      rw [dFn2]
      simp only [List.set_cons_succ, List.set_cons_zero, d2_e, dVar_0, dVar_s, dC_e, bind_ok, a0, pairB_e]
      rfl) (by simp; omega)
    have e : ([] : List T) ++ (w.2.map pairT).map (fun t => match t with | .tup [.int a, .int b] => T.bl (pairB w.1 (a, b)) | _ => .non) = w.2.map fun p => T.bl (pairB w.1 p) := by
      rw [List.nil_append, List.map_map]
      rfl
    rw [e] at q
    exact q
  show (d_is_web [some (webT w), none] μ).toR = _
  unfold d_is_web webB
  rw [sSeq_e, sIf_e, dOr_e, dNot_e, dFn3]
  have i2 : decide ((0 : Int) ≤ ((w.2.map pairT).length : Int)) = true := by simp
  have i3 : decide (((w.2.map pairT).length : Int) ≤ 40) = decide (w.2.length ≤ 40) := by simp; omega
  simp only [dVar_s, dVar_0, bind_ok, dC_e, e1, notT_e, Bool.not_true, orK_e, Bool.false_eq_true, if_false, dOr_e, dNot_e, dFn3, d2_e, a0, a1, within_e, sized_e, i2, i3, Bool.true_and]
  cases (decide (1 ≤ w.1) && decide (w.1 ≤ 12))
  · simp
  · cases decide (w.2.length ≤ 40)
    · simp
    · simp only [Bool.not_true, Bool.false_eq_true, if_false, toS_ok, sIfK_e, sNil_e, seq_nx, sRet_e, dQ_e, lc, lbind_ok, allQ_map, toR_rt, Bool.true_and]
theorem check_webB {w : Web} {μ : Mem} (hz : w.2.length ≤ 900) (h : webB w = true) : F_check_web [webT w] μ = .ok .non μ := by
  show (d_check_web [some (webT w)] μ).toR = _
  simp [d_check_web, webB_e hz, h]
theorem webS_B {w : Web} (h : WebS w) : webB w = true := by
  obtain ⟨⟨h1, h2, h3, h4⟩, _⟩ := h
  unfold webB
  rw [decide_eq_true h1, decide_eq_true h2, decide_eq_true h3]
  simp only [Bool.true_and, List.all_eq_true]
  intro p hp
  obtain ⟨a, b, c⟩ := h4 p hp
  unfold pairB
  simp; omega
theorem place_e {w : Web} {i : Int} {μ : Mem} : F_check_place [webT w, .int i] μ = if (decide (0 ≤ i) && decide (i ≤ w.1 - 1)) = true then .ok .non μ else .exc "NoPlace" [] μ := by
  have a0 : subT' (webT w) (.int 0) μ = .ok (.int w.1) μ := subTp rfl
  show (d_check_place [some (webT w), some (.int i)] μ).toR = _
  unfold d_check_place
  rw [sIf_e, dNot_e, dFn3]
  simp only [dVar_s, dVar_0, bind_ok, dC_e, d2_e, a0, subT_i, within_e, notT_e, toS_ok, sIfK_e]
  cases (decide (0 ≤ i) && decide (i ≤ w.1 - 1)) <;> simp
theorem two_places_no {w : Web} {i j : Int} {μ : Mem} (hw : WebS w) (h : ¬ (0 ≤ i ∧ i < w.1 ∧ 0 ≤ j ∧ j < w.1 ∧ i ≠ j)) : F_check_two_places [webT w, .int i, .int j] μ = .exc "NoPlace" [] μ := by
  have c := check_webB (μ := μ) (by have := hw.2.2.2; omega) (webS_B hw)
  show (d_check_two_places [some (webT w), some (.int i), some (.int j)] μ).toR = _
  unfold d_check_two_places
  rw [sSeq_e, sExpr_e, dFn1, dVar_0, bind_ok, c, toS_ok, seq_nx, sSeq_e, sExpr_e, dFn2]
  simp only [dVar_s, dVar_0, bind_ok, place_e]
  by_cases h1 : (decide (0 ≤ i) && decide (i ≤ w.1 - 1)) = true
  · rw [if_pos h1, toS_ok, seq_nx, sSeq_e, sExpr_e, dFn2]
    simp only [dVar_s, dVar_0, bind_ok, place_e]
    by_cases h2 : (decide (0 ≤ j) && decide (j ≤ w.1 - 1)) = true
    · rw [if_pos h2, toS_ok, seq_nx]
      have : i = j := by
        simp at h1 h2
        by_cases q : i = j
        · exact q
        · exact absurd ⟨h1.1, by omega, h2.1, by omega, q⟩ h
      simp [this]
    · rw [if_neg h2]; simp
  · rw [if_neg h1]; simp
theorem held_no {w : Web} {k : Int} {μ : Mem} (hw : WebS w) (h : ¬ (1 ≤ k ∧ k ≤ 6)) : F_most_held [webT w, .int k] μ = .exc "NoNumber" [] μ := by
  have c := check_webB (μ := μ) (by have := hw.2.2.2; omega) (webS_B hw)
  have c2 : F_check_forests_many [webT w, .int k] μ = .exc "NoNumber" [] μ := by
    show (d_check_forests_many [some (webT w), some (.int k)] μ).toR = _
    unfold d_check_forests_many
    rw [sSeq_e, sExpr_e, dFn1, dVar_0, bind_ok, c, toS_ok, seq_nx, sIf_e, dNot_e, dFn3]
    have hb : (decide (1 ≤ k) && decide (k ≤ 6)) = false := by
      simp
      omega
    simp [within_e, hb]
  show (d_most_held [some (webT w), some (.int k)] μ).toR = _
  unfold d_most_held
  rw [sSeq_e, sExpr_e, dFn2]
  simp [c2]
theorem play_no {w : Web} {i j : Int} {μ : Mem} (hw : WebS w) (h : ¬ (0 ≤ i ∧ i < w.1 ∧ 0 ≤ j ∧ j < w.1 ∧ i ≠ j)) : F_outcome [.tup [webT w, .int i, .int j]] μ = .exc "NoPlay" [] μ := by
  have e1 : F_is_sized [.tup [webT w, .int i, .int j], .int 3, .int 3] μ = .ok (.bl true) μ := sized_t (by simp) (by simp)
  have e2 := webB_e (w := w) (μ := μ) (by have := hw.2.2.2; omega)
  rw [webS_B hw] at e2
  have a0 : subT' (.tup [webT w, .int i, .int j]) (.int 0) μ = .ok (webT w) μ := subTp rfl
  have a1 : subT' (.tup [webT w, .int i, .int j]) (.int 1) μ = .ok (.int i) μ := subTp rfl
  have a2 : subT' (.tup [webT w, .int i, .int j]) (.int 2) μ = .ok (.int j) μ := subTp rfl
  have a3 : subT' (webT w) (.int 0) μ = .ok (.int w.1) μ := subTp rfl
  have p : F_is_play [.tup [webT w, .int i, .int j]] μ = .ok (.bl false) μ := by
    show (d_is_play [some (.tup [webT w, .int i, .int j]), none] μ).toR = _
    unfold d_is_play
    rw [sSeq_e, sIf_e, dOr_e, dNot_e, dFn3]
    simp only [dVar_s, dVar_0, bind_ok, dC_e, e1, notT_e, Bool.not_true, orK_e, Bool.false_eq_true, if_false, dNot_e, dFn1, d2_e, a0, e2, toS_ok, sIfK_e, sNil_e, seq_nx, sSeq_e, sSet_e, a3, List.set_cons_succ, List.set_cons_zero, sRet_e, dAnd_e, dFn3, a1, a2, subT_i, within_e, neT_e, eqT_i]
    cases hi : (decide (0 ≤ i) && decide (i ≤ w.1 - 1))
    · simp
    · cases hj : (decide (0 ≤ j) && decide (j ≤ w.1 - 1))
      · simp [a0, a1, a2, subT_i, within_e, hj]
      · have : i = j := by
          simp at hi hj
          by_cases q : i = j
          · exact q
          · exact absurd ⟨hi.1, by omega, hj.1, by omega, q⟩ h
        subst this
        simp [a0, a1, a2, subT_i, within_e, hj]
  have c : F_check_play [.tup [webT w, .int i, .int j]] μ = .exc "NoPlay" [] μ := by
    show (d_check_play [some (.tup [webT w, .int i, .int j])] μ).toR = _
    simp [d_check_play, p]
  show (d_outcome [some (.tup [webT w, .int i, .int j])] μ).toR = _
  unfold d_outcome
  rw [sSeq_e, sExpr_e, dFn1]
  simp [c]
theorem level_no {w : Web} {i j : Int} {μ : Mem} (hw : WebS w) (h : ¬ (0 ≤ i ∧ i < w.1 ∧ 0 ≤ j ∧ j < w.1 ∧ i ≠ j)) : F_level_of [webT w, .int i, .int j] μ = .exc "NoPlace" [] μ := by
  show (d_level_of [some (webT w), some (.int i), some (.int j)] μ).toR = _
  unfold d_level_of
  rw [sSeq_e, sExpr_e, dFn3]
  simp [two_places_no hw h]
end K81
set_option linter.all false
set_option maxRecDepth 100000
set_option maxHeartbeats 2000000
namespace K81
open PySem PySem.Spec PyProof.Rows L2 TL
/-! ### lines of a form that are refused -/
def askB (z wd nm : Str) (ns : List Int) : Bool := decide (z.length ≤ 890) && PyData.strOk z && match Txt.split z SP with
  | w' :: nm' :: ts => decide (w' = wd) && decide (nm' = nm) && !decide (wd = ("web" : Str)) && !askNo w' (nm' :: ts) && decide (ts.map numOf = ns.map some)
  | _ => false
theorem map_some_inj {α : Type} : ∀ {a b : List α}, a.map some = b.map some → a = b
  | [], [], _ => rfl
  | [], _ :: _, h => by simp at h
  | _ :: _, [], h => by simp at h
  | x :: a, y :: b, h => by
    simp only [List.map_cons, List.cons.injEq, Option.some.injEq] at h
    rw [h.1, map_some_inj h.2]
theorem say_askB {μ : Mem} {dk s : Nat} {z wd nm : Str} {ns : List Int} (h : askB z wd nm ns = true) (hd : DeskAt μ dk s) : ∃ g l, (μ ++ g)[l]? = some (.lst (ns.map T.int)) ∧ F_Desk_say [.ref dk, .str z] μ = F_Desk_answer [.ref dk, .str wd, .str nm, .ref l] (μ ++ g) := by
  unfold askB at h
  simp only [Bool.and_eq_true, decide_eq_true_eq] at h
  obtain ⟨⟨h1, h2⟩, h3⟩ := h
  split at h3
  · rename_i w' nm' ts e
    simp only [Bool.and_eq_true, decide_eq_true_eq, Bool.not_eq_true', decide_eq_false_iff_not] at h3
    obtain ⟨⟨⟨⟨rfl, rfl⟩, k3⟩, k4⟩, k5⟩ := h3
    obtain ⟨nm2, ts2, ns2, g, l, e2, _, q2, q3, q4⟩ := (say_ask (μ := μ) (dk := dk) ⟨e, h1, h2⟩ (by simp) (by simp) k3 hd).2 k4
    cases e2
    have := map_some_inj (q2.symm.trans k5)
    subst this
    exact ⟨g, l, q3, q4⟩
  · cases h3
def putB (z nm : Str) (i : Int) (ps : List (Int × Int)) : Bool := decide (z.length ≤ 890) && PyData.strOk z && match Txt.split z SP with
  | w' :: nm' :: n :: ts => decide (w' = ("web" : Str)) && decide (nm' = nm) && !putNo (nm' :: n :: ts) && decide (numOf n = some i) && decide (ts.map pairOf = ps.map some)
  | _ => false
theorem say_putB {μ : Mem} {dk s st : Nat} {z nm : Str} {i : Int} {ps : List (Int × Int)} (h : putB z nm i ps = true) (hd : DeskAt μ dk s) (hs : μ[s]? = some (.ins "Store" [("store_stages", .ref st)])) : ∃ g, nameB nm = true ∧ F_Desk_say [.ref dk, .str z] μ = (F_Store_put [.ref s, .str nm, webT (i, ps)] (μ ++ g)).bind verT := by
  unfold putB at h
  simp only [Bool.and_eq_true, decide_eq_true_eq] at h
  obtain ⟨⟨h1, h2⟩, h3⟩ := h
  split at h3
  · rename_i w' nm' n ts e
    simp only [Bool.and_eq_true, decide_eq_true_eq, Bool.not_eq_true'] at h3
    obtain ⟨⟨⟨⟨rfl, rfl⟩, k3⟩, k4⟩, k5⟩ := h3
    have L : LineOk z (("web" : Str) :: nm' :: n :: ts) := ⟨e, h1, h2⟩
    obtain ⟨g, q1, q2⟩ := say_web (μ := μ) L hd
    have hl := L.words
    obtain ⟨nm2, n2, ts2, ps2, g2, e2, hnb, i2, j1, j2, j3⟩ := (put_web_e (dk := dk) (s := s) (app_at (g := g) hd) ⟨st, app_at hs⟩ q1 (by have := hl.1; simp at this ⊢; omega) (fun x hx => by have := (hl.2 x (by simp at hx ⊢; right; exact hx)).1; omega)).2 k3
    cases e2
    have a := map_some_inj (j2.symm.trans k5)
    have b := Option.some.inj (j1.symm.trans k4)
    subst a b
    exact ⟨g ++ g2, hnb, by rw [q2, j3, List.append_assoc]⟩
  · cases h3
def okTwo (w : Web) (i j : Int) : Prop := 0 ≤ i ∧ i < w.1 ∧ 0 ≤ j ∧ j < w.1 ∧ i ≠ j
inductive Wrong (nm : Str) (w : Web) : Str → Str → Prop
  | name {z : Str} (wd : Str) (ns : List Int) (h : askB z wd "nosuch" ns = true) : Wrong nm w z "name"
  | held {z : Str} (k : Int) (h : askB z "held" nm [k] = true) (hk : ¬ (1 ≤ k ∧ k ≤ 6)) : Wrong nm w z "number"
  | tie {z : Str} (i j : Int) (h : askB z "tie" nm [i, j] = true) (hk : ¬ okTwo w i j) : Wrong nm w z "place"
  | level {z : Str} (i j : Int) (h : askB z "level" nm [i, j] = true) (hk : ¬ okTwo w i j) : Wrong nm w z "place"
  | play {z : Str} (i j : Int) (h : askB z "play" nm [i, j] = true) (hk : ¬ okTwo w i j) : Wrong nm w z "play"
  | web {z : Str} (i : Int) (ps : List (Int × Int)) (h : putB z nm i ps = true) (hk : webB (i, ps) = false) (hz : ps.length ≤ 900) : Wrong nm w z "web"
theorem nameOk_of {x : Str} (h : nameB x = true) (hz : x.length ≤ 900) : NameOk x := fun μ => by rw [name_e hz, h]
theorem meth_take {μ : Mem} {s st : Nat} {x : T} {dd dx : EM} {σ : List (Option T)} {r : Res} (h1 : μ[s]? = some (.ins "Store" [("store_stages", .ref st)])) (e : dd σ μ = .ok (.ref s) μ) (ex : dx σ μ = .ok x μ) (hr : F_Store_take [.ref s, x] μ = r) : dMeth "Store" "take" 2 F_Store_take dd (aCons dx aNil) σ μ = r := by
  rw [methK e h1 (by rfl), aCons_e, ex]
  simp [hr]
theorem fld_dk {μ : Mem} {dk s : Nat} {σ : List (Option T)} (hd : DeskAt μ dk s) : d1 (fldT "Desk" "desk_store") (dVar 0) (some (.ref dk) :: σ) μ = .ok (.ref s) μ := by
  simp only [d1_e, dVar_0, bind_ok]
  unfold fldT
  dsimp only
  rw [hd]
  rfl
/-- an answer up to the web -/
theorem answer_no {μ : Mem} {dk s st n l : Nat} {m : Model} {wd : Str} (hd : DeskAt μ dk s) (S : St μ s st m n) (hl : m.lookup ("nosuch" : Str) = none) : F_Desk_answer [.ref dk, .str wd, .str "nosuch", .ref l] μ = .exc "NoName" [] μ := by
  have hs : μ[s]? = some (.ins "Store" [("store_stages", .ref st)]) := by obtain ⟨_, _, h1, _⟩ := S; exact h1
  have e := take_exc S (there_no S (nameOk_of (by decide +kernel) (by decide +kernel)) hl)
  have t := meth_take (dd := d1 (fldT "Desk" "desk_store") (dVar 0)) (dx := dVar 2) (σ := [some (.ref dk), some (.str wd), some (.str "nosuch"), some (.ref l), none, none, none]) hs (fld_dk hd) rfl e
  show (d_Desk_answer [some (.ref dk), some (.str wd), some (.str "nosuch"), some (.ref l), none, none, none] μ).toR = _
  unfold d_Desk_answer
  rw [sSeq_e, sSet_e, t]
  rfl
theorem wd_ne : ∀ a ∈ [("tie" : Str), "held", "play", "level", "strength"], ∀ b ∈ [("tie" : Str), "held", "play", "level", "strength"], (a = b) = (a = b) := fun _ _ _ _ => rfl
theorem say_wrong {μ : Mem} {dk s st n : Nat} {m : Model} {nm z word : Str} {w : Web} {ws : List Web} (h : Wrong nm w z word) (hd : DeskAt μ dk s) (S : St μ s st m n) (hn : nm ∈ names3) (hw : WebS w) (hl : m.lookup nm = some (ws ++ [w])) (hno : m.lookup ("nosuch" : Str) = none) : ∃ c g, F_Desk_say [.ref dk, .str z] μ = .exc c [] (μ ++ g) ∧ c ∈ errs ∧ wordOf c = word := by
  have hs : μ[s]? = some (.ins "Store" [("store_stages", .ref st)]) := by obtain ⟨_, _, h1, _⟩ := S; exact h1
  have hf := nm_facts nm hn
  have Sa : ∀ g, St (μ ++ g) s st m n := fun g => S.keep (keep_app [] μ g) (fun i hi => by simp at hi)
  have tk : ∀ (g : Mem) (wd : Str) (l : Nat), dMeth "Store" "take" 2 F_Store_take (d1 (fldT "Desk" "desk_store") (dVar 0)) (aCons (dVar 2) aNil) [some (.ref dk), some (.str wd), some (.str nm), some (.ref l), none, none, none] (μ ++ g) = .ok (webT w) (μ ++ g) := fun g wd l =>
    meth_take (app_at hs) (fld_dk (app_at hd)) rfl (take_ok (Sa g) (nameOk_of hf.2.2.1 (by omega)) hl)
  have it : ∀ {g : Mem} {l : Nat} {ns : List Int} {i : Nat} {k : Int} {a b c d e f : Option T}, (μ ++ g)[l]? = some (.lst (ns.map T.int)) → ns[i]? = some k → d2 subT' (dVar 3) (dC (.int (i : Int))) [a, b, c, some (.ref l), d, e, f] (μ ++ g) = .ok (.int k) (μ ++ g) := fun h1 h2 => by
    simp only [d2_e, dVar_s, dVar_0, bind_ok, dC_e]
    exact sub_l h1 (by rw [List.getElem?_map, h2]; rfl)
  have nt : ∀ {a b : Str}, a ≠ b → ∀ μ' : Mem, eqT (.str a) (.str b) μ' = .ok (.bl false) μ' := fun h μ' => by rw [eqT_s, decide_eq_false h]
  have yt : ∀ (a : Str) (μ' : Mem), eqT (.str a) (.str a) μ' = .ok (.bl true) μ' := fun a μ' => by rw [eqT_s, decide_eq_true rfl]
  cases h with
  | name wd ns h =>
    obtain ⟨g, l, q1, q2⟩ := say_askB h hd
    exact ⟨"NoName", g, by rw [q2, answer_no (app_at hd) (Sa g) hno], by decide +kernel, by decide +kernel⟩
  | held k h hk =>
    obtain ⟨g, l, q1, q2⟩ := say_askB h hd
    refine ⟨"NoNumber", g, ?_, by decide +kernel, by decide +kernel⟩
    rw [q2]
    show (d_Desk_answer [some (.ref dk), some (.str "held"), some (.str nm), some (.ref l), none, none, none] (μ ++ g)).toR = _
    unfold d_Desk_answer
    rw [sSeq_e, sSet_e, tk g "held" l, toS_ok, seq_nx]
    simp only [List.set_cons_succ, List.set_cons_zero]
    rw [sSeq_e, sIf_e, d2_e, dVar_s, dVar_0, bind_ok, dC_e, bind_ok, nt (by decide +kernel), toS_ok, sIfK_e, if_neg Bool.false_ne_true, sNil_e, seq_nx]
    rw [sSeq_e, sIf_e, d2_e, dVar_s, dVar_0, bind_ok, dC_e, bind_ok, yt, toS_ok, sIfK_e, if_pos rfl, sRet_e, dCall_e, aCons_e, dFn2, dVar_s, dVar_s, dVar_s, dVar_s, dVar_0, bind_ok]
    rw [show d2 subT' (dVar 3) (dC (.int 0)) [some (.ref dk), some (.str "held"), some (.str nm), some (.ref l), some (webT w), none, none] (μ ++ g) = .ok (.int k) (μ ++ g) from it (i := 0) q1 rfl, bind_ok, held_no hw hk]
    rfl
  | tie i j h hk =>
    obtain ⟨g, l, q1, q2⟩ := say_askB h hd
    refine ⟨"NoPlace", g, ?_, by decide +kernel, by decide +kernel⟩
    rw [q2]
    show (d_Desk_answer [some (.ref dk), some (.str "tie"), some (.str nm), some (.ref l), none, none, none] (μ ++ g)).toR = _
    unfold d_Desk_answer
    rw [sSeq_e, sSet_e, tk g "tie" l, toS_ok, seq_nx]
    simp only [List.set_cons_succ, List.set_cons_zero]
    rw [sSeq_e, sIf_e, d2_e, dVar_s, dVar_0, bind_ok, dC_e, bind_ok, yt, toS_ok, sIfK_e, if_pos rfl, sSeq_e, sExpr_e, dFn3, dVar_s, dVar_s, dVar_s, dVar_s, dVar_0, bind_ok]
    rw [show d2 subT' (dVar 3) (dC (.int 0)) [some (.ref dk), some (.str "tie"), some (.str nm), some (.ref l), some (webT w), none, none] (μ ++ g) = .ok (.int i) (μ ++ g) from it (i := 0) q1 rfl, bind_ok]
    rw [show d2 subT' (dVar 3) (dC (.int 1)) [some (.ref dk), some (.str "tie"), some (.str nm), some (.ref l), some (webT w), none, none] (μ ++ g) = .ok (.int j) (μ ++ g) from it (i := 1) q1 rfl, bind_ok, two_places_no hw hk]
    rfl
  | play i j h hk =>
    obtain ⟨g, l, q1, q2⟩ := say_askB h hd
    refine ⟨"NoPlay", g, ?_, by decide +kernel, by decide +kernel⟩
    rw [q2]
    show (d_Desk_answer [some (.ref dk), some (.str "play"), some (.str nm), some (.ref l), none, none, none] (μ ++ g)).toR = _
    unfold d_Desk_answer
    rw [sSeq_e, sSet_e, tk g "play" l, toS_ok, seq_nx]
    simp only [List.set_cons_succ, List.set_cons_zero]
    rw [sSeq_e, sIf_e, d2_e, dVar_s, dVar_0, bind_ok, dC_e, bind_ok, nt (by decide +kernel), toS_ok, sIfK_e, if_neg Bool.false_ne_true, sNil_e, seq_nx]
    rw [sSeq_e, sIf_e, d2_e, dVar_s, dVar_0, bind_ok, dC_e, bind_ok, nt (by decide +kernel), toS_ok, sIfK_e, if_neg Bool.false_ne_true, sNil_e, seq_nx]
    rw [sSeq_e, sIf_e, d2_e, dVar_s, dVar_0, bind_ok, dC_e, bind_ok, yt, toS_ok, sIfK_e, if_pos rfl, sRet_e, dFn1, dTup_e, aCons_e, dVar_s, dVar_s, dVar_s, dVar_s, dVar_0, bind_ok, aCons_e]
    rw [show d2 subT' (dVar 3) (dC (.int 0)) [some (.ref dk), some (.str "play"), some (.str nm), some (.ref l), some (webT w), none, none] (μ ++ g) = .ok (.int i) (μ ++ g) from it (i := 0) q1 rfl, bind_ok, aCons_e]
    rw [show d2 subT' (dVar 3) (dC (.int 1)) [some (.ref dk), some (.str "play"), some (.str nm), some (.ref l), some (webT w), none, none] (μ ++ g) = .ok (.int j) (μ ++ g) from it (i := 1) q1 rfl, bind_ok, aNil_e, if_pos (sz (by simp)), bind_ok, play_no hw hk]
    rfl
  | level i j h hk =>
    obtain ⟨g, l, q1, q2⟩ := say_askB h hd
    refine ⟨"NoPlace", g, ?_, by decide +kernel, by decide +kernel⟩
    rw [q2]
    show (d_Desk_answer [some (.ref dk), some (.str "level"), some (.str nm), some (.ref l), none, none, none] (μ ++ g)).toR = _
    unfold d_Desk_answer
    rw [sSeq_e, sSet_e, tk g "level" l, toS_ok, seq_nx]
    simp only [List.set_cons_succ, List.set_cons_zero]
    rw [sSeq_e, sIf_e, d2_e, dVar_s, dVar_0, bind_ok, dC_e, bind_ok, nt (by decide +kernel), toS_ok, sIfK_e, if_neg Bool.false_ne_true, sNil_e, seq_nx]
    rw [sSeq_e, sIf_e, d2_e, dVar_s, dVar_0, bind_ok, dC_e, bind_ok, nt (by decide +kernel), toS_ok, sIfK_e, if_neg Bool.false_ne_true, sNil_e, seq_nx]
    rw [sSeq_e, sIf_e, d2_e, dVar_s, dVar_0, bind_ok, dC_e, bind_ok, nt (by decide +kernel), toS_ok, sIfK_e, if_neg Bool.false_ne_true, sNil_e, seq_nx]
    rw [sSeq_e, sIf_e, d2_e, dVar_s, dVar_0, bind_ok, dC_e, bind_ok, yt, toS_ok, sIfK_e, if_pos rfl, sRet_e, dCall_e, aCons_e, dFn3, dVar_s, dVar_s, dVar_s, dVar_s, dVar_0, bind_ok]
    rw [show d2 subT' (dVar 3) (dC (.int 0)) [some (.ref dk), some (.str "level"), some (.str nm), some (.ref l), some (webT w), none, none] (μ ++ g) = .ok (.int i) (μ ++ g) from it (i := 0) q1 rfl, bind_ok]
    rw [show d2 subT' (dVar 3) (dC (.int 1)) [some (.ref dk), some (.str "level"), some (.str nm), some (.ref l), some (webT w), none, none] (μ ++ g) = .ok (.int j) (μ ++ g) from it (i := 1) q1 rfl, bind_ok, level_no hw hk]
    rfl
  | web i ps h hk hz =>
    obtain ⟨g, hnb, q2⟩ := say_putB h hd hs
    refine ⟨"NoWeb", g, ?_, by decide +kernel, by decide +kernel⟩
    have e := webB_e (w := (i, ps)) (μ := μ ++ g) hz
    rw [hk] at e
    rw [q2, put_noWeb (nameOk_of hf.2.2.1 (by omega) _) e]
    rfl
end K81
set_option linter.all false
set_option maxRecDepth 100000
set_option maxHeartbeats 2000000
namespace K81
open PySem PySem.Spec PyProof.Rows L2 TL
theorem cat_step {rest : SM} {σ : List (Option T)} {dl : LM} {ys xs : List T} {μ : Mem} {k : Nat} {P : T → Prop} {R : SRes → Prop} (h : PuL σ dl ys) (hi : σ[5]? = some (some (.ref k))) (hk : μ[k]? = some (.lst xs)) (hz : xs.length + ys.length ≤ 1000) (hx : ∀ t ∈ xs, P t) (hy : ∀ t ∈ ys, P t)
    (hR : ∀ k' g, (μ ++ g)[k']? = some (.lst (xs ++ ys)) → (∀ t ∈ xs ++ ys, P t) → R (rest (σ.set 5 (some (.ref k'))) (μ ++ g))) : R ((sSeq (sSet 5 (dNew (dCat (dVar 5) (dNew dl)))) rest) σ μ) := by
  rw [sSeq_e, st_cat h hi hk hz, seq_nx]
  have := hR (μ.length + 1) ([.lst ys] ++ [.lst (xs ++ ys)]) (by simp) (fun t ht => (List.mem_append.mp ht).elim (hx t) (hy t))
  rw [← List.append_assoc] at this
  exact this
def two (z word : Str) : T := .tup [.str z, .str word]
def fars : List Int := [2, 3, 4, 5, 6, 7]
def w2 : List T := [two "held nosuch 1" "name", two "trees nosuch" "name", two "count nosuch" "name", two "tie nosuch 0 1" "name"]
def w3 : List T := [two "level nosuch 0 1" "name", two "play nosuch 0 1" "name", two "strength nosuch" "name"]
def w4 (nm : Str) : List T := [("0" : Str), "7", "9999"].map fun k => two ("held " ++ nm ++ " " ++ k) "number"
def w5 (nm : Str) (f : Int) : List T := [two ("level " ++ nm ++ " 0 " ++ dg f) "place", two ("level " ++ nm ++ " 1 1") "place"]
def w6 (nm : Str) (f : Int) : List T := [two ("level " ++ nm ++ " " ++ dg f ++ " 0") "place", two ("play " ++ nm ++ " 0 " ++ dg f) "play"]
def w7 (nm : Str) : List T := [two ("play " ++ nm ++ " 1 1") "play", two ("tie " ++ nm ++ " 1 1") "place"]
def w8 (nm : Str) : List T := [("0" : Str), "13", "3 0-3", "2" ++ Txt.mul " 0-1" 41].map fun r => two ("web " ++ nm ++ " " ++ r) "web"
theorem q2 : ∀ nm ∈ names3, ∀ (a b c d e f g : Option T), PuL [a, some (.str nm), b, c, d, e, f, g] (dLstL (lCons (dTup (aCons (dC (.str "held nosuch 1")) (aCons (dC (.str "name")) aNil))) (lCons (dTup (aCons (dC (.str "trees nosuch")) (aCons (dC (.str "name")) aNil))) (lCons (dTup (aCons (dC (.str "count nosuch")) (aCons (dC (.str "name")) aNil))) (lCons (dTup (aCons (dC (.str "tie nosuch 0 1")) (aCons (dC (.str "name")) aNil))) lNil))))) (w2) := names3_cases (fun _ _ _ _ _ _ _ _ => rfl) (fun _ _ _ _ _ _ _ _ => rfl) (fun _ _ _ _ _ _ _ _ => rfl)
theorem q3 : ∀ nm ∈ names3, ∀ (a b c d e f g : Option T), PuL [a, some (.str nm), b, c, d, e, f, g] (dLstL (lCons (dTup (aCons (dC (.str "level nosuch 0 1")) (aCons (dC (.str "name")) aNil))) (lCons (dTup (aCons (dC (.str "play nosuch 0 1")) (aCons (dC (.str "name")) aNil))) (lCons (dTup (aCons (dC (.str "strength nosuch")) (aCons (dC (.str "name")) aNil))) lNil)))) (w3) := names3_cases (fun _ _ _ _ _ _ _ _ => rfl) (fun _ _ _ _ _ _ _ _ => rfl) (fun _ _ _ _ _ _ _ _ => rfl)
theorem q4 : ∀ nm ∈ names3, ∀ (a b c d e f g : Option T), PuL [a, some (.str nm), b, c, d, e, f, g] (dLc (dIterL (dLstL (lCons (dC (.str "0")) (lCons (dC (.str "7")) (lCons (dC (.str "9999")) lNil))))) (.nm 6) [6] none (dTup (aCons (d2 addT (d2 addT (d2 addT (dC (.str "held ")) (dVar 1)) (dC (.str " "))) (dVar 6)) (aCons (dC (.str "number")) aNil)))) (w4 nm) := names3_cases (fun _ _ _ _ _ _ _ _ => rfl) (fun _ _ _ _ _ _ _ _ => rfl) (fun _ _ _ _ _ _ _ _ => rfl)
theorem q7 : ∀ nm ∈ names3, ∀ (a b c d e f g : Option T), PuL [a, some (.str nm), b, c, d, e, f, g] (dLstL (lCons (dTup (aCons (d2 addT (d2 addT (dC (.str "play ")) (dVar 1)) (dC (.str " 1 1"))) (aCons (dC (.str "play")) aNil))) (lCons (dTup (aCons (d2 addT (d2 addT (dC (.str "tie ")) (dVar 1)) (dC (.str " 1 1"))) (aCons (dC (.str "place")) aNil))) lNil))) (w7 nm) := names3_cases (fun _ _ _ _ _ _ _ _ => rfl) (fun _ _ _ _ _ _ _ _ => rfl) (fun _ _ _ _ _ _ _ _ => rfl)
theorem q8 : ∀ nm ∈ names3, ∀ (a b c d e f g : Option T), PuL [a, some (.str nm), b, c, d, e, f, g] (dLc (dIterL (dLstL (lCons (dC (.str "0")) (lCons (dC (.str "13")) (lCons (dC (.str "3 0-3")) (lCons (d2 addT (dC (.str "2")) (d2 mulS (dC (.str " 0-1")) (dC (.int 41)))) lNil)))))) (.nm 7) [7] none (dTup (aCons (d2 addT (d2 addT (d2 addT (dC (.str "web ")) (dVar 1)) (dC (.str " "))) (dVar 7)) (aCons (dC (.str "web")) aNil)))) (w8 nm) := names3_cases (fun _ _ _ _ _ _ _ _ => rfl) (fun _ _ _ _ _ _ _ _ => rfl) (fun _ _ _ _ _ _ _ _ => rfl)
theorem q5 : ∀ nm ∈ names3, ∀ fr ∈ fars, ∀ (a b c e f g : Option T), PuL [a, some (.str nm), b, c, some (.str (dg fr)), e, f, g] (dLstL (lCons (dTup (aCons (d2 addT (d2 addT (d2 addT (dC (.str "level ")) (dVar 1)) (dC (.str " 0 "))) (dVar 4)) (aCons (dC (.str "place")) aNil))) (lCons (dTup (aCons (d2 addT (d2 addT (dC (.str "level ")) (dVar 1)) (dC (.str " 1 1"))) (aCons (dC (.str "place")) aNil))) lNil))) (w5 nm fr) := by
  refine names3_cases ?_ ?_ ?_
  all_goals
    intro fr hf
    simp only [fars, List.mem_cons, List.not_mem_nil, or_false] at hf
    rcases hf with rfl | rfl | rfl | rfl | rfl | rfl <;> exact fun _ _ _ _ _ _ _ => rfl
theorem q6 : ∀ nm ∈ names3, ∀ fr ∈ fars, ∀ (a b c e f g : Option T), PuL [a, some (.str nm), b, c, some (.str (dg fr)), e, f, g] (dLstL (lCons (dTup (aCons (d2 addT (d2 addT (d2 addT (d2 addT (dC (.str "level ")) (dVar 1)) (dC (.str " "))) (dVar 4)) (dC (.str " 0"))) (aCons (dC (.str "place")) aNil))) (lCons (dTup (aCons (d2 addT (d2 addT (d2 addT (dC (.str "play ")) (dVar 1)) (dC (.str " 0 "))) (dVar 4)) (aCons (dC (.str "play")) aNil))) lNil))) (w6 nm fr) := by
  refine names3_cases ?_ ?_ ?_
  all_goals
    intro fr hf
    simp only [fars, List.mem_cons, List.not_mem_nil, or_false] at hf
    rcases hf with rfl | rfl | rfl | rfl | rfl | rfl <;> exact fun _ _ _ _ _ _ _ => rfl
theorem a_name : askB "held nosuch 1" "held" "nosuch" [1] = true ∧ askB "trees nosuch" "trees" "nosuch" [] = true ∧ askB "count nosuch" "count" "nosuch" [] = true ∧ askB "tie nosuch 0 1" "tie" "nosuch" [0, 1] = true ∧ askB "level nosuch 0 1" "level" "nosuch" [0, 1] = true ∧ askB "play nosuch 0 1" "play" "nosuch" [0, 1] = true ∧ askB "strength nosuch" "strength" "nosuch" [] = true := by decide +kernel
theorem a_nm : ∀ nm ∈ names3, askB ("held " ++ nm ++ " " ++ "0") "held" nm [0] = true ∧ askB ("held " ++ nm ++ " " ++ "7") "held" nm [7] = true ∧ askB ("held " ++ nm ++ " " ++ "9999") "held" nm [9999] = true ∧ askB ("level " ++ nm ++ " 1 1") "level" nm [1, 1] = true ∧ askB ("play " ++ nm ++ " 1 1") "play" nm [1, 1] = true ∧ askB ("tie " ++ nm ++ " 1 1") "tie" nm [1, 1] = true := by decide +kernel
theorem a_far : ∀ nm ∈ names3, ∀ f ∈ fars, askB ("level " ++ nm ++ " 0 " ++ dg f) "level" nm [0, f] = true ∧ askB ("level " ++ nm ++ " " ++ dg f ++ " 0") "level" nm [f, 0] = true ∧ askB ("play " ++ nm ++ " 0 " ++ dg f) "play" nm [0, f] = true := by decide +kernel
theorem a_web : ∀ nm ∈ names3, putB ("web " ++ nm ++ " " ++ "0") nm 0 [] = true ∧ putB ("web " ++ nm ++ " " ++ "13") nm 13 [] = true ∧ putB ("web " ++ nm ++ " " ++ "3 0-3") nm 3 [(0, 3)] = true ∧ putB ("web " ++ nm ++ " " ++ ("2" ++ Txt.mul " 0-1" 41)) nm 2 (List.replicate 41 (0, 1)) = true := by decide +kernel
def IsWrong (nm : Str) (w : Web) (t : T) : Prop := ∃ z word, t = two z word ∧ Wrong nm w z word
theorem wrong_e {μ : Mem} {h hc : Nat} {nm : Str} {w : Web} (H : Hand μ h hc) (hn : nm ∈ names3) (hw : WebS w) : ∃ t μ', F__law_wrong [.ref h, .str nm, webT w] μ = .ok t μ' ∧ IsWrong nm w t ∧ Keep [h] μ μ' ∧ Hand μ' h hc := by
  have hw2 := hw.2
  have a0 : subT' (webT w) (.int 0) μ = .ok (.int w.1) μ := subTp rfl
  obtain ⟨r, μ1, e1, r1, r2, k1, H1, _⟩ := draw_spec (many := 3) H (by omega) (by omega)
  let f : Int := w.1 + r
  have hf : f ∈ fars := by
    have : f = 2 ∨ f = 3 ∨ f = 4 ∨ f = 5 ∨ f = 6 ∨ f = 7 := by omega
    simpa [fars] using this
  have hfw : w.1 ≤ f := by omega
  let σ4 : List (Option T) := [some (.ref h), some (.str nm), some (webT w), some (.int w.1), some (.str (dg f)), none, none, none]
  have s01 : ∀ rest : SM, (sSeq (sSet 3 (d2 subT' (dVar 2) (dC (.int 0)))) (sSeq (sSet 4 (dCall strC (aCons (d2 addT (dVar 3) (dFn 2 F__law_draw (aCons (dVar 0) (aCons (dC (.int 3)) aNil)))) aNil))) rest)) [some (.ref h), some (.str nm), some (webT w), none, none, none, none, none] μ = rest σ4 μ1 := fun rest => by
    rw [sSeq_e, sSet_e, d2_e, dVar_s, dVar_s, dVar_0, bind_ok, dC_e, bind_ok, a0, toS_ok, seq_nx]
    simp only [List.set_cons_succ, List.set_cons_zero]
    rw [sSeq_e, sSet_e, dCall_e, aCons_e, d2_e, dVar_s, dVar_s, dVar_s, dVar_0, bind_ok, dFn2, dVar_0, bind_ok, dC_e, bind_ok, e1, bind_ok, addT_i, bind_ok, aNil_e, dg_str (by omega) (by omega), toS_ok, seq_nx]
    rfl
  have W2 : ∀ t ∈ w2, IsWrong nm w t := by
    intro t ht
    obtain ⟨b1, b2, b3, b4, b5, b6, b7⟩ := a_name
    simp only [w2, List.mem_cons, List.not_mem_nil, or_false] at ht
    rcases ht with rfl | rfl | rfl | rfl
    · exact ⟨_, _, rfl, .name _ _ b1⟩
    · exact ⟨_, _, rfl, .name _ _ b2⟩
    · exact ⟨_, _, rfl, .name _ _ b3⟩
    · exact ⟨_, _, rfl, .name _ _ b4⟩
  have W3 : ∀ t ∈ w3, IsWrong nm w t := by
    intro t ht
    obtain ⟨b1, b2, b3, b4, b5, b6, b7⟩ := a_name
    simp only [w3, List.mem_cons, List.not_mem_nil, or_false] at ht
    rcases ht with rfl | rfl | rfl
    · exact ⟨_, _, rfl, .name _ _ b5⟩
    · exact ⟨_, _, rfl, .name _ _ b6⟩
    · exact ⟨_, _, rfl, .name _ _ b7⟩
  obtain ⟨c1, c2, c3, c4, c5, c6⟩ := a_nm nm hn
  obtain ⟨f1, f2, f3⟩ := a_far nm hn f hf
  obtain ⟨v1, v2, v3, v4⟩ := a_web nm hn
  have W4 : ∀ t ∈ w4 nm, IsWrong nm w t := by
    intro t ht
    simp only [w4, List.map_cons, List.map_nil, List.mem_cons, List.not_mem_nil, or_false] at ht
    rcases ht with rfl | rfl | rfl
    · exact ⟨_, _, rfl, .held 0 c1 (by omega)⟩
    · exact ⟨_, _, rfl, .held 7 c2 (by omega)⟩
    · exact ⟨_, _, rfl, .held 9999 c3 (by omega)⟩
  have W5 : ∀ t ∈ w5 nm f, IsWrong nm w t := by
    intro t ht
    simp only [w5, List.mem_cons, List.not_mem_nil, or_false] at ht
    rcases ht with rfl | rfl
    · exact ⟨_, _, rfl, .level 0 f f1 (by unfold okTwo; omega)⟩
    · exact ⟨_, _, rfl, .level 1 1 c4 (by unfold okTwo; omega)⟩
  have W6 : ∀ t ∈ w6 nm f, IsWrong nm w t := by
    intro t ht
    simp only [w6, List.mem_cons, List.not_mem_nil, or_false] at ht
    rcases ht with rfl | rfl
    · exact ⟨_, _, rfl, .level f 0 f2 (by unfold okTwo; omega)⟩
    · exact ⟨_, _, rfl, .play 0 f f3 (by unfold okTwo; omega)⟩
  have W7 : ∀ t ∈ w7 nm, IsWrong nm w t := by
    intro t ht
    simp only [w7, List.mem_cons, List.not_mem_nil, or_false] at ht
    rcases ht with rfl | rfl
    · exact ⟨_, _, rfl, .play 1 1 c5 (by unfold okTwo; omega)⟩
    · exact ⟨_, _, rfl, .tie 1 1 c6 (by unfold okTwo; omega)⟩
  have W8 : ∀ t ∈ w8 nm, IsWrong nm w t := by
    intro t ht
    simp only [w8, List.map_cons, List.map_nil, List.mem_cons, List.not_mem_nil, or_false] at ht
    rcases ht with rfl | rfl | rfl | rfl
    · exact ⟨_, _, rfl, .web 0 _ v1 (by decide +kernel) (by decide)⟩
    · exact ⟨_, _, rfl, .web 13 _ v2 (by decide +kernel) (by decide)⟩
    · exact ⟨_, _, rfl, .web 3 _ v3 (by decide +kernel) (by decide)⟩
    · exact ⟨_, _, rfl, .web 2 _ v4 (by decide +kernel) (by decide)⟩
  let R : SRes → Prop := fun q => ∃ t μ', q = .rt t μ' ∧ IsWrong nm w t ∧ Keep [h] μ μ' ∧ Hand μ' h hc
  suffices hR : R (d__law_wrong [some (.ref h), some (.str nm), some (webT w), none, none, none, none, none] μ) by
    obtain ⟨t, μ', e, b, kk, HH⟩ := hR
    exact ⟨t, μ', by show (d__law_wrong [some (.ref h), some (.str nm), some (webT w), none, none, none, none, none] μ).toR = _; rw [e]; rfl, b, kk, HH⟩
  unfold d__law_wrong
  rw [s01]
  have s2 : ∀ rest : SM, (sSeq (sSet 5 (dNew (dLstL (lCons (dTup (aCons (dC (.str "held nosuch 1")) (aCons (dC (.str "name")) aNil))) (lCons (dTup (aCons (dC (.str "trees nosuch")) (aCons (dC (.str "name")) aNil))) (lCons (dTup (aCons (dC (.str "count nosuch")) (aCons (dC (.str "name")) aNil))) (lCons (dTup (aCons (dC (.str "tie nosuch 0 1")) (aCons (dC (.str "name")) aNil))) lNil))))))) rest) σ4 μ1 = rest (σ4.set 5 (some (.ref μ1.length))) (μ1 ++ [.lst w2]) := fun rest => by
    rw [sSeq_e, sSet_e, dNew_e, q2 nm hn, lbind_ok, toS_ok, seq_nx]
  rw [s2]
  have z2 : (μ1 ++ [MO.lst w2])[μ1.length]? = some (.lst w2) := by simp
  refine cat_step (P := IsWrong nm w) (R := R) (q3 nm hn _ _ _ _ _ _ _) rfl z2 (by simp [w2, w3]) W2 W3 fun k3 g3 z3 b3 => ?_
  refine cat_step (P := IsWrong nm w) (R := R) (q4 nm hn _ _ _ _ _ _ _) rfl z3 (by simp [w2, w3, w4]) b3 W4 fun k4 g4 z4 b4 => ?_
  refine cat_step (P := IsWrong nm w) (R := R) (q5 nm hn f hf _ _ _ _ _ _) rfl z4 (by simp [w2, w3, w4, w5]) b4 W5 fun k5 g5 z5 b5 => ?_
  refine cat_step (P := IsWrong nm w) (R := R) (q6 nm hn f hf _ _ _ _ _ _) rfl z5 (by simp [w2, w3, w4, w5, w6]) b5 W6 fun k6 g6 z6 b6 => ?_
  refine cat_step (P := IsWrong nm w) (R := R) (q7 nm hn _ _ _ _ _ _ _) rfl z6 (by simp [w2, w3, w4, w5, w6, w7]) b6 W7 fun k7 g7 z7 b7 => ?_
  refine cat_step (P := IsWrong nm w) (R := R) (q8 nm hn _ _ _ _ _ _ _) rfl z7 (by simp [w2, w3, w4, w5, w6, w7, w8]) b7 W8 fun k8 g8 z8 b8 => ?_
  have H8 : Hand (μ1 ++ [MO.lst w2] ++ g3 ++ g4 ++ g5 ++ g6 ++ g7 ++ g8) h hc := hand_app (hand_app (hand_app (hand_app (hand_app (hand_app (hand_app H1 _) _) _) _) _) _) _
  have K8 : Keep [h] μ (μ1 ++ [MO.lst w2] ++ g3 ++ g4 ++ g5 ++ g6 ++ g7 ++ g8) := keep_nil _ (keep_nil _ (keep_nil _ (keep_nil _ (keep_nil _ (keep_nil _ (keep_nil _ k1))))))
  have n8 : k8 ≠ h := by
    intro z
    subst z
    obtain ⟨cs', j, v, s', c, _, e', _⟩ := H8
    rw [z8] at e'
    have e2 := congrArg List.length (MO.lst.inj (Option.some.inj e'))
    simp [w2, w3] at e2
  obtain ⟨x, μ9, e9, m9, k9, H9, _⟩ := some_spec H8 z8 n8 (by simp [w2]) (by simp [w2, w3, w4, w5, w6, w7, w8])
  refine ⟨x, μ9, ?_, b8 x m9, K8.trans k9 (fun i hi _ => hi), H9⟩
  show (sRet (dFn 2 F__law_some (aCons (dVar 0) (aCons (dVar 5) aNil)))) [some (.ref h), some (.str nm), some (webT w), some (.int w.1), some (.str (dg f)), some (.ref k8), none, none] _ = _
  rw [sRet_e, dFn2]
  simp only [dVar_s, dVar_0, bind_ok, e9, toS_ok]
end K81
set_option linter.all false
set_option maxRecDepth 100000
set_option maxHeartbeats 2000000
namespace K81
open PySem PySem.Spec PyProof.Rows L2 TL
theorem put_ok2 {μ : Mem} {s st d : Nat} {m : Model} {n : Nat} {x : Str} {w : Web} {pre : List T} (h1 : μ[s]? = some (.ins "Store" [("store_stages", .ref st)])) (h2 : μ[st]? = some (.lst (pre ++ [.ref d]))) (h3 : μ[d]? = some (.dct (rep m))) (h4 : pre.length ≤ n) (hn : n ≤ 500) (hx : NameOk x) (hw : WebOk w) (hl : m.length + (if (m.lookup x).isSome = true then 0 else 1) ≤ 50) (hv : (vers m x).length + 1 ≤ 20) :
    ∃ μ', F_Store_put [.ref s, .str x, webT w] μ = .ok (.int (vers m x).length) μ' ∧ μ'[s]? = some (.ins "Store" [("store_stages", .ref st)]) ∧ μ'[st]? = some (.lst (pre ++ [.ref d] ++ [.ref μ.length])) ∧ μ'[μ.length]? = some (.dct (rep (putM m x (vers m x ++ [w])))) ∧ Keep [st] μ μ' := by
  obtain ⟨_, e0, _⟩ := put_front (n := n) ⟨pre, d, h1, h2, h3, h4⟩ hx hw
  have l1 := (List.getElem?_eq_some_iff.mp h1).1
  have l2 := (List.getElem?_eq_some_iff.mp h2).1
  have nst : μ.length ≠ st := by omega
  have ns : μ.length ≠ s := by omega
  have nss : st ≠ s := fun z => by rw [z, h1] at h2; cases h2
  have m1 : (μ ++ [MO.dct (rep m)])[μ.length]? = some (.dct (rep m)) := by simp
  have e1 : lenC [.ref μ.length] (μ ++ [.dct (rep m)]) = .ok (.int m.length) (μ ++ [.dct (rep m)]) := by rw [lenC_d m1, rep_len]
  have c1 : F_check_most [.int ((m.length : Int) + (if (m.lookup x).isSome = true then 0 else 1)), .int 50] (μ ++ [.dct (rep m)]) = .ok .non (μ ++ [.dct (rep m)]) := most_ok (by split <;> rename_i z <;> simp [z] at hl ⊢ <;> omega)
  have c2 : F_check_most [.int (((vers m x).length : Int) + 1), .int 20] (μ ++ [.dct (rep m)]) = .ok .non (μ ++ [.dct (rep m)]) := most_ok (by omega)
  have z0 : (0 : Nat) ≤ sizeLine := Nat.zero_le _
  have z1 : (1 : Nat) ≤ sizeLine := sz (by omega)
  let m' := putM m x (vers m x ++ [w])
  let μ2 := (μ ++ [MO.dct (rep m)]).set μ.length (.dct (rep m'))
  have f2 : μ2[μ.length]? = some (.dct (rep m')) := set_at m1
  have f2s : μ2[s]? = some (.ins "Store" [("store_stages", .ref st)]) := by
    show ((μ ++ [MO.dct (rep m)]).set μ.length _)[s]? = _
    rw [set_ne ns, List.getElem?_append_left l1]; exact h1
  have f2t : μ2[st]? = some (.lst (pre ++ [.ref d])) := by
    show ((μ ++ [MO.dct (rep m)]).set μ.length _)[st]? = _
    rw [set_ne nst, List.getElem?_append_left l2]; exact h2
  let μ3 := μ2.set st (.lst (pre ++ [.ref d] ++ [.ref μ.length]))
  have f3 : μ3[μ.length]? = some (.dct (rep m')) := by show (μ2.set st _)[μ.length]? = _; rw [set_ne nst.symm]; exact f2
  have gd : ∀ σ : List (Option T), dGet2 (dVar 3) (dVar 1) (dTup aNil) [some (.ref s), some (.str x), some (webT w), some (.ref μ.length)] (μ ++ [.dct (rep m)]) = .ok (wsT (vers m x)) (μ ++ [.dct (rep m)]) := fun _ => dget_d m1 rfl rfl (by simp [z0])
  have gd := gd []
  have ad : addT (wsT (vers m x)) (.tup [webT w]) (μ ++ [.dct (rep m)]) = .ok (wsT (vers m x ++ [w])) (μ ++ [.dct (rep m)]) := by
    unfold wsT addT
    dsimp only
    rw [if_pos (sz (by simp; omega))]
    simp
  have sd : setT (.ref μ.length) (.str x) (wsT (vers m x ++ [w])) (μ ++ [.dct (rep m)]) = some μ2 := by
    rw [setD m1 rfl (szl (by rw [rep_len]; split at hl <;> omega)), put_rep]
  have ap : appendT (.ref st) [.ref μ.length] μ2 = .ok .non μ3 := app_l f2t (by simp; omega)
  have L4 : ∀ (d' : AM), dLM appendT (d1 (fldT "Store" "store_stages") (dVar 0)) d' [some (.ref s), some (.str x), some (webT w), some (.ref μ.length)] μ2 = d' [some (.ref s), some (.str x), some (webT w), some (.ref μ.length)] μ2 fun ts μ4 => appendT (.ref st) ts μ4 := fun d' => lm_l (by simp [fld_s f2s]) f2t
  have sb : subT' (.ref μ.length) (.str x) μ3 = .ok (wsT (vers m x ++ [w])) μ3 := sub_d f3 (look_put_self m)
  refine ⟨μ3, ?_, ?_, set_at f2t, f3, ?_⟩
  · show (d_Store_put [some (.ref s), some (.str x), some (webT w), none] μ).toR = _
    rw [e0]
    rw [sSeq_e]
    simp only [sExpr_e, dFn_e, aCons_e, aNil_e, d2_e, dCall_e, dVar_0, dVar_s, bind_ok, e1, dIfE_e, in_d m1, ifK_e, dC_e]
    have ite : ∀ b : Bool, (if b = true then Res.ok (T.int 0) (μ ++ [.dct (rep m)]) else Res.ok (T.int 1) (μ ++ [.dct (rep m)])) = Res.ok (T.int (if b = true then 0 else 1)) (μ ++ [.dct (rep m)]) := fun b => by cases b <;> rfl
    simp only [ite, bind_ok, addT_i, List.length_cons, List.length_nil, Nat.zero_add, Nat.reduceAdd, if_true, c1, toS_ok, seq_nx]
    rw [sSeq_e]
    simp only [sExpr_e, dFn_e, aCons_e, aNil_e, d2_e, dCall_e, dVar_0, dVar_s, bind_ok, gd, len_ws, dC_e, addT_i, List.length_cons, List.length_nil, Nat.zero_add, Nat.reduceAdd, if_true, c2, toS_ok, seq_nx]
    rw [sSeq_e]
    simp only [sSub_e, d2_e, gd, bind_ok, dTup_e, aCons_e, aNil_e, dVar_0, dVar_s, List.length_cons, List.length_nil, Nat.zero_add, if_pos z1, ad, toS_ok, sd, seq_nx]
    rw [sSeq_e]
    simp only [sExpr_e, L4, aCons_e, aNil_e, dVar_0, dVar_s, bind_ok, ap, toS_ok, seq_nx, sRet_e, d2_e, dCall_e, sb, len_ws, dC_e, subT_i, toR_rt]
    congr 2
    simp
  · show (μ2.set st _)[s]? = _
    rw [set_ne nss]; exact f2s
  · refine ((keep_app [st] μ [.dct (rep m)]).trans (keep_set (S := [μ.length]) (by simp)) ?_).trans (keep_set (S := [st]) (by simp)) fun i hi _ => hi
    intro i hi hlt
    simp at hi; omega
theorem meth_undo {μ : Mem} {s st : Nat} {dd : EM} {σ : List (Option T)} (h1 : μ[s]? = some (.ins "Store" [("store_stages", .ref st)])) (e : dd σ μ = .ok (.ref s) μ) : dMeth "Store" "undo" 1 F_Store_undo dd aNil σ μ = F_Store_undo [.ref s] μ := by
  rw [methK e h1 (by rfl), aNil_e]
  simp
theorem undo_e {μ : Mem} {s st : Nat} {pre : List T} {x : T} (h1 : μ[s]? = some (.ins "Store" [("store_stages", .ref st)])) (h2 : μ[st]? = some (.lst (pre ++ [x]))) (hp : 1 ≤ pre.length) : F_Store_undo [.ref s] μ = .ok (.bl true) (μ.set st (.lst pre)) := by
  show (d_Store_undo [some (.ref s)] μ).toR = _
  unfold d_Store_undo
  have ln : lenC [.ref st] μ = .ok (.int ((pre.length : Int) + 1)) μ := by rw [lenC_l h2]; simp
  have ne : decide ((pre.length : Int) + 1 = 1) = false := by simp; omega
  have pp : popT (.ref st) [] μ = .ok x (μ.set st (.lst pre)) := by
    unfold popT
    dsimp only
    rw [h2]
    dsimp only
    have : (pre ++ [x])[(pre ++ [x]).length - 1]? = some x := by simp
    rw [this]
    simp
  have L4 : ∀ (d' : AM), dLM popT (d1 (fldT "Store" "store_stages") (dVar 0)) d' [some (.ref s)] μ = d' [some (.ref s)] μ fun ts μ4 => popT (.ref st) ts μ4 := fun d' => lm_l (by simp [fld_s h1]) h2
  rw [sSeq_e, sIf_e, d2_e, dCall_e, aCons_e, d1_e, dVar_0, bind_ok, fld_s h1, bind_ok, aNil_e, ln, bind_ok, dC_e, bind_ok, eqT_i, ne, toS_ok, sIfK_e, if_neg Bool.false_ne_true, sNil_e, seq_nx, sSeq_e, sExpr_e, L4, aNil_e, pp, toS_ok, seq_nx]
  rfl
/-- the desk over the store, its stages -/
structure Dk (μ : Mem) (dk s st : Nat) (pre : List T) (d : Nat) (m : Model) (n : Nat) : Prop where
  desk : DeskAt μ dk s
  ins : μ[s]? = some (.ins "Store" [("store_stages", .ref st)])
  stg : μ[st]? = some (.lst (pre ++ [.ref d]))
  cur : μ[d]? = some (.dct (rep m))
  few : pre.length ≤ n
theorem Dk.st' {μ : Mem} {dk s st d n : Nat} {pre : List T} {m : Model} (D : Dk μ dk s st pre d m n) : St μ s st m n := ⟨pre, d, D.ins, D.stg, D.cur, D.few⟩
theorem Dk.keep {μ μ' : Mem} {dk s st d n : Nat} {pre : List T} {m : Model} {S : List Nat} (D : Dk μ dk s st pre d m n) (k : Keep S μ μ') (hs : ∀ i ∈ S, ∀ o, μ[i]? = some o → (∃ xs, o = .lst xs) ∧ i ≠ st) : Dk μ' dk s st pre d m n := by
  refine ⟨k.at D.desk fun z => ?_, k.at D.ins fun z => ?_, k.at D.stg fun z => (hs _ z _ D.stg).2 rfl, k.at D.cur fun z => ?_, D.few⟩
  · obtain ⟨⟨xs, e⟩, _⟩ := hs _ z _ D.desk; cases e
  · obtain ⟨⟨xs, e⟩, _⟩ := hs _ z _ D.ins; cases e
  · obtain ⟨⟨xs, e⟩, _⟩ := hs _ z _ D.cur; cases e
theorem Dk.app {μ : Mem} {dk s st d n : Nat} {pre : List T} {m : Model} (D : Dk μ dk s st pre d m n) (g : Mem) : Dk (μ ++ g) dk s st pre d m n := D.keep (keep_app [] μ g) (fun i hi => by simp at hi)
/-- a web's line put -/
theorem say_line {μ : Mem} {dk s st d n : Nat} {pre : List T} {m : Model} {nm : Str} {w : Web} (D : Dk μ dk s st pre d m n) (hn : nm ∈ names3) (hw : WebS w) (hq : n ≤ 400) (hl : m.length + (if (m.lookup nm).isSome = true then 0 else 1) ≤ 50) (hv : (vers m nm).length ≤ 8) :
    ∃ μ' d', F_Desk_say [.ref dk, .str (lineOf nm w)] μ = .ok (.str ("version " ++ dg (vers m nm).length)) μ' ∧ Dk μ' dk s st (pre ++ [.ref d]) d' (putM m nm (vers m nm ++ [w])) (n + 1) ∧ Keep [st] μ μ' ∧ μ'[d]? = some (.dct (rep m)) := by
  have L := line_split hn hw
  have hf := nm_facts nm hn
  obtain ⟨g, q1, q2⟩ := say_web (μ := μ) L D.desk
  have hwl := L.words
  have pn : putNo (nm :: dg w.1 :: w.2.map pw) = false := by
    have h2 := hw.2
    rw [putNo_c, hf.2.2.1, dg_num (by omega) (by omega)]
    simp only [Bool.not_true, Option.isNone_some, Bool.or_self, Bool.false_or, List.any_map, List.any_eq_false, Function.comp_apply]
    intro p hp
    obtain ⟨a, b, c, e⟩ := hw.pr p hp
    rw [pw_pair a b c e]
    simp
  have h2 := hw.2
  obtain ⟨nm2, n2, ts2, ps2, g2, e2, hnb, i2, j1, j2, j3⟩ := (put_web_e (dk := dk) (s := s) (app_at (g := g) D.desk) ⟨st, app_at D.ins⟩ q1 (by have := hwl.1; simp [wordsOf] at this ⊢; omega) (fun x hx => by have := (hwl.2 x (by unfold wordsOf; exact List.mem_cons_of_mem _ hx)).1; omega)).2 pn
  cases e2
  have ei : i2 = w.1 := by
    rw [dg_num (by omega) (by omega)] at j1
    exact (Option.some.inj j1).symm
  have eps : ps2 = w.2 := by
    refine map_some_inj (j2.symm.trans ?_)
    rw [List.map_map]
    refine List.map_congr_left fun p hp => ?_
    obtain ⟨a, b, c, e⟩ := hw.pr p hp
    exact pw_pair a b c e
  subst ei eps
  have D2 := D.app (g ++ g2)
  rw [← List.append_assoc] at D2
  obtain ⟨μ', e1, k1, k2, k3, k4⟩ := put_ok2 D2.ins D2.stg D2.cur D2.few (by omega) (nameOk_of hf.2.2.1 (by omega)) hw.1 hl (by omega)
  have kk : Keep [st] μ μ' := (keep_app [st] μ (g ++ g2)).trans (by rw [← List.append_assoc]; exact k4) (fun i hi _ => hi)
  have nd : d ≠ st := fun z => by have a := D.cur; have b := D.stg; rw [z, b] at a; cases a
  refine ⟨μ', (μ ++ g ++ g2).length, ?_, ⟨?_, k1, k2, k3, by simp; have := D.few; omega⟩, kk, kk.at D.cur (by simp [nd])⟩
  · rw [q2, j3, e1, bind_ok]
    unfold verT
    dsimp only
    have hs := dg_str (i := ((vers m nm).length : Int)) (μ := μ') (by omega) (by omega)
    have : ((vers m nm).length : Int).natAbs.log2 < 1920 := small_cases (P := fun i => i.natAbs.log2 < 1920) (by decide +kernel) (i := ((vers m nm).length : Int)) (by omega) (by omega)
    rw [if_pos this]
    unfold addT
    dsimp only
    have l8 : ("version " : Str).length = 8 := by decide +kernel
    rw [if_pos (by rw [l8, show (Str.ofString (toString ((vers m nm).length : Int))).length = 1 from dg_len (by omega) (by omega), sizeLine_eq]; omega)]
  · have ndk : dk ≠ st := fun z => by have a : μ[dk]? = some (.ins "Desk" [("desk_store", .ref s)]) := D.desk; have b := D.stg; rw [z, b] at a; cases a
    exact kk.at D.desk (by simp [ndk])
theorem str_not {a b : Str} (h : a ≠ b) : [a] ≠ [b] := by simpa using h
theorem undo_split : Txt.split ("undo" : Str) SP = [("undo" : Str)] := by decide +kernel
theorem names_split : Txt.split ("names" : Str) SP = [("names" : Str)] := by decide +kernel
/-- the line undo -/
theorem say_undo {μ : Mem} {dk s st : Nat} {x : T} {pre : List T} (hd : DeskAt μ dk s) (hs : μ[s]? = some (.ins "Store" [("store_stages", .ref st)])) (ht : μ[st]? = some (.lst (pre ++ [x]))) (hp : 1 ≤ pre.length) : ∃ g, F_Desk_say [.ref dk, .str "undo"] μ = .ok (.str "yes") ((μ ++ g).set st (.lst pre)) := by
  have e0 : isiT "str" (.str "undo") μ = .ok (.bl true) μ := rfl
  have e1 : dSplit (dVar 1) (dC (.str " ")) [some (.ref dk), some (.str "undo"), none, none, none] μ = .ok ([("undo" : Str)].map T.str) μ := by
    rw [← undo_split]
    exact dSplit_e rfl rfl (by decide +kernel) (by decide +kernel)
  have z1 : (1 : Nat) ≤ sizeLine := sz (by omega)
  let μ1 : Mem := μ ++ [.lst [.str "undo"]]
  let μ2 : Mem := μ1 ++ [.lst [.str "undo"]]
  have a2 : μ2[μ.length]? = some (.lst (([("undo" : Str)]).map T.str)) := by simp [μ2, μ1]
  have b2 : μ2[μ1.length]? = some (.lst (([("undo" : Str)]).map T.str)) := by simp [μ2]
  have q1 := eq_strs a2 b2 (by decide +kernel) (by decide +kernel)
  rw [decide_eq_true rfl] at q1
  have d2 : DeskAt μ2 dk s := app_at (app_at hd)
  have s2 : μ2[s]? = some (.ins "Store" [("store_stages", .ref st)]) := app_at (app_at hs)
  have t2 : μ2[st]? = some (.lst (pre ++ [x])) := app_at (app_at ht)
  refine ⟨[.lst [.str "undo"]] ++ [.lst [.str "undo"]], ?_⟩
  show (d_Desk_say [some (.ref dk), some (.str "undo"), none, none, none] μ).toR = _
  unfold d_Desk_say
  rw [sSeq_e, sIf_e, dNot_e, d1_e, dVar_s, dVar_0, bind_ok, e0, bind_ok, notT_e, toS_ok, Bool.not_true, sIfK_e, if_neg Bool.false_ne_true, sNil_e, seq_nx]
  rw [sSeq_e, sSet_e, dNew_e, e1, lbind_ok, toS_ok, seq_nx]
  simp only [List.set_cons_succ, List.set_cons_zero, List.map_cons, List.map_nil]
  rw [sSeq_e, sIf_e, d2_e, dVar_s, dVar_s, dVar_0, bind_ok, dNew_e, dLstL_e, lCons_e, dC_e, bindL_ok, lNil_e]
  simp only [List.length_cons, List.length_nil, Nat.zero_add, if_pos z1, lbind_ok, bind_ok]
  rw [show eqT (.ref μ.length) (.ref (μ ++ [MO.lst [T.str "undo"]]).length) (μ ++ [MO.lst [T.str "undo"]] ++ [MO.lst [T.str "undo"]]) = .ok (.bl true) μ2 from q1]
  rw [toS_ok, sIfK_e, if_pos rfl, sRet_e, dIfE_e, meth_undo s2 (fld_dk d2), undo_e s2 t2 hp, bind_ok, ifK_e, if_pos rfl, dC_e, toS_ok, seq_rt, toR_rt]
  simp [μ2, μ1]
/-- the line names -/
theorem names_ne {μ : Mem} {s st : Nat} {dd : EM} {σ : List (Option T)} {r : Res} (h1 : μ[s]? = some (.ins "Store" [("store_stages", .ref st)])) (e : dd σ μ = .ok (.ref s) μ) (hr : F_Store_names [.ref s] μ = r) : dMeth "Store" "names" 1 F_Store_names dd aNil σ μ = r := by
  rw [methK e h1 (by rfl), aNil_e]
  simp [hr]
theorem say_names {μ : Mem} {dk s st d n : Nat} {pre : List T} {m : Model} (D : Dk μ dk s st pre d m n) (hm : m ≠ []) (hl : m.length < 64) (hz : ∀ x ∈ m.map (·.1), x.length ≤ 100) : ∃ g, F_Desk_say [.ref dk, .str "names"] μ = .ok (.str (Txt.join SP (sortS (m.map (·.1))))) (μ ++ g) := by
  have e0 : isiT "str" (.str "names") μ = .ok (.bl true) μ := rfl
  have e1 : dSplit (dVar 1) (dC (.str " ")) [some (.ref dk), some (.str "names"), none, none, none] μ = .ok ([("names" : Str)].map T.str) μ := by
    rw [← names_split]
    exact dSplit_e rfl rfl (by decide +kernel) (by decide +kernel)
  have z1 : (1 : Nat) ≤ sizeLine := sz (by omega)
  let μ1 : Mem := μ ++ [.lst [.str "names"]]
  let μ2 : Mem := μ1 ++ [.lst [.str "undo"]]
  let μ3 : Mem := μ2 ++ [.lst [.str "names"]]
  have a2 : μ2[μ.length]? = some (.lst (([("names" : Str)]).map T.str)) := by simp [μ2, μ1]
  have b2 : μ2[μ1.length]? = some (.lst (([("undo" : Str)]).map T.str)) := by simp [μ2]
  have a3 : μ3[μ.length]? = some (.lst (([("names" : Str)]).map T.str)) := by simp [μ3, μ2, μ1]
  have b3 : μ3[μ2.length]? = some (.lst (([("names" : Str)]).map T.str)) := by simp [μ3]
  have q1 := eq_strs a2 b2 (by decide +kernel) (by decide +kernel)
  have q2 := eq_strs a3 b3 (by decide +kernel) (by decide +kernel)
  rw [decide_eq_false (by decide +kernel)] at q1
  rw [decide_eq_true rfl] at q2
  have e3 : μ3 = μ ++ ([.lst [.str "names"]] ++ [.lst [.str "undo"]] ++ [.lst [.str "names"]]) := by simp [μ3, μ2, μ1]
  have D3 : Dk μ3 dk s st pre d m n := by rw [e3]; exact D.app _
  have nm := names_ok D3.st' hl
  have nn : ∀ r : List (Option T), dMeth "Store" "names" 1 F_Store_names (d1 (fldT "Desk" "desk_store") (dVar 0)) aNil (some (.ref dk) :: r) μ3 = .ok (.tup ((sortS (m.map (·.1))).map T.str)) μ3 := fun r => names_ne D3.ins (fld_dk D3.desk) nm
  have hlen : (sortS (m.map (·.1))).length = m.length := by
    have := (List.mergeSort_perm (m.map (·.1)) leS).length_eq
    rw [List.length_map] at this
    exact this
  have pos : decide (((m.length : Nat) : Int) > 0) = true := by
    have := List.length_pos_iff.mpr hm
    simp; omega
  have hs : ((sortS (m.map (·.1))).map (·.length)).sum ≤ m.length * 100 := by
    have key : ∀ l : List Str, (∀ x ∈ l, x.length ≤ 100) → (l.map (·.length)).sum ≤ l.length * 100 := by
      intro l
      induction l with
      | nil => intro _; simp
      | cons x r ih =>
        intro h
        have := ih fun y hy => h y (by simp [hy])
        have := h x (by simp)
        simp only [List.map_cons, List.sum_cons, List.length_cons]
        omega
    have := key (sortS (m.map fun p : Str × List Web => p.1)) fun x hx => hz x ((List.mergeSort_perm (m.map (·.1)) leS).mem_iff.mp (show x ∈ (m.map (·.1)).mergeSort leS from hx))
    rw [hlen] at this
    exact this
  refine ⟨[.lst [.str "names"]] ++ [.lst [.str "undo"]] ++ [.lst [.str "names"]], ?_⟩
  rw [← e3]
  show (d_Desk_say [some (.ref dk), some (.str "names"), none, none, none] μ).toR = _
  unfold d_Desk_say
  rw [sSeq_e, sIf_e, dNot_e, d1_e, dVar_s, dVar_0, bind_ok, e0, bind_ok, notT_e, toS_ok, Bool.not_true, sIfK_e, if_neg Bool.false_ne_true, sNil_e, seq_nx]
  rw [sSeq_e, sSet_e, dNew_e, e1, lbind_ok, toS_ok, seq_nx]
  simp only [List.set_cons_succ, List.set_cons_zero, List.map_cons, List.map_nil]
  rw [sSeq_e, sIf_e, d2_e, dVar_s, dVar_s, dVar_0, bind_ok, dNew_e, dLstL_e, lCons_e, dC_e, bindL_ok, lNil_e]
  simp only [List.length_cons, List.length_nil, Nat.zero_add, if_pos z1, lbind_ok, bind_ok]
  rw [show eqT (.ref μ.length) (.ref (μ ++ [MO.lst [T.str "names"]]).length) (μ ++ [MO.lst [T.str "names"]] ++ [MO.lst [T.str "undo"]]) = .ok (.bl false) μ2 from q1]
  rw [toS_ok, sIfK_e, if_neg Bool.false_ne_true, sNil_e, seq_nx]
  rw [sSeq_e, sIf_e, d2_e, dVar_s, dVar_s, dVar_0, bind_ok, dNew_e, dLstL_e, lCons_e, dC_e, bindL_ok, lNil_e]
  simp only [List.length_cons, List.length_nil, Nat.zero_add, if_pos z1, lbind_ok, bind_ok]
  rw [show eqT (.ref μ.length) (.ref μ2.length) (μ2 ++ [MO.lst [T.str "names"]]) = .ok (.bl true) μ3 from q2]
  rw [toS_ok, sIfK_e, if_pos rfl, sRet_e, dIfE_e, d2_e, dCall_e, aCons_e, nn, bind_ok, aNil_e, lenC_t, bind_ok, dC_e, bind_ok, gtT_i, List.length_map, hlen, pos, bind_ok, ifK_e, if_pos rfl]
  unfold dJoin
  rw [dC_e, bind_ok, if_pos (show isStr (T.str " ") = true from rfl)]
  unfold dSeq
  rw [nn, bindL_ok]
  show ((((LRes.ok ((sortS (m.map (·.1))).map T.str) μ3).bind fun ys μ2 => joinQ (.str " ") ys μ2).toS fun t μ1 => .rt t μ1).seq _).toR = _
  rw [lbind_ok]
  unfold joinQ
  rw [unS_map]
  dsimp only
  have l1 : (" " : Str).length = 1 := by decide +kernel
  rw [if_pos (by rw [l1, hlen]; omega)]
  rfl
end K81
set_option linter.all false
set_option maxRecDepth 100000
set_option maxHeartbeats 1000000
namespace K81
open PySem PySem.Spec PyProof.Rows L2 TL
/-! ### the account -/
def repA (A : List (Str × Nat)) : List (Key × T) := A.map fun p => (Sum.inr p.1, .ref p.2)
theorem val_repA {n : Str} : ∀ A : List (Str × Nat), valT (repA A) (Sum.inr n) = (A.lookup n).map T.ref
  | [] => rfl
  | (k, l) :: r => by
    have ih := val_repA (n := n) r
    unfold valT repA at ih ⊢
    by_cases h : k = n
    · subst h; simp [List.lookup]
    · have h2 : (n == k) = false := by simpa using fun z : n = k => h z.symm
      simp only [List.map_cons, List.find?_cons, List.lookup, h2]
      have h3 : decide ((Sum.inr k : Key) = Sum.inr n) = false := by simpa using h
      rw [h3]
      exact ih
theorem keys_repA : ∀ A : List (Str × Nat), keyS (repA A) = some (A.map (·.1))
  | [] => rfl
  | (k, ws) :: r => by
    have ih := keys_repA r
    unfold repA at ih ⊢
    simp only [List.map_cons, keyS, ih, Option.map_some]
theorem lookup_some {α : Type} {x : Str} : ∀ {l : List (Str × α)}, x ∈ l.map (·.1) → ∃ v, l.lookup x = some v ∧ (x, v) ∈ l
  | [], h => by simp at h
  | (k, v) :: r, h => by
    by_cases e : x = k
    · subst e; exact ⟨v, by simp [List.lookup], by simp⟩
    · have h2 : (x == k) = false := by simpa using e
      obtain ⟨v', h3, h4⟩ := lookup_some (l := r) (x := x) (by simp at h; rcases h with h | h; exact absurd h e; simpa using h)
      exact ⟨v', by simp only [List.lookup, h2]; exact h3, by simp [h4]⟩
theorem lookup_none {α : Type} {x : Str} : ∀ {l : List (Str × α)}, x ∉ l.map (·.1) → l.lookup x = none
  | [], _ => rfl
  | (k, v) :: r, h => by
    simp at h
    have h2 : (x == k) = false := by simpa using h.1
    simp only [List.lookup, h2]
    exact lookup_none (l := r) (by simpa using h.2)
theorem mem_sort {x : Str} {l : List Str} : x ∈ sortS l ↔ x ∈ l := (List.mergeSort_perm l leS).mem_iff
theorem sortD_e {μ : Mem} {a : Nat} {A : List (Str × Nat)} {dd : EM} {σ : List (Option T)} (e : dd σ μ = .ok (.ref a) μ) (h : μ[a]? = some (.dct (repA A))) (hl : A.length < 64) : dSortD dd σ μ = .ok ((sortS (A.map (·.1))).map T.str) μ := by
  unfold dSortD
  rw [e, bindL_ok]
  have e1 : dctT μ (.ref a) = some (repA A) := by unfold dctT; dsimp only; rw [h]
  rw [e1]
  dsimp only
  rw [keys_repA]
  dsimp only
  rw [if_pos (by simpa using hl)]
theorem word_exc {c : Str} {fs : List (Str × T)} {μ : Mem} (h : c ∈ errs) : wordF (.exc c fs μ) = .ok (.str (wordOf c)) (μ ++ wordG c) := by
  have w0 : wordF (.exc c fs μ) = if c ∈ errs then .ok (.str (wordOf c)) (μ ++ wordG c) else .bad := rfl
  rw [w0, if_pos h]
end K81
set_option linter.all false
set_option maxRecDepth 100000
set_option maxHeartbeats 1000000
namespace K81
open PySem PySem.Spec PyProof.Rows L2 TL
/-! ### a name's list in the account -/
def putA (A : List (Str × Nat)) (n : Str) (l : Nat) : List (Str × Nat) := if (A.any fun p => decide (p.1 = n)) = true then A.map (fun p => if p.1 = n then (p.1, l) else p) else A ++ [(n, l)]
theorem any_repA {n : Str} : ∀ A : List (Str × Nat), ((repA A).any fun kv => decide (kv.1 = (Sum.inr n : Key))) = A.any fun p => decide (p.1 = n)
  | [] => rfl
  | (k, ws) :: r => by
    have ih := any_repA (n := n) r
    unfold repA at ih ⊢
    simp only [List.map_cons, List.any_cons]
    rw [ih]
    congr 1
    simp
theorem put_repA {n : Str} {l : Nat} (A : List (Str × Nat)) : putKT (repA A) (Sum.inr n) (.ref l) = repA (putA A n l) := by
  unfold putKT putA
  rw [any_repA]
  split
  · unfold repA
    rw [List.map_map, List.map_map]
    apply List.map_congr_left
    intro p _
    by_cases h : p.1 = n
    · simp [h]
    · simp [h]
  · unfold repA; simp
theorem keys_putA {n : Str} {l : Nat} (A : List (Str × Nat)) : (putA A n l).map (·.1) = if (A.any fun p => decide (p.1 = n)) = true then A.map (·.1) else A.map (·.1) ++ [n] := by
  unfold putA
  split
  · rw [List.map_map]
    apply List.map_congr_left
    intro p _
    by_cases h : p.1 = n <;> simp [h]
  · simp
theorem mem_putA {n : Str} {l : Nat} {A : List (Str × Nat)} {p : Str × Nat} (h : p ∈ putA A n l) : (p.1 = n ∧ p.2 = l) ∨ (p ∈ A ∧ p.1 ≠ n) := by
  unfold putA at h
  split at h
  · obtain ⟨q, hq, rfl⟩ := List.mem_map.mp h
    by_cases e : q.1 = n
    · rw [if_pos e]; exact .inl ⟨e, rfl⟩
    · rw [if_neg e]; exact .inr ⟨hq, e⟩
  · rename_i hn
    rcases List.mem_append.mp h with h | h
    · refine .inr ⟨h, fun e => hn ?_⟩
      exact List.any_eq_true.mpr ⟨p, h, by simp [e]⟩
    · simp at h; subst h; exact .inl ⟨rfl, rfl⟩
theorem any_mem {α : Type} {n : Str} {A : List (Str × α)} : (A.any fun p => decide (p.1 = n)) = true ↔ n ∈ A.map (·.1) := by
  rw [List.any_eq_true, List.mem_map]
  constructor
  · rintro ⟨p, hp, e⟩; exact ⟨p, hp, by simpa using e⟩
  · rintro ⟨p, hp, e⟩; exact ⟨p, hp, by simp [e]⟩
theorem nodup_put {α : Type} {n : Str} {A : List (Str × α)} (nd : (A.map (·.1)).Nodup) : (if (A.any fun p => decide (p.1 = n)) = true then A.map (·.1) else A.map (·.1) ++ [n]).Nodup := by
  split
  · exact nd
  · rename_i h
    rw [any_mem] at h
    rw [List.nodup_append]
    exact ⟨nd, by simp, fun a ha b hb => by simp at hb; subst hb; exact fun e => h (e ▸ ha)⟩
theorem mem_put {α : Type} {n x : Str} {A : List (Str × α)} : x ∈ (if (A.any fun p => decide (p.1 = n)) = true then A.map (·.1) else A.map (·.1) ++ [n]) ↔ x ∈ A.map (·.1) ∨ x = n := by
  split
  · rename_i h
    rw [any_mem] at h
    constructor
    · exact .inl
    · rintro (q | rfl)
      · exact q
      · exact h
  · simp
theorem vers_none {m : Model} {x : Str} (h : m.lookup x = none) : vers m x = [] := by unfold vers; rw [h]; rfl
theorem vers_some {m : Model} {x : Str} {ws : List Web} (h : m.lookup x = some ws) : vers m x = ws := by unfold vers; rw [h]; rfl
end K81
set_option linter.all false
set_option maxRecDepth 100000
set_option maxHeartbeats 2000000
namespace K81
open PySem PySem.Spec PyProof.Rows L2 TL
structure Acc (μ : Mem) (h st a : Nat) (A : List (Str × Nat)) (m : Model) : Prop where
  da : μ[a]? = some (.dct (repA A))
  keys : m.map (·.1) = A.map (·.1)
  nd : (A.map (·.1)).Nodup
  sub : ∀ x ∈ A.map (·.1), x ∈ names3
  ws : ∀ p ∈ A, ∃ ws w, m.lookup p.1 = some (ws ++ [w]) ∧ μ[p.2]? = some (.lst ((ws ++ [w]).map webT)) ∧ p.2 ≠ h ∧ p.2 ≠ st ∧ (∀ v ∈ ws ++ [w], WebS v) ∧ (ws ++ [w]).length ≤ 2
structure Wd (μ : Mem) (h hc dk s st a : Nat) (pre : List T) (d : Nat) (A : List (Str × Nat)) (m : Model) (n : Nat) : Prop where
  H : Hand μ h hc
  D : Dk μ dk s st pre d m n
  C : Acc μ h st a A m
  hst : h ≠ st
  hcst : hc ≠ st
theorem Acc.keep {μ μ' : Mem} {h st a : Nat} {A : List (Str × Nat)} {m : Model} {S : List Nat} (C : Acc μ h st a A m) (k : Keep S μ μ') (hS : ∀ i ∈ S, i = h ∨ i = st) (hl : ∀ i ∈ S, ∃ xs, μ[i]? = some (.lst xs)) : Acc μ' h st a A m := by
  refine ⟨k.at C.da fun z => ?_, C.keys, C.nd, C.sub, fun p hp => ?_⟩
  · obtain ⟨xs, e⟩ := hl _ z
    rw [C.da] at e; cases e
  · obtain ⟨ws, w, e1, e2, n1, n2, e3, e4⟩ := C.ws p hp
    exact ⟨ws, w, e1, k.at e2 (fun z => (hS _ z).elim n1 n2), n1, n2, e3, e4⟩
theorem hand_at {μ : Mem} {h hc : Nat} (H : Hand μ h hc) : ∃ xs, μ[h]? = some (.lst xs) := by
  obtain ⟨_, _, _, _, _, _, e, _⟩ := H; exact ⟨_, e⟩
theorem Wd.keepH {μ μ' : Mem} {h hc dk s st a d n : Nat} {pre : List T} {A : List (Str × Nat)} {m : Model} (W : Wd μ h hc dk s st a pre d A m n) (k : Keep [h] μ μ') (H' : Hand μ' h hc) : Wd μ' h hc dk s st a pre d A m n :=
  ⟨H', W.D.keep k (fun i hi o ho => by
    simp at hi; subst hi
    obtain ⟨xs, e⟩ := hand_at W.H
    rw [e] at ho; cases ho
    exact ⟨⟨_, rfl⟩, W.hst⟩), W.C.keep k (fun i hi => by simp at hi; exact .inl hi) (fun i hi => by simp at hi; subst hi; exact hand_at W.H), W.hst, W.hcst⟩
theorem Wd.app {μ : Mem} {h hc dk s st a d n : Nat} {pre : List T} {A : List (Str × Nat)} {m : Model} (W : Wd μ h hc dk s st a pre d A m n) (g : Mem) : Wd (μ ++ g) h hc dk s st a pre d A m n :=
  ⟨hand_app W.H g, W.D.app g, W.C.keep (keep_app [] μ g) (fun i hi => by simp at hi) (fun i hi => by simp at hi), W.hst, W.hcst⟩
theorem mem_names {x : Str} {A : List (Str × Nat)} (h : x ∈ A.map (·.1)) : ∃ l, (x, l) ∈ A := by
  obtain ⟨p, hp, rfl⟩ := List.mem_map.mp h
  exact ⟨p.2, hp⟩
theorem lookup_nd {α : Type} {x : Str} {v : α} : ∀ {l : List (Str × α)}, (l.map (·.1)).Nodup → (x, v) ∈ l → l.lookup x = some v
  | (y, u) :: r, nd, h => by
    rw [List.map_cons, List.nodup_cons] at nd
    rcases List.mem_cons.mp h with h | h
    · cases h; simp [List.lookup]
    · have hne : x ≠ y := fun z => nd.1 (by rw [← z]; exact List.mem_map.mpr ⟨_, h, rfl⟩)
      have : (x == y) = false := by simpa using hne
      rw [List.lookup, this]
      exact lookup_nd nd.2 h
theorem nd3 : ∀ l : List Str, l.Nodup → (∀ x ∈ l, x ∈ names3) → l.length ≤ 3 := by
  have key : ∀ (bs l : List Str), l.Nodup → (∀ x ∈ l, x ∈ bs) → l.length ≤ bs.length := by
    intro bs
    induction bs with
    | nil =>
      intro l _ h
      cases l with
      | nil => simp
      | cons x r => exact absurd (h x (by simp)) (by simp)
    | cons b bs ih =>
      intro l nd h
      have := ih (l.erase b) (nd.erase b) (fun x hx => by
        have hm := (List.Nodup.mem_erase_iff nd).mp hx
        exact (List.mem_cons.mp (h x hm.2)).resolve_left hm.1)
      have := List.length_erase (a := b) (l := l)
      simp only [List.length_cons]
      split at this <;> omega
  intro l nd h
  have := key names3 l nd h
  exact this
theorem meth_say {μ μ1 : Mem} {dk s : Nat} {z : T} {dd dx : EM} {σ : List (Option T)} (hd : DeskAt μ dk s) (e : dd σ μ = .ok (.ref dk) μ) (ex : dx σ μ = .ok z μ1) : dMeth "Desk" "say" 2 F_Desk_say dd (aCons dx aNil) σ μ = F_Desk_say [.ref dk, z] μ1 := by
  rw [methK e hd rfl, aCons_e, ex, bind_ok, aNil_e]
  simp
/-- what the account tells of a name -/
theorem Acc.at {μ : Mem} {h st a : Nat} {A : List (Str × Nat)} {m : Model} {x : Str} (C : Acc μ h st a A m) (hx : x ∈ A.map (·.1)) : ∃ l ws w, m.lookup x = some (ws ++ [w]) ∧ subT' (.ref a) (.str x) μ = .ok (.ref l) μ ∧ μ[l]? = some (.lst ((ws ++ [w]).map webT)) ∧ WebS w ∧ (ws ++ [w]).length ≤ 2 ∧ l ≠ h ∧ l ≠ st := by
  obtain ⟨l, hl⟩ := mem_names hx
  obtain ⟨ws, w, e1, e2, n1, n2, e3, e4⟩ := C.ws _ hl
  refine ⟨l, ws, w, e1, ?_, e2, e3 w (by simp), e4, n1, n2⟩
  refine subD C.da rfl ?_
  rw [val_repA, lookup_nd C.nd hl]
  rfl
theorem last_e {μ : Mem} {l : Nat} {ws : List Web} {w : Web} (h : μ[l]? = some (.lst ((ws ++ [w]).map webT))) : subT' (.ref l) (.int (-1)) μ = .ok (webT w) μ := by
  rw [List.map_append] at h
  exact subL h atI_last
theorem mlen {μ : Mem} {h st a : Nat} {A : List (Str × Nat)} {m : Model} (C : Acc μ h st a A m) : m.length ≤ 3 ∧ A.length ≤ 3 ∧ m.length = A.length := by
  have h1 := nd3 _ C.nd C.sub
  have h2 := congrArg List.length C.keys
  rw [List.length_map, List.length_map] at h2
  rw [List.length_map] at h1
  omega
theorem one_name {μ : Mem} {h hc dk s st a d n : Nat} {pre : List T} {A : List (Str × Nat)} {m : Model} {x : Str} {o : Option T} (W : Wd μ h hc dk s st a pre d A m n) (hn : n ≤ 300) (hx : x ∈ A.map (·.1)) :
    ∃ μ', (sSeq (sIf (d2 neT (dMeth "Desk" "say" 2 F_Desk_say (dVar 0) (aCons (dFn 2 F__law_web_line (aCons (dVar 2) (aCons (d2 subT' (d2 subT' (dVar 1) (dVar 2)) (d1 negT (dC (.int 1)))) aNil))) aNil)) (d2 addT (dC (.str "version ")) (dCall strC (aCons (dCall lenC (aCons (d2 subT' (dVar 1) (dVar 2)) aNil)) aNil)))) (sRet (dC (.bl false))) sNil)
      (sIf (d2 neT (dMeth "Desk" "say" 2 F_Desk_say (dVar 0) (aCons (dC (.str "undo")) aNil)) (dC (.str "yes"))) (sRet (dC (.bl false))) sNil)) [some (.ref dk), some (.ref a), some (.str x)] μ = .nx [some (.ref dk), some (.ref a), some (.str x)] μ' ∧ Wd μ' h hc dk s st a pre d A m n := by
  obtain ⟨l, ws, w, e1, e2, e3, e4, e5, n1, n2⟩ := W.C.at hx
  have hn3 := W.C.sub x hx
  obtain ⟨g, eg⟩ := web_line_e (μ := μ) hn3 e4
  have W1 := W.app g
  have hml := mlen W.C
  have hv : vers m x = ws ++ [w] := vers_some e1
  obtain ⟨μ2, d', q1, D2, k2, c2⟩ := say_line W1.D hn3 e4 (by omega) (by rw [e1]; simp; omega) (by rw [hv]; omega)
  rw [hv] at q1
  have k12 : Keep [st] μ μ2 := (keep_app [st] μ g).trans k2 (fun i hi _ => hi)
  have lst_st : ∀ i ∈ [st], ∃ xs, μ[i]? = some (.lst xs) := fun i hi => by simp at hi; subst hi; exact ⟨_, W.D.stg⟩
  have C2 := W.C.keep k12 (fun i hi => by simp at hi; exact .inr hi) lst_st
  have e3' : μ2[l]? = some (.lst ((ws ++ [w]).map webT)) := k12.at e3 (by simp [n2])
  have ed : subT' (.ref a) (.str x) μ2 = .ok (.ref l) μ2 := by
    refine subD C2.da rfl ?_
    rw [val_repA]
    obtain ⟨l', hl'⟩ := mem_names hx
    have q := subD W.C.da (x := .str x) rfl (t := .ref l') (by rw [val_repA, lookup_nd W.C.nd hl']; rfl)
    rw [e2] at q
    cases q
    rw [lookup_nd W.C.nd hl']
    rfl
  obtain ⟨g3, e6⟩ := say_undo D2.desk D2.ins D2.stg (by simp)
  have k3 : Keep [st] μ ((μ2 ++ g3).set st (.lst (pre ++ [.ref d]))) := ((k12.trans (keep_app [st] μ2 g3) (fun i hi _ => hi)).trans (keep_set (S := [st]) (by simp)) (fun i hi _ => hi))
  have nd : d ≠ st := fun z => by have a := W.D.cur; have b := W.D.stg; rw [z, b] at a; cases a
  have ndk : dk ≠ st := fun z => by have a : μ[dk]? = some (.ins "Desk" [("desk_store", .ref s)]) := W.D.desk; have b := W.D.stg; rw [z, b] at a; cases a
  have ns : s ≠ st := fun z => by have a := W.D.ins; have b := W.D.stg; rw [z, b] at a; cases a
  refine ⟨(μ2 ++ g3).set st (.lst (pre ++ [.ref d])), ?_, ⟨W.H.keep k3 (by simp [W.hst]) (by simp [W.hcst]), ⟨k3.at W.D.desk (by simp [ndk]), k3.at W.D.ins (by simp [ns]), set_at (app_at D2.stg), k3.at W.D.cur (by simp [nd]), W.D.few⟩, W.C.keep k3 (fun i hi => by simp at hi; exact .inr hi) lst_st, W.hst, W.hcst⟩⟩
  have arg : dFn 2 F__law_web_line (aCons (dVar 2) (aCons (d2 subT' (d2 subT' (dVar 1) (dVar 2)) (d1 negT (dC (.int 1)))) aNil)) [some (.ref dk), some (.ref a), some (.str x)] μ = .ok (.str (lineOf x w)) (μ ++ g) := by
    rw [dFn2]
    simp only [dVar_s, dVar_0, bind_ok, d2_e, d1_e, dC_e, negT_i, e2, last_e e3, eg]
  have ln : lenC [.ref l] μ2 = .ok (.int ((ws ++ [w]).length : Int)) μ2 := by rw [lenC_l e3', List.length_map]
  have str : strC [.int ((ws ++ [w]).length : Int)] μ2 = .ok (.str (dg ((ws ++ [w]).length : Int))) μ2 := dg_str (by omega) (by omega)
  have ad : addT (.str "version ") (.str (dg ((ws ++ [w]).length : Int))) μ2 = .ok (.str ("version " ++ dg ((ws ++ [w]).length : Int))) μ2 := by
    have l8 : ("version " : Str).length = 8 := by decide +kernel
    unfold addT
    dsimp only
    rw [if_pos (by rw [l8, dg_len (by omega) (by omega), sizeLine_eq]; omega)]
  rw [sSeq_e, sIf_e, d2_e, meth_say W.D.desk rfl arg, q1, bind_ok, d2_e, dC_e, bind_ok, dCall_e, aCons_e, dCall_e, aCons_e, d2_e, dVar_s, dVar_0, bind_ok, dVar_s, dVar_s, dVar_0, bind_ok, ed, bind_ok, aNil_e, ln, bind_ok, aNil_e, str, bind_ok, ad, bind_ok, neT_e, eqT_s, decide_eq_true rfl, bind_ok, notT_e, toS_ok, Bool.not_true, sIfK_e, if_neg Bool.false_ne_true, sNil_e, seq_nx]
  rw [sIf_e, d2_e, meth_say D2.desk rfl (dC_e), e6, bind_ok, dC_e, bind_ok, neT_e, eqT_s, decide_eq_true rfl, bind_ok, notT_e, toS_ok, Bool.not_true, sIfK_e, if_neg Bool.false_ne_true, sNil_e]
end K81
set_option linter.all false
set_option maxRecDepth 100000
set_option maxHeartbeats 2000000
namespace K81
open PySem PySem.Spec PyProof.Rows L2 TL
def handI (i : Int) : Int := (if i < 0 then -i else i) % (10 ^ (60 : Int).toNat)
def handAt : T → T
  | .int i => .int (handI i)
  | t => t
theorem handI_nn (i : Int) : 0 ≤ handI i := Int.emod_nonneg _ (by decide)
theorem pow60 : CPow 10 60 := by decide
theorem hand_ok {μ : Mem} {v : T} {ns : List Int} (hn : ns.length ≤ 63) (hv : v = .fl ns ∨ ∃ k, v = .ref k ∧ μ[k]? = some (.lst (ns.map T.int))) : ∃ h hc μ', F__law_hand [v] μ = .ok (.ref h) μ' ∧ Hand μ' h hc := by
  have z5 : (5 : Nat) ≤ sizeLine := sz (by omega)
  obtain ⟨ms, em, lm⟩ : ∃ ms : List Int, cutT (ns.map T.int) none (some 63) = ms.map T.int ∧ ms.length ≤ 63 := by
    refine ⟨(ns.drop (HT.sIx (ns.map T.int).length 0 none)).take (HT.sIx (ns.map T.int).length (ns.map T.int).length (some 63) - HT.sIx (ns.map T.int).length 0 none), ?_, ?_⟩
    · unfold cutT
      rw [List.map_take, List.map_drop]
    · simp only [List.length_take, List.length_drop]
      omega
  let μ0 : Mem := μ ++ [MO.lst (ms.map T.int)]
  have w0 : μ0[μ.length]? = some (.lst (ms.map T.int)) := by simp [μ0]
  have sl : dSl (dVar 0) none (some (dC (.int 63))) [some v, none, none] μ = .ok (.ref μ.length) μ0 := by
    rcases hv with rfl | ⟨k, rfl, hk⟩
    · show Res.ok (.ref μ.length) (μ ++ [.lst (cutT (ns.map T.int) none (some 63))]) = _
      rw [em]
    · show (match μ[k]? with | some (MO.lst xs) => Res.ok (.ref μ.length) (μ ++ [MO.lst (cutT xs none (some 63))]) | _ => .bad) = _
      rw [hk]
      dsimp only
      rw [em]
  have lc : dLc (dIter (dSl (dVar 0) none (some (dC (.int 63))))) (.nm 2) [2] none (d2 modT (dCall absC (aCons (dCall intC (aCons (dVar 2) aNil)) aNil)) (d2 powT (dC (.int 10)) (dC (.int 60)))) [some v, none, none] μ = .ok ((ms.map handI).map T.int) μ0 := by
    have g := lc_all (ws := [(μ.length, ms.map T.int)]) (i := 2) (el := d2 modT (dCall absC (aCons (dCall intC (aCons (dVar 2) aNil)) aNil)) (d2 powT (dC (.int 10)) (dC (.int 60)))) (σ := [some v, none, none]) (μ := μ0) (f := handAt) (watched_one w0) (ms.map T.int) [] (fun x hx => by
      obtain ⟨i, _, rfl⟩ := List.mem_map.mp hx
      have pp : (0 : Int) < 10 ^ (60 : Int).toNat := by decide
      have ab : ∀ μ', absC [.int i] μ' = .ok (.int (if i < 0 then -i else i)) μ' := fun _ => rfl
      have it : ∀ μ', intC [.int i] μ' = .ok (.int i) μ' := fun _ => rfl
      simp only [List.set_cons_succ, List.set_cons_zero, d2_e, dCall_e, aCons_e, aNil_e, dVar_s, dVar_0, dC_e, bind_ok, it, ab, powT_i pow60, modT_i pp]
      rfl) (by simp; omega)
    unfold dLc dIter
    rw [sl]
    dsimp only
    rw [w0]
    show lcGo [(μ.length, ms.map T.int)] (.nm 2) none _ [some v, none, none] (ms.map T.int) [] μ0 = _
    rw [g, List.nil_append, List.map_map, List.map_map]
    rfl
  let μ1 : Mem := μ0 ++ [MO.lst ((ms.map handI).map T.int)]
  have n1 : μ1[μ0.length]? = some (.lst ((ms.map handI).map T.int)) := by simp [μ1]
  let L5 : List T := [.ref μ0.length, .int 0, .int 0, .int (8111 + 7 * ((ms.map handI).map T.int).length), .int 0]
  refine ⟨μ1.length, μ0.length, μ1 ++ [MO.lst L5], ?_, ?_⟩
  · have e1 : dNew (dLc (dIter (dSl (dVar 0) none (some (dC (.int 63))))) (.nm 2) [2] none (d2 modT (dCall absC (aCons (dCall intC (aCons (dVar 2) aNil)) aNil)) (d2 powT (dC (.int 10)) (dC (.int 60))))) [some v, none, none] μ = .ok (.ref μ0.length) μ1 := by
      rw [dNew_e, lc, lbind_ok]
    have cm : CMul 7 (((ms.map handI).map T.int).length : Int) := by unfold CMul; simp <;> omega
    show (d__law_hand [some v, none, none] μ).toR = _
    unfold d__law_hand
    rw [sSeq_e, sSet_e, e1, toS_ok]
    simp only [List.set_cons_succ, List.set_cons_zero, seq_nx, sRet_e, dNew_e, dLstL_e, lCons_e, lNil_e, dVar_s, dVar_0, dC_e, bindL_ok, d2_e, bind_ok, dCall_e, aCons_e, aNil_e, lenC_l n1, mulT_i cm, addT_i, List.length_cons, List.length_nil, Nat.zero_add, Nat.reduceAdd, if_pos z5, lbind_ok, toS_ok]
    rfl
  · have k := keep_app [] μ1 [MO.lst L5]
    refine ⟨ms.map handI, 0, 0, 8111 + 7 * ((ms.map handI).map T.int).length, 0, by simp [μ1], by simp [L5], k.at n1 (by simp), by omega, by omega, ?_⟩
    intro x hx
    obtain ⟨i, _, rfl⟩ := List.mem_map.mp hx
    exact handI_nn i
end K81
set_option linter.all false
set_option maxRecDepth 100000
set_option maxHeartbeats 2000000
namespace K81
open PySem PySem.Spec PyProof.Rows L2 TL
theorem unchanged_e {μ : Mem} {h hc dk s st a d n : Nat} {pre : List T} {A : List (Str × Nat)} {m : Model} (W : Wd μ h hc dk s st a pre d A m n) (hn : n ≤ 300) (hA : A ≠ []) : ∃ μ', F__law_is_unchanged [.ref dk, .ref a] μ = .ok (.bl true) μ' ∧ Wd μ' h hc dk s st a pre d A m n := by
  have hml := mlen W.C
  have hm : m ≠ [] := fun z => by rw [z] at hml; exact hA (List.eq_nil_of_length_eq_zero (by simp at hml; omega))
  have hlen : ∀ x ∈ m.map (·.1), x.length ≤ 100 := fun x hx => by
    rw [W.C.keys] at hx
    have := (nm_facts x (W.C.sub x hx)).2.1
    omega
  obtain ⟨g, e⟩ := say_names W.D hm (by omega) hlen
  have W1 := W.app g
  have so : ∀ (σ : List (Option T)) (μ' : Mem), μ'[a]? = some (.dct (repA A)) → dSortD (dVar 1) (some (.ref dk) :: some (.ref a) :: σ) μ' = .ok ((sortS (A.map (·.1))).map T.str) μ' := fun σ μ' ha => sortD_e (by simp) ha (by omega)
  have hs : (sortS (A.map (·.1))).length = A.length := by
    have := (List.mergeSort_perm (A.map (·.1)) leS).length_eq
    rw [List.length_map] at this
    exact this
  have hsum : ((sortS (A.map (·.1))).map (·.length)).sum ≤ A.length * 100 := by
    have key : ∀ l : List Str, (∀ x ∈ l, x.length ≤ 100) → (l.map (·.length)).sum ≤ l.length * 100 := by
      intro l
      induction l with
      | nil => intro _; simp
      | cons x r ih =>
        intro h
        have := ih fun y hy => h y (by simp [hy])
        have := h x (by simp)
        simp only [List.map_cons, List.sum_cons, List.length_cons]
        omega
    have := key (sortS (A.map fun p : Str × Nat => p.1)) fun x hx => by
      have := (nm_facts x (W.C.sub x (mem_sort.mp hx))).2.1
      omega
    rw [hs] at this
    exact this
  have jn : dJoin (dC (.str " ")) (dSortD (dVar 1)) [some (.ref dk), some (.ref a), none] (μ ++ g) = .ok (.str (Txt.join SP (sortS (A.map (·.1))))) (μ ++ g) := by
    unfold dJoin
    rw [dC_e, bind_ok, if_pos (show isStr (T.str " ") = true from rfl), so _ _ W1.C.da, lbind_ok]
    unfold joinQ
    rw [unS_map]
    dsimp only
    have l1 : (" " : Str).length = 1 := by decide +kernel
    rw [if_pos (by rw [l1, hs]; omega)]
  obtain ⟨σ2, μ2, e2, ⟨o, rfl, W2⟩⟩ := for_inv (i := 2) (body := sSeq (sIf (d2 neT (dMeth "Desk" "say" 2 F_Desk_say (dVar 0) (aCons (dFn 2 F__law_web_line (aCons (dVar 2) (aCons (d2 subT' (d2 subT' (dVar 1) (dVar 2)) (d1 negT (dC (.int 1)))) aNil))) aNil)) (d2 addT (dC (.str "version ")) (dCall strC (aCons (dCall lenC (aCons (d2 subT' (dVar 1) (dVar 2)) aNil)) aNil)))) (sRet (dC (.bl false))) sNil)
      (sIf (d2 neT (dMeth "Desk" "say" 2 F_Desk_say (dVar 0) (aCons (dC (.str "undo")) aNil)) (dC (.str "yes"))) (sRet (dC (.bl false))) sNil)) (fun σ μ' => ∃ o, σ = [some (.ref dk), some (.ref a), o] ∧ Wd μ' h hc dk s st a pre d A m n) ((sortS (A.map (·.1))).map T.str) (fun x hx σ μ' hI => by
    obtain ⟨o, rfl, W'⟩ := hI
    obtain ⟨y, hy, rfl⟩ := List.mem_map.mp hx
    obtain ⟨μ'', e'', W''⟩ := one_name (o := o) W' hn (mem_sort.mp hy)
    exact ⟨_, μ'', e'', some (.str y), rfl, W''⟩) [some (.ref dk), some (.ref a), none] (μ ++ g) ⟨none, rfl, W1⟩
  refine ⟨μ2, ?_, W2⟩
  show (d__law_is_unchanged [some (.ref dk), some (.ref a), none] μ).toR = _
  unfold d__law_is_unchanged
  rw [sSeq_e, sIf_e, d2_e, meth_say W.D.desk rfl (dC_e), e, bind_ok, jn, bind_ok, neT_e, eqT_s, W.C.keys, decide_eq_true rfl, bind_ok, notT_e, toS_ok, Bool.not_true, sIfK_e, if_neg Bool.false_ne_true, sNil_e, seq_nx, sSeq_e]
  unfold sFor dIterL
  rw [so _ _ W1.C.da]
  dsimp only
  rw [e2]
  rfl
/-! ### the desk made -/
theorem make_store (μ : Mem) (σ : List (Option T)) : ∃ μ', dMake "Store" 1 F_Storedd_initdd aNil σ μ = .ok (.ref μ.length) μ' ∧ μ'[μ.length]? = some (.ins "Store" [("store_stages", .ref (μ.length + 2))]) ∧ μ'[μ.length + 2]? = some (.lst [.ref (μ.length + 1)]) ∧ μ'[μ.length + 1]? = some (.dct []) ∧ Keep [] μ μ' ∧ μ'.length = μ.length + 3 := by
  let μ' : Mem := (μ ++ [MO.ins "Store" []] ++ [MO.dct []] ++ [MO.lst [.ref (μ.length + 1)]]).set μ.length (.ins "Store" [("store_stages", .ref (μ.length + 2))])
  have b0 : (μ ++ [MO.ins "Store" []] ++ [MO.dct []] ++ [MO.lst [.ref (μ.length + 1)]])[μ.length]? = some (.ins "Store" []) := by simp
  have z1 : (1 : Nat) ≤ sizeLine := sz (by omega)
  have e : F_Storedd_initdd [.ref μ.length] (μ ++ [.ins "Store" []]) = .ok .non μ' := by
    show (d_Storedd_initdd [some (.ref μ.length)] (μ ++ [.ins "Store" []])).toR = _
    unfold d_Storedd_initdd sFldT
    simp only [dNew_e, dLstL_e, lCons_e, lNil_e, bindL_ok, List.length_cons, List.length_nil, Nat.zero_add, if_pos z1, lbind_ok, toS_ok, dVar_0, List.length_append]
    rw [b0]
    dsimp only
    rw [if_pos ⟨rfl, by decide⟩]
    rfl
  refine ⟨μ', ?_, set_at b0, ?_, ?_, ⟨by simp [μ'], fun i hi _ => ?_⟩, by simp [μ']⟩
  · unfold dMake
    simp only [aNil_e, List.length_nil, Nat.zero_add, if_true, e, bind_ok]
  · show (List.set _ μ.length _)[μ.length + 2]? = _
    rw [set_ne (by omega)]; simp
  · show (List.set _ μ.length _)[μ.length + 1]? = _
    rw [set_ne (by omega)]; simp
  · show (List.set _ μ.length _)[i]? = _
    rw [set_ne (by omega)]
    simp [List.getElem?_append, hi, show i < μ.length + 1 by omega, show i < μ.length + 2 by omega]
theorem make_desk (μ : Mem) (σ : List (Option T)) : ∃ μ' dk s st d, dMake "Desk" 1 F_Deskdd_initdd aNil σ μ = .ok (.ref dk) μ' ∧ Dk μ' dk s st [] d [] 0 ∧ Keep [] μ μ' ∧ μ.length ≤ st ∧ μ.length ≤ dk := by
  obtain ⟨μ1, e1, a1, a2, a3, k1, l1⟩ := make_store (μ ++ [MO.ins "Desk" []]) [some (.ref μ.length)]
  have hl : (μ ++ [MO.ins "Desk" []]).length = μ.length + 1 := by simp
  rw [hl] at a1 a2 a3 e1 l1
  have b0 : μ1[μ.length]? = some (.ins "Desk" []) := k1.at (by simp) (by simp)
  let μ2 : Mem := μ1.set μ.length (.ins "Desk" [("desk_store", .ref (μ.length + 1))])
  have e : F_Deskdd_initdd [.ref μ.length] (μ ++ [.ins "Desk" []]) = .ok .non μ2 := by
    show (d_Deskdd_initdd [some (.ref μ.length)] (μ ++ [.ins "Desk" []])).toR = _
    unfold d_Deskdd_initdd sFldT
    rw [e1, toS_ok, dVar_0, toS_ok]
    dsimp only
    rw [b0]
    dsimp only
    rw [if_pos ⟨rfl, by decide⟩]
    rfl
  refine ⟨μ2, μ.length, μ.length + 1, μ.length + 1 + 2, μ.length + 1 + 1, ?_, ⟨set_at b0, ?_, ?_, ?_, Nat.le_refl _⟩, ?_, by omega, Nat.le_refl _⟩
  · unfold dMake
    simp only [aNil_e, List.length_nil, Nat.zero_add, if_true, e, bind_ok]
  · show (List.set _ _ _)[_]? = _; rw [set_ne (by omega)]; exact a1
  · show (List.set _ _ _)[_]? = _; rw [set_ne (by omega)]; exact a2
  · show (List.set _ _ _)[_]? = _; rw [set_ne (by omega)]; exact a3
  · have k := (keep_app [] μ [MO.ins "Desk" []]).trans k1 (fun i hi _ => hi)
    exact ⟨by simp [μ2]; exact k.1, fun i hi hn => by
      show (List.set _ _ _)[i]? = _
      rw [set_ne (by omega)]
      exact k.2 i hi hn⟩
end K81
set_option linter.all false
set_option maxRecDepth 100000
set_option maxHeartbeats 2000000
namespace K81
open PySem PySem.Spec PyProof.Rows L2 TL
theorem lt_of {μ : Mem} {i : Nat} {o : MO} (h : μ[i]? = some o) : i < μ.length := (List.getElem?_eq_some_iff.mp h).1
theorem lookup_app {α : Type} {x y : Str} {v : α} : ∀ {l : List (Str × α)}, (l ++ [(x, v)]).lookup y = match l.lookup y with | some u => some u | none => if y = x then some v else none
  | [] => by
    simp only [List.nil_append, List.lookup]
    by_cases h : y = x
    · subst h; simp
    · have : (y == x) = false := by simpa using h
      simp [this, h]
  | (z, u) :: r => by
    simp only [List.cons_append, List.lookup]
    cases y == z
    · exact lookup_app
    · rfl
theorem putM_new {m : Model} {x : Str} {ws : List Web} (h : x ∉ m.map (·.1)) : putM m x ws = m ++ [(x, ws)] := by
  unfold putM
  rw [if_neg]
  intro z
  exact h (any_mem.mp z)
theorem putM_old {m : Model} {x : Str} {vs ws : List Web} (h : x ∉ m.map (·.1)) : putM (m ++ [(x, vs)]) x ws = m ++ [(x, ws)] := by
  unfold putM
  rw [if_pos (by simp)]
  rw [List.map_append]
  congr 1
  · conv => rhs; rw [← List.map_id m]
    refine List.map_congr_left fun p hp => ?_
    rw [if_neg]
    · rfl
    · intro z; exact h (by rw [← z]; exact List.mem_map_of_mem hp)
  · simp
theorem putA_new {A : List (Str × Nat)} {x : Str} {l : Nat} (h : x ∉ A.map (·.1)) : putA A x l = A ++ [(x, l)] := by
  unfold putA
  rw [if_neg]
  intro z
  exact h (any_mem.mp z)
theorem putA_old {A : List (Str × Nat)} {x : Str} {l l' : Nat} (h : x ∉ A.map (·.1)) : putA (A ++ [(x, l)]) x l' = A ++ [(x, l')] := by
  unfold putA
  rw [if_pos (by simp)]
  rw [List.map_append]
  congr 1
  · conv => rhs; rw [← List.map_id A]
    refine List.map_congr_left fun p hp => ?_
    rw [if_neg]
    · rfl
    · intro z; exact h (by rw [← z]; exact List.mem_map_of_mem hp)
  · simp
def INNER : SM := (sSeq (sSub (dVar 3) (dVar 4) (dNew (dCat (d2 subT' (dVar 3) (dVar 4)) (dNew (dLstL (lCons (dFn 3 F__law_web (aCons (dVar 1) (aCons (dC (.int 5)) (aCons (dC (.int 7)) aNil)))) lNil))))))
    (sIf (d2 neT (dMeth "Desk" "say" 2 F_Desk_say (dVar 2) (aCons (dFn 2 F__law_web_line (aCons (dVar 4) (aCons (d2 subT' (d2 subT' (dVar 3) (dVar 4)) (d1 negT (dC (.int 1)))) aNil))) aNil)) (d2 addT (dC (.str "version ")) (dCall strC (aCons (dVar 5) aNil)))) (sRet (dC (.bl false))) sNil))
/-- the old part of the account -/
structure AccW (μ : Mem) (h st : Nat) (A : List (Str × Nat)) (m : Model) : Prop where
  keys : m.map (·.1) = A.map (·.1)
  nd : (A.map (·.1)).Nodup
  sub : ∀ x ∈ A.map (·.1), x ∈ names3
  ws : ∀ p ∈ A, ∃ ws w, m.lookup p.1 = some (ws ++ [w]) ∧ μ[p.2]? = some (.lst ((ws ++ [w]).map webT)) ∧ p.2 ≠ h ∧ p.2 ≠ st ∧ (∀ v ∈ ws ++ [w], WebS v) ∧ (ws ++ [w]).length ≤ 2
theorem AccW.keep {μ μ' : Mem} {h st : Nat} {A : List (Str × Nat)} {m : Model} {S : List Nat} (C : AccW μ h st A m) (k : Keep S μ μ') (hS : ∀ i ∈ S, ∀ o, μ[i]? = some o → i = h ∨ i = st ∨ ∃ kv, o = .dct kv) : AccW μ' h st A m := by
  refine ⟨C.keys, C.nd, C.sub, fun p hp => ?_⟩
  obtain ⟨ws, w, e1, e2, n1, n2, e3, e4⟩ := C.ws p hp
  exact ⟨ws, w, e1, k.at e2 (fun z => by
    rcases hS _ z _ e2 with q | q | ⟨kv, q⟩
    · exact n1 q
    · exact n2 q
    · cases q), n1, n2, e3, e4⟩
structure Inn (μ : Mem) (h hc dk s st a : Nat) (pre : List T) (d : Nat) (A : List (Str × Nat)) (m : Model) (n : Nat) (x : Str) (l : Nat) (ws : List Web) (kw : Nat) (nl : List Str) : Prop where
  H : Hand μ h hc
  D : Dk μ dk s st pre d (if ws = [] then m else m ++ [(x, ws)]) n
  C : AccW μ h st A m
  da : μ[a]? = some (.dct (repA (A ++ [(x, l)])))
  lw : μ[l]? = some (.lst (ws.map webT))
  lh : l ≠ h
  ls : l ≠ st
  hst : h ≠ st
  hcst : hc ≠ st
  ok : ∀ v ∈ ws, WebS v
  wat : μ[kw]? = some (.lst (nl.map T.str))
  kwh : kw ≠ h
  kws : kw ≠ st
theorem cases_ws {m : Model} {x : Str} {ws : List Web} (hx : x ∉ m.map (·.1)) : vers (if ws = [] then m else m ++ [(x, ws)]) x = ws ∧ ∀ ws', ws' ≠ [] → putM (if ws = [] then m else m ++ [(x, ws)]) x ws' = m ++ [(x, ws')] := by
  by_cases h : ws = []
  · rw [if_pos h]
    subst h
    exact ⟨vers_none (lookup_none hx), fun ws' _ => putM_new hx⟩
  · rw [if_neg h]
    refine ⟨vers_some ?_, fun ws' _ => putM_old hx⟩
    rw [lookup_app, lookup_none hx]
    simp
theorem inner_step {μ : Mem} {h hc dk s st a d n l t kw : Nat} {pre : List T} {A : List (Str × Nat)} {m : Model} {x : Str} {ws : List Web} {nl : List Str} {v : T} {o6 o7 o8 : Option T} (I : Inn μ h hc dk s st a pre d A m n x l ws kw nl) (hx3 : x ∈ names3) (hxA : x ∉ A.map (·.1)) (ht : ws.length = t) (ht2 : t < 2) (hn : n ≤ 20) :
    ∃ μ' d' l' ws', INNER [some v, some (.ref h), some (.ref dk), some (.ref a), some (.str x), some (.int (t : Int)), o6, o7, o8] μ = .nx [some v, some (.ref h), some (.ref dk), some (.ref a), some (.str x), some (.int (t : Int)), o6, o7, o8] μ' ∧ Inn μ' h hc dk s st a (pre ++ [.ref d]) d' A m (n + 1) x l' ws' kw nl ∧ ws'.length = t + 1 := by
  have hxm : x ∉ m.map (·.1) := by rw [I.C.keys]; exact hxA
  obtain ⟨w, μ1, e1, hw, w2, w5, w7, k1, H1⟩ := web_spec I.H
  have hS : WebS w := ⟨hw, w2, w5, w7⟩
  have aA : (A ++ [(x, l)]).lookup x = some l := by rw [lookup_app, lookup_none hxA]; simp
  have sa : ∀ μ', μ'[a]? = some (.dct (repA (A ++ [(x, l)]))) → subT' (.ref a) (.str x) μ' = .ok (.ref l) μ' := fun μ' ha => subD ha rfl (by rw [val_repA, aA]; rfl)
  have ah : a ≠ h := fun z => by
    obtain ⟨xs, e⟩ := hand_at I.H
    have := I.da
    rw [z, e] at this; cases this
  have ast : a ≠ st := fun z => by have a1 := I.da; have b := I.D.stg; rw [z, b] at a1; cases a1
  -- the new list
  let μ2 : Mem := μ1 ++ [.lst [webT w]]
  let μ3 : Mem := μ2 ++ [.lst ((ws ++ [w]).map webT)]
  have l1 : μ1[l]? = some (.lst (ws.map webT)) := k1.at I.lw (by simp [I.lh])
  have l2 : μ2[l]? = some (.lst (ws.map webT)) := app_at l1
  have da3 : μ3[a]? = some (.dct (repA (A ++ [(x, l)]))) := app_at (app_at (k1.at I.da (by simp [ah])))
  let μ4 : Mem := μ3.set a (.dct (repA (A ++ [(x, μ2.length)])))
  have stp : sSub (dVar 3) (dVar 4) (dNew (dCat (d2 subT' (dVar 3) (dVar 4)) (dNew (dLstL (lCons (dFn 3 F__law_web (aCons (dVar 1) (aCons (dC (.int 5)) (aCons (dC (.int 7)) aNil)))) lNil))))) [some v, some (.ref h), some (.ref dk), some (.ref a), some (.str x), some (.int (t : Int)), o6, o7, o8] μ = .nx [some v, some (.ref h), some (.ref dk), some (.ref a), some (.str x), some (.int (t : Int)), o6, o7, o8] μ4 := by
    have c1 : d2 subT' (dVar 3) (dVar 4) [some v, some (.ref h), some (.ref dk), some (.ref a), some (.str x), some (.int (t : Int)), o6, o7, o8] μ = .ok (.ref l) μ := by
      simp only [d2_e, dVar_s, dVar_0, bind_ok, sa μ I.da]
    have c2 : dNew (dLstL (lCons (dFn 3 F__law_web (aCons (dVar 1) (aCons (dC (.int 5)) (aCons (dC (.int 7)) aNil)))) lNil)) [some v, some (.ref h), some (.ref dk), some (.ref a), some (.str x), some (.int (t : Int)), o6, o7, o8] μ = .ok (.ref μ1.length) μ2 := by
      rw [dNew_e, dLstL_e, lCons_e, dFn3]
      simp only [dVar_s, dVar_0, bind_ok, dC_e, e1, bindL_ok, lNil_e, List.length_cons, List.length_nil, Nat.zero_add, if_pos (sz (show 1 ≤ 1000 by omega)), lbind_ok]
      rfl
    have sz' : (repA (A ++ [(x, l)])).length < sizeLine := by
      have := nd3 _ I.C.nd I.C.sub
      unfold repA
      rw [List.length_map] at this
      exact szl (by simp; omega)
    have st1 : setT (.ref a) (.str x) (.ref μ2.length) μ3 = some μ4 := by
      rw [setD da3 rfl sz', put_repA, putA_old hxA]
    rw [sSub_e, dNew_e, dCat_e c1 c2 l2 (show μ2[μ1.length]? = some (.lst [webT w]) by simp [μ2]) (by simp; omega), lbind_ok, toS_ok, dVar_s, dVar_s, dVar_s, dVar_0, toS_ok, dVar_s, dVar_s, dVar_s, dVar_s, dVar_0, toS_ok]
    have e3 : (ws.map webT ++ [webT w]) = (ws ++ [w]).map webT := by simp
    rw [e3]
    show (match setT (.ref a) (.str x) (.ref μ2.length) μ3 with | some μ4 => SRes.nx _ μ4 | none => .bad) = _
    rw [st1]
  have K13 : Keep [h] μ μ3 := keep_nil _ (keep_nil _ k1)
  have K4 : Keep [h, a] μ μ4 := (K13.mono (by simp)).trans (keep_set (S := [h, a]) (by simp)) (fun i hi _ => hi)
  have H4 : Hand μ4 h hc := by
    have hca : hc ≠ a := fun z => by
      obtain ⟨cs', _, _, _, _, _, _, e, _⟩ := I.H
      have := I.da
      rw [← z, e] at this; cases this
    exact (hand_app (hand_app H1 _) _).keep (keep_set (S := [a]) (by simp)) (by simp [Ne.symm ah]) (by simp [hca])
  have D4 : Dk μ4 dk s st pre d (if ws = [] then m else m ++ [(x, ws)]) n := by
    have nk : ∀ {i : Nat} {o : MO}, μ[i]? = some o → (∀ kv, o = .dct kv → i ≠ a) → (∀ xs, o = .lst xs → i ≠ h) → i ∉ [h, a] := fun {i o} ho q1 q2 z => by
      simp only [List.mem_cons, List.not_mem_nil, or_false] at z
      rcases z with z | z
      · obtain ⟨xs, e⟩ := hand_at I.H
        rw [z, e] at ho
        cases ho
        exact q2 _ rfl z
      · rw [z, I.da] at ho
        cases ho
        exact q1 _ rfl z
    have dne : d ≠ a := by
      intro z
      have h1 := I.D.cur
      rw [z, I.da] at h1
      have e := MO.dct.inj (Option.some.inj h1)
      have e2 : valT (repA (A ++ [(x, l)])) (Sum.inr x : Key) = valT (rep (if ws = [] then m else m ++ [(x, ws)])) (Sum.inr x : Key) := by rw [e]
      rw [val_repA, aA] at e2
      have : ∀ m' : Model, valT (rep m') (Sum.inr x : Key) ≠ some (T.ref l) := fun m' z => by
        rw [val_rep] at z
        cases q : m'.lookup x with
        | none => rw [q] at z; cases z
        | some u => rw [q] at z; simp [wsT] at z
      exact this _ e2.symm
    exact ⟨K4.at I.D.desk (nk I.D.desk (fun kv z => by cases z) (fun xs z => by cases z)), K4.at I.D.ins (nk I.D.ins (fun kv z => by cases z) (fun xs z => by cases z)), K4.at I.D.stg (nk I.D.stg (fun kv z => by cases z) (fun xs _ z => I.hst z.symm)), K4.at I.D.cur (nk I.D.cur (fun kv _ => dne) (fun xs z => by cases z)), I.D.few⟩
  have C4 : AccW μ4 h st A m := I.C.keep K4 (fun i hi o ho => by
    simp only [List.mem_cons, List.not_mem_nil, or_false] at hi
    rcases hi with rfl | rfl
    · exact .inl rfl
    · rw [I.da] at ho; cases ho; exact .inr (.inr ⟨_, rfl⟩))
  have la : μ2.length ≠ a := by have := lt_of da3; have := k1.1; have := lt_of I.da; simp [μ2]; omega
  have lw4 : μ4[μ2.length]? = some (.lst ((ws ++ [w]).map webT)) := by
    show (μ3.set a _)[_]? = _
    rw [set_ne (Ne.symm la)]
    simp [μ3]
  have da4 : μ4[a]? = some (.dct (repA (A ++ [(x, μ2.length)]))) := set_at da3
  obtain ⟨q1, q2⟩ := cases_ws (ws := ws) hxm
  obtain ⟨g, eg⟩ := web_line_e (μ := μ4) hx3 hS
  have D5 := D4.app g
  have hml := nd3 _ I.C.nd I.C.sub
  have hmk := congrArg List.length I.C.keys
  rw [List.length_map, List.length_map] at hmk
  rw [List.length_map] at hml
  obtain ⟨μ6, d', e6, D6, k6, _⟩ := say_line D5 hx3 hS (by omega) (by split <;> split <;> simp <;> omega) (by rw [q1]; omega)
  rw [q1] at e6 D6
  rw [q2 _ (by simp)] at D6
  have k46 : Keep [st] μ4 μ6 := (keep_app [st] μ4 g).trans k6 (fun i hi _ => hi)
  have lh' : μ2.length ≠ h := by have := I.H.lt; have := k1.1; simp [μ2]; omega
  have ls' : μ2.length ≠ st := by have := lt_of I.D.stg; have := k1.1; simp [μ2]; omega
  have kwa : kw ≠ a := fun z => by have q := I.wat; rw [z, I.da] at q; cases q
  refine ⟨μ6, d', μ2.length, ws ++ [w], ?_, ⟨H4.keep k46 (by simp [I.hst]) (by simp [I.hcst]), ?_, C4.keep k46 (fun i hi o ho => by simp at hi; exact .inr (.inl hi)), k46.at da4 (by simp [ast]), k46.at lw4 (by simp [ls']), lh', ls', I.hst, I.hcst, ?_, k46.at (K4.at I.wat (by simp [I.kwh, kwa])) (by simp [I.kws]), I.kwh, I.kws⟩, by simp [ht]⟩
  · unfold INNER
    rw [sSeq_e, stp, seq_nx]
    have aA' : (A ++ [(x, μ2.length)]).lookup x = some μ2.length := by rw [lookup_app, lookup_none hxA]; simp
    have sa4 : subT' (.ref a) (.str x) μ4 = .ok (.ref μ2.length) μ4 := subD da4 rfl (by rw [val_repA, aA']; rfl)
    have arg : dFn 2 F__law_web_line (aCons (dVar 4) (aCons (d2 subT' (d2 subT' (dVar 3) (dVar 4)) (d1 negT (dC (.int 1)))) aNil)) [some v, some (.ref h), some (.ref dk), some (.ref a), some (.str x), some (.int (t : Int)), o6, o7, o8] μ4 = .ok (.str (lineOf x w)) (μ4 ++ g) := by
      rw [dFn2]
      simp only [dVar_s, dVar_0, bind_ok, d2_e, d1_e, dC_e, negT_i, sa4, last_e lw4, eg]
    have str : strC [.int (t : Int)] μ6 = .ok (.str (dg (t : Int))) μ6 := dg_str (by omega) (by omega)
    have ad : addT (.str "version ") (.str (dg (t : Int))) μ6 = .ok (.str ("version " ++ dg (t : Int))) μ6 := by
      have l8 : ("version " : Str).length = 8 := by decide +kernel
      unfold addT
      dsimp only
      rw [if_pos (by rw [l8, dg_len (by omega) (by omega), sizeLine_eq]; omega)]
    rw [sIf_e, d2_e, meth_say D4.desk rfl arg, e6, bind_ok, d2_e, dC_e, bind_ok, dCall_e, aCons_e, dVar_s, dVar_s, dVar_s, dVar_s, dVar_s, dVar_0, bind_ok, aNil_e, str, bind_ok, ad, bind_ok, neT_e, eqT_s, ht, decide_eq_true rfl, bind_ok, notT_e, toS_ok, Bool.not_true, sIfK_e, if_neg Bool.false_ne_true, sNil_e]
  · rw [if_neg (by simp)]; exact D6
  · intro y hy
    rcases List.mem_append.mp hy with hy | hy
    · exact I.ok y hy
    · simp at hy; subst hy; exact hS
end K81
set_option linter.all false
set_option maxRecDepth 100000
set_option maxHeartbeats 2000000
namespace K81
open PySem PySem.Spec PyProof.Rows L2 TL
theorem Dk.keep2 {μ μ' : Mem} {dk s st d n : Nat} {pre : List T} {m : Model} {S : List Nat} (D : Dk μ dk s st pre d m n) (k : Keep S μ μ') (h1 : dk ∉ S) (h2 : s ∉ S) (h3 : st ∉ S) (h4 : d ∉ S) : Dk μ' dk s st pre d m n :=
  ⟨k.at D.desk h1, k.at D.ins h2, k.at D.stg h3, k.at D.cur h4, D.few⟩
theorem Dk.nh {μ : Mem} {h hc dk s st d n : Nat} {pre : List T} {m : Model} (D : Dk μ dk s st pre d m n) (H : Hand μ h hc) (hst : h ≠ st) : dk ≠ h ∧ s ≠ h ∧ d ≠ h := by
  obtain ⟨xs, e⟩ := hand_at H
  refine ⟨fun z => ?_, fun z => ?_, fun z => ?_⟩
  · have q : μ[dk]? = _ := D.desk
    rw [z, e] at q; cases q
  · have q := D.ins
    rw [z, e] at q; cases q
  · have q := D.cur
    rw [z, e] at q; cases q
theorem Dk.keepH {μ μ' : Mem} {h hc dk s st d n : Nat} {pre : List T} {m : Model} (D : Dk μ dk s st pre d m n) (H : Hand μ h hc) (hst : h ≠ st) (k : Keep [h] μ μ') : Dk μ' dk s st pre d m n := by
  obtain ⟨a, b, c⟩ := D.nh H hst
  exact D.keep2 k (by simpa using a) (by simpa using b) (by simpa using Ne.symm hst) (by simpa using c)
structure Out (μ : Mem) (h hc dk s st a : Nat) (pre : List T) (d : Nat) (A : List (Str × Nat)) (m : Model) (n kw : Nat) (nl : List Str) : Prop where
  H : Hand μ h hc
  D : Dk μ dk s st pre d m n
  C : AccW μ h st A m
  da : μ[a]? = some (.dct (repA A))
  dne : d ≠ a
  hst : h ≠ st
  hcst : hc ≠ st
  wat : μ[kw]? = some (.lst (nl.map T.str))
  kwh : kw ≠ h
  kws : kw ≠ st
theorem Inn.dne {μ : Mem} {h hc dk s st a d n l kw : Nat} {pre : List T} {A : List (Str × Nat)} {m : Model} {x : Str} {ws : List Web} {nl : List Str} (I : Inn μ h hc dk s st a pre d A m n x l ws kw nl) (hxA : x ∉ A.map (·.1)) : d ≠ a := by
  intro z
  have h1 := I.D.cur
  rw [z, I.da] at h1
  have e := MO.dct.inj (Option.some.inj h1)
  have aA : (A ++ [(x, l)]).lookup x = some l := by rw [lookup_app, lookup_none hxA]; simp
  have e2 : valT (repA (A ++ [(x, l)])) (Sum.inr x : Key) = valT (rep (if ws = [] then m else m ++ [(x, ws)])) (Sum.inr x : Key) := by rw [e]
  rw [val_repA, aA] at e2
  have : ∀ m' : Model, valT (rep m') (Sum.inr x : Key) ≠ some (T.ref l) := fun m' z => by
    rw [val_rep] at z
    cases q : m'.lookup x with
    | none => rw [q] at z; cases z
    | some u => rw [q] at z; simp [wsT] at z
  exact this _ e2.symm
theorem Inn.keepH {μ μ' : Mem} {h hc dk s st a d n l kw : Nat} {pre : List T} {A : List (Str × Nat)} {m : Model} {x : Str} {ws : List Web} {nl : List Str} (I : Inn μ h hc dk s st a pre d A m n x l ws kw nl) (k : Keep [h] μ μ') (H' : Hand μ' h hc) : Inn μ' h hc dk s st a pre d A m n x l ws kw nl := by
  have ah : a ≠ h := fun z => by
    obtain ⟨xs, e⟩ := hand_at I.H
    have := I.da
    rw [z, e] at this; cases this
  exact ⟨H', I.D.keepH I.H I.hst k, I.C.keep k (fun i hi o ho => by simp at hi; exact .inl hi), k.at I.da (by simpa using ah), k.at I.lw (by simpa using I.lh), I.lh, I.ls, I.hst, I.hcst, I.ok, k.at I.wat (by simpa using I.kwh), I.kwh, I.kws⟩
theorem Inn.out {μ : Mem} {h hc dk s st a d n l kw : Nat} {pre : List T} {A : List (Str × Nat)} {m : Model} {x : Str} {ws : List Web} {nl : List Str} (I : Inn μ h hc dk s st a pre d A m n x l ws kw nl) (hx3 : x ∈ names3) (hxA : x ∉ A.map (·.1)) (h1 : ws ≠ []) (h2 : ws.length ≤ 2) : Out μ h hc dk s st a pre d (A ++ [(x, l)]) (m ++ [(x, ws)]) n kw nl := by
  have hxm : x ∉ m.map (·.1) := by rw [I.C.keys]; exact hxA
  have D := I.D
  rw [if_neg h1] at D
  refine ⟨I.H, D, ⟨?_, ?_, ?_, fun p hp => ?_⟩, I.da, I.dne hxA, I.hst, I.hcst, I.wat, I.kwh, I.kws⟩
  · simp only [List.map_append, I.C.keys, List.map_cons, List.map_nil]
  · rw [List.map_append, List.nodup_append]
    refine ⟨I.C.nd, by simp, fun y hy z hz => ?_⟩
    simp at hz
    rintro rfl
    exact hxA (by rw [← hz]; exact hy)
  · intro y hy
    rw [List.map_append] at hy
    rcases List.mem_append.mp hy with hy | hy
    · exact I.C.sub y hy
    · simp at hy; rw [hy]; exact hx3
  · rcases List.mem_append.mp hp with hp | hp
    · obtain ⟨vs, w, e1, e2, n1, n2, e3, e4⟩ := I.C.ws p hp
      exact ⟨vs, w, by rw [lookup_app, e1], e2, n1, n2, e3, e4⟩
    · simp at hp; subst hp
      refine ⟨ws.dropLast, ws.getLast h1, ?_, ?_, I.lh, I.ls, ?_, ?_⟩
      · rw [lookup_app, lookup_none hxm, List.dropLast_concat_getLast]; simp
      · rw [List.dropLast_concat_getLast]; exact I.lw
      · rw [List.dropLast_concat_getLast]; exact I.ok
      · rw [List.dropLast_concat_getLast]; exact h2
theorem forL_cons {i : Nat} {body : SM} {x : T} {r : List T} {σ σ' : List (Option T)} {μ μ' : Mem} {ws : List (Nat × List T)} (hw : watched ws μ = true) (h : body (σ.set i (some x)) μ = .nx σ' μ') : forL ws (.nm i) body (x :: r) σ μ = forL ws (.nm i) body r σ' μ' := by
  rw [forL, if_pos hw]
  show ((body (σ.set i (some x)) μ).loop _) = _
  rw [h]; rfl
theorem forL_nil {p : Pat} {body : SM} {σ : List (Option T)} {μ : Mem} {ws : List (Nat × List T)} (hw : watched ws μ = true) : forL ws p body [] σ μ = .nx σ μ := by
  rw [forL, if_pos hw]
def BODY1 : SM := (sSeq (sSub (dVar 3) (dVar 4) (dNew (dLstL lNil)))
    (sFor (dRng1 (d2 addT (dC (.int 1)) (dFn 2 F__law_draw (aCons (dVar 1) (aCons (dC (.int 2)) aNil))))) (.nm 5) INNER))
theorem outer_step {μ : Mem} {h hc dk s st a d n kw : Nat} {pre : List T} {A : List (Str × Nat)} {m : Model} {x : Str} {nl : List Str} {v : T} {o5 o6 o7 o8 : Option T} (O : Out μ h hc dk s st a pre d A m n kw nl) (hx3 : x ∈ names3) (hxA : x ∉ A.map (·.1)) (hn : n ≤ 18) :
    ∃ μ' pre' d' l' ws' n' o5', BODY1 [some v, some (.ref h), some (.ref dk), some (.ref a), some (.str x), o5, o6, o7, o8] μ = .nx [some v, some (.ref h), some (.ref dk), some (.ref a), some (.str x), o5', o6, o7, o8] μ' ∧ Out μ' h hc dk s st a pre' d' (A ++ [(x, l')]) (m ++ [(x, ws')]) n' kw nl ∧ n' ≤ n + 2 := by
  have hxm : x ∉ m.map (·.1) := by rw [O.C.keys]; exact hxA
  have ah : a ≠ h := fun z => by
    obtain ⟨xs, e⟩ := hand_at O.H
    have := O.da
    rw [z, e] at this; cases this
  have ahc : a ≠ hc := fun z => by
    obtain ⟨cs', _, _, _, _, _, _, e, _⟩ := O.H
    have := O.da
    rw [z, e] at this; cases this
  have ast : a ≠ st := fun z => by have a1 := O.da; have b := O.D.stg; rw [z, b] at a1; cases a1
  have adk : a ≠ dk := fun z => by have a1 := O.da; have b : μ[dk]? = _ := O.D.desk; rw [z, b] at a1; cases a1
  have as : a ≠ s := fun z => by have a1 := O.da; have b := O.D.ins; rw [z, b] at a1; cases a1
  have akw : a ≠ kw := fun z => by have a1 := O.da; have b := O.wat; rw [z, b] at a1; cases a1
  let μ1 : Mem := μ ++ [.lst []]
  let μ2 : Mem := μ1.set a (.dct (repA (A ++ [(x, μ.length)])))
  have da1 : μ1[a]? = some (.dct (repA A)) := app_at O.da
  have K : Keep [a] μ μ2 := (keep_app [a] μ _).trans (keep_set (S := [a]) (by simp)) (fun i hi _ => hi)
  have szA : (repA A).length < sizeLine := by
    have := nd3 _ O.C.nd O.C.sub
    unfold repA
    rw [List.length_map] at this
    exact szl (by simp; omega)
  have s1 : sSub (dVar 3) (dVar 4) (dNew (dLstL lNil)) [some v, some (.ref h), some (.ref dk), some (.ref a), some (.str x), o5, o6, o7, o8] μ = .nx [some v, some (.ref h), some (.ref dk), some (.ref a), some (.str x), o5, o6, o7, o8] μ2 := by
    have st1 : setT (.ref a) (.str x) (.ref μ.length) μ1 = some μ2 := by
      rw [setD da1 rfl szA, put_repA, putA_new hxA]
    rw [sSub_e, dNew_e, dLstL_e, lNil_e, if_pos (by simp), lbind_ok, toS_ok, dVar_s, dVar_s, dVar_s, dVar_0, toS_ok, dVar_s, dVar_s, dVar_s, dVar_s, dVar_0, toS_ok]
    show (match setT (.ref a) (.str x) (.ref μ.length) μ1 with | some μ4 => SRes.nx _ μ4 | none => .bad) = _
    rw [st1]
  have al : a < μ.length := lt_of O.da
  have I : Inn μ2 h hc dk s st a pre d A m n x μ.length [] kw nl := by
    refine ⟨O.H.keep K (by simpa using Ne.symm ah) (by simpa using Ne.symm ahc), ?_, O.C.keep K (fun i hi o ho => by simp at hi; subst hi; rw [O.da] at ho; cases ho; exact .inr (.inr ⟨_, rfl⟩)), set_at da1, ?_, ?_, ?_, O.hst, O.hcst, by simp, K.at O.wat (by simpa using Ne.symm akw), O.kwh, O.kws⟩
    · rw [if_pos rfl]
      exact O.D.keep2 K (by simpa using Ne.symm adk) (by simpa using Ne.symm as) (by simpa using Ne.symm ast) (by simpa using O.dne)
    · show (μ1.set a _)[μ.length]? = _
      rw [set_ne (by omega)]
      simp [μ1]
    · have := O.H.lt; omega
    · have := lt_of O.D.stg; omega
  obtain ⟨r, μ3, e3, r0, r2, k3, H3, _⟩ := draw_spec (many := 2) I.H (by omega) (by omega)
  have I3 := I.keepH k3 H3
  have dr : dRng1 (d2 addT (dC (.int 1)) (dFn 2 F__law_draw (aCons (dVar 1) (aCons (dC (.int 2)) aNil)))) [some v, some (.ref h), some (.ref dk), some (.ref a), some (.str x), o5, o6, o7, o8] μ2 = .its (rngL 0 (1 + r)) [] μ3 := by
    have e : d2 addT (dC (.int 1)) (dFn 2 F__law_draw (aCons (dVar 1) (aCons (dC (.int 2)) aNil))) [some v, some (.ref h), some (.ref dk), some (.ref a), some (.str x), o5, o6, o7, o8] μ2 = .ok (.int (1 + r)) μ3 := by
      rw [d2_e, dC_e, bind_ok, dFn2]
      simp only [dVar_s, dVar_0, bind_ok, dC_e, e3]
      rfl
    unfold dRng1
    rw [e]
    dsimp only
    rw [if_pos (by unfold rngOk; simp; omega)]
  obtain ⟨μ4, d4, l4, ws4, q4, I4, h4⟩ := inner_step (v := v) (o6 := o6) (o7 := o7) (o8 := o8) (t := 0) I3 hx3 hxA rfl (by omega) (by omega)
  have f1 : ∀ r', forL [] (.nm 5) INNER (.int 0 :: r') [some v, some (.ref h), some (.ref dk), some (.ref a), some (.str x), o5, o6, o7, o8] μ3 = forL [] (.nm 5) INNER r' [some v, some (.ref h), some (.ref dk), some (.ref a), some (.str x), some (.int 0), o6, o7, o8] μ4 := fun r' => forL_cons (watched_nil _) q4
  rcases (show r = 0 ∨ r = 1 by omega) with rfl | rfl
  · refine ⟨μ4, _, d4, l4, ws4, _, some (.int 0), ?_, I4.out hx3 hxA (by intro z; rw [z] at h4; simp at h4) (by omega), by omega⟩
    · unfold BODY1
      rw [sSeq_e, s1, seq_nx]
      unfold sFor
      rw [dr]
      show forL [] (.nm 5) INNER [.int 0] _ μ3 = _
      rw [f1, forL_nil (watched_nil _)]
  · obtain ⟨μ5, d5, l5, ws5, q5, I5, h5⟩ := inner_step (v := v) (o6 := o6) (o7 := o7) (o8 := o8) (t := 1) I4 hx3 hxA h4 (by omega) (by omega)
    have f2 : forL [] (.nm 5) INNER [.int 1] [some v, some (.ref h), some (.ref dk), some (.ref a), some (.str x), some (.int 0), o6, o7, o8] μ4 = forL [] (.nm 5) INNER [] [some v, some (.ref h), some (.ref dk), some (.ref a), some (.str x), some (.int 1), o6, o7, o8] μ5 := forL_cons (watched_nil _) q5
    refine ⟨μ5, _, d5, l5, ws5, _, some (.int 1), ?_, I5.out hx3 hxA (by intro z; rw [z] at h5; simp at h5) (by omega), by omega⟩
    · unfold BODY1
      rw [sSeq_e, s1, seq_nx]
      unfold sFor
      rw [dr]
      show forL [] (.nm 5) INNER [.int 0, .int 1] _ μ3 = _
      rw [f1, f2, forL_nil (watched_nil _)]
theorem names_go {h hc dk s st a kw : Nat} {nl : List Str} {v : T} {o6 o7 o8 : Option T} (hnd : nl.Nodup) (hsub : ∀ x ∈ nl, x ∈ names3) : ∀ (rest : List Str) (μ : Mem) (pre : List T) (d n : Nat) (A : List (Str × Nat)) (m : Model) (o4 o5 : Option T), Out μ h hc dk s st a pre d A m n kw nl → A.map (·.1) ++ rest = nl → n + 2 * rest.length ≤ 18 →
    ∃ μ' pre' d' A' m' n' o4' o5', forL [(kw, nl.map T.str)] (.nm 4) BODY1 (rest.map T.str) [some v, some (.ref h), some (.ref dk), some (.ref a), o4, o5, o6, o7, o8] μ = .nx [some v, some (.ref h), some (.ref dk), some (.ref a), o4', o5', o6, o7, o8] μ' ∧ Out μ' h hc dk s st a pre' d' A' m' n' kw nl ∧ A'.map (·.1) = nl ∧ n' ≤ 18
  | [], μ, pre, d, n, A, m, o4, o5, O, e, hn => by
    refine ⟨μ, pre, d, A, m, n, o4, o5, ?_, O, by simpa using e, by omega⟩
    exact forL_nil (watched_one O.wat)
  | x :: rest, μ, pre, d, n, A, m, o4, o5, O, e, hn => by
    have hx : x ∈ nl := by rw [← e]; simp
    have hxA : x ∉ A.map (·.1) := by
      rw [← e, List.nodup_append] at hnd
      intro z
      exact hnd.2.2 x z x (by simp) rfl
    simp only [List.length_cons] at hn
    obtain ⟨μ1, pre1, d1, l1, ws1, n1, o51, e1, O1, hn1⟩ := outer_step (v := v) (o5 := o5) (o6 := o6) (o7 := o7) (o8 := o8) O (hsub x hx) hxA (by omega)
    obtain ⟨μ2, pre2, d2, A2, m2, n2, o42, o52, e2, O2, a2, b2⟩ := names_go hnd hsub rest μ1 pre1 d1 n1 _ _ (some (.str x)) o51 O1 (by rw [← e]; simp) (by omega)
    refine ⟨μ2, pre2, d2, A2, m2, n2, o42, o52, ?_, O2, a2, b2⟩
    rw [List.map_cons, forL_cons (watched_one O.wat) (by exact e1)]
    exact e2
theorem Out.wd {μ : Mem} {h hc dk s st a d n kw : Nat} {pre : List T} {A : List (Str × Nat)} {m : Model} {nl : List Str} (O : Out μ h hc dk s st a pre d A m n kw nl) : Wd μ h hc dk s st a pre d A m n :=
  ⟨O.H, O.D, ⟨O.da, O.C.keys, O.C.nd, O.C.sub, O.C.ws⟩, O.hst, O.hcst⟩
end K81
set_option linter.all false
set_option maxRecDepth 100000
set_option maxHeartbeats 2000000
namespace K81
open PySem PySem.Spec PyProof.Rows L2 TL
def BODY2 : SM := (sSeq (sSet 4 (dFn 2 F__law_some (aCons (dVar 1) (aCons (dNew (dSortD (dVar 3))) aNil))))
    (sSeq (sSet 6 (dFn 3 F__law_no_line (aCons (dVar 1) (aCons (dVar 4) (aCons (d2 subT' (d2 subT' (dVar 3) (dVar 4)) (d1 negT (dC (.int 1)))) aNil)))))
    (sSeq (sIf (d2 neT (fun σ μ => wordF ((dMeth "Desk" "say" 2 F_Desk_say (dVar 2) (aCons (dVar 6) aNil)) σ μ)) (dC (.str "line"))) (sRet (dC (.bl false))) sNil)
    (sSeq (sAsg (.tp [(.nm 7), (.nm 8)]) (dFn 3 F__law_wrong (aCons (dVar 1) (aCons (dVar 4) (aCons (d2 subT' (d2 subT' (dVar 3) (dVar 4)) (d1 negT (dC (.int 1)))) aNil)))))
    (sIf (dOr (d2 neT (fun σ μ => wordF ((dMeth "Desk" "say" 2 F_Desk_say (dVar 2) (aCons (dVar 7) aNil)) σ μ)) (dVar 8)) (dNot (dFn 2 F__law_is_unchanged (aCons (dVar 2) (aCons (dVar 3) aNil))))) (sRet (dC (.bl false))) sNil)))))
theorem nosuch_no {μ : Mem} {h st a : Nat} {A : List (Str × Nat)} {m : Model} (C : Acc μ h st a A m) : m.lookup ("nosuch" : Str) = none := by
  refine lookup_none fun z => ?_
  rw [C.keys] at z
  exact (show ("nosuch" : Str) ∉ names3 by decide +kernel) (C.sub _ z)
/-- the last web of a name, as the code reads it -/
theorem lastw_e {μ : Mem} {a l : Nat} {x : Str} {ws : List Web} {w : Web} {σ : List (Option T)} (h3 : dVar 3 σ μ = .ok (.ref a) μ) (h4 : dVar 4 σ μ = .ok (.str x) μ) (e2 : subT' (.ref a) (.str x) μ = .ok (.ref l) μ) (e3 : μ[l]? = some (.lst ((ws ++ [w]).map webT))) : d2 subT' (d2 subT' (dVar 3) (dVar 4)) (d1 negT (dC (.int 1))) σ μ = .ok (webT w) μ := by
  simp only [d2_e, h3, h4, bind_ok, d1_e, dC_e, negT_i, e2, last_e e3]
theorem turn_step {μ : Mem} {h hc dk s st a d n : Nat} {pre : List T} {A : List (Str × Nat)} {m : Model} {v t5 : T} {o4 o6 o7 o8 : Option T} (W : Wd μ h hc dk s st a pre d A m n) (hn : n ≤ 300) (hA : A ≠ []) :
    ∃ μ' o4' o6' o7' o8', BODY2 [some v, some (.ref h), some (.ref dk), some (.ref a), o4, some t5, o6, o7, o8] μ = .nx [some v, some (.ref h), some (.ref dk), some (.ref a), o4', some t5, o6', o7', o8'] μ' ∧ Wd μ' h hc dk s st a pre d A m n := by
  have hml := mlen W.C
  let ks : List Str := sortS (A.map (·.1))
  have hks : ks.length = A.length := by
    have := (List.mergeSort_perm (A.map (·.1)) leS).length_eq
    rw [List.length_map] at this
    exact this
  let μ1 : Mem := μ ++ [.lst (ks.map T.str)]
  have W1 := W.app [.lst (ks.map T.str)]
  have n1 : μ1[μ.length]? = some (.lst (ks.map T.str)) := by simp [μ1]
  have hlt := W.H.lt
  obtain ⟨tx, μ2, e2, hx, k2, H2, _⟩ := some_spec W1.H n1 (by omega) (by
    rw [List.length_map, hks]
    exact List.length_pos_iff.mpr hA) (by rw [List.length_map, hks]; omega)
  have W2 := W1.keepH k2 H2
  obtain ⟨x, hxs, rfl⟩ := List.mem_map.mp hx
  have hx : x ∈ A.map (·.1) := mem_sort.mp hxs
  have hx3 := W.C.sub x hx
  obtain ⟨l, ws, w, q1, q2, q3, q4, q5, q6, q7⟩ := W2.C.at hx
  -- the line that is none
  obtain ⟨t, μ3, e3, b3, k3, H3⟩ := no_line_e W2.H hx3 q4
  have W3 := W2.keepH k3 H3
  obtain ⟨g, e4⟩ := say_bad b3 W3.D.desk W3.D.ins
  have W4 := (W3.app g).app (wordG "NoLine")
  let μ4 : Mem := μ3 ++ g ++ wordG "NoLine"
  obtain ⟨l', ws', w', q1', q2', q3', q4', _, _, _⟩ := W4.C.at hx
  obtain ⟨t5', μ5, e5, ⟨z, word, rfl, hz⟩, k5, H5⟩ := wrong_e W4.H hx3 q4'
  have W5 := W4.keepH k5 H5
  obtain ⟨c, g6, e6, c6, c6'⟩ := say_wrong hz W5.D.desk W5.D.st' hx3 q4' q1' (nosuch_no W.C)
  have W6 := (W5.app g6).app (wordG c)
  obtain ⟨μ7, e7, W7⟩ := unchanged_e W6 hn hA
  refine ⟨μ7, some (.str x), some t, some (.str z), some (.str word), ?_, W7⟩
  have c1 : sSet 4 (dFn 2 F__law_some (aCons (dVar 1) (aCons (dNew (dSortD (dVar 3))) aNil))) [some v, some (.ref h), some (.ref dk), some (.ref a), o4, some t5, o6, o7, o8] μ = .nx [some v, some (.ref h), some (.ref dk), some (.ref a), some (.str x), some t5, o6, o7, o8] μ2 := by
    have so : dSortD (dVar 3) [some v, some (.ref h), some (.ref dk), some (.ref a), o4, some t5, o6, o7, o8] μ = .ok (ks.map T.str) μ := sortD_e (by simp) W.C.da (by omega)
    rw [sSet_e, dFn2, dVar_s, dVar_0, bind_ok, dNew_e, so, lbind_ok, bind_ok]
    show (F__law_some [.ref h, .ref μ.length] μ1).toS _ = _
    rw [e2]
    rfl
  have c2 : sSet 6 (dFn 3 F__law_no_line (aCons (dVar 1) (aCons (dVar 4) (aCons (d2 subT' (d2 subT' (dVar 3) (dVar 4)) (d1 negT (dC (.int 1)))) aNil)))) [some v, some (.ref h), some (.ref dk), some (.ref a), some (.str x), some t5, o6, o7, o8] μ2 = .nx [some v, some (.ref h), some (.ref dk), some (.ref a), some (.str x), some t5, some t, o7, o8] μ3 := by
    have lw := lastw_e (σ := [some v, some (.ref h), some (.ref dk), some (.ref a), some (.str x), some t5, o6, o7, o8]) rfl rfl q2 q3
    rw [sSet_e, dFn3, dVar_s, dVar_0, bind_ok, dVar_s, dVar_s, dVar_s, dVar_s, dVar_0, bind_ok, lw, bind_ok, e3]
    rfl
  have c3 : sIf (d2 neT (fun σ μ => wordF ((dMeth "Desk" "say" 2 F_Desk_say (dVar 2) (aCons (dVar 6) aNil)) σ μ)) (dC (.str "line"))) (sRet (dC (.bl false))) sNil [some v, some (.ref h), some (.ref dk), some (.ref a), some (.str x), some t5, some t, o7, o8] μ3 = .nx [some v, some (.ref h), some (.ref dk), some (.ref a), some (.str x), some t5, some t, o7, o8] μ4 := by
    have wl : wordOf "NoLine" = "line" := by decide +kernel
    rw [sIf_e, d2_e, meth_say W3.D.desk rfl rfl, e4, word_exc (by decide +kernel), bind_ok, dC_e, bind_ok, neT_e, eqT_s, wl, decide_eq_true rfl, bind_ok, notT_e, toS_ok, Bool.not_true, sIfK_e, if_neg Bool.false_ne_true, sNil_e]
  have c4 : sAsg (.tp [(.nm 7), (.nm 8)]) (dFn 3 F__law_wrong (aCons (dVar 1) (aCons (dVar 4) (aCons (d2 subT' (d2 subT' (dVar 3) (dVar 4)) (d1 negT (dC (.int 1)))) aNil)))) [some v, some (.ref h), some (.ref dk), some (.ref a), some (.str x), some t5, some t, o7, o8] μ4 = .nx [some v, some (.ref h), some (.ref dk), some (.ref a), some (.str x), some t5, some t, some (.str z), some (.str word)] μ5 := by
    have lw := lastw_e (σ := [some v, some (.ref h), some (.ref dk), some (.ref a), some (.str x), some t5, some t, o7, o8]) rfl rfl q2' q3'
    rw [sAsg_e, dFn3, dVar_s, dVar_0, bind_ok, dVar_s, dVar_s, dVar_s, dVar_s, dVar_0, bind_ok, lw, bind_ok, e5]
    rfl
  have c5 : sIf (dOr (d2 neT (fun σ μ => wordF ((dMeth "Desk" "say" 2 F_Desk_say (dVar 2) (aCons (dVar 7) aNil)) σ μ)) (dVar 8)) (dNot (dFn 2 F__law_is_unchanged (aCons (dVar 2) (aCons (dVar 3) aNil))))) (sRet (dC (.bl false))) sNil [some v, some (.ref h), some (.ref dk), some (.ref a), some (.str x), some t5, some t, some (.str z), some (.str word)] μ5 = .nx [some v, some (.ref h), some (.ref dk), some (.ref a), some (.str x), some t5, some t, some (.str z), some (.str word)] μ7 := by
    have d8 : ∀ μ', dVar 8 [some v, some (.ref h), some (.ref dk), some (.ref a), some (.str x), some t5, some t, some (.str z), some (.str word)] μ' = .ok (.str word) μ' := fun _ => rfl
    rw [sIf_e, dOr_e, d2_e, meth_say W5.D.desk rfl rfl, e6, word_exc c6, c6', bind_ok, d8, bind_ok, neT_e, eqT_s, decide_eq_true rfl, bind_ok, notT_e, Bool.not_true, bind_ok]
    show (((dNot (dFn 2 F__law_is_unchanged (aCons (dVar 2) (aCons (dVar 3) aNil)))) _ _).toS _) = _
    rw [dNot_e, dFn2]
    simp only [dVar_s, dVar_0, bind_ok, e7, notT_e, Bool.not_true, toS_ok, sIfK_e, if_neg Bool.false_ne_true, sNil_e]
  unfold BODY2
  rw [sSeq_e, c1, seq_nx, sSeq_e, c2, seq_nx, sSeq_e, c3, seq_nx, sSeq_e, c4, seq_nx, c5]
theorem cut3 {μ : Mem} {k : Nat} {r : Int} (hk : μ[k]? = some (.lst (names3.map T.str))) (h0 : 0 ≤ r) (h3 : r < 3) : ∃ nl : List Str, nl ≠ [] ∧ nl.Nodup ∧ (∀ x ∈ nl, x ∈ names3) ∧ nl.length ≤ 3 ∧ sliceT (.ref k) none (some (1 + r)) μ = .ok (.ref μ.length) (μ ++ [.lst (nl.map T.str)]) := by
  have e : ∀ z : Option Int, sliceT (.ref k) none z μ = .ok (.ref μ.length) (μ ++ [.lst (cutT (names3.map T.str) none z)]) := fun z => by
    unfold sliceT; dsimp only; rw [hk]
  rcases (show r = 0 ∨ r = 1 ∨ r = 2 by omega) with rfl | rfl | rfl
  · exact ⟨["a"], by simp, by decide +kernel, by decide +kernel, by simp, e _⟩
  · exact ⟨["a", "bee"], by simp, by decide +kernel, by decide +kernel, by simp, e _⟩
  · exact ⟨["a", "bee", "longname"], by simp, by decide +kernel, by decide +kernel, by simp, e _⟩
theorem law_ok {μ : Mem} {v : T} {ns : List Int} (hn : ns.length ≤ 63) (hv : v = .fl ns ∨ ∃ k, v = .ref k ∧ μ[k]? = some (.lst (ns.map T.int))) : ∃ μ', F_law [v] μ = .ok (.bl true) μ' := by
  obtain ⟨h, hc, μ1, e1, H1⟩ := hand_ok hn hv
  obtain ⟨hl, hlc⟩ := H1.lt
  obtain ⟨μ2, dk, s, st, d, e2, D2, k2, hst, hdk⟩ := make_desk μ1 [some v, some (.ref h), none, none, none, none, none, none, none]
  have H2 := H1.keep k2 (by simp) (by simp)
  let μ3 : Mem := μ2 ++ [.dct []]
  let μ4 : Mem := μ3 ++ [.lst (names3.map T.str)]
  have H4 : Hand μ4 h hc := hand_app (hand_app H2 _) _
  have D4 : Dk μ4 dk s st [] d [] 0 := (D2.app _).app _
  have n4 : μ4[μ3.length]? = some (.lst (names3.map T.str)) := by simp [μ4]
  obtain ⟨r, μ5, e5, r0, r3, k5, H5, _⟩ := draw_spec (many := 3) H4 (by omega) (by omega)
  have l34 : μ3.length = μ2.length + 1 := by simp [μ3]
  have l44 : μ4.length = μ3.length + 1 := by simp [μ4]
  have l12 := k2.1
  have n5 := k5.at n4 (by simp; omega)
  obtain ⟨nl, nl0, nln, nls, nl3, es⟩ := cut3 n5 r0 r3
  let μ6 : Mem := μ5 ++ [.lst (nl.map T.str)]
  have d2lt := lt_of D2.cur
  have stlt := lt_of D2.stg
  have l45 := k5.1
  have O : Out μ6 h hc dk s st μ2.length [] d [] [] 0 μ5.length nl := by
    refine ⟨hand_app H5 _, (D4.keepH H4 (by omega) k5).app _, ⟨rfl, by simp, fun x hx => by simp at hx, fun p hp => by simp at hp⟩, ?_, by omega, by omega, by omega, by simp [μ6], by omega, by omega⟩
    exact app_at (k5.at (show μ4[μ2.length]? = some (.dct (repA [])) by simp [μ4, μ3, repA]) (by simp; omega))
  obtain ⟨μ7, pre7, d7, A7, m7, n7, o4, o5, e7, O7, hA7, hn7⟩ := names_go (v := v) (o6 := none) (o7 := none) (o8 := none) nln nls nl μ6 [] d 0 [] [] none none O rfl (by omega)
  have W7 := O7.wd
  have hA : A7 ≠ [] := fun z => nl0 (by rw [← hA7, z]; rfl)
  let Inv : List (Option T) → Mem → Prop := fun σ μ' => ∃ o4 o5 o6 o7 o8, σ = [some v, some (.ref h), some (.ref dk), some (.ref μ2.length), o4, o5, o6, o7, o8] ∧ Wd μ' h hc dk s st μ2.length pre7 d7 A7 m7 n7
  obtain ⟨σ8, μ8, e8, o4', o5', o6', o7', o8', rfl, W8⟩ := for_inv (i := 5) (body := BODY2) Inv (rngL 0 8) (fun x _ σ μ' hI => by
    obtain ⟨o4, o5, o6, o7, o8, rfl, W⟩ := hI
    obtain ⟨μ'', p4, p6, p7, p8, e, W'⟩ := turn_step (v := v) (t5 := x) (o4 := o4) (o6 := o6) (o7 := o7) (o8 := o8) W (by omega) hA
    exact ⟨_, μ'', e, p4, some x, p6, p7, p8, rfl, W'⟩) [some v, some (.ref h), some (.ref dk), some (.ref μ2.length), o4, o5, none, none, none] μ7 ⟨_, _, _, _, _, rfl, W7⟩
  refine ⟨μ8, ?_⟩
  have t1 : sSet 1 (dFn 1 F__law_hand (aCons (dVar 0) aNil)) [some v, none, none, none, none, none, none, none, none] μ = .nx [some v, some (.ref h), none, none, none, none, none, none, none] μ1 := by
    rw [sSet_e, dFn1, dVar_0, bind_ok, e1]; rfl
  have t2 : sAsg (.tp [(.nm 2), (.nm 3)]) (dTup (aCons (dMake "Desk" 1 F_Deskdd_initdd aNil) (aCons (fun _ μ => .ok (.ref μ.length) (μ ++ [.dct []])) aNil))) [some v, some (.ref h), none, none, none, none, none, none, none] μ1 = .nx [some v, some (.ref h), some (.ref dk), some (.ref μ2.length), none, none, none, none, none] μ3 := by
    rw [sAsg_e, dTup_e, aCons_e, e2, bind_ok, aCons_e, bind_ok, aNil_e]
    simp only [List.length_cons, List.length_nil, Nat.zero_add, Nat.reduceAdd, if_pos (sz (show 2 ≤ 1000 by omega)), toS_ok]
    rfl
  have z3 : dNew (dLstL (lCons (dC (.str "a")) (lCons (dC (.str "bee")) (lCons (dC (.str "longname")) lNil)))) [some v, some (.ref h), some (.ref dk), some (.ref μ2.length), none, none, none, none, none] μ3 = .ok (.ref μ3.length) μ4 := by
    simp only [dNew_e, dLstL_e, lCons_e, lNil_e, dC_e, bindL_ok, List.length_cons, List.length_nil, Nat.zero_add, Nat.reduceAdd, if_pos (sz (show 3 ≤ 1000 by omega)), lbind_ok]
    rfl
  have t3 : sFor (dIter (dSl (dNew (dLstL (lCons (dC (.str "a")) (lCons (dC (.str "bee")) (lCons (dC (.str "longname")) lNil))))) none (some (d2 addT (dC (.int 1)) (dFn 2 F__law_draw (aCons (dVar 1) (aCons (dC (.int 3)) aNil))))))) (.nm 4) BODY1 [some v, some (.ref h), some (.ref dk), some (.ref μ2.length), none, none, none, none, none] μ3 = .nx [some v, some (.ref h), some (.ref dk), some (.ref μ2.length), o4, o5, none, none, none] μ7 := by
    have sl : dSl (dNew (dLstL (lCons (dC (.str "a")) (lCons (dC (.str "bee")) (lCons (dC (.str "longname")) lNil))))) none (some (d2 addT (dC (.int 1)) (dFn 2 F__law_draw (aCons (dVar 1) (aCons (dC (.int 3)) aNil))))) [some v, some (.ref h), some (.ref dk), some (.ref μ2.length), none, none, none, none, none] μ3 = .ok (.ref μ5.length) μ6 := by
      have e : d2 addT (dC (.int 1)) (dFn 2 F__law_draw (aCons (dVar 1) (aCons (dC (.int 3)) aNil))) [some v, some (.ref h), some (.ref dk), some (.ref μ2.length), none, none, none, none, none] μ4 = .ok (.int (1 + r)) μ5 := by
        rw [d2_e, dC_e, bind_ok, dFn2]
        simp only [dVar_s, dVar_0, bind_ok, dC_e, e5]
        rfl
      unfold dSl
      rw [z3, bind_ok]
      unfold odRunR
      dsimp only
      rw [e, bind_ok]
      exact es
    unfold sFor dIter
    rw [sl]
    dsimp only
    rw [show μ6[μ5.length]? = some (.lst (nl.map T.str)) by simp [μ6]]
    exact e7
  have t4 : sFor (dRng1 (dC (.int 8))) (.nm 5) BODY2 [some v, some (.ref h), some (.ref dk), some (.ref μ2.length), o4, o5, none, none, none] μ7 = .nx [some v, some (.ref h), some (.ref dk), some (.ref μ2.length), o4', o5', o6', o7', o8'] μ8 := by
    have rq : rngOk 8 = true := by unfold rngOk; simp
    unfold sFor dRng1
    simp only [dC_e]
    rw [if_pos rq]
    exact e8
  show (d_law [some v, none, none, none, none, none, none, none, none] μ).toR = _
  unfold d_law
  rw [sSeq_e, t1, seq_nx, sSeq_e, t2, seq_nx, sSeq_e]
  show (SRes.seq (sFor _ (.nm 4) BODY1 _ μ3) _).toR = _
  rw [t3, seq_nx, sSeq_e]
  show (SRes.seq (sFor _ (.nm 5) BODY2 _ μ7) _).toR = _
  rw [t4, seq_nx]
  rfl
theorem math (ns : List Int) (h : ns.length ≤ 63) : (∃ μ, F_law [.fl ns] [] = .ok (.bl true) μ) ∧ ∃ μ, F_law [.ref 0] [.lst (ns.map T.int)] = .ok (.bl true) μ :=
  ⟨law_ok h (.inl rfl), law_ok h (.inr ⟨0, rfl, rfl⟩)⟩
end K81
set_option Elab.async false
set_option linter.all false
set_option maxRecDepth 100000
set_option maxHeartbeats 4000000
namespace K81
open PySem PySem.Spec PyProof.Rows L2 TL
end K81
open PySem PySem.W PyProof.Rows
set_option maxRecDepth 100000 in
set_option maxHeartbeats 0 in
theorem PySem.Challenge.cw_treesapartways_k81_whole_desks_refuse_li_holds : PySem.Challenge.rw_treesapartways_k81_whole_desks_refuse_li.Holds := by
  w_on; o_law; k_head; (case hw => w_witness2)
  k_fill
  refine LamX.walk_ofTs (n := 63) (k := 13) (x := "script") (CX := fun w => L2.CX (PySem.Challenge.rw_treesapartways_k81_whole_desks_refuse_li).prog w) rfl (by decide) rfl ⟨rfl, by decide, by decide⟩ (fun w h Y => km_in_of Y) ?F (fun _ _ _ _ _ ⟨_, _, _, _, _, _, _, _, _, _, _, _, z⟩ => z)
  case F =>
    intro w mg fa h Y KX G hmg
    have hT8 := km_tabs_of Y
    refine' K81.all_mk KX G hmg ?aC_Store ?pg_Store ?hd_Store ?po_Store ?sa_Store ?mk_Store ?kc_Store ?aC_Desk ?pg_Desk ?hd_Desk ?po_Desk ?sa_Desk ?mk_Desk ?kc_Desk ?a_Storedd_initdd ?i_Storedd_initdd ?l_Storedd_initdd ?c_Storedd_initdd ?k_Storedd_initdd ?a_Deskdd_initdd ?i_Deskdd_initdd ?l_Deskdd_initdd ?c_Deskdd_initdd ?k_Deskdd_initdd ?a_Store_now ?i_Store_now ?l_Store_now ?c_Store_now ?k_Store_now ?a_is_name ?l_is_name ?c_is_name ?k_is_name ?a_Store_check_there ?i_Store_check_there ?l_Store_check_there ?c_Store_check_there ?k_Store_check_there ?a_Store_take ?i_Store_take ?l_Store_take ?c_Store_take ?k_Store_take ?a_is_int ?l_is_int ?c_is_int ?k_is_int ?a_is_within ?l_is_within ?c_is_within ?k_is_within ?a_check_place ?l_check_place ?c_check_place ?k_check_place ?a_is_sized ?l_is_sized ?c_is_sized ?k_is_sized ?a_is_pair_of ?l_is_pair_of ?c_is_pair_of ?k_is_pair_of ?a_is_web ?l_is_web ?c_is_web ?k_is_web ?a_check_web ?l_check_web ?c_check_web ?k_check_web ?a_check_two_places ?l_check_two_places ?c_check_two_places ?k_check_two_places ?a_level_of ?l_level_of ?c_level_of ?k_level_of ?a_check_forests_many ?l_check_forests_many ?c_check_forests_many ?k_check_forests_many ?a_most_held ?l_most_held ?c_most_held ?k_most_held ?a_is_play ?l_is_play ?c_is_play ?k_is_play ?a_check_play ?l_check_play ?c_check_play ?k_check_play ?a_outcome ?l_outcome ?c_outcome ?k_outcome ?a_Desk_answer ?i_Desk_answer ?l_Desk_answer ?c_Desk_answer ?k_Desk_answer ?a_check_most ?l_check_most ?c_check_most ?k_check_most ?a_Store_put ?i_Store_put ?l_Store_put ?c_Store_put ?k_Store_put ?a_number_of ?l_number_of ?c_number_of ?k_number_of ?a_pair_of ?l_pair_of ?c_pair_of ?k_pair_of ?a_Desk_put_web ?i_Desk_put_web ?l_Desk_put_web ?c_Desk_put_web ?k_Desk_put_web ?a_Store_names ?i_Store_names ?l_Store_names ?c_Store_names ?k_Store_names ?a_Store_undo ?i_Store_undo ?l_Store_undo ?c_Store_undo ?k_Store_undo ?a_Desk_say ?i_Desk_say ?l_Desk_say ?c_Desk_say ?k_Desk_say ?a__law_draw ?l__law_draw ?c__law_draw ?k__law_draw ?a__law_hand ?l__law_hand ?c__law_hand ?k__law_hand ?a__law_web_line ?l__law_web_line ?c__law_web_line ?k__law_web_line ?a__law_is_unchanged ?l__law_is_unchanged ?c__law_is_unchanged ?k__law_is_unchanged ?a__law_some ?l__law_some ?c__law_some ?k__law_some ?a__law_no_line ?l__law_no_line ?c__law_no_line ?k__law_no_line ?a__law_web ?l__law_web ?c__law_web ?k__law_web ?a__law_word ?l__law_word ?c__law_word ?k__law_word ?a__law_wrong ?l__law_wrong ?c__law_wrong ?k__law_wrong ?a_law ?l_law ?c_law ?k_law ?tp_law ?th_law ?tn_law ?tt_law ?z_abs ?z_all ?z_bool ?z_dict ?z_int ?z_isinstance ?z_len ?z_list ?z_range ?z_sorted ?z_str ?z_tuple ?g_LETTERS ?g_MOST_DIGITS ?g_MOST_FORESTS ?g_MOST_NAME ?g_MOST_NAMES ?g_MOST_PLACES ?g_MOST_TIES ?g_MOST_VERSIONS ?nf_Desk_desk_store ?nf_Store_store_stages ?aTe ?e0_NoLine ?e0_NoName ?e0_NoNumber ?e0_NoPlace ?e0_NoPlay ?e0_NoWeb ?e0_TooMany ?e2_NoLine ?e3_NoLine ?e4_NoLine ?e2_NoName ?e3_NoName ?e4_NoName ?e2_NoNumber ?e3_NoNumber ?e4_NoNumber ?e2_NoPlace ?e3_NoPlace ?e4_NoPlace ?e2_NoPlay ?e3_NoPlay ?e4_NoPlay ?e2_NoWeb ?e3_NoWeb ?e4_NoWeb ?e2_TooMany ?e3_TooMany ?e4_TooMany ?e5_NoLine ?e6_NoLine ?e7_NoLine ?e8_NoLine ?e9_NoLine ?ex_NoLine ?kt_NoLine_NoLine ?kt_NoLine_NoName ?kt_NoLine_NoNumber ?kt_NoLine_NoPlace ?kt_NoLine_NoPlay ?kt_NoLine_NoWeb ?e5_NoName ?e6_NoName ?e7_NoName ?e8_NoName ?e9_NoName ?ex_NoName ?kt_NoName_NoLine ?kt_NoName_NoName ?kt_NoName_NoNumber ?kt_NoName_NoPlace ?kt_NoName_NoPlay ?kt_NoName_NoWeb ?e5_NoNumber ?e6_NoNumber ?e7_NoNumber ?e8_NoNumber ?e9_NoNumber ?ex_NoNumber ?kt_NoNumber_NoLine ?kt_NoNumber_NoName ?kt_NoNumber_NoNumber ?kt_NoNumber_NoPlace ?kt_NoNumber_NoPlay ?kt_NoNumber_NoWeb ?e5_NoPlace ?e6_NoPlace ?e7_NoPlace ?e8_NoPlace ?e9_NoPlace ?ex_NoPlace ?kt_NoPlace_NoLine ?kt_NoPlace_NoName ?kt_NoPlace_NoNumber ?kt_NoPlace_NoPlace ?kt_NoPlace_NoPlay ?kt_NoPlace_NoWeb ?e5_NoPlay ?e6_NoPlay ?e7_NoPlay ?e8_NoPlay ?e9_NoPlay ?ex_NoPlay ?kt_NoPlay_NoLine ?kt_NoPlay_NoName ?kt_NoPlay_NoNumber ?kt_NoPlay_NoPlace ?kt_NoPlay_NoPlay ?kt_NoPlay_NoWeb ?e5_NoWeb ?e6_NoWeb ?e7_NoWeb ?e8_NoWeb ?e9_NoWeb ?ex_NoWeb ?kt_NoWeb_NoLine ?kt_NoWeb_NoName ?kt_NoWeb_NoNumber ?kt_NoWeb_NoPlace ?kt_NoWeb_NoPlay ?kt_NoWeb_NoWeb ?sp1 ?sp2 ?e1_NoLine ?e1_NoName ?e1_NoNumber ?e1_NoPlace ?e1_NoPlay ?e1_NoWeb ?wa_NUMBERS ?wl_NUMBERS ?wk_NUMBERS ?ws_NUMBERS ?wy_NUMBERS ?wv_NUMBERS_tie ?wr_NUMBERS_tie ?wv_NUMBERS_held ?wr_NUMBERS_held ?wv_NUMBERS_trees ?wr_NUMBERS_trees ?wv_NUMBERS_forests ?wr_NUMBERS_forests ?wv_NUMBERS_strength ?wr_NUMBERS_strength ?wv_NUMBERS_level ?wr_NUMBERS_level ?wv_NUMBERS_play ?wr_NUMBERS_play ?wv_NUMBERS_count ?wr_NUMBERS_count ?x1_TooMany ?x2_TooMany ?x6_TooMany ?x7_TooMany ?xl_TooMany ?xc_TooMany ?xf_TooMany ?xt_TooMany ?xs_TooMany ?x8_TooMany ?x9_TooMany ?x10_TooMany ?x11_TooMany ?xd_TooMany ?xn_TooMany  ?math
    (case aC_Store => k_is)
    (case pg_Store => k_is)
    (case hd_Store => k_is)
    (case po_Store => k_is)
    (case sa_Store => k_is)
    (case mk_Store => k_is)
    (case kc_Store => k_is)
    (case aC_Desk => k_is)
    (case pg_Desk => k_is)
    (case hd_Desk => k_is)
    (case po_Desk => k_is)
    (case sa_Desk => k_is)
    (case mk_Desk => k_is)
    (case kc_Desk => k_is)
    (case a_Storedd_initdd => k_is)
    (case i_Storedd_initdd => k_is)
    (case l_Storedd_initdd => k_is)
    (case c_Storedd_initdd => k_is)
    (case k_Storedd_initdd => k_is)
    (case a_Deskdd_initdd => k_is)
    (case i_Deskdd_initdd => k_is)
    (case l_Deskdd_initdd => k_is)
    (case c_Deskdd_initdd => k_is)
    (case k_Deskdd_initdd => k_is)
    (case a_Store_now => k_is)
    (case i_Store_now => k_is)
    (case l_Store_now => k_is)
    (case c_Store_now => k_is)
    (case k_Store_now => k_is)
    (case a_is_name => k_is)
    (case l_is_name => k_is)
    (case c_is_name => k_is)
    (case k_is_name => k_is)
    (case a_Store_check_there => k_is)
    (case i_Store_check_there => k_is)
    (case l_Store_check_there => k_is)
    (case c_Store_check_there => k_is)
    (case k_Store_check_there => k_is)
    (case a_Store_take => k_is)
    (case i_Store_take => k_is)
    (case l_Store_take => k_is)
    (case c_Store_take => k_is)
    (case k_Store_take => k_is)
    (case a_is_int => k_is)
    (case l_is_int => k_is)
    (case c_is_int => k_is)
    (case k_is_int => k_is)
    (case a_is_within => k_is)
    (case l_is_within => k_is)
    (case c_is_within => k_is)
    (case k_is_within => k_is)
    (case a_check_place => k_is)
    (case l_check_place => k_is)
    (case c_check_place => k_is)
    (case k_check_place => k_is)
    (case a_is_sized => k_is)
    (case l_is_sized => k_is)
    (case c_is_sized => k_is)
    (case k_is_sized => k_is)
    (case a_is_pair_of => k_is)
    (case l_is_pair_of => k_is)
    (case c_is_pair_of => k_is)
    (case k_is_pair_of => k_is)
    (case a_is_web => k_is)
    (case l_is_web => k_is)
    (case c_is_web => k_is)
    (case k_is_web => k_is)
    (case a_check_web => k_is)
    (case l_check_web => k_is)
    (case c_check_web => k_is)
    (case k_check_web => k_is)
    (case a_check_two_places => k_is)
    (case l_check_two_places => k_is)
    (case c_check_two_places => k_is)
    (case k_check_two_places => k_is)
    (case a_level_of => k_is)
    (case l_level_of => k_is)
    (case c_level_of => k_is)
    (case k_level_of => k_is)
    (case a_check_forests_many => k_is)
    (case l_check_forests_many => k_is)
    (case c_check_forests_many => k_is)
    (case k_check_forests_many => k_is)
    (case a_most_held => k_is)
    (case l_most_held => k_is)
    (case c_most_held => k_is)
    (case k_most_held => k_is)
    (case a_is_play => k_is)
    (case l_is_play => k_is)
    (case c_is_play => k_is)
    (case k_is_play => k_is)
    (case a_check_play => k_is)
    (case l_check_play => k_is)
    (case c_check_play => k_is)
    (case k_check_play => k_is)
    (case a_outcome => k_is)
    (case l_outcome => k_is)
    (case c_outcome => k_is)
    (case k_outcome => k_is)
    (case a_Desk_answer => k_is)
    (case i_Desk_answer => k_is)
    (case l_Desk_answer => k_is)
    (case c_Desk_answer => k_is)
    (case k_Desk_answer => k_is)
    (case a_check_most => k_is)
    (case l_check_most => k_is)
    (case c_check_most => k_is)
    (case k_check_most => k_is)
    (case a_Store_put => k_is)
    (case i_Store_put => k_is)
    (case l_Store_put => k_is)
    (case c_Store_put => k_is)
    (case k_Store_put => k_is)
    (case a_number_of => k_is)
    (case l_number_of => k_is)
    (case c_number_of => k_is)
    (case k_number_of => k_is)
    (case a_pair_of => k_is)
    (case l_pair_of => k_is)
    (case c_pair_of => k_is)
    (case k_pair_of => k_is)
    (case a_Desk_put_web => k_is)
    (case i_Desk_put_web => k_is)
    (case l_Desk_put_web => k_is)
    (case c_Desk_put_web => k_is)
    (case k_Desk_put_web => k_is)
    (case a_Store_names => k_is)
    (case i_Store_names => k_is)
    (case l_Store_names => k_is)
    (case c_Store_names => k_is)
    (case k_Store_names => k_is)
    (case a_Store_undo => k_is)
    (case i_Store_undo => k_is)
    (case l_Store_undo => k_is)
    (case c_Store_undo => k_is)
    (case k_Store_undo => k_is)
    (case a_Desk_say => k_is)
    (case i_Desk_say => k_is)
    (case l_Desk_say => k_is)
    (case c_Desk_say => k_is)
    (case k_Desk_say => k_is)
    (case a__law_draw => k_is)
    (case l__law_draw => k_is)
    (case c__law_draw => k_is)
    (case k__law_draw => k_is)
    (case a__law_hand => k_is)
    (case l__law_hand => k_is)
    (case c__law_hand => k_is)
    (case k__law_hand => k_is)
    (case a__law_web_line => k_is)
    (case l__law_web_line => k_is)
    (case c__law_web_line => k_is)
    (case k__law_web_line => k_is)
    (case a__law_is_unchanged => k_is)
    (case l__law_is_unchanged => k_is)
    (case c__law_is_unchanged => k_is)
    (case k__law_is_unchanged => k_is)
    (case a__law_some => k_is)
    (case l__law_some => k_is)
    (case c__law_some => k_is)
    (case k__law_some => k_is)
    (case a__law_no_line => k_is)
    (case l__law_no_line => k_is)
    (case c__law_no_line => k_is)
    (case k__law_no_line => k_is)
    (case a__law_web => k_is)
    (case l__law_web => k_is)
    (case c__law_web => k_is)
    (case k__law_web => k_is)
    (case a__law_word => k_is)
    (case l__law_word => k_is)
    (case c__law_word => k_is)
    (case k__law_word => k_is)
    (case a__law_wrong => k_is)
    (case l__law_wrong => k_is)
    (case c__law_wrong => k_is)
    (case k__law_wrong => k_is)
    (case a_law => k_is)
    (case l_law => k_is)
    (case c_law => k_is)
    (case k_law => k_is)
    (case tp_law => exact rfl)
    (case th_law => kernel_rfl)
    (case tn_law => kernel_rfl)
    (case tt_law => exact hT8 _ (by decide))
    (case z_abs => k_is)
    (case z_all => k_is)
    (case z_bool => k_is)
    (case z_dict => k_is)
    (case z_int => k_is)
    (case z_isinstance => k_is)
    (case z_len => k_is)
    (case z_list => k_is)
    (case z_range => k_is)
    (case z_sorted => k_is)
    (case z_str => k_is)
    (case z_tuple => k_is)
    (case g_LETTERS => k_is)
    (case g_MOST_DIGITS => k_is)
    (case g_MOST_FORESTS => k_is)
    (case g_MOST_NAME => k_is)
    (case g_MOST_NAMES => k_is)
    (case g_MOST_PLACES => k_is)
    (case g_MOST_TIES => k_is)
    (case g_MOST_VERSIONS => k_is)
    (case nf_Desk_desk_store => k_is)
    (case nf_Store_store_stages => k_is)
    (case aTe => k_is)
    (case e0_NoLine => k_is)
    (case e0_NoName => k_is)
    (case e0_NoNumber => k_is)
    (case e0_NoPlace => k_is)
    (case e0_NoPlay => k_is)
    (case e0_NoWeb => k_is)
    (case e0_TooMany => k_is)
    (case e2_NoLine => k_is)
    (case e3_NoLine => k_is)
    (case e4_NoLine => k_is)
    (case e2_NoName => k_is)
    (case e3_NoName => k_is)
    (case e4_NoName => k_is)
    (case e2_NoNumber => k_is)
    (case e3_NoNumber => k_is)
    (case e4_NoNumber => k_is)
    (case e2_NoPlace => k_is)
    (case e3_NoPlace => k_is)
    (case e4_NoPlace => k_is)
    (case e2_NoPlay => k_is)
    (case e3_NoPlay => k_is)
    (case e4_NoPlay => k_is)
    (case e2_NoWeb => k_is)
    (case e3_NoWeb => k_is)
    (case e4_NoWeb => k_is)
    (case e2_TooMany => k_is)
    (case e3_TooMany => k_is)
    (case e4_TooMany => k_is)
    (case e5_NoLine => kernel_rfl)
    (case e6_NoLine => k_is)
    (case e7_NoLine => k_is)
    (case e8_NoLine => k_is)
    (case e9_NoLine => k_is)
    (case ex_NoLine => kernel_rfl)
    (case kt_NoLine_NoLine => kernel_rfl)
    (case kt_NoLine_NoName => kernel_rfl)
    (case kt_NoLine_NoNumber => kernel_rfl)
    (case kt_NoLine_NoPlace => kernel_rfl)
    (case kt_NoLine_NoPlay => kernel_rfl)
    (case kt_NoLine_NoWeb => kernel_rfl)
    (case e5_NoName => kernel_rfl)
    (case e6_NoName => k_is)
    (case e7_NoName => k_is)
    (case e8_NoName => k_is)
    (case e9_NoName => k_is)
    (case ex_NoName => kernel_rfl)
    (case kt_NoName_NoLine => kernel_rfl)
    (case kt_NoName_NoName => kernel_rfl)
    (case kt_NoName_NoNumber => kernel_rfl)
    (case kt_NoName_NoPlace => kernel_rfl)
    (case kt_NoName_NoPlay => kernel_rfl)
    (case kt_NoName_NoWeb => kernel_rfl)
    (case e5_NoNumber => kernel_rfl)
    (case e6_NoNumber => k_is)
    (case e7_NoNumber => k_is)
    (case e8_NoNumber => k_is)
    (case e9_NoNumber => k_is)
    (case ex_NoNumber => kernel_rfl)
    (case kt_NoNumber_NoLine => kernel_rfl)
    (case kt_NoNumber_NoName => kernel_rfl)
    (case kt_NoNumber_NoNumber => kernel_rfl)
    (case kt_NoNumber_NoPlace => kernel_rfl)
    (case kt_NoNumber_NoPlay => kernel_rfl)
    (case kt_NoNumber_NoWeb => kernel_rfl)
    (case e5_NoPlace => kernel_rfl)
    (case e6_NoPlace => k_is)
    (case e7_NoPlace => k_is)
    (case e8_NoPlace => k_is)
    (case e9_NoPlace => k_is)
    (case ex_NoPlace => kernel_rfl)
    (case kt_NoPlace_NoLine => kernel_rfl)
    (case kt_NoPlace_NoName => kernel_rfl)
    (case kt_NoPlace_NoNumber => kernel_rfl)
    (case kt_NoPlace_NoPlace => kernel_rfl)
    (case kt_NoPlace_NoPlay => kernel_rfl)
    (case kt_NoPlace_NoWeb => kernel_rfl)
    (case e5_NoPlay => kernel_rfl)
    (case e6_NoPlay => k_is)
    (case e7_NoPlay => k_is)
    (case e8_NoPlay => k_is)
    (case e9_NoPlay => k_is)
    (case ex_NoPlay => kernel_rfl)
    (case kt_NoPlay_NoLine => kernel_rfl)
    (case kt_NoPlay_NoName => kernel_rfl)
    (case kt_NoPlay_NoNumber => kernel_rfl)
    (case kt_NoPlay_NoPlace => kernel_rfl)
    (case kt_NoPlay_NoPlay => kernel_rfl)
    (case kt_NoPlay_NoWeb => kernel_rfl)
    (case e5_NoWeb => kernel_rfl)
    (case e6_NoWeb => k_is)
    (case e7_NoWeb => k_is)
    (case e8_NoWeb => k_is)
    (case e9_NoWeb => k_is)
    (case ex_NoWeb => kernel_rfl)
    (case kt_NoWeb_NoLine => kernel_rfl)
    (case kt_NoWeb_NoName => kernel_rfl)
    (case kt_NoWeb_NoNumber => kernel_rfl)
    (case kt_NoWeb_NoPlace => kernel_rfl)
    (case kt_NoWeb_NoPlay => kernel_rfl)
    (case kt_NoWeb_NoWeb => kernel_rfl)
    (case sp1 => k_is)
    (case sp2 => k_is)
    (case e1_NoLine => kernel_rfl)
    (case e1_NoName => kernel_rfl)
    (case e1_NoNumber => kernel_rfl)
    (case e1_NoPlace => kernel_rfl)
    (case e1_NoPlay => kernel_rfl)
    (case e1_NoWeb => kernel_rfl)
    (case wa_NUMBERS => k_is)
    (case wl_NUMBERS => k_is)
    (case wk_NUMBERS => k_keys)
    (case ws_NUMBERS => decide)
    (case wy_NUMBERS => kernel_rfl)
    (case wv_NUMBERS_tie => k_is)
    (case wr_NUMBERS_tie => kernel_rfl)
    (case wv_NUMBERS_held => k_is)
    (case wr_NUMBERS_held => kernel_rfl)
    (case wv_NUMBERS_trees => k_is)
    (case wr_NUMBERS_trees => kernel_rfl)
    (case wv_NUMBERS_forests => k_is)
    (case wr_NUMBERS_forests => kernel_rfl)
    (case wv_NUMBERS_strength => k_is)
    (case wr_NUMBERS_strength => kernel_rfl)
    (case wv_NUMBERS_level => k_is)
    (case wr_NUMBERS_level => kernel_rfl)
    (case wv_NUMBERS_play => k_is)
    (case wr_NUMBERS_play => kernel_rfl)
    (case wv_NUMBERS_count => k_is)
    (case wr_NUMBERS_count => kernel_rfl)
    (case x1_TooMany => kernel_rfl)
    (case x2_TooMany => k_is)
    (case x6_TooMany => k_is)
    (case x7_TooMany => k_is)
    (case xl_TooMany => k_is)
    (case xc_TooMany => k_is)
    (case xf_TooMany => kernel_rfl)
    (case xt_TooMany => kernel_rfl)
    (case xs_TooMany => k_is)
    (case x8_TooMany => kernel_rfl)
    (case x9_TooMany => kernel_rfl)
    (case x10_TooMany => kernel_rfl)
    (case x11_TooMany => k_is)
    (case xd_TooMany => k_is)
    (case xn_TooMany => k_is)
    (case math => exact K81.math)
