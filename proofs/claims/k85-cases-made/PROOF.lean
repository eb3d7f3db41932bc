import PyProof.Rows.All
import Wide.All
import OpenK.AllK
import Wide.FinOn
import PySem.Challenge.RW_watchposts_k85_whole_cases_made
import KE.KStateDown
import HandS.ForMost
import HandS.Exc
import HandS.Codes
import HandS.Lambda
import HandS.Nested
import HandS.NestedK
import HandS.Defaults
import HandS.Property
import HandS.TupAny
import HandS.Wide
import HandS.Star
import HandS.TupLe
import HandS.DictComp
import KE.GoesEnum
import HandS.Text
import HandS.Deep
import HandS.IsInst
import HandS.WideBits
import KE.SortData
import KE.KLam
import HandS.OwnEq
import HandS.MakeKwOnly
import PyProof.InstNe
import HandS.Conv
import HandS.Words
import HandS.Style
import PyProof.StrOps2
import HandS.Head0
import HandS.Head1
import HandS.Head2
import HandS.HeadHook1
import HandS.HeadHook2
import HandS.HeadHook4
import HandS.HeadWalk
set_option Elab.async false
set_option linter.all false
set_option autoImplicit false
set_option maxRecDepth 100000
set_option maxHeartbeats 4000000
/-! M1: data, their place in the abstract heap, judgements. -/
namespace MM
open PySem PySem.Spec PyProof.Rows L2 LamX NdefX

/-- data -/
inductive D where
  | non | bl (b : Bool) | int (i : Int) | str (x : Str)
  | tup (ds : List D) | lst (ds : List D) | ro (ds : List D)
  | ins (c : Str) (ns : List Str) (ds : List D)
  | dct (ks : List L2.Key) (ds : List D)
  | loc (n : Nat)
  | ty (n : String)
  | cls (c : Str)
instance : Inhabited D := ⟨.non⟩
/-- what stands in the store and may change -/
inductive Ob where
  | lst (ds : List D)
  | ins (c : Str) (ns : List Str) (ds : List D)
  | dK (ks : List L2.Key) (ds : List D)
instance : Inhabited Ob := ⟨.lst []⟩
/-- a slot's value: a datum, or a lambda with what it captured -/
inductive A where
  | d (x : D)
  | clo (k : Nat) (caps : List D)
abbrev Ev := List (Option A)
abbrev Mo (α : Type) := List Ob → Option (α × List Ob)
def Mo.pure {α : Type} (a : α) : Mo α := fun s => some (a, s)
def Mo.bind {α β : Type} (m : Mo α) (f : α → Mo β) : Mo β := fun s => match m s with
  | some (a, s') => f a s'
  | none => none
def Mo.fail {α : Type} : Mo α := fun _ => none
theorem Mo.bind_some {α β : Type} {m : Mo α} {f : α → Mo β} {s s' : List Ob} {r : β} (h : m.bind f s = some (r, s')) : ∃ a s1, m s = some (a, s1) ∧ f a s1 = some (r, s') := by
  unfold Mo.bind at h
  cases e : m s with
  | none => rw [e] at h; cases h
  | some p => obtain ⟨a, s1⟩ := p; rw [e] at h; exact ⟨a, s1, rfl, h⟩
theorem Mo.pure_some {α : Type} {a b : α} {s s' : List Ob} (h : Mo.pure a s = some (b, s')) : b = a ∧ s' = s := by
  unfold Mo.pure at h
  cases h
  exact ⟨rfl, rfl⟩
inductive Out where
  | nx (ρ : Ev) | rt (d : D) | bk (ρ : Ev) | ct (ρ : Ev)

/-- what is known of the program around: the classes' addresses, the tables of code objects, the lambdas -/
structure G where
  ca : Str → Addr
  T : List NTab
  clo : Hp → Nat → V → List (Addr × V) → Prop
  cloK : ∀ (H H' : Hp) k v cs, clo H k v cs → (∀ b φ, H b = some (.ext φ) → H' b = some (.ext φ)) → clo H' k v cs

/-- never written -/
def Imm : HO → Prop
  | .tup _ => True
  | .frz _ _ => True
  | .ext _ => True
  | _ => False

mutual
inductive Rp (K : PySem.W.Frag) (ca : Str → Addr) (av μ : List Addr) (H : Hp) : V → D → Prop
  | non : Rp K ca av μ H .non .non
  | bl (b : Bool) : Rp K ca av μ H (.bl b) (.bl b)
  | int (i : Int) : Rp K ca av μ H (.int i) (.int i)
  | str (x : Str) : Rp K ca av μ H (.str x) (.str x)
  | tup {a : Addr} {xs : List V} {ds : List D} : SqT K H a xs → RpL K ca av μ H xs ds → Rp K ca av μ H (.ref a) (.tup ds)
  | lst {a : Addr} {xs : List V} {ds : List D} : H a = some (.lst xs) → a ∉ av → a ∉ μ → RpL K ca av μ H xs ds → Rp K ca av μ H (.ref a) (.lst ds)
  | ro {a : Addr} {xs : List V} {ds : List D} : ((∃ o, H a = some (.frz o (.lst xs))) ∨ SqL K (fun _ => none) a xs) → RpL K ca av μ H xs ds → Rp K ca av μ H (.ref a) (.ro ds)
  | ins {a dx : Addr} {c : Str} {fv : List (Str × V)} {ds : List D} : H a = some (.ins (ca c) dx fv) → a ∉ av → a ∉ μ → RpL K ca av μ H (fv.map (·.2)) ds → Rp K ca av μ H (.ref a) (.ins c (fv.map (·.1)) ds)
  | dct {a : Addr} {kvs : List (L2.Key × V)} {ds : List D} : H a = some (.dK kvs) → a ∉ av → a ∉ μ → RpL K ca av μ H (kvs.map (·.2)) ds → Rp K ca av μ H (.ref a) (.dct (kvs.map (·.1)) ds)
  | loc {n : Nat} {a : Addr} : μ[n]? = some a → Rp K ca av μ H (.ref a) (.loc n)
  | ty (n : String) : Rp K ca av μ H (.ty n) (.ty n)
  | cls (c : Str) : Rp K ca av μ H (.ref (ca c)) (.cls c)
inductive RpL (K : PySem.W.Frag) (ca : Str → Addr) (av μ : List Addr) (H : Hp) : List V → List D → Prop
  | nil : RpL K ca av μ H [] []
  | cons {v : V} {vs : List V} {d : D} {ds : List D} : Rp K ca av μ H v d → RpL K ca av μ H vs ds → RpL K ca av μ H (v :: vs) (d :: ds)
end
/-- the heap has gone on: new objects, the store's own changed, tables grown -/
structure Ext (μ μ' : List Addr) (H H' : Hp) : Prop where
  pre : ∃ r, μ' = μ ++ r ∧ ∀ a ∈ r, H a = none
  keep : ∀ b o, H b = some o → (b ∈ μ → Imm o) → (∀ ps, o ≠ .tbl ps) → H' b = some o
  thr : ∀ b, H' b = none → H b = none
theorem Ext.refl (μ : List Addr) (H : Hp) : Ext μ μ H H := ⟨⟨[], by simp, fun _ h => by cases h⟩, fun _ _ h _ _ => h, fun _ h => h⟩
theorem Ext.trans {μ μ1 μ2 : List Addr} {H H1 H2 : Hp} (a : Ext μ μ1 H H1) (b : Ext μ1 μ2 H1 H2) : Ext μ μ2 H H2 := by
  obtain ⟨⟨r, e, hr⟩, k1, t1⟩ := a
  obtain ⟨⟨r2, e2, hr2⟩, k2, t2⟩ := b
  refine ⟨⟨r ++ r2, by rw [e2, e, List.append_assoc], fun x hx => ?_⟩, fun x o h hi ht => ?_, fun x h => t1 x (t2 x h)⟩
  · rcases List.mem_append.mp hx with h | h
    · exact hr x h
    · exact t1 x (hr2 x h)
  · refine k2 x o (k1 x o h hi ht) (fun hm => ?_) ht
    rw [e] at hm
    rcases List.mem_append.mp hm with z | z
    · exact hi z
    · rw [hr x z] at h; cases h
theorem Ext.notin {μ μ' : List Addr} {H H' : Hp} {a : Addr} {o : HO} (e : Ext μ μ' H H') (h : H a = some o) (n : a ∉ μ) : a ∉ μ' := by
  obtain ⟨⟨r, e1, hr⟩, _, _⟩ := e
  intro hm
  rw [e1] at hm
  rcases List.mem_append.mp hm with z | z
  · exact n z
  · rw [hr a z] at h; cases h
theorem SqT.keep {K : PySem.W.Frag} {H H' : Hp} {a : Addr} {xs : List V} (h : SqT K H a xs) (k : ∀ b o, H b = some o → Imm o → H' b = some o) : SqT K H' a xs := by
  rcases h with (h | ⟨o, h⟩) | h
  · exact .inl (.inl (k _ _ h trivial))
  · exact .inl (.inr ⟨o, k _ _ h trivial⟩)
  · exact .inr h
theorem notTbl_imm {o : HO} (h : Imm o) : ∀ ps, o ≠ .tbl ps := fun ps z => by rw [z] at h; exact h
section
variable {K : PySem.W.Frag} {ca : Str → Addr} {av μ μ' : List Addr} {H H' : Hp}
theorem Ext.imm (e : Ext μ μ' H H') : ∀ b o, H b = some o → Imm o → H' b = some o := fun b o h i => e.keep b o h (fun _ => i) (notTbl_imm i)
theorem SqT.ext' {a : Addr} {xs : List V} (e : Ext μ μ' H H') (h : SqT K H a xs) : SqT K H' a xs := SqT.keep h e.imm
mutual
theorem Rp.mono (e : Ext μ μ' H H') : ∀ {v : V} {d : D}, Rp K ca av μ H v d → Rp K ca av μ' H' v d
  | _, _, .non => .non
  | _, _, .bl b => .bl b
  | _, _, .int i => .int i
  | _, _, .str x => .str x
  | _, _, .ty x => .ty x
  | _, _, .cls x => .cls x
  | _, _, .tup h l => .tup (SqT.ext' e h) (RpL.mono e l)
  | _, _, .lst h n1 n2 l => .lst (e.keep _ _ h (fun z => absurd z n2) (fun _ z => by cases z)) n1 (e.notin h n2) (RpL.mono e l)
  | _, _, .ro h l => .ro (h.elim (fun ⟨o, h⟩ => .inl ⟨o, e.imm _ _ h trivial⟩) .inr) (RpL.mono e l)
  | _, _, .ins h n1 n2 l => .ins (e.keep _ _ h (fun z => absurd z n2) (fun _ z => by cases z)) n1 (e.notin h n2) (RpL.mono e l)
  | _, _, .dct h n1 n2 l => .dct (e.keep _ _ h (fun z => absurd z n2) (fun _ z => by cases z)) n1 (e.notin h n2) (RpL.mono e l)
  | _, _, .loc h => by
    obtain ⟨⟨r, e1, _⟩, _, _⟩ := e
    refine .loc ?_
    rw [e1, List.getElem?_append_left (List.getElem?_eq_some_iff.mp h).1]
    exact h
theorem RpL.mono (e : Ext μ μ' H H') : ∀ {vs : List V} {ds : List D}, RpL K ca av μ H vs ds → RpL K ca av μ' H' vs ds
  | _, _, .nil => .nil
  | _, _, .cons h t => .cons (Rp.mono e h) (RpL.mono e t)
end
mutual
/-- a new place is none of its -/
theorem Rp.avoid {p : Addr} (n : H p = none) : ∀ {v : V} {d : D}, Rp K ca av μ H v d → Rp K ca (p :: av) μ H v d
  | _, _, .non => .non
  | _, _, .bl b => .bl b
  | _, _, .int i => .int i
  | _, _, .str x => .str x
  | _, _, .ty x => .ty x
  | _, _, .cls x => .cls x
  | _, _, .tup h l => .tup h (RpL.avoid n l)
  | _, _, .lst h n1 n2 l => .lst h (fun z => (List.mem_cons.mp z).elim (fun e => by rw [e, n] at h; cases h) n1) n2 (RpL.avoid n l)
  | _, _, .ro h l => .ro h (RpL.avoid n l)
  | _, _, .ins h n1 n2 l => .ins h (fun z => (List.mem_cons.mp z).elim (fun e => by rw [e, n] at h; cases h) n1) n2 (RpL.avoid n l)
  | _, _, .dct h n1 n2 l => .dct h (fun z => (List.mem_cons.mp z).elim (fun e => by rw [e, n] at h; cases h) n1) n2 (RpL.avoid n l)
  | _, _, .loc h => .loc h
theorem RpL.avoid {p : Addr} (n : H p = none) : ∀ {vs : List V} {ds : List D}, RpL K ca av μ H vs ds → RpL K ca (p :: av) μ H vs ds
  | _, _, .nil => .nil
  | _, _, .cons h t => .cons (Rp.avoid n h) (RpL.avoid n t)
end
mutual
theorem Rp.fewer {av' : List Addr} (n : ∀ a ∈ av', a ∈ av) : ∀ {v : V} {d : D}, Rp K ca av μ H v d → Rp K ca av' μ H v d
  | _, _, .non => .non
  | _, _, .bl b => .bl b
  | _, _, .int i => .int i
  | _, _, .str x => .str x
  | _, _, .ty x => .ty x
  | _, _, .cls x => .cls x
  | _, _, .tup h l => .tup h (RpL.fewer n l)
  | _, _, .lst h n1 n2 l => .lst h (fun z => n1 (n _ z)) n2 (RpL.fewer n l)
  | _, _, .ro h l => .ro h (RpL.fewer n l)
  | _, _, .ins h n1 n2 l => .ins h (fun z => n1 (n _ z)) n2 (RpL.fewer n l)
  | _, _, .dct h n1 n2 l => .dct h (fun z => n1 (n _ z)) n2 (RpL.fewer n l)
  | _, _, .loc h => .loc h
theorem RpL.fewer {av' : List Addr} (n : ∀ a ∈ av', a ∈ av) : ∀ {vs : List V} {ds : List D}, RpL K ca av μ H vs ds → RpL K ca av' μ H vs ds
  | _, _, .nil => .nil
  | _, _, .cons h t => .cons (Rp.fewer n h) (RpL.fewer n t)
end
theorem RpL.length : ∀ {vs : List V} {ds : List D}, RpL K ca av μ H vs ds → vs.length = ds.length
  | _, _, .nil => rfl
  | _, _, .cons _ t => by rw [List.length_cons, List.length_cons, RpL.length t]
theorem RpL.get : ∀ {vs : List V} {ds : List D} {i : Nat} {d : D}, RpL K ca av μ H vs ds → ds[i]? = some d → ∃ v, vs[i]? = some v ∧ Rp K ca av μ H v d
  | _, _, _, _, .nil, e => by simp at e
  | _, _, 0, _, .cons r _, e => by simp at e; subst e; exact ⟨_, rfl, r⟩
  | _, _, i + 1, _, .cons _ t, e => by
    obtain ⟨v, h1, h2⟩ := RpL.get (i := i) t (by simpa using e)
    exact ⟨v, by simpa using h1, h2⟩
theorem RpL.append : ∀ {vs ws : List V} {ds es : List D}, RpL K ca av μ H vs ds → RpL K ca av μ H ws es → RpL K ca av μ H (vs ++ ws) (ds ++ es)
  | _, _, _, _, .nil, s => s
  | _, _, _, _, .cons r t, s => .cons r (RpL.append t s)
theorem RpL.set {v : V} {d : D} (r : Rp K ca av μ H v d) : ∀ {vs : List V} {ds : List D} (i : Nat), RpL K ca av μ H vs ds → RpL K ca av μ H (vs.set i v) (ds.set i d)
  | _, _, _, .nil => .nil
  | _, _, 0, .cons _ t => .cons r t
  | _, _, i + 1, .cons q t => .cons q (RpL.set r i t)
theorem RpL.take : ∀ {vs : List V} {ds : List D} (n : Nat), RpL K ca av μ H vs ds → RpL K ca av μ H (vs.take n) (ds.take n)
  | _, _, 0, _ => .nil
  | _, _, _ + 1, .nil => .nil
  | _, _, n + 1, .cons r t => .cons r (RpL.take n t)
theorem RpL.drop : ∀ {vs : List V} {ds : List D} (n : Nat), RpL K ca av μ H vs ds → RpL K ca av μ H (vs.drop n) (ds.drop n)
  | _, _, 0, r => r
  | _, _, _ + 1, .nil => .nil
  | _, _, n + 1, .cons _ t => RpL.drop n t
theorem RpL.eraseIdx : ∀ {vs : List V} {ds : List D} (i : Nat), RpL K ca av μ H vs ds → RpL K ca av μ H (vs.eraseIdx i) (ds.eraseIdx i)
  | _, _, _, .nil => .nil
  | _, _, 0, .cons _ t => t
  | _, _, i + 1, .cons r t => .cons r (RpL.eraseIdx i t)
theorem RpL.dropLast : ∀ {vs : List V} {ds : List D}, RpL K ca av μ H vs ds → RpL K ca av μ H vs.dropLast ds.dropLast := fun {vs ds} r => by
  rw [List.dropLast_eq_take, List.dropLast_eq_take, r.length]
  exact RpL.take _ r
theorem RpL.nil_iff {vs : List V} {ds : List D} (r : RpL K ca av μ H vs ds) : vs = [] ↔ ds = [] := by
  cases r with
  | nil => simp
  | cons _ _ => simp
end
inductive RpO (K : PySem.W.Frag) (ca : Str → Addr) (av μ : List Addr) (H : Hp) : Addr → Ob → Prop
  | lst {a : Addr} {xs : List V} {ds : List D} : H a = some (.lst xs) → RpL K ca av μ H xs ds → RpO K ca av μ H a (.lst ds)
  | ins {a dx : Addr} {c : Str} {fv : List (Str × V)} {ds : List D} : H a = some (.ins (ca c) dx fv) → RpL K ca av μ H (fv.map (·.2)) ds → RpO K ca av μ H a (.ins c (fv.map (·.1)) ds)
  | dK {a : Addr} {kvs : List (L2.Key × V)} {ds : List D} : H a = some (.dK kvs) → RpL K ca av μ H (kvs.map (·.2)) ds → RpO K ca av μ H a (.dK (kvs.map (·.1)) ds)
/-- what of the heap's objects the store may have -/
def Vol : HO → Prop
  | .lst _ => True
  | .ins _ _ _ => True
  | .dK _ => True
  | _ => False
theorem Vol.imm {o : HO} (v : Vol o) (i : Imm o) : False := by cases o <;> first | exact v | exact i
theorem Vol.tbl {o : HO} (v : Vol o) : ∀ ps, o ≠ .tbl ps := fun ps z => by rw [z] at v; exact v
theorem RpO.vol {K : PySem.W.Frag} {ca : Str → Addr} {av μ : List Addr} {H : Hp} {a : Addr} {ob : Ob} (h : RpO K ca av μ H a ob) : ∃ o, H a = some o ∧ Vol o := by
  cases h with
  | lst h _ => exact ⟨_, h, trivial⟩
  | ins h _ => exact ⟨_, h, trivial⟩
  | dK h _ => exact ⟨_, h, trivial⟩
structure Rel (K : PySem.W.Frag) (g : G) (av μ : List Addr) (st : List Ob) (H : Hp) : Prop where
  len : μ.length = st.length
  nd : μ.Nodup
  avo : ∀ a ∈ av, H a ≠ none ∧ a ∉ μ
  obs : ∀ (n : Nat) (a : Addr) (ob : Ob), μ[n]? = some a → st[n]? = some ob → RpO K g.ca av μ H a ob
  tab : TabsN g.T H
def RpA (K : PySem.W.Frag) (g : G) (av μ : List Addr) (H : Hp) (v : V) : A → Prop
  | .d x => Rp K g.ca av μ H v x
  | .clo k caps => ∃ cs, g.clo H k v cs ∧ RpL K g.ca av μ H (cs.map (·.2)) caps
structure EnvR (K : PySem.W.Frag) (g : G) (av μ : List Addr) (H : Hp) (σ : L2.St) (ρ : Ev) : Prop where
  len : σ.length = ρ.length
  at_ : ∀ (i : Nat) (x : A), ρ[i]? = some (some x) → ∃ v, σ[i]? = some (some v) ∧ RpA K g av μ H v x
section
variable {K : PySem.W.Frag} {g : G} {av μ μ' : List Addr} {st : List Ob} {H H' : Hp} {σ : L2.St} {ρ : Ev}
theorem RpA.mono (e : Ext μ μ' H H') {v : V} {x : A} (h : RpA K g av μ H v x) : RpA K g av μ' H' v x := by
  cases x with
  | d x => exact Rp.mono e h
  | clo k caps => obtain ⟨cs, h1, h2⟩ := h; exact ⟨cs, g.cloK H H' k v cs h1 (fun b φ z => e.imm b _ z trivial), RpL.mono e h2⟩
theorem EnvR.mono (r : EnvR K g av μ H σ ρ) (e : Ext μ μ' H H') : EnvR K g av μ' H' σ ρ := ⟨r.len, fun i x h => by
  obtain ⟨v, h1, h2⟩ := r.at_ i x h
  exact ⟨v, h1, RpA.mono e h2⟩⟩
theorem EnvR.avoid {p : Addr} (n : H p = none) (r : EnvR K g av μ H σ ρ) : EnvR K g (p :: av) μ H σ ρ := ⟨r.len, fun i x h => by
  obtain ⟨v, h1, h2⟩ := r.at_ i x h
  refine ⟨v, h1, ?_⟩
  cases x with
  | d x => exact Rp.avoid n h2
  | clo k caps => obtain ⟨cs, q1, q2⟩ := h2; exact ⟨cs, q1, RpL.avoid n q2⟩⟩
theorem EnvR.set {v : V} {x : D} (r : EnvR K g av μ H σ ρ) (h : Rp K g.ca av μ H v x) (i : Nat) : EnvR K g av μ H (σ.set i (some v)) (ρ.set i (some (.d x))) := by
  refine ⟨by rw [List.length_set, List.length_set, r.len], fun j y e => ?_⟩
  by_cases hij : i = j
  · subst hij
    by_cases hl : i < ρ.length
    · rw [List.getElem?_set_self hl] at e
      cases e
      exact ⟨v, by rw [List.getElem?_set_self (by rw [r.len]; exact hl)], h⟩
    · rw [List.getElem?_eq_none (by rw [List.length_set]; omega)] at e
      cases e
  · rw [List.getElem?_set_ne hij] at e
    obtain ⟨w, h1, h2⟩ := r.at_ j y e
    exact ⟨w, by rw [List.getElem?_set_ne hij]; exact h1, h2⟩
theorem upd_some {H : Hp} {p b : Addr} {o u : HO} (n : H p = none) (h : H b = some u) : upd H p o b = some u := by rw [upd_ne (ne_of_none h n)]; exact h
theorem upd_thr {H : Hp} {p b : Addr} {o : HO} (h : upd H p o b = none) : H b = none := by
  by_cases e : b = p
  · subst e; rw [upd_same] at h; cases h
  · rw [upd_ne e] at h; exact h
/-- a new object -/
theorem Ext.new {p : Addr} {o : HO} (n : H p = none) : Ext μ μ H (upd H p o) := ⟨⟨[], by simp, fun _ h => by cases h⟩, fun b u h _ _ => upd_some n h, fun b h => upd_thr h⟩
theorem Ext.new' {H1 : Hp} {p : Addr} {o : HO} (e : Ext μ μ' H H1) (n : H1 p = none) : Ext μ μ' H (upd H1 p o) := e.trans (Ext.new n)
theorem RpO.mono {a : Addr} {ob : Ob} (e : Ext μ μ' H H') (ha : ∀ o, H a = some o → H' a = some o) (h : RpO K g.ca av μ H a ob) : RpO K g.ca av μ' H' a ob := by
  cases h with
  | lst h r => exact .lst (ha _ h) (RpL.mono e r)
  | ins h r => exact .ins (ha _ h) (RpL.mono e r)
  | dK h r => exact .dK (ha _ h) (RpL.mono e r)
theorem Rel.new {p : Addr} {o : HO} (r : Rel K g av μ st H) (n : H p = none) : Rel K g av μ st (upd H p o) :=
  ⟨r.len, r.nd, fun a ha => ⟨fun z => (r.avo a ha).1 (upd_thr z), (r.avo a ha).2⟩, fun i a ob h1 h2 => (r.obs i a ob h1 h2).mono (Ext.new n) fun u z => upd_some n z, r.tab.ext fun b u z => upd_some n z⟩
theorem Rel.vol (r : Rel K g av μ st H) {a : Addr} (ha : a ∈ μ) : ∃ o, H a = some o ∧ Vol o := by
  obtain ⟨i, hi, e⟩ := List.mem_iff_getElem.mp ha
  have h1 : μ[i]? = some a := by rw [← e]; exact List.getElem?_eq_getElem hi
  have hl : i < st.length := by rw [← r.len]; exact hi
  exact (r.obs i a _ h1 (List.getElem?_eq_getElem hl)).vol
theorem tabsN_upd {a : Addr} {o u : HO} (t : TabsN g.T H) (h : H a = some u) (hv : Vol u) : TabsN g.T (upd H a o) := fun p hp => by
  obtain ⟨ps, h1, h2, h3⟩ := t p hp
  refine ⟨ps, ?_, h2, fun pos cv hc => ?_⟩
  · rw [upd_ne (fun z => by rw [z, h] at h1; cases h1; exact hv)]; exact h1
  · obtain ⟨c, e1, e2⟩ := h3 pos cv hc
    refine ⟨c, e1, ?_⟩
    rw [upd_ne (fun z => by
      rw [z, h] at e2
      unfold CodeO at e2
      cases e2
      exact hv)]; exact e2
/-- an object of the store is written -/
theorem Ext.write {n : Nat} {a : Addr} {o : HO} (r : Rel K g av μ st H) (h : μ[n]? = some a) : Ext μ μ H (upd H a o) := by
  have hm : a ∈ μ := List.mem_of_getElem? h
  obtain ⟨u, hu, hv⟩ := r.vol hm
  refine ⟨⟨[], by simp, fun _ z => by cases z⟩, fun b w hb hi ht => ?_, fun b z => upd_thr z⟩
  by_cases e : b = a
  · subst e
    rw [hu] at hb
    cases hb
    exact (hv.imm (hi hm)).elim
  · rw [upd_ne e]; exact hb
theorem Rel.write {n : Nat} {a : Addr} {o : HO} {ob : Ob} (r : Rel K g av μ st H) (h : μ[n]? = some a) (hn : RpO K g.ca av μ (upd H a o) a ob) : Rel K g av μ (st.set n ob) (upd H a o) := by
  have hm : a ∈ μ := List.mem_of_getElem? h
  obtain ⟨u, hu, hv⟩ := r.vol hm
  refine ⟨by rw [List.length_set]; exact r.len, r.nd, fun b hb => ⟨fun z => (r.avo b hb).1 (upd_thr z), (r.avo b hb).2⟩, fun i b w h1 h2 => ?_, tabsN_upd r.tab hu hv⟩
  by_cases e : n = i
  · subst e
    rw [h] at h1
    cases h1
    have hl : n < st.length := by rw [← r.len]; exact (List.getElem?_eq_some_iff.mp h).1
    rw [List.getElem?_set_self hl] at h2
    cases h2
    exact hn
  · rw [List.getElem?_set_ne e] at h2
    have hne : b ≠ a := fun z => e (by
      subst z
      obtain ⟨l1, e1⟩ := List.getElem?_eq_some_iff.mp h
      obtain ⟨l2, e2⟩ := List.getElem?_eq_some_iff.mp h1
      exact (List.getElem_inj r.nd).mp (e1.trans e2.symm))
    exact (r.obs i b w h1 h2).mono (Ext.write r h) fun x hx => by rw [upd_ne hne]; exact hx
/-- a new object of the store -/
theorem Rel.push {p : Addr} {o : HO} {ob : Ob} (r : Rel K g av μ st H) (n : H p = none) (hn : RpO K g.ca av (μ ++ [p]) (upd H p o) p ob) : Rel K g av (μ ++ [p]) (st ++ [ob]) (upd H p o) ∧ Ext μ (μ ++ [p]) H (upd H p o) := by
  have hx : Ext μ (μ ++ [p]) H (upd H p o) := ⟨⟨[p], rfl, fun a ha => by rw [List.mem_singleton.mp ha]; exact n⟩, fun b u h _ _ => upd_some n h, fun b h => upd_thr h⟩
  have hp : p ∉ μ := fun z => by obtain ⟨u, hu, _⟩ := r.vol z; rw [n] at hu; cases hu
  refine ⟨⟨by rw [List.length_append, List.length_append, r.len]; rfl, ?_, fun a ha => ⟨fun z => (r.avo a ha).1 (upd_thr z), fun z => ?_⟩, fun i a w h1 h2 => ?_, r.tab.ext fun b u z => upd_some n z⟩, hx⟩
  · exact List.nodup_append.mpr ⟨r.nd, by simp, fun a ha b hb => by rw [List.mem_singleton.mp hb]; rintro rfl; exact hp ha⟩
  · rcases List.mem_append.mp z with q | q
    · exact (r.avo a ha).2 q
    · rw [List.mem_singleton.mp q] at ha; exact (r.avo p ha).1 n
  · by_cases hi : i < μ.length
    · rw [List.getElem?_append_left hi] at h1
      rw [List.getElem?_append_left (by rw [← r.len]; exact hi)] at h2
      exact (r.obs i a w h1 h2).mono hx fun x hx' => upd_some n hx'
    · rw [List.getElem?_append_right (by omega)] at h1
      rw [List.getElem?_append_right (by rw [← r.len]; omega)] at h2
      have e1 : i - μ.length = 0 := by
        have := (List.getElem?_eq_some_iff.mp h1).1
        simp at this
        omega
      rw [← r.len, e1] at h2
      rw [e1] at h1
      simp at h1 h2
      subst h1
      subst h2
      exact hn
end
end MM
set_option autoImplicit false
set_option maxRecDepth 100000
set_option maxHeartbeats 4000000
/-! M2: judgements; names, constants, operators, tests, statements. -/
namespace MM
open PySem PySem.Spec PyProof.Rows L2 LamX NdefX

def Post (K : PySem.W.Frag) (g : G) (av μ : List Addr) (H : Hp) (d : D) (st' : List Ob) (Q : VK) : Prop := ∀ v H' μ', Ext μ μ' H H' → Rel K g av μ' st' H' → Rp K g.ca av μ' H' v d → Q v H'
def PostL (K : PySem.W.Frag) (g : G) (av μ : List Addr) (H : Hp) (ds : List D) (st' : List Ob) (Q : List V → Hp → Prop) : Prop := ∀ vs H' μ', Ext μ μ' H H' → Rel K g av μ' st' H' → RpL K g.ca av μ' H' vs ds → Q vs H'
def PostB (K : PySem.W.Frag) (g : G) (av μ : List Addr) (H : Hp) (b : Bool) (st' : List Ob) (Q : Bool → Hp → Prop) : Prop := ∀ H' μ', Ext μ μ' H H' → Rel K g av μ' st' H' → Q b H'
def SemE (K : PySem.W.Frag) (g : G) (t : TE) (m : Ev → Mo D) : Prop := ∀ (av μ : List Addr) (σ : L2.St) (H : Hp) (Q : VK) (ρ : Ev) (st : List Ob) (d : D) (st' : List Ob),
  Rel K g av μ st H → EnvR K g av μ H σ ρ → m ρ st = some (d, st') → Post K g av μ H d st' Q → t σ H Q
def SemT (K : PySem.W.Frag) (g : G) (t : TT) (m : Ev → Mo Bool) : Prop := ∀ (av μ : List Addr) (σ : L2.St) (H : Hp) (Q : Bool → Hp → Prop) (ρ : Ev) (st : List Ob) (b : Bool) (st' : List Ob),
  Rel K g av μ st H → EnvR K g av μ H σ ρ → m ρ st = some (b, st') → PostB K g av μ H b st' Q → t σ H Q
def SemA (K : PySem.W.Frag) (g : G) (t : TA) (m : Ev → Mo (List D)) : Prop := ∀ (av μ : List Addr) (σ : L2.St) (H : Hp) (Q : List V → Hp → Prop) (ρ : Ev) (st : List Ob) (ds : List D) (st' : List Ob),
  Rel K g av μ st H → EnvR K g av μ H σ ρ → m ρ st = some (ds, st') → PostL K g av μ H ds st' Q → t σ H Q
structure EV (g : G) (X : Cx) (e : Expr) (m : Ev → Mo D) : Prop where
  ex : ∃ t, PE X e t ∧ SemE X.K g t m
structure TV (g : G) (X : Cx) (e : Expr) (m : Ev → Mo Bool) : Prop where
  ex : ∃ t, PT X e t ∧ SemT X.K g t m
structure WV (g : G) (X : Cx) (e : Expr) (m : Ev → Mo Bool) : Prop where
  ex : ∃ t, PW X e t ∧ SemT X.K g t m
structure AV (g : G) (X : Cx) (es : List Expr) (m : Ev → Mo (List D)) : Prop where
  ex : ∃ t, PA X es t ∧ SemA X.K g t m
/-- behind a first part -/
theorem Post.mono {K : PySem.W.Frag} {g : G} {av μ μ1 : List Addr} {H H1 : Hp} {d : D} {st' : List Ob} {Q : VK} (p : Post K g av μ H d st' Q) (e : Ext μ μ1 H H1) : Post K g av μ1 H1 d st' Q := fun v H' μ' e' r q => p v H' μ' (e.trans e') r q
theorem PostL.mono {K : PySem.W.Frag} {g : G} {av μ μ1 : List Addr} {H H1 : Hp} {d : List D} {st' : List Ob} {Q : List V → Hp → Prop} (p : PostL K g av μ H d st' Q) (e : Ext μ μ1 H H1) : PostL K g av μ1 H1 d st' Q := fun v H' μ' e' r q => p v H' μ' (e.trans e') r q
theorem PostB.mono {K : PySem.W.Frag} {g : G} {av μ μ1 : List Addr} {H H1 : Hp} {d : Bool} {st' : List Ob} {Q : Bool → Hp → Prop} (p : PostB K g av μ H d st' Q) (e : Ext μ μ1 H H1) : PostB K g av μ1 H1 d st' Q := fun H' μ' e' r => p H' μ' (e.trans e') r
section
variable {K : PySem.W.Frag} {g : G} {av μ : List Addr} {H : Hp} {d : D} {st : List Ob} {Q : VK}
theorem Post.here (p : Post K g av μ H d st Q) (r : Rel K g av μ st H) {v : V} (h : Rp K g.ca av μ H v d) : Q v H := p v H μ (Ext.refl _ _) r h
/-- a new object is the answer -/
theorem Post.newO (p : Post K g av μ H d st Q) (r : Rel K g av μ st H) {a : Addr} {o : HO} (n : H a = none) (h : Rp K g.ca av μ (upd H a o) (.ref a) d) : Q (.ref a) (upd H a o) := p _ _ μ (Ext.new n) (r.new n) h
theorem Rel.fresh (r : Rel K g av μ st H) {p : Addr} (n : H p = none) : p ∉ av ∧ p ∉ μ := ⟨fun z => (r.avo p z).1 n, fun z => by obtain ⟨u, hu, _⟩ := r.vol z; rw [n] at hu; cases hu⟩
theorem rp_newT (r : Rel K g av μ st H) {p : Addr} {xs : List V} {ds : List D} (n : H p = none) (h : RpL K g.ca av μ H xs ds) : Rp K g.ca av μ (upd H p (.tup xs)) (.ref p) (.tup ds) := .tup (SqT.of upd_same) (RpL.mono (Ext.new n) h)
theorem rp_newL (r : Rel K g av μ st H) {p : Addr} {xs : List V} {ds : List D} (n : H p = none) (h : RpL K g.ca av μ H xs ds) : Rp K g.ca av μ (upd H p (.lst xs)) (.ref p) (.lst ds) := .lst upd_same (r.fresh n).1 (r.fresh n).2 (RpL.mono (Ext.new n) h)
end

/-! ### mirrors of expressions -/
def xVar (i : Nat) : Ev → Mo D := fun ρ st => match ρ[i]? with
  | some (some (.d x)) => some (x, st)
  | _ => none
def xC (d : D) : Ev → Mo D := fun _ => Mo.pure d
def lift2 (f : D → D → Option D) : D → D → Mo D := fun x y st => (f x y).map fun d => (d, st)
def xBin (f : D → D → Mo D) (ma mb : Ev → Mo D) : Ev → Mo D := fun ρ => (ma ρ).bind fun x => (mb ρ).bind fun y => f x y
def asB (m : Ev → Mo D) : Ev → Mo Bool := fun ρ => (m ρ).bind fun d => match d with
  | .bl b => Mo.pure b
  | _ => Mo.fail
def xAndB (ma mb : Ev → Mo Bool) : Ev → Mo Bool := fun ρ => (ma ρ).bind fun b => if b = true then mb ρ else Mo.pure false
def xOrB (ma mb : Ev → Mo Bool) : Ev → Mo Bool := fun ρ => (ma ρ).bind fun b => if b = true then Mo.pure true else mb ρ
def xNotB (ma : Ev → Mo Bool) : Ev → Mo Bool := fun ρ => (ma ρ).bind fun b => Mo.pure (!b)
def xAnd (ma mb : Ev → Mo D) : Ev → Mo D := fun ρ => (asB ma ρ).bind fun b => if b = true then mb ρ else Mo.pure (.bl false)
def xOr (ma mb : Ev → Mo D) : Ev → Mo D := fun ρ => (asB ma ρ).bind fun b => if b = true then Mo.pure (.bl true) else mb ρ
def xNot (ma : Ev → Mo D) : Ev → Mo D := fun ρ => (asB ma ρ).bind fun b => Mo.pure (.bl (!b))
def xIf (mc : Ev → Mo Bool) (ma mb : Ev → Mo D) : Ev → Mo D := fun ρ => (mc ρ).bind fun b => if b = true then ma ρ else mb ρ
def xNil : Ev → Mo (List D) := fun _ => Mo.pure []
def xCons (ma : Ev → Mo D) (mr : Ev → Mo (List D)) : Ev → Mo (List D) := fun ρ => (ma ρ).bind fun x => (mr ρ).bind fun xs => Mo.pure (x :: xs)
def xTup (m : Ev → Mo (List D)) : Ev → Mo D := fun ρ => (m ρ).bind fun xs => if xs.length ≤ 1000000 then Mo.pure (.tup xs) else Mo.fail
def xLst (m : Ev → Mo (List D)) : Ev → Mo D := fun ρ => (m ρ).bind fun xs => if xs.length ≤ 1000000 then Mo.pure (.lst xs) else Mo.fail
/-- a list that is to be changed -/
def xLstM (m : Ev → Mo (List D)) : Ev → Mo D := fun ρ => (m ρ).bind fun xs st => if xs.length ≤ 1000000 then some (.loc st.length, st ++ [.lst xs]) else none
theorem line_le : (1000000 : Nat) ≤ sizeLine := by rw [sizeLine_eq]; decide

section
variable {g : G} {X : Cx} {a b e : Expr} {ma mb : Ev → Mo D} {pos : Pos}
theorem ev_var {i : Nat} (h : PE X e (tVar i)) : EV g X e (xVar i) := ⟨_, h, fun av μ σ H Q ρ st d st' r er hm p => by
  unfold xVar at hm
  split at hm
  · rename_i x hx
    cases hm
    obtain ⟨v, h1, h2⟩ := er.at_ i _ hx
    exact ⟨v, h1, p.here r h2⟩
  · cases hm⟩
theorem ev_c {v : V} {d : D} (h : PE X e (tC v)) (hr : ∀ av μ H, Rp X.K g.ca av μ H v d) : EV g X e (xC d) := ⟨_, h, fun av μ σ H Q ρ st d' st' r er hm p => by
  obtain ⟨e1, e2⟩ := Mo.pure_some hm
  subst e1 e2
  exact p.here r (hr av μ H)⟩
theorem ev_int {i : Int} {j : Nat} : EV g X (.Constant (.int i) j pos) (xC (.int i)) := ev_c pe_int fun _ _ _ => .int i
theorem ev_str {i : Str} {j : Nat} : EV g X (.Constant (.str i) j pos) (xC (.str i)) := ev_c pe_str fun _ _ _ => .str i
theorem ev_bl {i : Bool} {j : Nat} : EV g X (.Constant (.bool i) j pos) (xC (.bl i)) := ev_c pe_bl fun _ _ _ => .bl i
theorem ev_non {j : Nat} : EV g X (.Constant .none j pos) (xC .non) := ev_c pe_non fun _ _ _ => .non
/-- an operation by values -/
def OpD (g : G) (X : Cx) (f : Value → Value → Sem Value) (md : D → D → Mo D) : Prop :=
  ∃ r, OpR X f r ∧ ∀ (av μ : List Addr) (H : Hp) (Q : VK) (st : List Ob) (x y : V) (dx dy d : D) (st' : List Ob), Rel X.K g av μ st H → Rp X.K g.ca av μ H x dx → Rp X.K g.ca av μ H y dy → md dx dy st = some (d, st') → Post X.K g av μ H d st' Q → r x y H Q
theorem OpD.or {f : Value → Value → Sem Value} {m1 m2 m : D → D → Mo D} (h1 : OpD g X f m1) (h2 : OpD g X f m2) (hm : ∀ x y st r, m x y st = some r → m1 x y st = some r ∨ m2 x y st = some r) : OpD g X f m := by
  obtain ⟨r1, o1, s1⟩ := h1
  obtain ⟨r2, o2, s2⟩ := h2
  refine ⟨_, OpR.or o1 o2, fun av μ H Q st x y dx dy d st' r rx ry e p => ?_⟩
  rcases hm _ _ _ _ e with e | e
  · exact .inl (s1 av μ H Q st x y dx dy d st' r rx ry e p)
  · exact .inr (s2 av μ H Q st x y dx dy d st' r rx ry e p)
theorem semBin {f : Value → Value → Sem Value} {md : D → D → Mo D} {r : R2} {ta tb : TE}
    (s : ∀ (av μ : List Addr) (H : Hp) (Q : VK) (st : List Ob) (x y : V) (dx dy d : D) (st' : List Ob), Rel X.K g av μ st H → Rp X.K g.ca av μ H x dx → Rp X.K g.ca av μ H y dy → md dx dy st = some (d, st') → Post X.K g av μ H d st' Q → r x y H Q)
    (sa : SemE X.K g ta ma) (sb : SemE X.K g tb mb) : SemE X.K g (tOp r ta tb) (xBin md ma mb) := fun av μ σ H Q ρ st d st' rl er hm p => by
  obtain ⟨dx, s1, h1, hm⟩ := Mo.bind_some hm
  obtain ⟨dy, s2, h2, hm⟩ := Mo.bind_some hm
  refine sa av μ σ H _ ρ st dx s1 rl er h1 fun x H1 μ1 e1 r1 q1 => ?_
  refine sb av μ1 σ H1 _ ρ s1 dy s2 r1 (er.mono e1) h2 fun y H2 μ2 e2 r2 q2 => ?_
  exact s av μ2 H2 Q s2 x y dx dy d st' r2 (q1.mono e2) q2 hm (p.mono (e1.trans e2))
theorem ev_op {op : Operator} {md : D → D → Mo D} (h : OpD g X (binaryOp op) md) (ha : EV g X a ma) (hb : EV g X b mb) : EV g X (.BinOp a op b pos) (xBin md ma mb) := by
  obtain ⟨r, o, s⟩ := h
  obtain ⟨ta, pa, sa⟩ := ha.ex
  obtain ⟨tb, pb, sb⟩ := hb.ex
  exact ⟨_, pe_op o pa pb, semBin (f := binaryOp op) s sa sb⟩
theorem ev_cmp {op : CmpOp} {md : D → D → Mo D} (h : OpD g X (compareOp op) md) (ha : EV g X a ma) (hb : EV g X b mb) (hm : behindInMarks op b = false) : EV g X (.Compare a [op] [b] pos) (xBin md ma mb) := by
  obtain ⟨r, o, s⟩ := h
  obtain ⟨ta, pa, sa⟩ := ha.ex
  obtain ⟨tb, pb, sb⟩ := hb.ex
  exact ⟨_, pe_cmpR o pa pb hm, semBin (f := compareOp op) s sa sb⟩
theorem semB {t : TE} {m : Ev → Mo D} (s : SemE X.K g t m) : SemT X.K g (fun σ H Q => t σ H fun x H' => ∃ k, x = .bl k ∧ Q k H') (asB m) := fun av μ σ H Q ρ st c st' rl er hm p => by
  obtain ⟨d, s1, h1, hm⟩ := Mo.bind_some hm
  refine s av μ σ H _ ρ st d s1 rl er h1 fun x H1 μ1 e1 r1 q1 => ?_
  cases d with
  | bl k =>
    obtain ⟨z1, z2⟩ := Mo.pure_some hm
    subst z1 z2
    cases q1
    exact ⟨_, rfl, p H1 μ1 e1 r1⟩
  | _ => cases hm
theorem tv_cmp {op : CmpOp} {md : D → D → Mo D} (h : OpD g X (compareOp op) md) (ha : EV g X a ma) (hb : EV g X b mb) (hm : behindInMarks op b = false) : TV g X (.Compare a [op] [b] pos) (asB (xBin md ma mb)) := by
  obtain ⟨r, o, s⟩ := h
  obtain ⟨ta, pa, sa⟩ := ha.ex
  obtain ⟨tb, pb, sb⟩ := hb.ex
  exact ⟨_, pt_cmpR o pa pb hm, semB (semBin (f := compareOp op) s sa sb)⟩
theorem tv_val {m : Ev → Mo D} (h : EV g X e m) (he : ∀ whole, isTrue e X.env whole = (do let v ← whole; standAt e.pos; holding [v] (truthy v)) := by intro _; rfl) : TV g X e (asB m) := by
  obtain ⟨t, p, s⟩ := h.ex
  exact ⟨_, pt_val p he, semB s⟩
variable {na nb : Ev → Mo Bool} {rest : List Expr}
theorem wv_and1 (h : TV g X a na) : WV g X (.BoolOp .And [a] pos) na := let ⟨t, p, s⟩ := h.ex; ⟨t, pw_and1 p, s⟩
theorem wv_or1 (h : TV g X a na) : WV g X (.BoolOp .Or [a] pos) na := let ⟨t, p, s⟩ := h.ex; ⟨t, pw_or1 p, s⟩
theorem wv_and (ha : TV g X a na) (hb : WV g X (.BoolOp .And (b :: rest) pos) nb) : WV g X (.BoolOp .And (a :: b :: rest) pos) (xAndB na nb) := by
  obtain ⟨ta, pa, sa⟩ := ha.ex
  obtain ⟨tb, pb, sb⟩ := hb.ex
  refine ⟨_, pw_and pa pb, fun av μ σ H Q ρ st c st' rl er hm p => ?_⟩
  obtain ⟨k, s1, h1, hm⟩ := Mo.bind_some hm
  refine sa av μ σ H _ ρ st k s1 rl er h1 fun H1 μ1 e1 r1 => ?_
  cases k with
  | true => exact sb av μ1 σ H1 Q ρ s1 c st' r1 (er.mono e1) hm (p.mono e1)
  | false =>
    obtain ⟨z1, z2⟩ := Mo.pure_some hm
    subst z1 z2
    exact p H1 μ1 e1 r1
theorem wv_or (ha : TV g X a na) (hb : WV g X (.BoolOp .Or (b :: rest) pos) nb) : WV g X (.BoolOp .Or (a :: b :: rest) pos) (xOrB na nb) := by
  obtain ⟨ta, pa, sa⟩ := ha.ex
  obtain ⟨tb, pb, sb⟩ := hb.ex
  refine ⟨_, pw_or pa pb, fun av μ σ H Q ρ st c st' rl er hm p => ?_⟩
  obtain ⟨k, s1, h1, hm⟩ := Mo.bind_some hm
  refine sa av μ σ H _ ρ st k s1 rl er h1 fun H1 μ1 e1 r1 => ?_
  cases k with
  | false => exact sb av μ1 σ H1 Q ρ s1 c st' r1 (er.mono e1) hm (p.mono e1)
  | true =>
    obtain ⟨z1, z2⟩ := Mo.pure_some hm
    subst z1 z2
    exact p H1 μ1 e1 r1
theorem WV.tv (h : WV g X e na) : TV g X e na := let ⟨t, p, s⟩ := h.ex; ⟨t, p.pt, s⟩
theorem tv_not (ha : TV g X a na) : TV g X (.UnaryOp .Not a pos) (xNotB na) := by
  obtain ⟨ta, pa, sa⟩ := ha.ex
  refine ⟨_, pt_not pa, fun av μ σ H Q ρ st c st' rl er hm p => ?_⟩
  obtain ⟨k, s1, h1, hm⟩ := Mo.bind_some hm
  obtain ⟨z1, z2⟩ := Mo.pure_some hm
  subst z1 z2
  exact sa av μ σ H _ ρ st k _ rl er h1 fun H1 μ1 e1 r1 => p H1 μ1 e1 r1
theorem ev_one {op} {m : Ev → Mo D} (h : EV g X a m) : EV g X (.BoolOp op [a] pos) m := let ⟨t, p, s⟩ := h.ex; ⟨t, pe_one p, s⟩
theorem asB_some {m : Ev → Mo D} {ρ : Ev} {st st' : List Ob} {b : Bool} (h : asB m ρ st = some (b, st')) : m ρ st = some (.bl b, st') := by
  obtain ⟨d, s1, h1, hm⟩ := Mo.bind_some h
  cases d with
  | bl k =>
    obtain ⟨z1, z2⟩ := Mo.pure_some hm
    subst z1 z2
    exact h1
  | _ => cases hm
theorem ev_and (ha : EV g X a ma) (hb : EV g X (.BoolOp .And (b :: rest) pos) mb) : EV g X (.BoolOp .And (a :: b :: rest) pos) (xAnd ma mb) := by
  obtain ⟨ta, pa, sa⟩ := ha.ex
  obtain ⟨tb, pb, sb⟩ := hb.ex
  refine ⟨_, pe_and pa pb, fun av μ σ H Q ρ st d st' rl er hm p => ?_⟩
  obtain ⟨k, s1, h1, hm⟩ := Mo.bind_some hm
  refine sa av μ σ H _ ρ st _ s1 rl er (asB_some h1) fun x H1 μ1 e1 r1 q1 => ?_
  cases q1
  refine ⟨k, rfl, ?_⟩
  cases k with
  | true => exact sb av μ1 σ H1 Q ρ s1 d st' r1 (er.mono e1) hm (p.mono e1)
  | false =>
    obtain ⟨z1, z2⟩ := Mo.pure_some hm
    subst z1 z2
    exact p _ H1 μ1 e1 r1 (.bl false)
theorem ev_or (ha : EV g X a ma) (hb : EV g X (.BoolOp .Or (b :: rest) pos) mb) : EV g X (.BoolOp .Or (a :: b :: rest) pos) (xOr ma mb) := by
  obtain ⟨ta, pa, sa⟩ := ha.ex
  obtain ⟨tb, pb, sb⟩ := hb.ex
  refine ⟨_, pe_or pa pb, fun av μ σ H Q ρ st d st' rl er hm p => ?_⟩
  obtain ⟨k, s1, h1, hm⟩ := Mo.bind_some hm
  refine sa av μ σ H _ ρ st _ s1 rl er (asB_some h1) fun x H1 μ1 e1 r1 q1 => ?_
  cases q1
  refine ⟨k, rfl, ?_⟩
  cases k with
  | false => exact sb av μ1 σ H1 Q ρ s1 d st' r1 (er.mono e1) hm (p.mono e1)
  | true =>
    obtain ⟨z1, z2⟩ := Mo.pure_some hm
    subst z1 z2
    exact p _ H1 μ1 e1 r1 (.bl true)
theorem ev_not (ha : EV g X a ma) : EV g X (.UnaryOp .Not a pos) (xNot ma) := by
  obtain ⟨ta, pa, sa⟩ := ha.ex
  refine ⟨_, pe_not pa, fun av μ σ H Q ρ st d st' rl er hm p => ?_⟩
  obtain ⟨k, s1, h1, hm⟩ := Mo.bind_some hm
  obtain ⟨z1, z2⟩ := Mo.pure_some hm
  subst z1 z2
  refine sa av μ σ H _ ρ st _ _ rl er (asB_some h1) fun x H1 μ1 e1 r1 q1 => ?_
  cases q1
  exact ⟨k, rfl, p _ H1 μ1 e1 r1 (.bl _)⟩
theorem ev_if {c : Expr} (hc : TV g X c na) (ha : EV g X a ma) (hb : EV g X b mb) : EV g X (.IfExp c a b pos) (xIf na ma mb) := by
  obtain ⟨tc, pc, sc⟩ := hc.ex
  obtain ⟨ta, pa, sa⟩ := ha.ex
  obtain ⟨tb, pb, sb⟩ := hb.ex
  refine ⟨_, pe_ifExp pc pa pb, fun av μ σ H Q ρ st d st' rl er hm p => ?_⟩
  obtain ⟨k, s1, h1, hm⟩ := Mo.bind_some hm
  refine sc av μ σ H _ ρ st k s1 rl er h1 fun H1 μ1 e1 r1 => ?_
  cases k with
  | true => exact sa av μ1 σ H1 Q ρ s1 d st' r1 (er.mono e1) hm (p.mono e1)
  | false => exact sb av μ1 σ H1 Q ρ s1 d st' r1 (er.mono e1) hm (p.mono e1)
/-! ### rows of arguments, displays -/
variable {es : List Expr} {ml : Ev → Mo (List D)}
theorem av_nil : AV g X [] xNil := ⟨_, pa_nil, fun av μ σ H Q ρ st d st' rl er hm p => by
  obtain ⟨z1, z2⟩ := Mo.pure_some hm
  subst z1 z2
  exact p [] H μ (Ext.refl _ _) rl .nil⟩
theorem av_cons (ha : EV g X a ma) (hb : AV g X es ml) (hs : starEach (a :: es) X.env = (false, eval a X.env) :: starEach es X.env := by rfl) : AV g X (a :: es) (xCons ma ml) := by
  obtain ⟨ta, pa, sa⟩ := ha.ex
  obtain ⟨tb, pb, sb⟩ := hb.ex
  refine ⟨_, pa_cons pa pb hs, fun av μ σ H Q ρ st d st' rl er hm p => ?_⟩
  obtain ⟨x, s1, h1, hm⟩ := Mo.bind_some hm
  obtain ⟨xs, s2, h2, hm⟩ := Mo.bind_some hm
  obtain ⟨z1, z2⟩ := Mo.pure_some hm
  subst z1 z2
  refine sa av μ σ H _ ρ st x s1 rl er h1 fun v H1 μ1 e1 r1 q1 => ?_
  refine sb av μ1 σ H1 _ ρ s1 xs _ r1 (er.mono e1) h2 fun vs H2 μ2 e2 r2 q2 => ?_
  exact p _ H2 μ2 (e1.trans e2) r2 (.cons (q1.mono e2) q2)
theorem ev_tup {k : Nat} (h : AV g X es ml) : EV g X (.Tuple es k pos) (xTup ml) := by
  obtain ⟨t, p0, s⟩ := h.ex
  refine ⟨_, pe_tup p0, fun av μ σ H Q ρ st d st' rl er hm p => ?_⟩
  obtain ⟨xs, s1, h1, hm⟩ := Mo.bind_some hm
  split at hm
  · rename_i hl
    obtain ⟨z1, z2⟩ := Mo.pure_some hm
    subst z1 z2
    refine s av μ σ H _ ρ st xs _ rl er h1 fun vs H1 μ1 e1 r1 q1 => ⟨by rw [q1.length]; exact Nat.le_trans hl line_le, fun q hq => ?_⟩
    exact (p.mono e1).newO r1 hq (rp_newT r1 hq q1)
  · cases hm
theorem ev_lst (h : AV g X es ml) : EV g X (.List es pos) (xLst ml) := by
  obtain ⟨t, p0, s⟩ := h.ex
  refine ⟨_, pe_lst p0, fun av μ σ H Q ρ st d st' rl er hm p => ?_⟩
  obtain ⟨xs, s1, h1, hm⟩ := Mo.bind_some hm
  split at hm
  · rename_i hl
    obtain ⟨z1, z2⟩ := Mo.pure_some hm
    subst z1 z2
    refine s av μ σ H _ ρ st xs _ rl er h1 fun vs H1 μ1 e1 r1 q1 => ⟨by rw [q1.length]; exact Nat.le_trans hl line_le, fun q hq => ?_⟩
    exact (p.mono e1).newO r1 hq (rp_newL r1 hq q1)
  · cases hm
theorem push_loc {K : PySem.W.Frag} {av μ : List Addr} {st : List Ob} {H : Hp} {Q : VK} {q : Addr} {vs : List V} {xs : List D} (r1 : Rel K g av μ st H) (hq : H q = none) (q1 : RpL K g.ca av μ H vs xs) (p : Post K g av μ H (.loc st.length) (st ++ [.lst xs]) Q) : Q (.ref q) (upd H q (.lst vs)) := by
  have x0 : Ext μ (μ ++ [q]) H (upd H q (.lst vs)) := ⟨⟨[q], rfl, fun a ha => by rw [List.mem_singleton.mp ha]; exact hq⟩, fun b u h _ _ => upd_some hq h, fun b h => upd_thr h⟩
  obtain ⟨r2, e2⟩ := r1.push hq (ob := .lst xs) (RpO.lst upd_same (RpL.mono x0 q1))
  refine p _ _ (μ ++ [q]) e2 r2 (.loc ?_)
  rw [← r1.len, List.getElem?_append_right (Nat.le_refl _), Nat.sub_self]
  rfl
theorem ev_lstM (h : AV g X es ml) : EV g X (.List es pos) (xLstM ml) := by
  obtain ⟨t, p0, s⟩ := h.ex
  refine ⟨_, pe_lst p0, fun av μ σ H Q ρ st d st' rl er hm p => ?_⟩
  obtain ⟨xs, s1, h1, hm⟩ := Mo.bind_some hm
  split at hm
  · rename_i hl
    cases hm
    refine s av μ σ H _ ρ st xs _ rl er h1 fun vs H1 μ1 e1 r1 q1 => ⟨by rw [q1.length]; exact Nat.le_trans hl line_le, fun q hq => ?_⟩
    exact push_loc r1 hq q1 (p.mono e1)
  · cases hm
end

/-! ### statements -/
def PostS (K : PySem.W.Frag) (g : G) (av μ : List Addr) (H : Hp) (o : Out) (st' : List Ob) (E : Ends) : Prop := match o with
  | .nx ρ' => ∀ σ' H' μ', Ext μ μ' H H' → Rel K g av μ' st' H' → EnvR K g av μ' H' σ' ρ' → E.nx σ' H'
  | .bk ρ' => ∀ σ' H' μ', Ext μ μ' H H' → Rel K g av μ' st' H' → EnvR K g av μ' H' σ' ρ' → E.bk σ' H'
  | .ct ρ' => ∀ σ' H' μ', Ext μ μ' H H' → Rel K g av μ' st' H' → EnvR K g av μ' H' σ' ρ' → E.ct σ' H'
  | .rt d => ∀ v H' μ', Ext μ μ' H H' → Rel K g av μ' st' H' → Rp K g.ca av μ' H' v d → E.rt v H'
theorem PostS.mono {K : PySem.W.Frag} {g : G} {av μ μ1 : List Addr} {H H1 : Hp} {o : Out} {st' : List Ob} {E : Ends} (p : PostS K g av μ H o st' E) (e : Ext μ μ1 H H1) : PostS K g av μ1 H1 o st' E := by
  cases o with
  | nx ρ => exact fun σ' H' μ' e' r q => p σ' H' μ' (e.trans e') r q
  | bk ρ => exact fun σ' H' μ' e' r q => p σ' H' μ' (e.trans e') r q
  | ct ρ => exact fun σ' H' μ' e' r q => p σ' H' μ' (e.trans e') r q
  | rt ρ => exact fun σ' H' μ' e' r q => p σ' H' μ' (e.trans e') r q
def SemS (K : PySem.W.Frag) (g : G) (t : TS) (m : Ev → Mo Out) : Prop := ∀ (av μ : List Addr) (σ : L2.St) (H : Hp) (E : Ends) (ρ : Ev) (st : List Ob) (o : Out) (st' : List Ob),
  Rel K g av μ st H → EnvR K g av μ H σ ρ → m ρ st = some (o, st') → PostS K g av μ H o st' E → t E σ H
structure SV (g : G) (X : Cx) (s : Stmt) (m : Ev → Mo Out) : Prop where
  ex : ∃ t, PS X s t ∧ SemS X.K g t m
structure BV (g : G) (X : Cx) (s : List Stmt) (m : Ev → Mo Out) : Prop where
  ex : ∃ t, PSs X s t ∧ SemS X.K g t m
def yNil : Ev → Mo Out := fun ρ => Mo.pure (.nx ρ)
def ySeq (m n : Ev → Mo Out) : Ev → Mo Out := fun ρ => (m ρ).bind fun o => match o with
  | .nx ρ' => n ρ'
  | o => Mo.pure o
def yRet (m : Ev → Mo D) : Ev → Mo Out := fun ρ => (m ρ).bind fun d => Mo.pure (.rt d)
def yDrop (m : Ev → Mo D) : Ev → Mo Out := fun ρ => (m ρ).bind fun _ => Mo.pure (.nx ρ)
def yIf (c : Ev → Mo Bool) (m n : Ev → Mo Out) : Ev → Mo Out := fun ρ => (c ρ).bind fun b => if b = true then m ρ else n ρ
def yNever : Ev → Mo Out := fun _ => Mo.fail
def ySet (i : Nat) (m : Ev → Mo D) : Ev → Mo Out := fun ρ => (m ρ).bind fun d => Mo.pure (.nx (ρ.set i (some (.d d))))
section
variable {g : G} {X : Cx} {s : Stmt} {rest : List Stmt} {e : Expr} {m : Ev → Mo D} {m1 m2 : Ev → Mo Out} {c : Ev → Mo Bool} {pos : Pos}
theorem bv_nil : BV g X [] yNil := ⟨_, pss_nil, fun av μ σ H E ρ st o st' rl er hm p => by
  obtain ⟨z1, z2⟩ := Mo.pure_some hm
  subst z1 z2
  exact p σ H μ (Ext.refl _ _) rl er⟩
theorem bv_cons (h1 : SV g X s m1) (h2 : BV g X rest m2) : BV g X (s :: rest) (ySeq m1 m2) := by
  obtain ⟨t1, p1, s1⟩ := h1.ex
  obtain ⟨t2, p2, s2⟩ := h2.ex
  refine ⟨_, pss_cons p1 p2, fun av μ σ H E ρ st o st' rl er hm p => ?_⟩
  obtain ⟨o1, st1, e1, hm⟩ := Mo.bind_some hm
  refine s1 av μ σ H _ ρ st o1 st1 rl er e1 ?_
  cases o1 with
  | nx ρ1 => exact fun σ' H' μ' x r q => s2 av μ' σ' H' E ρ1 st1 o st' r q hm (p.mono x)
  | rt d =>
    obtain ⟨z1, z2⟩ := Mo.pure_some hm
    subst z1 z2
    exact fun v H' μ' x r q => p v H' μ' x r q
  | bk d =>
    obtain ⟨z1, z2⟩ := Mo.pure_some hm
    subst z1 z2
    exact fun v H' μ' x r q => p v H' μ' x r q
  | ct d =>
    obtain ⟨z1, z2⟩ := Mo.pure_some hm
    subst z1 z2
    exact fun v H' μ' x r q => p v H' μ' x r q
theorem bv_one (h1 : SV g X s m1) : BV g X [s] m1 := let ⟨t, p, q⟩ := h1.ex; ⟨t, pss_one p, q⟩
theorem sv_ret (h : EV g X e m) : SV g X (.Return (some e) pos) (yRet m) := by
  obtain ⟨t, p0, s0⟩ := h.ex
  refine ⟨_, ps_ret p0, fun av μ σ H E ρ st o st' rl er hm p => ?_⟩
  obtain ⟨d, st1, e1, hm⟩ := Mo.bind_some hm
  obtain ⟨z1, z2⟩ := Mo.pure_some hm
  subst z1 z2
  exact s0 av μ σ H _ ρ st d _ rl er e1 fun v H' μ' x r q => p v H' μ' x r q
theorem sv_drop (h : EV g X e m) (hs : swapsWith e none pos.line X.env = pure false := by rfl) : SV g X (.Expr e pos) (yDrop m) := by
  obtain ⟨t, p0, s0⟩ := h.ex
  refine ⟨_, ps_expr p0 hs, fun av μ σ H E ρ st o st' rl er hm p => ?_⟩
  obtain ⟨d, st1, e1, hm⟩ := Mo.bind_some hm
  obtain ⟨z1, z2⟩ := Mo.pure_some hm
  subst z1 z2
  exact s0 av μ σ H _ ρ st d _ rl er e1 fun v H' μ' x r q => p σ H' μ' x r (er.mono x)
theorem sv_if {ce : Expr} {a b : List Stmt} (hc : TV g X ce c) (ha : BV g X a m1) (hb : BV g X b m2) : SV g X (.If ce a b pos) (yIf c m1 m2) := by
  obtain ⟨tc, pc, sc⟩ := hc.ex
  obtain ⟨ta, pa, sa⟩ := ha.ex
  obtain ⟨tb, pb, sb⟩ := hb.ex
  refine ⟨_, ps_if pc pa pb, fun av μ σ H E ρ st o st' rl er hm p => ?_⟩
  obtain ⟨k, s1, h1, hm⟩ := Mo.bind_some hm
  refine sc av μ σ H _ ρ st k s1 rl er h1 fun H1 μ1 e1 r1 => ?_
  cases k with
  | true => exact sa av μ1 σ H1 E ρ s1 o st' r1 (er.mono e1) hm (p.mono e1)
  | false => exact sb av μ1 σ H1 E ρ s1 o st' r1 (er.mono e1) hm (p.mono e1)
theorem sv_never : SV g X s yNever := ⟨_, ps_never, fun av μ σ H E ρ st o st' rl er hm p => by cases hm⟩
theorem bv_never : BV g X rest yNever := ⟨_, pss_never, fun av μ σ H E ρ st o st' rl er hm p => by cases hm⟩
theorem sv_set {i : Nat} {x : Str} {pos' : Pos} (hN : X.N.Nodup) (hi : X.N[i]? = some x) (hx : Loc X.env.scope x) (he : EV g X e m) (hs : swapsWith e (some (.Name x pos')) pos.line X.env = pure false := by rfl) (hf : X.fn x = true ∨ X.env.scope.names.lookup x = some .local := by first | exact .inl rfl | exact .inr rfl) :
    SV g X (.Assign [.Name x pos'] e pos) (ySet i m) := by
  obtain ⟨t, p0, s0⟩ := he.ex
  refine ⟨_, ps_set hN hi hx p0 hs hf, fun av μ σ H E ρ st o st' rl er hm p => ?_⟩
  obtain ⟨d, st1, e1, hm⟩ := Mo.bind_some hm
  obtain ⟨z1, z2⟩ := Mo.pure_some hm
  subst z1 z2
  exact s0 av μ σ H _ ρ st d _ rl er e1 fun v H' μ' x r q => p _ H' μ' x r ((er.mono x).set q i)
end
end MM
set_option autoImplicit false
set_option maxRecDepth 100000
set_option maxHeartbeats 4000000
/-! M3: targets, walks, loops, comprehensions. -/
namespace MM
open PySem PySem.Spec PyProof.Rows L2 LamX NdefX

/-! ### a place that a rule fills by itself: protected -/
section
variable {K : PySem.W.Frag} {g : G} {ca : Str → Addr} {av μ μ' : List Addr} {st : List Ob} {H H1 : Hp} {σ : L2.St} {ρ : Ev} {p : Addr} {o u : HO}
mutual
theorem Rp.over (hp : p ∈ av) (hu : H p = some u) (vu : Vol u) : ∀ {v : V} {d : D}, Rp K ca av μ H v d → Rp K ca av μ (upd H p o) v d
  | _, _, .non => .non
  | _, _, .bl b => .bl b
  | _, _, .int i => .int i
  | _, _, .str x => .str x
  | _, _, .ty x => .ty x
  | _, _, .cls x => .cls x
  | _, _, .tup h l => .tup (SqT.keep h fun b w hb hi => by rw [upd_ne (fun z => by rw [z, hu] at hb; cases hb; exact vu.imm hi)]; exact hb) (RpL.over hp hu vu l)
  | _, _, .lst h n1 n2 l => .lst (by rw [upd_ne (fun z => n1 (by rw [z]; exact hp))]; exact h) n1 n2 (RpL.over hp hu vu l)
  | _, _, .ro h l => .ro (h.elim (fun ⟨w, h⟩ => .inl ⟨w, by rw [upd_ne (fun z => by rw [z, hu] at h; cases h; exact vu)]; exact h⟩) .inr) (RpL.over hp hu vu l)
  | _, _, .ins h n1 n2 l => .ins (by rw [upd_ne (fun z => n1 (by rw [z]; exact hp))]; exact h) n1 n2 (RpL.over hp hu vu l)
  | _, _, .dct h n1 n2 l => .dct (by rw [upd_ne (fun z => n1 (by rw [z]; exact hp))]; exact h) n1 n2 (RpL.over hp hu vu l)
  | _, _, .loc h => .loc h
theorem RpL.over (hp : p ∈ av) (hu : H p = some u) (vu : Vol u) : ∀ {vs : List V} {ds : List D}, RpL K ca av μ H vs ds → RpL K ca av μ (upd H p o) vs ds
  | _, _, .nil => .nil
  | _, _, .cons h t => .cons (Rp.over hp hu vu h) (RpL.over hp hu vu t)
end
theorem RpO.over {a : Addr} {ob : Ob} (hp : p ∈ av) (hu : H p = some u) (vu : Vol u) (ha : a ≠ p) (h : RpO K ca av μ H a ob) : RpO K ca av μ (upd H p o) a ob := by
  cases h with
  | lst h r => exact .lst (by rw [upd_ne ha]; exact h) (RpL.over hp hu vu r)
  | ins h r => exact .ins (by rw [upd_ne ha]; exact h) (RpL.over hp hu vu r)
  | dK h r => exact .dK (by rw [upd_ne ha]; exact h) (RpL.over hp hu vu r)
theorem RpO.avoid {a : Addr} {ob : Ob} (n : H p = none) (h : RpO K ca av μ H a ob) : RpO K ca (p :: av) μ H a ob := by
  cases h with
  | lst h r => exact .lst h (RpL.avoid n r)
  | ins h r => exact .ins h (RpL.avoid n r)
  | dK h r => exact .dK h (RpL.avoid n r)
theorem RpO.fewer {av' : List Addr} {a : Addr} {ob : Ob} (n : ∀ a ∈ av', a ∈ av) (h : RpO K ca av μ H a ob) : RpO K ca av' μ H a ob := by
  cases h with
  | lst h r => exact .lst h (RpL.fewer n r)
  | ins h r => exact .ins h (RpL.fewer n r)
  | dK h r => exact .dK h (RpL.fewer n r)
theorem Rel.protect (r : Rel K g av μ st H) (n : H p = none) : Rel K g (p :: av) μ st (upd H p o) := by
  have r1 := r.new (o := o) n
  refine ⟨r.len, r.nd, fun a ha => ?_, fun i a ob h1 h2 => ((r.obs i a ob h1 h2).avoid n).mono (Ext.new n) fun u z => upd_some n z, r1.tab⟩
  rcases List.mem_cons.mp ha with z | z
  · rw [z]
    exact ⟨(by rw [upd_same]; intro z; cases z), (r.fresh n).2⟩
  · exact r1.avo a z
theorem Rel.over (r : Rel K g av μ st H) (hp : p ∈ av) (hu : H p = some u) (vu : Vol u) : Rel K g av μ st (upd H p o) :=
  ⟨r.len, r.nd, fun a ha => ⟨fun z => (r.avo a ha).1 (upd_thr z), (r.avo a ha).2⟩, fun i a ob h1 h2 => (r.obs i a ob h1 h2).over hp hu vu fun z => (r.avo p hp).2 (by rw [← z]; exact List.mem_of_getElem? h1), tabsN_upd r.tab hu vu⟩
theorem Rel.fewer {av' : List Addr} (n : ∀ a ∈ av', a ∈ av) (r : Rel K g av μ st H) : Rel K g av' μ st H := ⟨r.len, r.nd, fun a ha => r.avo a (n a ha), fun i a ob h1 h2 => (r.obs i a ob h1 h2).fewer n, r.tab⟩
theorem Ext.over (e : Ext μ μ' H1 H) (n : H1 p = none) : Ext μ μ' H1 (upd H p o) := ⟨e.pre, fun b w hb hi ht => by rw [upd_ne (ne_of_none hb n)]; exact e.keep b w hb hi ht, fun b z => e.thr b (upd_thr z)⟩
theorem RpA.over {v : V} {x : A} (hp : p ∈ av) (hu : H p = some u) (vu : Vol u) (h : RpA K g av μ H v x) : RpA K g av μ (upd H p o) v x := by
  cases x with
  | d x => exact Rp.over hp hu vu h
  | clo k caps => obtain ⟨cs, q1, q2⟩ := h; exact ⟨cs, g.cloK _ _ k v cs q1 fun b φ z => (by rw [upd_ne (fun e => by rw [e, hu] at z; cases z; exact vu)]; exact z), RpL.over hp hu vu q2⟩
theorem EnvR.over (hp : p ∈ av) (hu : H p = some u) (vu : Vol u) (r : EnvR K g av μ H σ ρ) : EnvR K g av μ (upd H p o) σ ρ := ⟨r.len, fun i x h => by
  obtain ⟨v, h1, h2⟩ := r.at_ i x h
  exact ⟨v, h1, h2.over hp hu vu⟩⟩
theorem EnvR.protect (r : EnvR K g av μ H σ ρ) (n : H p = none) : EnvR K g (p :: av) μ (upd H p o) σ ρ := (r.avoid n).mono (Ext.new n)
end

/-! ### targets -/
def SemG (K : PySem.W.Frag) (g : G) (t : TG) (js : List Nat) (gm : Ev → D → Mo Ev) : Prop := ∀ (av μ : List Addr) (σ : L2.St) (H : Hp) (Q : L2.St → Hp → Prop) (ρ : Ev) (st : List Ob) (v : V) (d : D) (ρ' : Ev) (st' : List Ob),
  Rel K g av μ st H → EnvR K g av μ H σ ρ → Rp K g.ca av μ H v d → gm ρ d st = some (ρ', st') →
  (∀ σ' H' μ', Ext μ μ' H H' → Rel K g av μ' st' H' → EnvR K g av μ' H' σ' ρ' → (∀ vs : List Nat, (∀ j ∈ js, j ∈ vs) → wipe σ' vs = wipe σ vs) → Q σ' H') → t v σ H Q
def SemGs (K : PySem.W.Frag) (g : G) (t : TGs) (js : List Nat) (gm : Ev → List D → Mo Ev) : Prop := ∀ (av μ : List Addr) (σ : L2.St) (H : Hp) (Q : L2.St → Hp → Prop) (ρ : Ev) (st : List Ob) (vs : List V) (ds : List D) (ρ' : Ev) (st' : List Ob),
  Rel K g av μ st H → EnvR K g av μ H σ ρ → RpL K g.ca av μ H vs ds → gm ρ ds st = some (ρ', st') →
  (∀ σ' H' μ', Ext μ μ' H H' → Rel K g av μ' st' H' → EnvR K g av μ' H' σ' ρ' → (∀ vs : List Nat, (∀ j ∈ js, j ∈ vs) → wipe σ' vs = wipe σ vs) → Q σ' H') → t vs σ H Q
structure GV (g : G) (X : Cx) (tg : Expr) (js : List Nat) (gm : Ev → D → Mo Ev) : Prop where
  ex : ∃ t, PG X tg t ∧ SemG X.K g t js gm
structure GsV (g : G) (X : Cx) (n : Nat) (tg : List Expr) (js : List Nat) (gm : Ev → List D → Mo Ev) : Prop where
  ex : ∃ t, PGs X tg t ∧ SemGs X.K g t js gm
  len : ∀ ρ ds st r, gm ρ ds st = some r → ds.length = n
def zName (i : Nat) : Ev → D → Mo Ev := fun ρ d => Mo.pure (ρ.set i (some (.d d)))
def zNil : Ev → List D → Mo Ev := fun ρ ds => match ds with
  | [] => Mo.pure ρ
  | _ => Mo.fail
def zCons (a : Ev → D → Mo Ev) (b : Ev → List D → Mo Ev) : Ev → List D → Mo Ev := fun ρ ds => match ds with
  | d :: r => (a ρ d).bind fun ρ1 => b ρ1 r
  | _ => Mo.fail
def zTup (b : Ev → List D → Mo Ev) : Ev → D → Mo Ev := fun ρ d => match d with
  | .tup ds => b ρ ds
  | _ => Mo.fail
theorem wipe_get {σ : L2.St} {vs : List Nat} {i : Nat} : (wipe σ vs)[i]? = if i ∈ vs ∧ i < σ.length then some none else σ[i]? := by
  induction vs with
  | nil => simp [wipe]
  | cons v vs ih =>
    unfold wipe
    by_cases e : v = i
    · subst e
      by_cases hl : v < σ.length
      · rw [List.getElem?_set_self (by rw [wipe_length]; exact hl)]
        simp [hl]
      · rw [List.getElem?_eq_none (by rw [List.length_set, wipe_length]; omega)]
        simp [hl]
    · rw [List.getElem?_set_ne e, ih]
      have : i ≠ v := fun z => e z.symm
      simp [this]
theorem wipe_set {σ : L2.St} {vs : List Nat} {i : Nat} {x : Option V} (h : i ∈ vs) : wipe (σ.set i x) vs = wipe σ vs := by
  apply List.ext_getElem?
  intro j
  rw [wipe_get, wipe_get, List.length_set]
  by_cases e : i = j
  · subst e
    by_cases hl : i < σ.length
    · simp [h, hl]
    · rw [List.getElem?_eq_none (by rw [List.length_set]; omega), List.getElem?_eq_none (by omega)]
  · rw [List.getElem?_set_ne e]
theorem wipe_wipe {σ : L2.St} {vs : List Nat} : wipe (wipe σ vs) vs = wipe σ vs := by
  apply List.ext_getElem?
  intro j
  rw [wipe_get, wipe_get, wipe_length]
  by_cases h : j ∈ vs ∧ j < σ.length
  · rw [if_pos h, if_pos h]
  · rw [if_neg h, if_neg h]
section
variable {g : G} {X : Cx} {pos : Pos}
theorem gv_name {i : Nat} {x : Str} (hN : X.N.Nodup) (hi : X.N[i]? = some x) (hx : Loc X.env.scope x) (hf : X.fn x = true ∨ X.env.scope.names.lookup x = some .local := by first | exact .inl rfl | exact .inr rfl) : GV g X (.Name x pos) [i] (zName i) :=
  ⟨_, pg_name hN hi hx hf, fun av μ σ H Q ρ st v d ρ' st' r er rp hm q => by
    obtain ⟨z1, z2⟩ := Mo.pure_some hm
    subst z1 z2
    exact q _ H μ (Ext.refl _ _) r (er.set rp i) fun vs hv => wipe_set (hv i (by simp))⟩
theorem gsv_nil : GsV g X 0 [] [] zNil := by
  refine ⟨⟨_, pgs_nil, fun av μ σ H Q ρ st vs ds ρ' st' r er rp hm q => ?_⟩, fun ρ ds st r h => ?_⟩
  · cases rp with
    | nil =>
      obtain ⟨z1, z2⟩ := Mo.pure_some hm
      subst z1 z2
      exact ⟨rfl, q _ H μ (Ext.refl _ _) r er fun vs hv => rfl⟩
    | cons _ _ => cases hm
  · cases ds with
    | nil => rfl
    | cons _ _ => cases h
theorem gsv_cons {n : Nat} {e : Expr} {es : List Expr} {j1 j2 : List Nat} {a : Ev → D → Mo Ev} {b : Ev → List D → Mo Ev} (h1 : GV g X e j1 a) (h2 : GsV g X n es j2 b) (hs : (assignEach (e :: es) X.env).map (·.2) = assign e X.env :: (assignEach es X.env).map (·.2) := by rfl) :
    GsV g X (n + 1) (e :: es) (j1 ++ j2) (zCons a b) := by
  obtain ⟨t1, p1, s1⟩ := h1.ex
  obtain ⟨t2, p2, s2⟩ := h2.ex
  refine ⟨⟨_, pgs_cons p1 p2 hs, fun av μ σ H Q ρ st vs ds ρ' st' r er rp hm q => ?_⟩, fun ρ ds st r h => ?_⟩
  · cases rp with
    | nil => cases hm
    | cons rp rr =>
      obtain ⟨ρ1, st1, e1, hm⟩ := Mo.bind_some hm
      refine ⟨_, _, rfl, s1 av μ σ H _ ρ st _ _ ρ1 st1 r er rp e1 fun σ1 H1 μ1 x1 r1 er1 w1 => ?_⟩
      exact s2 av μ1 σ1 H1 _ ρ1 st1 _ _ ρ' st' r1 er1 (RpL.mono x1 rr) hm fun σ2 H2 μ2 x2 r2 er2 w2 => q σ2 H2 μ2 (x1.trans x2) r2 er2 fun vs hv => (w2 vs fun j hj => hv j (List.mem_append_right _ hj)).trans (w1 vs fun j hj => hv j (List.mem_append_left _ hj))
  · cases ds with
    | nil => cases h
    | cons d ds =>
      obtain ⟨ρ1, st1, e1, hm⟩ := Mo.bind_some (r := r.1) (s' := r.2) h
      rw [List.length_cons, h2.len _ _ _ _ hm]
theorem gv_tup {es : List Expr} {k n : Nat} {js : List Nat} {b : Ev → List D → Mo Ev} (hc : X.calm = true) (h : GsV g X n es js b) (hn : (assignEach es X.env).length = n := by rfl) (hst : (assignEach es X.env).findIdx? (·.1) = none := by rfl) : GV g X (.Tuple es k pos) js (zTup b) := by
  obtain ⟨t, p, s⟩ := h.ex
  refine ⟨_, pg_tup (n := n) hc p hn hst, fun av μ σ H Q ρ st v d ρ' st' r er rp hm q => ?_⟩
  unfold zTup at hm
  split at hm
  · cases rp with
    | tup hq rl => exact ⟨_, _, rfl, hq, by rw [rl.length]; exact h.len _ _ _ _ hm, s av μ σ H Q ρ st _ _ ρ' st' r er rl hm q⟩
  · cases hm
/-- target = value -/
def yAsg (m : Ev → Mo D) (gm : Ev → D → Mo Ev) : Ev → Mo Out := fun ρ => (m ρ).bind fun d => (gm ρ d).bind fun ρ' => Mo.pure (.nx ρ')
theorem sv_asg {tg e : Expr} {m : Ev → Mo D} {js : List Nat} {gm : Ev → D → Mo Ev} (he : EV g X e m) (hg : GV g X tg js gm) (hs : swapsWithSole [tg] e pos.line X.env = pure false := by rfl) (hw : swappedStores [tg] e X.env = pure none := by rfl)
    (h1 : (assignEach [tg] X.env).map (·.2) = [assign tg X.env] := by rfl) : SV g X (.Assign [tg] e pos) (yAsg m gm) := by
  obtain ⟨t, p, s⟩ := he.ex
  obtain ⟨u, pg, sg⟩ := hg.ex
  refine ⟨_, ps_asg p pg hs hw h1, fun av μ σ H E ρ st o st' rl er hm q => ?_⟩
  obtain ⟨d, st1, e1, hm⟩ := Mo.bind_some hm
  obtain ⟨ρ1, st2, e2, hm⟩ := Mo.bind_some hm
  obtain ⟨z1, z2⟩ := Mo.pure_some hm
  subst z1 z2
  refine s av μ σ H _ ρ st d st1 rl er e1 fun v H1 μ1 x1 r1 q1 => ?_
  exact sg av μ1 σ H1 _ ρ st1 v d ρ1 _ r1 (er.mono x1) q1 e2 fun σ2 H2 μ2 x2 r2 er2 _ => q σ2 H2 μ2 (x1.trans x2) r2 er2
/-- a, b = x, y of plain local names -/
def yPar (i j : Nat) (m : Ev → Mo (List D)) : Ev → Mo Out := fun ρ => (m ρ).bind fun ds => match ds with
  | [a, b] => Mo.pure (.nx ((ρ.set i (some (.d a))).set j (some (.d b))))
  | _ => Mo.fail
theorem sv_par {i j : Nat} {x y : Str} {a b : Expr} {m : Ev → Mo (List D)} {px py pt : Pos} {kt : Nat} {k2 : Nat} {pt2 : Pos} (hc : X.calm = true) (hN : X.N.Nodup) (hi : X.N[i]? = some x) (hj : X.N[j]? = some y) (hij : i ≠ j)
    (hx : X.env.scope.names.lookup x = some .local) (hy : X.env.scope.names.lookup y = some .local) (ha : AV g X [a, b] m)
    (hw : swappedStores [.Tuple [.Name x px, .Name y py] kt pt] (.Tuple [a, b] k2 pt2) X.env = pure (some [x, y]) := by rfl)
    (hs : swapsWithSole [.Tuple [.Name x px, .Name y py] kt pt] (.Tuple [a, b] k2 pt2) pos.line X.env = pure false := by rfl) :
    SV g X (.Assign [.Tuple [.Name x px, .Name y py] kt pt] (.Tuple [a, b] k2 pt2) pos) (yPar i j m) := by
  obtain ⟨t, p, s⟩ := ha.ex
  refine ⟨_, ps_par hc hN hi hj hij hx hy p hw hs, fun av μ σ H E ρ st o st' rl er hm q => ?_⟩
  obtain ⟨ds, st1, e1, hm⟩ := Mo.bind_some hm
  refine s av μ σ H _ ρ st ds st1 rl er e1 fun vs H1 μ1 x1 r1 q1 => ?_
  cases q1 with
  | nil => cases hm
  | cons p1 q1 =>
    cases q1 with
    | nil => cases hm
    | cons p2 q1 =>
      cases q1 with
      | nil =>
        obtain ⟨z1, z2⟩ := Mo.pure_some hm
        subst z1 z2
        exact ⟨_, _, rfl, q _ H1 μ1 x1 r1 (((er.mono x1).set p1 i).set p2 j)⟩
      | cons _ _ => cases hm
end

/-! ### what is walked -/
structure Wk (K : PySem.W.Frag) (g : G) (J : It) (μ : List Addr) (H : Hp) (xs : List V) (src items : List D) : Prop where
  go : ∀ i H', i < items.length → (∀ b o, H b = some o → (b ∈ μ → Imm o) → (∀ ps, o ≠ .tbl ps) → H' b = some o) → J.go i H'
  stop : ∀ H', (∀ b o, H b = some o → (b ∈ μ → Imm o) → (∀ ps, o ≠ .tbl ps) → H' b = some o) → J.stop items.length H'
  yld : ∀ (av μ1 : List Addr) (i : Nat) (H' H2 : Hp) (x : V) (d : D), (∀ b o, H b = some o → (b ∈ μ → Imm o) → (∀ ps, o ≠ .tbl ps) → H' b = some o) → J.yld i H' x H2 → items[i]? = some d → RpL K g.ca av μ1 H' xs src →
    (H2 = H' ∨ ∃ T zs, H' T = none ∧ H2 = upd H' T (.tup zs)) ∧ Rp K g.ca av μ1 H2 x d
def SemI (K : PySem.W.Frag) (g : G) (t : TI) (m : Ev → Mo (List D)) : Prop := ∀ (av μ : List Addr) (σ : L2.St) (H : Hp) (R : It → Hp → Prop) (ρ : Ev) (st : List Ob) (items : List D) (st' : List Ob),
  Rel K g av μ st H → EnvR K g av μ H σ ρ → m ρ st = some (items, st') →
  (∀ J H' μ' xs src, Ext μ μ' H H' → Rel K g av μ' st' H' → RpL K g.ca av μ' H' xs src → Wk K g J μ' H' xs src items → R J H') → t σ H R
structure IV (g : G) (X : Cx) (tg iter : Expr) (m : Ev → Mo (List D)) : Prop where
  ex : ∃ t, PI X tg iter t ∧ SemI X.K g t m
/-- the items of a tuple, of a list that stands -/
def itemsT (m : Ev → Mo D) : Ev → Mo (List D) := fun ρ => (m ρ).bind fun d => match d with
  | .tup ds => Mo.pure ds
  | _ => Mo.fail
def itemsL (m : Ev → Mo D) : Ev → Mo (List D) := fun ρ => (m ρ).bind fun d => match d with
  | .lst ds => Mo.pure ds
  | .ro ds => Mo.pure ds
  | _ => Mo.fail
def itemsS (m : Ev → Mo D) : Ev → Mo (List D) := fun ρ => (m ρ).bind fun d => match d with
  | .str x => Mo.pure (x.cps.toList.map fun c => .str ⟨#[c]⟩)
  | _ => Mo.fail
def rangeD (lo : Int) (n : Nat) : List D := (List.range n).map fun (i : Nat) => D.int (lo + (i : Int))
def itemsR1 (m : Ev → Mo (List D)) : Ev → Mo (List D) := fun ρ => (m ρ).bind fun ds => match ds with
  | [.int j] => if -(2 ^ 62) ≤ j ∧ j < 2 ^ 62 then Mo.pure (rangeD 0 j.toNat) else Mo.fail
  | _ => Mo.fail
def itemsR2 (m : Ev → Mo (List D)) : Ev → Mo (List D) := fun ρ => (m ρ).bind fun ds => match ds with
  | [.int i, .int j] => if -(2 ^ 62) ≤ i ∧ i < 2 ^ 62 ∧ -(2 ^ 62) ≤ j ∧ j < 2 ^ 62 then Mo.pure (rangeD i (j - i).toNat) else Mo.fail
  | _ => Mo.fail
section
variable {g : G} {X : Cx} {tg e : Expr} {m : Ev → Mo D}
theorem sqL_keep {K : PySem.W.Frag} {μ : List Addr} {H H' : Hp} {a : Addr} {xs : List V} (h : SqL K H a xs) (hm : H a = some (.lst xs) → a ∉ μ) (k : ∀ b o, H b = some o → (b ∈ μ → Imm o) → (∀ ps, o ≠ .tbl ps) → H' b = some o) : SqL K H' a xs := by
  rcases h with (h | ⟨o, h⟩) | h
  · exact .inl (.inl (k _ _ h (fun z => absurd z (hm h)) fun ps z => by cases z))
  · exact .inl (.inr ⟨o, k _ _ h (fun _ => trivial) fun ps z => by cases z⟩)
  · exact .inr h
theorem sqT_keep {K : PySem.W.Frag} {μ : List Addr} {H H' : Hp} {a : Addr} {xs : List V} (h : SqT K H a xs) (k : ∀ b o, H b = some o → (b ∈ μ → Imm o) → (∀ ps, o ≠ .tbl ps) → H' b = some o) : SqT K H' a xs := SqT.keep h fun b o hb hi => k b o hb (fun _ => hi) (notTbl_imm hi)
theorem ro_sqL {K : PySem.W.Frag} {H : Hp} {a : Addr} {xs : List V} (h : (∃ o, H a = some (.frz o (.lst xs))) ∨ SqL K (fun _ => none) a xs) : SqL K H a xs := by
  rcases h with ⟨o, h⟩ | (h | h) | h
  · exact .inl (.inr ⟨o, h⟩)
  · cases h
  · obtain ⟨_, h⟩ := h; cases h
  · exact .inr h
theorem iv_tup (he : EV g X e m) : IV g X tg e (itemsT m) := by
  obtain ⟨t, p, s⟩ := he.ex
  refine ⟨_, pi_tup p, fun av μ σ H R ρ st items st' rl er hm q => ?_⟩
  obtain ⟨d, st1, e1, hm⟩ := Mo.bind_some hm
  refine s av μ σ H _ ρ st d st1 rl er e1 fun v H1 μ1 x1 r1 q1 => ?_
  cases q1 with
  | tup hq l =>
    obtain ⟨z1, z2⟩ := Mo.pure_some hm
    subst z1 z2
    rename_i a xs
    refine ⟨_, rfl, ⟨_, hq⟩, q _ H1 μ1 xs _ x1 r1 l ⟨fun i H' hi k => ?_, fun H' k => ⟨xs, sqT_keep hq k, by rw [l.length]; exact Nat.le_refl _⟩, fun av' μ' i H' H2 x d k hy hd hl => ?_⟩⟩
    · rw [← l.length] at hi
      exact ⟨xs, xs[i], sqT_keep hq k, by simp [hi]⟩
    · obtain ⟨e2, hy⟩ := hy
      subst e2
      obtain ⟨v', h1, h2⟩ := RpL.get hl hd
      have h3 := hy xs (sqT_keep hq k)
      rw [h1] at h3
      cases h3
      exact ⟨.inl rfl, h2⟩
  | _ => cases hm
theorem iv_lst (he : EV g X e m) : IV g X tg e (itemsL m) := by
  obtain ⟨t, p, s⟩ := he.ex
  refine ⟨_, pi_list p, fun av μ σ H R ρ st items st' rl er hm q => ?_⟩
  obtain ⟨d, st1, e1, hm⟩ := Mo.bind_some hm
  refine s av μ σ H _ ρ st d st1 rl er e1 fun v H1 μ1 x1 r1 q1 => ?_
  have fin : ∀ {a : Addr} {xs : List V} {ds : List D}, (∀ H', (∀ b o, H1 b = some o → (b ∈ μ1 → Imm o) → (∀ ps, o ≠ .tbl ps) → H' b = some o) → SqL X.K H' a xs) → RpL X.K g.ca av μ1 H1 xs ds → items = ds → st' = st1 → v = .ref a → ∃ a, v = .ref a ∧ (∃ xs, SqL X.K H1 a xs) ∧ R (Itl X.K a) H1 := fun {a xs ds} hk l z1 z2 z3 => by
    subst z1 z2
    refine ⟨_, z3, ⟨_, hk H1 fun b o h _ _ => h⟩, q _ H1 μ1 xs _ x1 r1 l ⟨fun i H' hi k => ?_, fun H' k => ⟨xs, hk H' k, by rw [l.length]; exact Nat.le_refl _⟩, fun av' μ' i H' H2 x d k hy hd hl => ?_⟩⟩
    · rw [← l.length] at hi
      exact ⟨xs, xs[i], hk H' k, by simp [hi]⟩
    · obtain ⟨e2, hy⟩ := hy
      subst e2
      obtain ⟨v', h1, h2⟩ := RpL.get hl hd
      have h3 := hy xs (hk _ k)
      rw [h1] at h3
      cases h3
      exact ⟨.inl rfl, h2⟩
  cases q1 with
  | lst hq n1 n2 l =>
    obtain ⟨z1, z2⟩ := Mo.pure_some hm
    exact fin (fun H' k => sqL_keep (SqL.of hq) (fun _ => n2) k) l z1 z2 rfl
  | ro hq l =>
    obtain ⟨z1, z2⟩ := Mo.pure_some hm
    refine fin (fun H' k => ?_) l z1 z2 rfl
    rcases hq with ⟨o, hq⟩ | (hq | ⟨_, hq⟩) | hq
    · exact .inl (.inr ⟨o, k _ _ hq (fun _ => trivial) fun ps z => by cases z⟩)
    · cases hq
    · cases hq
    · exact .inr hq
  | _ => cases hm
end
end MM
set_option autoImplicit false
set_option maxRecDepth 100000
set_option maxHeartbeats 4000000
/-! enumerate of a tuple. -/
namespace MM
open PySem PySem.Spec PyProof.Rows L2
open AutoSeq1 (wpAny_loadPart')
theorem meets_enum1 {v : Value} {o : Obj} {H : Heap → Prop} (B : Begins v o H) :
    Meets (Builtin.«enumerate.__new__» ⟨[.type "enumerate", v], []⟩) (fun _ R s => H s.heap ∧
      R (.ok (.ret (.ref (s.heap.push o).objs.size))) { s with heap := (s.heap.push o).push { cls := .type "enumerate", data := .fields #[.none, .bool false, .ref s.heap.objs.size, rawInt 0, .none, .none] } }) :=
  .of_wp fun prog w A R s h => by
    obtain ⟨hp, g, d, tk, os⟩ := s; obtain ⟨h1, h⟩ := h
    have hsub := sub_enumerate
    have q1 : ∀ {A' : Around} {E : Value → Shared → Prop} {Q : Value → Shared → Prop}, Q (.ref hp.objs.size) ⟨hp.push o, g, d, tk, os⟩ → wpAny (model prog w) A' (pyIter v) Q E ⟨hp, g, d, tk, os⟩ :=
      fun q => B.iter prog w _ _ ⟨hp, g, d, tk, os⟩ _ h1 q
    wp_walk using q1
    refine wpAny_stack_any fun st => wpAny_pure ?_
    split
    · rename_i c _ _ _ _ _
      cases (c == Value.type "enumerate")
      · wp_walk using q1
        exact ⟨_, rfl, h⟩
      · wp_walk using q1
        exact ⟨_, rfl, h⟩
    · wp_walk using q1
      exact ⟨_, rfl, h⟩
theorem call_enum1 {prog : Program} {w : World} {A : Around} {E : Value → Shared → Prop} {s : Shared} {v : Value} {o : Obj} {H : Heap → Prop} {Q : Value → Shared → Prop} (B : Begins v o H) (h1 : H s.heap)
    (h : ∀ h', IsEnum h' (s.heap.objs.size + 1) s.heap.objs.size 0 .none → h'.get? s.heap.objs.size = some o → h'.objs.size = s.heap.objs.size + 2 →
      (∀ b o, s.heap.get? b = some o → h'.get? b = some o) → Q (.ref (s.heap.objs.size + 1)) { s with heap := h' }) :
    wpAny (model prog w) A (call (.type "enumerate") [v]) Q E s := by
  refine callType_new F.called_enumerate (by decide) (F.typeCall_enumerate_1 _) (F.newCall_enumerate_1 _) (fun obj => F.args_object_init_2 obj _) F.entry_enumerate_new
    (meets_enum1 B) ⟨h1, ?_⟩
  have hz : (s.heap.push o).objs.size = s.heap.objs.size + 1 := Heap.size_push ..
  show _ ∧ _
  rw [hz]
  have he : IsEnum ((s.heap.push o).push { cls := .type "enumerate", data := .fields #[.none, .bool false, .ref s.heap.objs.size, rawInt 0, .none, .none] }) (s.heap.objs.size + 1) s.heap.objs.size 0 .none := by
    have := Heap.get?_push_size (s.heap.push o) (o := { cls := .type "enumerate", data := .fields #[.none, .bool false, .ref s.heap.objs.size, rawInt 0, .none, .none] }) rfl
    rw [hz] at this; exact this
  refine ⟨⟨_, he, rfl⟩, h _ he (Heap.get?_push_of_some _ (Heap.get?_push_size _ B.free)) (by rw [Heap.size_push, hz]) fun b o x => Heap.get?_push_of_some _ (Heap.get?_push_of_some _ x)⟩
/-- the tuple at a, its items in new pairs with their places -/
def Iten (K : PySem.W.Frag) (a : Addr) : It :=
  ⟨fun i H => ∃ xs x, SqT K H a xs ∧ xs[i]? = some x,
    fun i H v H' => ∃ T x, v = .ref T ∧ H T = none ∧ H' = upd H T (.tup [.int (i : Nat), x]) ∧ ∀ xs, SqT K H a xs → xs[i]? = some x,
    fun i H => ∃ xs, SqT K H a xs ∧ xs.length ≤ i⟩
theorem tup_ne_iter {h : Heap} {it a : Addr} {i : Nat} {its : Array Value} (h1 : h.IsTupleIter it a i) (h2 : h.IsTuple a its) : a ≠ it := by
  rintro rfl
  obtain ⟨o, e1, c1, _⟩ := h1
  obtain ⟨o', e2, c2, _⟩ := h2
  rw [e1] at e2
  cases e2
  rw [c1] at c2
  injection c2 with c2
  exact absurd c2 (by decide)
theorem tup_ne_enum {h : Heap} {e it a : Addr} {i : Int} {old : Value} {its : Array Value} (h1 : IsEnum h e it i old) (h2 : h.IsTuple a its) : e ≠ a := by
  rintro rfl
  obtain ⟨o', e2, c2, _⟩ := h2
  rw [show h.get? e = _ from h1] at e2
  cases e2
  injection c2 with c2
  exact absurd c2 (by decide)
theorem turn_enumT {P : Program} {w : World} {K : PySem.W.Frag} {elts : List Expr} {kk : Nat} {tpos : Pos} (a e it : Addr) :
    Turn P w K (.Tuple elts kk tpos) (Iten K a) [e, it] e (fun i h => (∃ old, IsEnum h e it ((i : Nat) : Int) old) ∧ h.IsTupleIter it a i ∧ e ≠ it) where
  mem := by simp
  obj := fun i h st b hb => by
    obtain ⟨⟨old, he⟩, ⟨o, ho, hc, hd⟩, _⟩ := st
    have e' : b = e ∨ b = it := by simpa using hb
    rcases e' with z | z
    · rw [z]; exact ⟨_, he, fun v q => nomatch q⟩
    · rw [z]; exact ⟨o, ho, fun v q => by rw [hd] at q; cases q⟩
  keep := fun i h h' st k => let ⟨⟨old, he⟩, hi, hne⟩ := st; ⟨⟨old, k e (by simp) _ he⟩, hi.at fun o q => k it (by simp) o q, hne⟩
  item := by
    intro X hP hw hK hc i pins s σ H E I hf st hg
    subst hP hw hK
    obtain ⟨⟨old, he⟩, hit, hne⟩ := st
    obtain ⟨xs, x, hq, hx⟩ := hg
    obtain ⟨its, rv, p, hz⟩ := I.tuple hq
    have pt : s.heap.IsTuple a its.toArray := p
    obtain ⟨u, hu, ru⟩ := rv.get hx
    have hel : e < s.heap.objs.size := Heap.lt_size he
    have hil : it < s.heap.objs.size := by obtain ⟨_, q, _⟩ := hit; exact Heap.lt_size q
    have hA : X.A.in1.handled = none := I.ok.hd hc
    have D := Draws.tuple (prog := X.prog) (w := X.w) hA it a (tup_ne_iter hit pt) its.toArray
    have hi : i < its.toArray.size := by
      rw [List.size_toArray]
      exact (List.getElem?_eq_some_iff.mp hu).1
    refine wpAny_pyNext_enum_itemC D he ⟨hit, pt⟩ hi hne (by simp [hne, tup_ne_enum he pt]) fun x' h' tk hP ho hs' hT hsz hk => ?_
    have ex : x' = u := by
      have h1 : its.toArray[i]? = some x' := hP
      rw [show its.toArray[i]? = some u by simpa using hu] at h1
      exact (Option.some.inj h1).symm
    subst ex
    refine ⟨_, rfl, wpAny_letOwnedTupleGo_enum (s := { s with heap := h', toks := tk + 1 }) ho fun h'' he' sb => ?_⟩
    have hT2 : h''.get? s.heap.objs.size = some { cls := .type "tuple", data := .seq #[.int i tk, x'] } := (sb.2 _ (Nat.ne_of_gt hel)).trans hT
    have new : ObjOk X.prog X.w (upd H s.heap.objs.size (.tup [.int (i : Nat), x])) h'' s.heap.objs.size (.tup [.int (i : Nat), x]) :=
      ⟨by show 2 ≤ sizeLine; decide, [.int i tk, x'], .cons ⟨_, rfl⟩ (.cons ru .nil), ⟨_, hT2, rfl, _, rfl⟩⟩
    have I1 : Inv X pins σ (upd H s.heap.objs.size (.tup [.int (i : Nat), x])) { s with heap := h'', toks := tk + 1 } :=
      I.turnedNew (ch := [e, it]) (fun b ob hb q => (sb.2 b (fun z => hb (by simp [z]))).trans (hk b ob (fun z => hb (by simp [z])) (fun z => hb (by simp [z])) q)) hf (Nat.le_refl _) new
    refine ⟨.ref s.heap.objs.size, _, I1, rfl, ⟨_, x, rfl, I.hok.fresh (Nat.le_refl _), rfl, fun ys hy => by rw [I.tuple_inj hy hq]; exact hx⟩, ⟨⟨x', ?_⟩, hs'.1.at fun o q => (sb.2 it (Ne.symm hne)).trans q, hne⟩, fun b hb => ?_⟩
    · have e1 : ((i + 1 : Nat) : Int) = (i : Int) + 1 := by omega
      rw [e1]; exact he'
    · have hb' : b < s.heap.objs.size := by
        have e' : b = e ∨ b = it := by simpa using hb
        rcases e' with z | z
        · rw [z]; exact hel
        · rw [z]; exact hil
      rw [upd_ne (Nat.ne_of_lt hb')]
      exact (hf b hb).1
  done := by
    intro X hP hw hK hc i pins s σ H E I hf st hg
    subst hP hw hK
    obtain ⟨⟨old, he⟩, hit, hne⟩ := st
    obtain ⟨xs, hq, hx⟩ := hg
    obtain ⟨its, rv, p, hz⟩ := I.tuple hq
    have pt : s.heap.IsTuple a its.toArray := p
    obtain ⟨f0, f1, f2, f3, f4, f5⟩ := hf it (by simp)
    have hl := rv.length
    have hA : X.A.in1.handled = none := I.ok.hd hc
    refine wpAny_pyNext_enum_endD (n := i) (P := fun _ _ => True) (St := fun j h => j = i ∧ h.IsTupleIter it a i ∧ h.IsTuple a its.toArray) (fp := [it, a]) ⟨fun j h st => ?_, fun j h h' st k => ?_, fun j s Q E hj st _ => ?_, fun s Q E st hE => ?_⟩ he ⟨rfl, hit, pt⟩ fun h' eb => ⟨rfl, I.turned (t' := s.toks) (fun b o hb q => eb b o hb q) f0 f1 f3 f4 f5⟩
    · obtain ⟨_, ⟨o, q, _⟩, _⟩ := st; exact ⟨o, q⟩
    · exact ⟨st.1, st.2.1.at fun o q => k it (by simp) o q, st.2.2.at fun o q => k a (by simp) o q⟩
    · exact absurd st.1 (Nat.ne_of_lt hj)
    · exact wpAny_nextOf_tuple_end hA st.2.1 st.2.2 (by simp; omega) hE
  self := fun A i s Q E st h => let ⟨⟨_, he⟩, _⟩ := st; wpAny_pyIter_enum he h
def iEnumT (K : PySem.W.Frag) (ta : TA) : TI := fun σ H R => ta σ H fun vs H1 => ∃ a xs, vs = [.ref a] ∧ SqT K H1 a xs ∧ R (Iten K a) H1
theorem pi_enumT {X : Cx} {e : Expr} {ta : TA} {p pos tpos : Pos} {elts : List Expr} {kk : Nat} (hg : Gl X "enumerate") (hm : X.mg "enumerate" = none) (ha : PA X [e] ta) (hs : starEach [e] X.env = [(false, eval e X.env)] := by rfl) :
    PI X (.Tuple elts kk tpos) (.Call (.Name "enumerate" p) [e] [] pos) (iEnumT X.K ta) := by
  refine ⟨fun pins s σ H R I h => ?_⟩
  refine Call_ (ld_blt I hg hm boot_enumerate (PyProof.Rows.callWith_type1 (thn (ha.run pos pins s σ H _ I h) fun us s1 ⟨vs, H1, I1, r1, q1⟩ => ?_) hs rfl))
  obtain ⟨a, xs, ex, hq, q⟩ := q1
  subst ex
  cases r1 with
  | cons r rr =>
    cases rr
    cases r
    obtain ⟨its, rv, p', hz⟩ := I1.tuple hq
    have pt : s1.heap.IsTuple a its.toArray := p'
    refine call_enum1 (begins_tuple a its.toArray) pt fun h' he hit hsz hk => wpAny_pyIter_enum he ?_
    have I2 : Inv X pins σ H1 { s1 with heap := h' } := I1.kept (t' := s1.toks) hk
    refine ⟨s1.heap.objs.size + 1, [s1.heap.objs.size + 1, s1.heap.objs.size], _, _, H1, rfl, I2, turn_enumT a (s1.heap.objs.size + 1) s1.heap.objs.size, ⟨⟨.none, he⟩, ⟨_, hit, rfl, rfl⟩, Nat.succ_ne_self _⟩, fun b hb => ?_, q⟩
    have e' : b = s1.heap.objs.size + 1 ∨ b = s1.heap.objs.size := by simpa using hb
    have hle : s1.heap.objs.size ≤ b := by
      rcases e' with z | z
      · rw [z]; exact Nat.le_add_right _ _
      · rw [z]; exact Nat.le_refl _
    exact I1.fpOk hle (I1.hok.fresh hle)
end MM
set_option autoImplicit false
set_option maxRecDepth 100000
set_option maxHeartbeats 4000000
/-! M4: more walks; for, while, comprehensions. -/
namespace MM
open PySem PySem.Spec PyProof.Rows L2 LamX NdefX
section
variable {g : G} {X : Cx} {tg e : Expr} {m : Ev → Mo D}
theorem iv_str (he : EV g X e m) : IV g X tg e (itemsS m) := by
  obtain ⟨t, p, s⟩ := he.ex
  refine ⟨_, pi_str p, fun av μ σ H R ρ st items st' rl er hm q => ?_⟩
  obtain ⟨d, st1, e1, hm⟩ := Mo.bind_some hm
  refine s av μ σ H _ ρ st d st1 rl er e1 fun v H1 μ1 x1 r1 q1 => ?_
  cases q1 with
  | str x =>
    obtain ⟨z1, z2⟩ := Mo.pure_some hm
    subst z1 z2
    refine ⟨_, rfl, q _ H1 μ1 [] [] x1 r1 .nil ⟨fun i H' hi k => ?_, fun H' k => ?_, fun av' μ' i H' H2 y d k hy hd hl => ?_⟩⟩
    · rw [List.length_map] at hi
      exact hi
    · rw [List.length_map]
      exact Nat.le_refl _
    · obtain ⟨e2, c, hc, hy⟩ := hy
      subst e2
      subst hy
      rw [List.getElem?_map, Array.getElem?_toList, hc] at hd
      cases hd
      exact ⟨.inl rfl, .str _⟩
  | _ => cases hm
theorem wk_range {K : PySem.W.Frag} {μ : List Addr} {H : Hp} {lo : Int} {n : Nat} : Wk K g (Itr lo n) μ H [] [] (rangeD lo n) := by
  have hl : (rangeD lo n).length = n := by simp [rangeD]
  refine ⟨fun i H' hi k => by rw [hl] at hi; exact hi, fun H' k => by rw [hl]; exact Nat.le_refl _, fun av' μ' i H' H2 y d k hy hd hr => ?_⟩
  obtain ⟨e2, hy⟩ := hy
  subst e2
  subst hy
  unfold rangeD at hd
  rw [List.getElem?_map] at hd
  by_cases hi : i < n
  · rw [List.getElem?_range hi] at hd
    cases hd
    exact ⟨.inl rfl, .int _⟩
  · rw [List.getElem?_eq_none (by simpa using hi)] at hd
    cases hd
variable {ml : Ev → Mo (List D)} {a b : Expr} {p pos : Pos}
theorem iv_range1 (hg : Gl X "range") (hm : X.mg "range" = none) (ha : AV g X [a] ml) (hs : starEach [a] X.env = [(false, eval a X.env)] := by rfl) : IV g X tg (.Call (.Name "range" p) [a] [] pos) (itemsR1 ml) := by
  obtain ⟨t, p0, s⟩ := ha.ex
  refine ⟨_, pi_range1 hg hm p0 hs, fun av μ σ H R ρ st items st' rl er hm q => ?_⟩
  obtain ⟨ds, st1, e1, hm⟩ := Mo.bind_some hm
  refine s av μ σ H _ ρ st ds st1 rl er e1 fun vs H1 μ1 x1 r1 q1 => ?_
  split at hm
  · split at hm
    · rename_i j hj
      obtain ⟨z1, z2⟩ := Mo.pure_some hm
      subst z1 z2
      cases q1 with
      | cons h1 h2 =>
        cases h1
        cases h2
        exact ⟨j, rfl, hj.1, hj.2, q _ H1 μ1 [] [] x1 r1 .nil wk_range⟩
    · cases hm
  · cases hm
theorem iv_range2 (hg : Gl X "range") (hm : X.mg "range" = none) (ha : AV g X [a, b] ml) (hs : starEach [a, b] X.env = [(false, eval a X.env), (false, eval b X.env)] := by rfl) (hs2 : starEach [b] X.env = [(false, eval b X.env)] := by rfl) : IV g X tg (.Call (.Name "range" p) [a, b] [] pos) (itemsR2 ml) := by
  obtain ⟨t, p0, s⟩ := ha.ex
  refine ⟨_, pi_range2 hg hm p0 hs hs2, fun av μ σ H R ρ st items st' rl er hm q => ?_⟩
  obtain ⟨ds, st1, e1, hm⟩ := Mo.bind_some hm
  refine s av μ σ H _ ρ st ds st1 rl er e1 fun vs H1 μ1 x1 r1 q1 => ?_
  split at hm
  · split at hm
    · rename_i i j hj
      obtain ⟨z1, z2⟩ := Mo.pure_some hm
      subst z1 z2
      cases q1 with
      | cons h1 h2 =>
        cases h1
        cases h2 with
        | cons h1 h2 =>
          cases h1
          cases h2
          exact ⟨i, j, rfl, hj, q _ H1 μ1 [] [] x1 r1 .nil wk_range⟩
    · cases hm
  · cases hm
/-- pairs of a place and an item -/
def enumD : Nat → List D → List D
  | _, [] => []
  | i, d :: r => .tup [.int (i : Int), d] :: enumD (i + 1) r
theorem enumD_get : ∀ {ds : List D} {n i : Nat}, (enumD n ds)[i]? = (ds[i]?).map fun d => .tup [.int ((n + i : Nat) : Int), d]
  | [], n, i => by simp [enumD]
  | d :: r, n, 0 => by simp [enumD]
  | d :: r, n, i + 1 => by
    simp only [enumD, List.getElem?_cons_succ]
    rw [enumD_get]
    congr 1
    funext x
    rw [show n + 1 + i = n + (i + 1) by omega]
theorem enumD_len : ∀ {ds : List D} {n : Nat}, (enumD n ds).length = ds.length
  | [], _ => rfl
  | d :: r, n => by rw [enumD, List.length_cons, List.length_cons, enumD_len]
def itemsET (m : Ev → Mo D) : Ev → Mo (List D) := fun ρ => (m ρ).bind fun d => match d with
  | .tup ds => Mo.pure (enumD 0 ds)
  | _ => Mo.fail
def itemsEL (m : Ev → Mo D) : Ev → Mo (List D) := fun ρ => (m ρ).bind fun d => match d with
  | .lst ds => Mo.pure (enumD 0 ds)
  | _ => Mo.fail
theorem iv_enumT {elts : List Expr} {kk : Nat} {tpos : Pos} (hg : Gl X "enumerate") (hm : X.mg "enumerate" = none) (ha : EV g X e m) (hs : starEach [e] X.env = [(false, eval e X.env)] := by rfl) : IV g X (.Tuple elts kk tpos) (.Call (.Name "enumerate" p) [e] [] pos) (itemsET m) := by
  obtain ⟨t, p0, s⟩ := ha.ex
  refine ⟨_, pi_enumT hg hm (pa_cons p0 pa_nil (by rw [hs]; rfl)) hs, fun av μ σ H R ρ st items st' rl er hm q => ?_⟩
  obtain ⟨d, st1, e1, hm⟩ := Mo.bind_some hm
  refine s av μ σ H _ ρ st d st1 rl er e1 fun v H1 μ1 x1 r1 q1 => ?_
  cases q1 with
  | @tup a xs ds hq l =>
    obtain ⟨z1, z2⟩ := Mo.pure_some hm
    subst z1 z2
    refine ⟨a, xs, rfl, hq, q _ H1 μ1 xs ds x1 r1 l ⟨fun i H' hi k => ?_, fun H' k => ⟨xs, sqT_keep hq k, by rw [l.length, enumD_len]; exact Nat.le_refl _⟩, fun av' μ' i H' H2 y d k hy hd hl => ?_⟩⟩
    · rw [enumD_len, ← l.length] at hi
      exact ⟨xs, xs[i], sqT_keep hq k, by simp [hi]⟩
    · obtain ⟨T, y', e2, nT, e3, hy⟩ := hy
      subst e2 e3
      rw [enumD_get] at hd
      cases hx : ds[i]? with
      | none => rw [hx] at hd; cases hd
      | some d' =>
        rw [hx] at hd
        cases hd
        obtain ⟨v', h1, h2⟩ := RpL.get hl hx
        have h3 := hy xs (sqT_keep hq k)
        rw [h1] at h3
        cases h3
        rw [Nat.zero_add]
        exact ⟨.inr ⟨T, _, nT, rfl⟩, .tup (SqT.of upd_same) (.cons (.int _) (.cons (Rp.mono (Ext.new nT) h2) .nil))⟩
  | _ => cases hm
theorem iv_enumL {elts : List Expr} {kk : Nat} {tpos : Pos} (hg : Gl X "enumerate") (hm : X.mg "enumerate" = none) (ha : EV g X e m) (hs : starEach [e] X.env = [(false, eval e X.env)] := by rfl) : IV g X (.Tuple elts kk tpos) (.Call (.Name "enumerate" p) [e] [] pos) (itemsEL m) := by
  obtain ⟨t, p0, s⟩ := ha.ex
  refine ⟨_, pi_enum hg hm (pa_cons p0 pa_nil (by rw [hs]; rfl)) hs, fun av μ σ H R ρ st items st' rl er hm q => ?_⟩
  obtain ⟨d, st1, e1, hm⟩ := Mo.bind_some hm
  refine s av μ σ H _ ρ st d st1 rl er e1 fun v H1 μ1 x1 r1 q1 => ?_
  cases q1 with
  | @lst a xs ds hq n1 n2 l =>
    obtain ⟨z1, z2⟩ := Mo.pure_some hm
    subst z1 z2
    have hk : ∀ H', (∀ b o, H1 b = some o → (b ∈ μ1 → Imm o) → (∀ ps, o ≠ .tbl ps) → H' b = some o) → SqL X.K H' a xs := fun H' k => sqL_keep (SqL.of hq) (fun _ => n2) k
    refine ⟨a, xs, rfl, SqL.of hq, q _ H1 μ1 xs ds x1 r1 l ⟨fun i H' hi k => ?_, fun H' k => ⟨xs, hk H' k, by rw [l.length, enumD_len]; exact Nat.le_refl _⟩, fun av' μ' i H' H2 y d k hy hd hl => ?_⟩⟩
    · rw [enumD_len, ← l.length] at hi
      exact ⟨xs, xs[i], hk H' k, by simp [hi]⟩
    · obtain ⟨T, y', e2, nT, e3, hy⟩ := hy
      subst e2 e3
      rw [enumD_get] at hd
      cases hx : ds[i]? with
      | none => rw [hx] at hd; cases hd
      | some d' =>
        rw [hx] at hd
        cases hd
        obtain ⟨v', h1, h2⟩ := RpL.get hl hx
        have h3 := hy xs (hk _ k)
        rw [h1] at h3
        cases h3
        rw [Nat.zero_add]
        exact ⟨.inr ⟨T, _, nT, rfl⟩, .tup (SqT.of upd_same) (.cons (.int _) (.cons (Rp.mono (Ext.new nT) h2) .nil))⟩
  | _ => cases hm
end

/-! ### for -/
def forM (gm : Ev → D → Mo Ev) (mb : Ev → Mo Out) : List D → Ev → Mo Out
  | [], ρ => Mo.pure (.nx ρ)
  | d :: r, ρ => (gm ρ d).bind fun ρ1 => (mb ρ1).bind fun o => match o with
    | .nx ρ2 => forM gm mb r ρ2
    | .ct ρ2 => forM gm mb r ρ2
    | .bk ρ2 => Mo.pure (.nx ρ2)
    | .rt d => Mo.pure (.rt d)
def yFor (mi : Ev → Mo (List D)) (gm : Ev → D → Mo Ev) (mb : Ev → Mo Out) : Ev → Mo Out := fun ρ => (mi ρ).bind fun items => forM gm mb items ρ
theorem drop_cons {α : Type} {l : List α} {i : Nat} (h : i < l.length) : l.drop i = l[i] :: l.drop (i + 1) := List.drop_eq_getElem_cons h
section
variable {g : G} {X : Cx} {tg iter : Expr} {pos : Pos}
theorem yld_step {K : PySem.W.Frag} {av μ μ1 : List Addr} {st : List Ob} {H H1 H2 : Hp} {J : It} {xs : List V} {src items : List D} {i : Nat} {x : V} {d : D} (w : Wk K g J μ H xs src items) (x1 : Ext μ μ1 H H1) (r : Rel K g av μ1 st H1) (l : RpL K g.ca av μ1 H1 xs src)
    (hy : J.yld i H1 x H2) (hd : items[i]? = some d) : Ext μ1 μ1 H1 H2 ∧ Rel K g av μ1 st H2 ∧ Rp K g.ca av μ1 H2 x d := by
  obtain ⟨h1, h2⟩ := w.yld av μ1 i H1 H2 x d x1.keep hy hd l
  rcases h1 with e | ⟨T, zs, nT, e⟩
  · subst e
    exact ⟨Ext.refl _ _, r, h2⟩
  · subst e
    exact ⟨Ext.new nT, r.new nT, h2⟩
theorem sv_for {body : List Stmt} {mi : Ev → Mo (List D)} {js : List Nat} {gm : Ev → D → Mo Ev} {mb : Ev → Mo Out} (hp : PassesOwn (model X.prog X.w) X.A X.env X.xe) (hc : X.calm = true) (hi : IV g X tg iter mi) (hg : GV g X tg js gm) (hb : BV g X body mb)
    (hs : ∀ x, foldedSetIterable iter X.env x = pure x := by intro _; rfl) : SV g X (.For tg iter body [] pos) (yFor mi gm mb) := by
  obtain ⟨ti, pi, si⟩ := hi.ex
  obtain ⟨tgt, pg, sg⟩ := hg.ex
  obtain ⟨tb, pb, sb⟩ := hb.ex
  refine ⟨_, ps_for hp hc pi pg pb hs, fun av μ σ H E ρ st o st' rl er hm q => ?_⟩
  obtain ⟨items, st1, e1, hm⟩ := Mo.bind_some hm
  refine si av μ σ H _ ρ st items st1 rl er e1 fun J H1 μ1 xs src x1 r1 l1 w => ?_
  refine ⟨fun i m σ2 H2 => m = items.length - i ∧ i ≤ items.length ∧ ∃ μ2 st2 ρ2, Ext μ1 μ2 H1 H2 ∧ Rel X.K g av μ2 st2 H2 ∧ EnvR X.K g av μ2 H2 σ2 ρ2 ∧ RpL X.K g.ca av μ2 H2 xs src ∧ forM gm mb (items.drop i) ρ2 st2 = some (o, st'),
    ⟨_, rfl, Nat.zero_le _, μ1, st1, ρ, Ext.refl _ _, r1, er.mono x1, l1, by rw [List.drop_zero]; exact hm⟩, ?_⟩
  rintro i m σ2 H2 ⟨rfl, hil, μ2, st2, ρ2, x2, r2, er2, l2, hm2⟩
  by_cases hlt : i < items.length
  · rw [drop_cons hlt] at hm2
    obtain ⟨ρ3, st3, e3, hm2⟩ := Mo.bind_some hm2
    obtain ⟨o4, st4, e4, hm2⟩ := Mo.bind_some hm2
    refine .inr ⟨w.go i H2 hlt x2.keep, fun σ' H' => ∃ μ' st'' ρ', Ext μ1 μ' H1 H' ∧ Rel X.K g av μ' st'' H' ∧ EnvR X.K g av μ' H' σ' ρ' ∧ RpL X.K g.ca av μ' H' xs src ∧ forM gm mb (items.drop (i + 1)) ρ' st'' = some (o, st'), fun σ' H' ⟨μ', st'', ρ', a1, a2, a3, a4, a5⟩ => ⟨_, by omega, rfl, hlt, μ', st'', ρ', a1, a2, a3, a4, a5⟩, fun x H3 hy => ?_⟩
    obtain ⟨x3, r3, p3⟩ := yld_step w x2 r2 l2 hy (List.getElem?_eq_getElem hlt)
    refine sg av μ2 σ2 H3 _ ρ2 st2 x _ ρ3 st3 r3 (er2.mono x3) p3 e3 fun σ4 H4 μ4 x4 r4 er4 _ => ?_
    refine sb av μ4 σ4 H4 _ ρ3 st3 o4 st4 r4 er4 e4 ?_
    have x04 : Ext μ1 μ4 H1 H4 := (x2.trans x3).trans x4
    have l4 : RpL X.K g.ca av μ4 H4 xs src := RpL.mono x4 (RpL.mono x3 l2)
    cases o4 with
    | nx ρ5 => exact fun σ5 H5 μ5 x5 r5 er5 => ⟨μ5, st4, ρ5, x04.trans x5, r5, er5, RpL.mono x5 l4, hm2⟩
    | ct ρ5 => exact fun σ5 H5 μ5 x5 r5 er5 => ⟨μ5, st4, ρ5, x04.trans x5, r5, er5, RpL.mono x5 l4, hm2⟩
    | bk ρ5 =>
      obtain ⟨z1, z2⟩ := Mo.pure_some hm2
      subst z1 z2
      exact fun σ5 H5 μ5 x5 r5 er5 => q σ5 H5 μ5 ((x1.trans x04).trans x5) r5 er5
    | rt d =>
      obtain ⟨z1, z2⟩ := Mo.pure_some hm2
      subst z1 z2
      exact fun v H5 μ5 x5 r5 p5 => q v H5 μ5 ((x1.trans x04).trans x5) r5 p5
  · have e : i = items.length := by omega
    subst e
    rw [List.drop_length] at hm2
    obtain ⟨z1, z2⟩ := Mo.pure_some hm2
    subst z1 z2
    exact .inl ⟨w.stop H2 x2.keep, q σ2 H2 μ2 (x1.trans x2) r2 er2⟩
end
/-! ### while -/
def whileM (c : Ev → Mo Bool) (mb : Ev → Mo Out) : Nat → Ev → Mo Out
  | 0, _ => Mo.fail
  | n + 1, ρ => (c ρ).bind fun b => if b = true then (mb ρ).bind fun o => match o with
    | .nx ρ2 => whileM c mb n ρ2
    | .ct ρ2 => whileM c mb n ρ2
    | .bk ρ2 => Mo.pure (.nx ρ2)
    | .rt d => Mo.pure (.rt d)
    else Mo.pure (.nx ρ)
def yWhile (n : Nat) (c : Ev → Mo Bool) (mb : Ev → Mo Out) : Ev → Mo Out := fun ρ => whileM c mb n ρ
theorem sv_while {g : G} {X : Cx} {ce : Expr} {pos : Pos} {body : List Stmt} {c : Ev → Mo Bool} {mb : Ev → Mo Out} (n : Nat) (hp : PassesOwn (model X.prog X.w) X.A X.env X.xe) (hc : TV g X ce c) (hb : BV g X body mb) : SV g X (.While ce body [] pos) (yWhile n c mb) := by
  obtain ⟨tc, pc, sc⟩ := hc.ex
  obtain ⟨tb, pb, sb⟩ := hb.ex
  refine ⟨_, ps_while hp pc pb, fun av μ σ H E ρ st o st' rl er hm q => ?_⟩
  refine ⟨fun k σ2 H2 => ∃ μ2 st2 ρ2, Ext μ μ2 H H2 ∧ Rel X.K g av μ2 st2 H2 ∧ EnvR X.K g av μ2 H2 σ2 ρ2 ∧ whileM c mb k ρ2 st2 = some (o, st'), ⟨n, μ, st, ρ, Ext.refl _ _, rl, er, hm⟩, ?_⟩
  rintro k σ2 H2 ⟨μ2, st2, ρ2, x2, r2, er2, hm2⟩
  cases k with
  | zero => cases hm2
  | succ k =>
    obtain ⟨b, st3, e3, hm2⟩ := Mo.bind_some hm2
    refine sc av μ2 σ2 H2 _ ρ2 st2 b st3 r2 er2 e3 fun H3 μ3 x3 r3 => ?_
    cases b with
    | false =>
      obtain ⟨z1, z2⟩ := Mo.pure_some hm2
      subst z1 z2
      exact q σ2 H3 μ3 (x2.trans x3) r3 (er2.mono x3)
    | true =>
      rw [if_pos rfl] at hm2
      obtain ⟨o4, st4, e4, hm2⟩ := Mo.bind_some hm2
      refine ⟨fun σ' H' => ∃ μ' st'' ρ', Ext μ μ' H H' ∧ Rel X.K g av μ' st'' H' ∧ EnvR X.K g av μ' H' σ' ρ' ∧ whileM c mb k ρ' st'' = some (o, st'), fun σ' H' h => ⟨k, Nat.lt_succ_self k, h⟩, ?_⟩
      refine sb av μ3 σ2 H3 _ ρ2 st3 o4 st4 r3 (er2.mono x3) e4 ?_
      have x03 := x2.trans x3
      cases o4 with
      | nx ρ5 => exact fun σ5 H5 μ5 x5 r5 er5 => ⟨μ5, st4, ρ5, x03.trans x5, r5, er5, hm2⟩
      | ct ρ5 => exact fun σ5 H5 μ5 x5 r5 er5 => ⟨μ5, st4, ρ5, x03.trans x5, r5, er5, hm2⟩
      | bk ρ5 =>
        obtain ⟨z1, z2⟩ := Mo.pure_some hm2
        subst z1 z2
        exact fun σ5 H5 μ5 x5 r5 er5 => q σ5 H5 μ5 (x03.trans x5) r5 er5
      | rt d =>
        obtain ⟨z1, z2⟩ := Mo.pure_some hm2
        subst z1 z2
        exact fun v H5 μ5 x5 r5 p5 => q v H5 μ5 (x03.trans x5) r5 p5
/-! ### comprehensions -/
def wipeE (ρ : Ev) : List Nat → Ev
  | [] => ρ
  | v :: vs => (wipeE ρ vs).set v none
theorem EnvR.wipe {K : PySem.W.Frag} {g : G} {av μ : List Addr} {H : Hp} {σ : L2.St} {ρ : Ev} (r : EnvR K g av μ H σ ρ) : ∀ vs : List Nat, EnvR K g av μ H (wipe σ vs) (wipeE ρ vs)
  | [] => r
  | v :: vs => by
    have ih := EnvR.wipe r vs
    unfold L2.wipe wipeE
    refine ⟨by rw [List.length_set, List.length_set, ih.len], fun i x h => ?_⟩
    by_cases e : v = i
    · subst e
      by_cases hl : v < (wipeE ρ vs).length
      · rw [List.getElem?_set_self hl] at h
        cases h
      · rw [List.getElem?_eq_none (by rw [List.length_set]; omega)] at h
        cases h
    · rw [List.getElem?_set_ne e] at h ⊢
      exact ih.at_ i x h
def compM (gm : Ev → D → Mo Ev) (mt : Ev → Mo Bool) (me : Ev → Mo D) : List D → Ev → Mo (List D)
  | [], _ => Mo.pure []
  | d :: r, ρ => (gm ρ d).bind fun ρ1 => (mt ρ1).bind fun b => if b = true then (me ρ1).bind fun y => (compM gm mt me r ρ).bind fun ys => Mo.pure (y :: ys) else compM gm mt me r ρ
def xComp (mi : Ev → Mo (List D)) (vs : List Nat) (gm : Ev → D → Mo Ev) (mt : Ev → Mo Bool) (me : Ev → Mo D) : Ev → Mo D := fun ρ => (mi ρ).bind fun items => if items.length ≤ 1000000 then (compM gm mt me items (wipeE ρ vs)).bind fun ds => Mo.pure (.lst ds) else Mo.fail
/-- the tests of a clause -/
structure TsV (g : G) (X : Cx) (ifs : List Expr) (m : Ev → Mo Bool) : Prop where
  ex : ∃ t, PTs X ifs t ∧ SemT X.K g t m
def tYesM : Ev → Mo Bool := fun _ => Mo.pure true
theorem tsv_nil {g : G} {X : Cx} : TsV g X [] tYesM := ⟨_, pts_nil, fun av μ σ H Q ρ st b st' rl er hm p => by
  obtain ⟨z1, z2⟩ := Mo.pure_some hm
  subst z1 z2
  exact p H μ (Ext.refl _ _) rl⟩
theorem tsv_one {g : G} {X : Cx} {c : Expr} {m : Ev → Mo Bool} (h : TV g X c m) : TsV g X [c] m := let ⟨t, p, s⟩ := h.ex; ⟨t, pts_one p, s⟩
section
variable {g : G} {X : Cx} {elt tg iter : Expr} {ifs : List Expr} {scope : Scope} {own : List (Str × Nat)} {pos : Pos} {mi : Ev → Mo (List D)} {js : List Nat} {gm : Ev → D → Mo Ev} {mt : Ev → Mo Bool} {me : Ev → Mo D}
/-- the parts of a block, whatever the block's context -/
structure BlkV (g : G) (X : Cx) (scope : Scope) (tg : Expr) (ifs : List Expr) (elt : Expr) (js : List Nat) (gm : Ev → D → Mo Ev) (mt : Ev → Mo Bool) (me : Ev → Mo D) : Prop where
  tg : ∃ t, (∀ (s : Shared) (H : Hp) (C : Addr) (cl : List (Str × Addr)) (fp : List Addr), PG (X.blk s H scope (compEnvC scope cl C X.env) fp) tg t) ∧ SemG X.K g t js gm
  ts : ∃ t, (∀ (s : Shared) (H : Hp) (C : Addr) (cl : List (Str × Addr)) (fp : List Addr), PTs (X.blk s H scope (compEnvC scope cl C X.env) fp) ifs t) ∧ SemT X.K g t mt
  el : ∃ t, (∀ (s : Shared) (H : Hp) (C : Addr) (cl : List (Str × Addr)) (fp : List Addr), PE (X.blk s H scope (compEnvC scope cl C X.env) fp) elt t) ∧ SemE X.K g t me
def TEof (K : PySem.W.Frag) (g : G) (m : Ev → Mo D) : TE := fun σ H Q => ∃ av μ ρ st d st', Rel K g av μ st H ∧ EnvR K g av μ H σ ρ ∧ m ρ st = some (d, st') ∧ Post K g av μ H d st' Q
theorem semOf {K : PySem.W.Frag} {m : Ev → Mo D} : SemE K g (TEof K g m) m := fun av μ σ H Q ρ st d st' r er hm p => ⟨av, μ, ρ, st, d, st', r, er, hm, p⟩
theorem EV.pe {X : Cx} {e : Expr} {m : Ev → Mo D} (h : EV g X e m) : PE X e (TEof X.K g m) := by
  obtain ⟨t, p, s⟩ := h.ex
  exact ⟨fun pins sh σ H Q I ⟨av, μ, ρ, st, d, st', r, er, hm, q⟩ => p.run pins sh σ H Q I (s av μ σ H Q ρ st d st' r er hm q)⟩
def TTof (K : PySem.W.Frag) (g : G) (m : Ev → Mo Bool) : TT := fun σ H Q => ∃ av μ ρ st d st', Rel K g av μ st H ∧ EnvR K g av μ H σ ρ ∧ m ρ st = some (d, st') ∧ PostB K g av μ H d st' Q
theorem semOfT {K : PySem.W.Frag} {m : Ev → Mo Bool} : SemT K g (TTof K g m) m := fun av μ σ H Q ρ st d st' r er hm p => ⟨av, μ, ρ, st, d, st', r, er, hm, p⟩
theorem TsV.pts {X : Cx} {ifs : List Expr} {m : Ev → Mo Bool} (h : TsV g X ifs m) : PTs X ifs (TTof X.K g m) := by
  obtain ⟨t, p, s⟩ := h.ex
  exact ⟨fun pins sh σ H Q I ⟨av, μ, ρ, st, d, st', r, er, hm, q⟩ => p.run pins sh σ H Q I (s av μ σ H Q ρ st d st' r er hm q)⟩
def TGof (K : PySem.W.Frag) (g : G) (js : List Nat) (gm : Ev → D → Mo Ev) : TG := fun v σ H Q => ∃ av μ ρ st d ρ' st', Rel K g av μ st H ∧ EnvR K g av μ H σ ρ ∧ Rp K g.ca av μ H v d ∧ gm ρ d st = some (ρ', st') ∧
  (∀ σ' H' μ', Ext μ μ' H H' → Rel K g av μ' st' H' → EnvR K g av μ' H' σ' ρ' → (∀ vs : List Nat, (∀ j ∈ js, j ∈ vs) → wipe σ' vs = wipe σ vs) → Q σ' H')
theorem semOfG {K : PySem.W.Frag} {js : List Nat} {gm : Ev → D → Mo Ev} : SemG K g (TGof K g js gm) js gm := fun av μ σ H Q ρ st v d ρ' st' r er rp hm p => ⟨av, μ, ρ, st, d, ρ', st', r, er, rp, hm, p⟩
theorem GV.pg {X : Cx} {e : Expr} {js : List Nat} {gm : Ev → D → Mo Ev} (h : GV g X e js gm) : PG X e (TGof X.K g js gm) := by
  obtain ⟨t, p, s⟩ := h.ex
  exact ⟨fun pins sh σ H v u Q I ru ⟨av, μ, ρ, st, d, ρ', st', r, er, rp, hm, q⟩ => p.run pins sh σ H v u Q I ru (s av μ σ H Q ρ st v d ρ' st' r er rp hm q)⟩
theorem BlkV.of (h1 : ∀ (s : Shared) (H : Hp) (C : Addr) (cl : List (Str × Addr)) (fp : List Addr), GV g (X.blk s H scope (compEnvC scope cl C X.env) fp) tg js gm)
    (h2 : ∀ (s : Shared) (H : Hp) (C : Addr) (cl : List (Str × Addr)) (fp : List Addr), TsV g (X.blk s H scope (compEnvC scope cl C X.env) fp) ifs mt)
    (h3 : ∀ (s : Shared) (H : Hp) (C : Addr) (cl : List (Str × Addr)) (fp : List Addr), EV g (X.blk s H scope (compEnvC scope cl C X.env) fp) elt me) : BlkV g X scope tg ifs elt js gm mt me :=
  ⟨⟨_, fun s H C cl fp => (h1 s H C cl fp).pg, semOfG⟩, ⟨_, fun s H C cl fp => (h2 s H C cl fp).pts, semOfT⟩, ⟨_, fun s H C cl fp => (h3 s H C cl fp).pe, semOf⟩⟩
theorem sem_lc {ti : TI} {tgt : TG} {tt : TT} {te : TE} {vs : List Nat} (si : SemI X.K g ti mi) (sg : SemG X.K g tgt js gm) (stt : SemT X.K g tt mt) (se : SemE X.K g te me) (hj : ∀ j ∈ js, j ∈ vs) : SemE X.K g (tLc ti tgt tt te vs) (xComp mi vs gm mt me) := by
  intro av μ σ H Q ρ st d st' rl er hm q
  obtain ⟨items, st1, e1, hm⟩ := Mo.bind_some hm
  split at hm
  · rename_i hlen
    obtain ⟨ds, st2, e2, hm⟩ := Mo.bind_some hm
    obtain ⟨z1, z2⟩ := Mo.pure_some hm
    subst z1 z2
    refine si av μ σ H _ ρ st items st1 rl er e1 fun J H1 μ1 xs src x1 r1 l1 w => ?_
    intro D0 nD
    refine ⟨fun i m H2 => m = items.length - i ∧ i ≤ items.length ∧ ∃ μ2 st2 acc ys, Ext μ1 μ2 H1 H2 ∧ Rel X.K g (D0 :: av) μ2 st2 H2 ∧ EnvR X.K g (D0 :: av) μ2 H2 (wipe σ vs) (wipeE ρ vs) ∧ RpL X.K g.ca (D0 :: av) μ2 H2 xs src ∧
      H2 D0 = some (.lst acc) ∧ acc.length ≤ i ∧ RpL X.K g.ca (D0 :: av) μ2 H2 acc ys ∧ (compM gm mt me (items.drop i) (wipeE ρ vs) st2).map (fun p => (ys ++ p.1, p.2)) = some (ds, st'), ⟨_, rfl, Nat.zero_le _, μ1, st1, [], [], Ext.new nD, r1.protect nD, ((er.mono x1).protect nD).wipe vs, RpL.mono (Ext.new nD) (RpL.avoid nD l1), upd_same, Nat.le_refl _, .nil, by rw [List.drop_zero, e2]; rfl⟩, ?_⟩
    rintro i m H2 ⟨rfl, hil, μ2, st2, acc, ys, x2, r2, er2, l2, hD, hacc, lacc, hm2⟩
    by_cases hlt : i < items.length
    · rw [drop_cons hlt] at hm2
      refine .inr ⟨w.go i H2 hlt x2.keep, fun H' => i + 1 ≤ items.length ∧ ∃ μ' st'' acc ys, Ext μ1 μ' H1 H' ∧ Rel X.K g (D0 :: av) μ' st'' H' ∧ EnvR X.K g (D0 :: av) μ' H' (wipe σ vs) (wipeE ρ vs) ∧ RpL X.K g.ca (D0 :: av) μ' H' xs src ∧
        H' D0 = some (.lst acc) ∧ acc.length ≤ i + 1 ∧ RpL X.K g.ca (D0 :: av) μ' H' acc ys ∧ (compM gm mt me (items.drop (i + 1)) (wipeE ρ vs) st'').map (fun p => (ys ++ p.1, p.2)) = some (ds, st'), fun H' h => ⟨_, by omega, rfl, h⟩, fun x H3 hy => ?_⟩
      obtain ⟨x3, r3, p3⟩ := yld_step w x2 r2 l2 hy (List.getElem?_eq_getElem hlt)
      cases hc : compM gm mt me (items[i] :: items.drop (i + 1)) (wipeE ρ vs) st2 with
      | none => rw [hc] at hm2; cases hm2
      | some pr =>
        obtain ⟨zs, stz⟩ := pr
        rw [hc] at hm2
        obtain ⟨ρ4, st4, e4, hc⟩ := Mo.bind_some hc
        obtain ⟨b, st5, e5, hc⟩ := Mo.bind_some hc
        refine sg (D0 :: av) μ2 (wipe σ vs) H3 _ (wipeE ρ vs) st2 x _ ρ4 st4 r3 (er2.mono x3) p3 e4 fun σ4 H4 μ4 x4 r4 er4 wp => ⟨(wp vs hj).trans wipe_wipe, ?_⟩
        refine stt (D0 :: av) μ4 σ4 H4 _ ρ4 st4 b st5 r4 er4 e5 fun H5 μ5 x5 r5 => ?_
        have x25 : Ext μ2 μ5 H2 H5 := (x3.trans x4).trans x5
        have x05 : Ext μ1 μ5 H1 H5 := x2.trans x25
        have keepD : ∀ {μ' : List Addr} {H' : Hp}, Ext μ2 μ' H2 H' → H' D0 = some (.lst acc) := fun x => x.keep D0 _ hD (fun z => absurd z (r2.avo D0 (by simp)).2) fun ps z => by cases z
        cases b with
        | true =>
          rw [if_pos rfl] at hc
          obtain ⟨y, st6, e6, hc⟩ := Mo.bind_some hc
          obtain ⟨ys', st7, e7, hc⟩ := Mo.bind_some hc
          obtain ⟨z1, z2⟩ := Mo.pure_some hc
          subst z1 z2
          refine se (D0 :: av) μ5 σ4 H5 _ ρ4 st5 y st6 r5 (er4.mono x5) e6 fun v H6 μ6 x6 r6 q6 => ?_
          have x26 := x25.trans x6
          have hD6 := keepD x26
          have m0 : D0 ∈ D0 :: av := by simp
          refine ⟨acc, hD6, Nat.lt_of_le_of_lt (Nat.le_trans hacc (Nat.le_trans (Nat.le_of_lt hlt) hlen)) (by rw [sizeLine_eq]; decide), hlt, μ6, st6, acc ++ [v], ys ++ [y], (x05.trans x6).over nD, r6.over m0 hD6 trivial, (er2.mono x26).over m0 hD6 trivial, RpL.over m0 hD6 trivial (RpL.mono x26 l2), upd_same, ?_, ?_, ?_⟩
          · rw [List.length_append]; exact Nat.succ_le_succ hacc
          · exact RpL.over m0 hD6 trivial (RpL.append (RpL.mono x26 lacc) (.cons q6 .nil))
          · rw [e7]
            rw [← hm2]
            simp
        | false =>
          refine ⟨hlt, μ5, st5, acc, ys, x05, r5, er2.mono x25, RpL.mono x25 l2, keepD x25, Nat.le_succ_of_le hacc, RpL.mono x25 lacc, ?_⟩
          have hc' : compM gm mt me (items.drop (i + 1)) (wipeE ρ vs) st5 = some (zs, stz) := hc
          rw [hc']
          exact hm2
    · have e : i = items.length := by omega
      subst e
      rw [List.drop_length] at hm2
      have hm3 : some (ys ++ [], st2) = some (ds, st') := hm2
      rw [List.append_nil] at hm3
      cases hm3
      have fw : ∀ a ∈ av, a ∈ D0 :: av := fun a h => List.mem_cons_of_mem _ h
      exact .inl ⟨w.stop H2 x2.keep, q _ H2 μ2 (x1.trans x2) (r2.fewer fw) (.lst hD (r1.fresh nD).1 (r2.avo D0 (by simp)).2 (RpL.fewer fw lacc))⟩
  · cases hm
theorem ev_lc (hc : X.calm = true) (hN : X.N.Nodup) (hi : IV g X tg iter mi) (ok : BlkOk X.N X.env.scope scope own) (B : BlkV g X scope tg ifs elt js gm mt me) (hj : ∀ j ∈ js, j ∈ own.map (·.2)) (hs : ∀ x, foldedSetIterable iter X.env x = pure x := by intro _; rfl) :
    EV g X (.ListComp elt [⟨tg, iter, ifs, 0⟩] scope pos) (xComp mi (own.map (·.2)) gm mt me) := by
  obtain ⟨ti, pi, si⟩ := hi.ex
  obtain ⟨tgt, pg, sg⟩ := B.tg
  obtain ⟨tt, pt, stt⟩ := B.ts
  obtain ⟨te, pe, se⟩ := B.el
  exact ⟨_, pe_lc hc hN pi ok pg pt pe hs, sem_lc si sg stt se hj⟩
theorem sv_setLc {i : Nat} {y : Str} {py spos : Pos} (hc : X.calm = true) (hN : X.N.Nodup) (hy : X.N[i]? = some y) (hyl : X.env.scope.names.lookup y = some .local)
    (hsw : swapsWith (.ListComp elt [⟨tg, iter, ifs, 0⟩] scope pos) (some (.Name y py)) spos.line X.env = pure true) (hi : IV g X tg iter mi) (ok : BlkOk X.N X.env.scope scope own) (B : BlkV g X scope tg ifs elt js gm mt me) (hj : ∀ j ∈ js, j ∈ own.map (·.2)) (hs : ∀ x, foldedSetIterable iter X.env x = pure x := by intro _; rfl) :
    SV g X (.Assign [.Name y py] (.ListComp elt [⟨tg, iter, ifs, 0⟩] scope pos) spos) (ySet i (xComp mi (own.map (·.2)) gm mt me)) := by
  obtain ⟨ti, pi, si⟩ := hi.ex
  obtain ⟨tgt, pg, sg⟩ := B.tg
  obtain ⟨tt, pt, stt⟩ := B.ts
  obtain ⟨te, pe, se⟩ := B.el
  refine ⟨_, ps_setLc hc hN hy hyl hsw pi ok pg pt pe hs, fun av μ σ H E ρ st o st' rl er hm p => ?_⟩
  obtain ⟨d, st1, e1, hm⟩ := Mo.bind_some hm
  obtain ⟨z1, z2⟩ := Mo.pure_some hm
  subst z1 z2
  exact sem_lc si sg stt se hj av μ σ H _ ρ st d _ rl er e1 fun v H' μ' x r q => p _ H' μ' x r ((er.mono x).set q i)
end
end MM
set_option autoImplicit false
set_option maxRecDepth 100000
set_option maxHeartbeats 4000000
/-! M5: operators by data: +, -, *, //, %, **, bits; ==, <, in, is. -/
namespace MM
open PySem PySem.Spec PyProof.Rows L2 LamX NdefX
section
variable {g : G} {X : Cx}
theorem lift2_some {f : D → D → Option D} {x y d : D} {st st' : List Ob} (h : lift2 f x y st = some (d, st')) : f x y = some d ∧ st' = st := by
  unfold lift2 at h
  cases e : f x y with
  | none => rw [e] at h; cases h
  | some z => rw [e] at h; cases h; exact ⟨rfl, rfl⟩
theorem opd_lift {ff : Value → Value → Sem Value} {f : D → D → Option D} {r : R2} (o : OpR X ff r)
    (s : ∀ (av μ : List Addr) (H : Hp) (Q : VK) (st : List Ob) (x y : V) (dx dy d : D), Rel X.K g av μ st H → Rp X.K g.ca av μ H x dx → Rp X.K g.ca av μ H y dy → f dx dy = some d → Post X.K g av μ H d st Q → r x y H Q) : OpD g X ff (lift2 f) :=
  ⟨r, o, fun av μ H Q st x y dx dy d st' rl rx ry hm p => by
    obtain ⟨e1, e2⟩ := lift2_some hm
    subst e2
    exact s av μ H Q _ x y dx dy d rl rx ry e1 p⟩
def dI (C : Int → Int → Prop) [∀ i j, Decidable (C i j)] (f : Int → Int → Int) : D → D → Option D
  | .int i, .int j => if C i j then some (.int (f i j)) else none
  | _, _ => none
theorem opd_I {ff : Value → Value → Sem Value} {C C' : Int → Int → Prop} [∀ i j, Decidable (C i j)] {f : Int → Int → Int} (o : OpR X ff (rI C' fun i j => .int (f i j))) (hC : ∀ i j, C i j → C' i j) : OpD g X ff (lift2 (dI C f)) :=
  opd_lift o fun av μ H Q st x y dx dy d rl rx ry hm p => by
    unfold dI at hm
    split at hm
    · split at hm
      · rename_i hc
        cases hm
        cases rx
        cases ry
        exact ⟨_, _, rfl, rfl, hC _ _ hc, p.here rl (.int _)⟩
      · cases hm
    · cases hm
def dI0 (f : Int → Int → Int) : D → D → Option D
  | .int i, .int j => some (.int (f i j))
  | _, _ => none
theorem opd_I0 {ff : Value → Value → Sem Value} {f : Int → Int → Int} (o : OpR X ff (rI0 fun i j => .int (f i j))) : OpD g X ff (lift2 (dI0 f)) :=
  opd_lift o fun av μ H Q st x y dx dy d rl rx ry hm p => by
    unfold dI0 at hm
    split at hm
    · cases hm
      cases rx
      cases ry
      exact ⟨_, _, rfl, rfl, p.here rl (.int _)⟩
    · cases hm
def dIB (f : Int → Int → Bool) : D → D → Option D
  | .int i, .int j => some (.bl (f i j))
  | _, _ => none
theorem opd_IB {ff : Value → Value → Sem Value} {f : Int → Int → Bool} (o : OpR X ff (rI0 fun i j => .bl (f i j))) : OpD g X ff (lift2 (dIB f)) :=
  opd_lift o fun av μ H Q st x y dx dy d rl rx ry hm p => by
    unfold dIB at hm
    split at hm
    · cases hm
      cases rx
      cases ry
      exact ⟨_, _, rfl, rfl, p.here rl (.bl _)⟩
    · cases hm
abbrev mSub : D → D → Mo D := lift2 (dI0 fun i j => i - j)
def cMul (i j : Int) : Prop := (-(2 ^ 64) < i ∧ i < 2 ^ 64) ∨ (-(2 ^ 64) < j ∧ j < 2 ^ 64)
instance (i j : Int) : Decidable (cMul i j) := by unfold cMul; infer_instance
abbrev mMul : D → D → Mo D := lift2 (dI cMul fun i j => i * j)
def cDiv (_ j : Int) : Prop := 0 < j ∧ j < 1073741824
instance (i j : Int) : Decidable (cDiv i j) := by unfold cDiv; infer_instance
abbrev mDiv : D → D → Mo D := lift2 (dI cDiv fun i j => i / j)
abbrev mMod : D → D → Mo D := lift2 (dI (fun _ j => 0 < j) fun i j => i % j)
def cPow (i j : Int) : Prop := 0 ≤ j ∧ j ≤ 1000 ∧ i.natAbs < 1000000
instance (i j : Int) : Decidable (cPow i j) := by unfold cPow; infer_instance
abbrev mPow : D → D → Mo D := lift2 (dI cPow fun i j => i ^ j.toNat)
abbrev mShl : D → D → Mo D := lift2 (dI cPow fun i j => i * 2 ^ j.toNat)
abbrev mShr : D → D → Mo D := lift2 (dI (fun _ j => 0 ≤ j) fun i j => i / 2 ^ j.toNat)
abbrev mAndI : D → D → Mo D := lift2 (dI0 fun i j => Builtin.bitAnd i j)
abbrev mOrI : D → D → Mo D := lift2 (dI0 fun i j => Builtin.bitOr i j)
abbrev mXorI : D → D → Mo D := lift2 (dI0 fun i j => Builtin.bitXor i j)
theorem od_sub : OpD g X (binaryOp .Sub) mSub := opd_I0 op_sub
theorem od_mul : OpD g X (binaryOp .Mult) mMul := opd_I op_mul fun i j h => h
theorem od_div : OpD g X (binaryOp .FloorDiv) mDiv := opd_I op_fdiv fun i j h => h
theorem od_mod : OpD g X (binaryOp .Mod) mMod := opd_I op_mod fun i j h => h
theorem od_pow : OpD g X (binaryOp .Pow) mPow := opd_I op_pow fun i j h => ⟨h.1, by have := h.2.1; omega, by have := h.2.2; omega⟩
theorem od_shl : OpD g X (binaryOp .LShift) mShl := opd_I op_shl fun i j h => ⟨h.1, by have := h.2.1; omega, by have := h.2.2; omega⟩
theorem od_shr : OpD g X (binaryOp .RShift) mShr := opd_I op_shr fun i j h => h
theorem od_and : OpD g X (binaryOp .BitAnd) mAndI := opd_I0 op_and
theorem od_or : OpD g X (binaryOp .BitOr) mOrI := opd_I0 op_or
theorem od_xor : OpD g X (binaryOp .BitXor) mXorI := opd_I0 op_xor
/-! ### + -/
def dAdd : D → D → Option D
  | .int i, .int j => some (.int (i + j))
  | .str x, .str y => if x.length + y.length ≤ 1000000 then some (.str (x ++ y)) else none
  | .lst xs, .lst ys => if xs.length + ys.length ≤ 1000000 then some (.lst (xs ++ ys)) else none
  | .tup xs, .tup ys => if xs.length + ys.length ≤ 1000000 then some (.tup (xs ++ ys)) else none
  | _, _ => none
abbrev mAdd : D → D → Mo D := lift2 dAdd
theorem or_lift {f f1 f2 : D → D → Option D} (h : ∀ x y d, f x y = some d → f1 x y = some d ∨ f2 x y = some d) : ∀ x y st r, lift2 f x y st = some r → lift2 f1 x y st = some r ∨ lift2 f2 x y st = some r := fun x y st r e => by
  obtain ⟨d, st'⟩ := r
  obtain ⟨e1, e2⟩ := lift2_some e
  subst e2
  rcases h x y d e1 with z | z
  · exact .inl (by unfold lift2; rw [z]; rfl)
  · exact .inr (by unfold lift2; rw [z]; rfl)
def dAddS : D → D → Option D
  | .str x, .str y => if x.length + y.length ≤ 1000000 then some (.str (x ++ y)) else none
  | _, _ => none
def dAddL : D → D → Option D
  | .lst xs, .lst ys => if xs.length + ys.length ≤ 1000000 then some (.lst (xs ++ ys)) else none
  | _, _ => none
def dAddT : D → D → Option D
  | .tup xs, .tup ys => if xs.length + ys.length ≤ 1000000 then some (.tup (xs ++ ys)) else none
  | _, _ => none
def dAddLT : D → D → Option D
  | .lst xs, .lst ys => if xs.length + ys.length ≤ 1000000 then some (.lst (xs ++ ys)) else none
  | .tup xs, .tup ys => if xs.length + ys.length ≤ 1000000 then some (.tup (xs ++ ys)) else none
  | _, _ => none
def dAddSLT : D → D → Option D
  | .str x, .str y => if x.length + y.length ≤ 1000000 then some (.str (x ++ y)) else none
  | .lst xs, .lst ys => if xs.length + ys.length ≤ 1000000 then some (.lst (xs ++ ys)) else none
  | .tup xs, .tup ys => if xs.length + ys.length ≤ 1000000 then some (.tup (xs ++ ys)) else none
  | _, _ => none
theorem od_addS : OpD g X (binaryOp .Add) (lift2 dAddS) := opd_lift op_add_str fun av μ H Q st x y dx dy d rl rx ry hm p => by
  unfold dAddS at hm
  split at hm
  · split at hm
    · rename_i hl
      cases hm
      cases rx
      cases ry
      exact ⟨_, _, rfl, rfl, Nat.le_trans hl line_le, p.here rl (.str _)⟩
    · cases hm
  · cases hm
theorem od_addL : OpD g X (binaryOp .Add) (lift2 dAddL) := opd_lift op_cat fun av μ H Q st x y dx dy d rl rx ry hm p => by
  unfold dAddL at hm
  split at hm
  · split at hm
    · rename_i hl
      cases hm
      cases rx with
      | lst h1 n1 m1 l1 =>
        cases ry with
        | lst h2 n2 m2 l2 => exact ⟨_, _, _, _, rfl, rfl, h1, h2, by rw [l1.length, l2.length]; exact Nat.le_trans hl line_le, fun q hq => p.newO rl hq (rp_newL rl hq (RpL.append l1 l2))⟩
    · cases hm
  · cases hm
theorem od_addT : OpD g X (binaryOp .Add) (lift2 dAddT) := opd_lift op_catA fun av μ H Q st x y dx dy d rl rx ry hm p => by
  unfold dAddT at hm
  split at hm
  · split at hm
    · rename_i hl
      cases hm
      cases rx with
      | tup h1 l1 =>
        cases ry with
        | tup h2 l2 =>
          refine ⟨_, _, _, _, rfl, rfl, h1, h2, by rw [l1.length, l2.length]; exact Nat.le_trans hl line_le, fun e => ?_, fun e e' => ?_, fun e e' q hq => p.newO rl hq (rp_newT rl hq (RpL.append l1 l2))⟩
          · rw [l1.nil_iff.mp e] at p
            exact p.here rl (.tup h2 l2)
          · rw [l2.nil_iff.mp e', List.append_nil] at p
            exact p.here rl (.tup h1 l1)
    · cases hm
  · cases hm
theorem od_add : OpD g X (binaryOp .Add) mAdd :=
  .or (m2 := lift2 dAddSLT) (opd_I0 op_add) (.or (m2 := lift2 dAddLT) od_addS (.or od_addL od_addT (or_lift fun x y d h => by
      unfold dAddLT at h
      split at h
      · exact .inl h
      · exact .inr h
      · cases h)) (or_lift fun x y d h => by
      unfold dAddSLT at h
      split at h
      · exact .inl h
      · exact .inr h
      · exact .inr h
      · cases h)) (or_lift fun x y d h => by
      unfold dAdd at h
      split at h
      · exact .inl h
      · exact .inr h
      · exact .inr h
      · exact .inr h
      · cases h)
/-! ### data of the library's own kind -/
end
mutual
def toPy : D → PyData
  | .non => .none
  | .bl b => .bool b
  | .int i => .int i
  | .str x => .str x
  | .tup ds => .tuple (toPys ds)
  | .lst ds => .list (toPys ds)
  | .ro ds => .list (toPys ds)
  | .ins _ _ _ => .none
  | .dct _ _ => .none
  | .loc _ => .none
  | .ty _ => .none
  | .cls _ => .none
def toPys : List D → List PyData
  | [] => []
  | d :: ds => toPy d :: toPys ds
end
mutual
def pyOk : D → Bool
  | .non => true
  | .bl _ => true
  | .int _ => true
  | .str x => PyData.strOk x
  | .tup ds => pyOks ds
  | .lst ds => pyOks ds
  | .ro ds => pyOks ds
  | .ins _ _ _ => false
  | .dct _ _ => false
  | .loc _ => false
  | .ty _ => false
  | .cls _ => false
def pyOks : List D → Bool
  | [] => true
  | d :: ds => pyOk d && pyOks ds
end
theorem toPys_map : ∀ ds : List D, toPys ds = ds.map toPy
  | [] => rfl
  | d :: ds => by rw [toPys, toPys_map, List.map_cons]
theorem pyOks_all : ∀ ds : List D, pyOks ds = ds.all pyOk
  | [] => rfl
  | d :: ds => by rw [pyOks, pyOks_all, List.all_cons]
mutual
theorem lay_of : ∀ d : D, pyOk d = true → (toPy d).canLay0 = true
  | .non, _ => by simp [toPy, PyData.canLay0]
  | .bl b, _ => by simp [toPy, PyData.canLay0]
  | .int i, _ => by simp [toPy, PyData.canLay0]
  | .str x, h => by simpa [toPy, PyData.canLay0, pyOk] using h
  | .tup ds, h => by rw [toPy, PyData.canLay0]; exact lays_of ds (by simpa [pyOk] using h)
  | .lst ds, h => by rw [toPy, PyData.canLay0]; exact lays_of ds (by simpa [pyOk] using h)
  | .ro ds, h => by rw [toPy, PyData.canLay0]; exact lays_of ds (by simpa [pyOk] using h)
  | .ins _ _ _, h => by simp [pyOk] at h
  | .dct _ _, h => by simp [pyOk] at h
  | .loc _, h => by simp [pyOk] at h
  | .ty _, h => by simp [pyOk] at h
  | .cls _, h => by simp [pyOk] at h
theorem lays_of : ∀ ds : List D, pyOks ds = true → PyData.canLayAll0 (toPys ds) = true
  | [], _ => by simp [toPys, PyData.canLayAll0]
  | d :: ds, h => by
    rw [pyOks, Bool.and_eq_true] at h
    rw [toPys, PyData.canLayAll0, lay_of d h.1, lays_of ds h.2]
    rfl
end
section
variable {K : PySem.W.Frag} {ca : Str → Addr} {av μ : List Addr} {H : Hp}
mutual
theorem dp_of : ∀ {v : V} {d : D}, Rp K ca av μ H v d → pyOk d = true → Dp K H v (toPy d)
  | _, _, .non, _ => by rw [toPy]; exact .non
  | _, _, .bl b, _ => by rw [toPy]; exact .bl b
  | _, _, .int i, _ => by rw [toPy]; exact .int i
  | _, _, .str x, _ => by rw [toPy]; exact .str x
  | _, _, .tup h l, e => by rw [toPy]; exact .tup h (dps_of l (by simpa [pyOk] using e))
  | _, _, .lst h n1 n2 l, e => by rw [toPy]; exact .lst (SqL.of h) (dps_of l (by simpa [pyOk] using e))
  | _, _, .ro h l, e => by rw [toPy]; exact .lst (ro_sqL h) (dps_of l (by simpa [pyOk] using e))
  | _, _, .ins _ _ _ _, e => by simp [pyOk] at e
  | _, _, .dct _ _ _ _, e => by simp [pyOk] at e
  | _, _, .loc _, e => by simp [pyOk] at e
  | _, _, .ty _, e => by simp [pyOk] at e
  | _, _, .cls _, e => by simp [pyOk] at e
theorem dps_of : ∀ {vs : List V} {ds : List D}, RpL K ca av μ H vs ds → pyOks ds = true → DpAll K H vs (toPys ds)
  | _, _, .nil, _ => by rw [toPys]; exact .nil
  | _, _, .cons h t, e => by
    rw [pyOks, Bool.and_eq_true] at e
    rw [toPys]
    exact .cons (dp_of h e.1) (dps_of t e.2)
end
end
/-- a list of the store as it stands -/
def res (st : List Ob) : D → D
  | .loc n => (match st[n]? with
    | some (.lst ds) => .lst ds
    | _ => .loc n)
  | d => d
def okD (d : D) : Bool := pyOk d && decide ((toPy d).depth ≤ 60)
theorem okD_shaped {d : D} (h : okD d = true) : SeqAt.shaped (toPy d) = true := by
  unfold okD at h
  rw [Bool.and_eq_true] at h
  unfold SeqAt.shaped
  rw [lay_of d h.1, Bool.true_and]
  have := of_decide_eq_true h.2
  exact decide_eq_true (by omega)
theorem dp_res {K : PySem.W.Frag} {g : G} {av μ : List Addr} {st : List Ob} {H : Hp} {v : V} {d : D} (r : Rel K g av μ st H) (h : Rp K g.ca av μ H v d) (o : okD (res st d) = true) : Dp K H v (toPy (res st d)) := by
  have o1 : pyOk (res st d) = true := by unfold okD at o; rw [Bool.and_eq_true] at o; exact o.1
  cases d with
  | loc n =>
    unfold res at o1 ⊢
    cases e : st[n]? with
    | none => simp only [e] at o1; simp [pyOk] at o1
    | some ob =>
      cases ob with
      | lst ds =>
        simp only [e] at o1 ⊢
        cases h with
        | loc hm =>
          cases r.obs n _ _ hm e with
          | lst h2 l2 =>
            rw [toPy]
            exact .lst (SqL.of h2) (dps_of l2 (by simpa [pyOk] using o1))
      | ins c ns ds => simp only [e] at o1; simp [pyOk] at o1
      | dK ks ds => simp only [e] at o1; simp [pyOk] at o1
  | _ => exact dp_of h o1
def mEq : D → D → Mo D := fun x y st => if okD (res st x) = true ∧ okD (res st y) = true then some (.bl (PyData.eqv (toPy (res st x)) (toPy (res st y))), st) else none
def mNe : D → D → Mo D := fun x y st => if okD (res st x) = true ∧ okD (res st y) = true then some (.bl (!PyData.eqv (toPy (res st x)) (toPy (res st y))), st) else none
section
variable {g : G} {X : Cx}
theorem od_eq (hu : X.A.units + 64 < cLine) : OpD g X (compareOp .Eq) mEq := ⟨_, op_eqD hu, fun av μ H Q st x y dx dy d st' rl rx ry hm p => by
  unfold mEq at hm
  split at hm
  · rename_i h
    cases hm
    exact ⟨_, _, dp_res rl rx h.1, dp_res rl ry h.2, okD_shaped h.1, okD_shaped h.2, p.here rl (.bl _)⟩
  · cases hm⟩
theorem od_ne (hu : X.A.units + 64 < cLine) : OpD g X (compareOp .NotEq) mNe := ⟨_, op_neD hu, fun av μ H Q st x y dx dy d st' rl rx ry hm p => by
  unfold mNe at hm
  split at hm
  · rename_i h
    cases hm
    exact ⟨_, _, dp_res rl rx h.1, dp_res rl ry h.2, okD_shaped h.1, okD_shaped h.2, p.here rl (.bl _)⟩
  · cases hm⟩
/-! ### <, > -/
theorem rc_lt_str {A : Around} {s : Shared} (a b : Str) (t u : Tok) : Ob.RcOp .Lt A s (.str a t) (.str b u) (decide (a.cps.toList < b.cps.toList)) := fun prog w E Q h => lt_str h
def lexLtS : List Str → List Str → Bool
  | [], [] => false
  | [], _ :: _ => true
  | _ :: _, [] => false
  | x :: xs, y :: ys => if x = y then lexLtS xs ys else decide (x.cps.toList < y.cps.toList)
theorem lexAt_S : ∀ (k i : Nat) (xs ys : List Str), k = min (xs.length - i) (ys.length - i) → i ≤ xs.length → i ≤ ys.length →
    _root_.Ob.lexAt (fun j => decide (xs.getD j Str.empty = ys.getD j Str.empty)) (fun j => decide ((xs.getD j Str.empty).cps.toList < (ys.getD j Str.empty).cps.toList)) (decide (xs.length < ys.length)) i k = lexLtS (xs.drop i) (ys.drop i)
  | 0, i, xs, ys, hk, h1, h2 => by
    rw [_root_.Ob.lexAt_zero]
    by_cases e1 : i = xs.length
    · by_cases e2 : i = ys.length
      · rw [e1, List.drop_length, ← e1, e2, List.drop_length]
        simp [lexLtS, ← e1, e2]
      · have hlt : i < ys.length := by omega
        rw [e1, List.drop_length, ← e1, List.drop_eq_getElem_cons hlt]
        simp only [lexLtS]
        exact decide_eq_true (by omega)
    · have hlt : i < xs.length := by omega
      have e2 : i = ys.length := by omega
      rw [show ys.drop i = [] from List.drop_eq_nil_of_le (by omega), List.drop_eq_getElem_cons hlt]
      simp only [lexLtS]
      exact decide_eq_false (by omega)
  | k + 1, i, xs, ys, hk, h1, h2 => by
    have l1 : i < xs.length := by omega
    have l2 : i < ys.length := by omega
    rw [_root_.Ob.lexAt_succ, List.drop_eq_getElem_cons l1, List.drop_eq_getElem_cons l2]
    have g1 : xs.getD i Str.empty = xs[i] := by simp [List.getD, l1]
    have g2 : ys.getD i Str.empty = ys[i] := by simp [List.getD, l2]
    rw [g1, g2]
    simp only [lexLtS]
    by_cases e : xs[i] = ys[i]
    · rw [if_pos (decide_eq_true e), if_pos e]
      exact lexAt_S k (i + 1) xs ys (by omega) l1 l2
    · rw [if_neg (by simp [e]), if_neg e]
def rLtS (K : PySem.W.Frag) : R2 := fun x y H Q => ∃ (a b : Addr) (xs ys : List Str), x = .ref a ∧ y = .ref b ∧ SqT K H a (xs.map V.str) ∧ SqT K H b (ys.map V.str) ∧ Q (.bl (lexLtS xs ys)) H
theorem strs_at' {its : List Value} {xs : List Str} (h : StrsAre its xs) {j : Nat} (h1 : j < its.toArray.size) : ∃ t, its.toArray[j] = .str (xs.getD j Str.empty) t := by
  have hl : its.length = xs.length := h.length
  have v : Vals (xs.map V.str) its := vals_of_strs h
  have hj : j < xs.length := by simp at h1; omega
  obtain ⟨u, hu, t, e⟩ := v.get (i := j) (x := .str xs[j]) (by simp [hj])
  have e2 : its[j]? = some its.toArray[j] := by simp at h1; simp [h1]
  rw [e2] at hu
  cases hu
  refine ⟨t, ?_⟩
  rw [e]
  simp [List.getD, hj]
theorem op_ltTS (hu : X.A.units < cLine) : OpR X (compareOp .Lt) (rLtS X.K) := by
  intro pins s σ H x y v u Q I rx ry h
  obtain ⟨a, b, xs, ys, rfl, rfl, ha, hb, q⟩ := h
  cases rx
  cases ry
  obtain ⟨its, r1, p1, _⟩ := I.tuple ha
  obtain ⟨its2, r2, p2, _⟩ := I.tuple hb
  have i1 : StrsAre its xs := Vals.strs r1
  have i2 : StrsAre its2 ys := Vals.strs r2
  have e1 : its.toArray.size = xs.length := by rw [List.size_toArray]; exact i1.length
  have e2 : its2.toArray.size = ys.length := by rw [List.size_toArray]; exact i2.length
  have R := _root_.Ob.RcOp.tuples_lt (A := X.A) (s := s) (e := fun j => decide (xs.getD j Str.empty = ys.getD j Str.empty)) (r := fun j => decide ((xs.getD j Str.empty).cps.toList < (ys.getD j Str.empty).cps.toList)) p1 p2 hu (fun j h1 h2 => by
    obtain ⟨t, et⟩ := strs_at' i1 h1
    obtain ⟨t', et'⟩ := strs_at' i2 h2
    rw [et, et']
    exact SeqAt.EqAt.str_str _ _ _ _) (fun j h1 h2 _ => by
    obtain ⟨t, et⟩ := strs_at' i1 h1
    obtain ⟨t', et'⟩ := strs_at' i2 h2
    rw [et, et']
    exact rc_lt_str _ _ _ _)
  rw [e1, e2, lexAt_S (min xs.length ys.length) 0 xs ys (by simp) (Nat.zero_le _) (Nat.zero_le _), List.drop_zero, List.drop_zero] at R
  have z : wpAny (model X.prog X.w) X.A (compareOp .Lt (.ref a) (.ref b)) (EP X pins σ Q) X.xe s := R X.prog X.w X.xe (EP X pins σ Q) ⟨.bl _, H, I, rfl, q⟩
  exact z
def asStr : D → Option Str
  | .str x => some x
  | _ => none
theorem strs_of {K : PySem.W.Frag} {ca : Str → Addr} {av μ : List Addr} {H : Hp} : ∀ {vs : List V} {ds : List D} {xs : List Str}, RpL K ca av μ H vs ds → ds.mapM asStr = some xs → vs = xs.map V.str
  | _, _, xs, .nil, e => by
    simp at e
    subst e
    rfl
  | _, d :: ds, xs, .cons h t, e => by
    rw [List.mapM_cons] at e
    cases d with
    | str x =>
      cases h
      cases e2 : ds.mapM asStr with
      | none => simp [asStr, e2] at e
      | some ys =>
        simp [asStr, e2] at e
        subst e
        rw [strs_of t e2]
        rfl
    | _ => simp [asStr] at e
def dLt : D → D → Option D
  | .int i, .int j => some (.bl (decide (i < j)))
  | .str x, .str y => some (.bl (decide (x.cps.toList < y.cps.toList)))
  | .tup xs, .tup ys => match xs.mapM asStr, ys.mapM asStr with
    | some as, some bs => some (.bl (lexLtS as bs))
    | _, _ => none
  | _, _ => none
def dLtS : D → D → Option D
  | .str x, .str y => some (.bl (decide (x.cps.toList < y.cps.toList)))
  | _, _ => none
def dLtT : D → D → Option D
  | .tup xs, .tup ys => match xs.mapM asStr, ys.mapM asStr with
    | some as, some bs => some (.bl (lexLtS as bs))
    | _, _ => none
  | _, _ => none
def dLtST : D → D → Option D
  | .str x, .str y => some (.bl (decide (x.cps.toList < y.cps.toList)))
  | .tup xs, .tup ys => match xs.mapM asStr, ys.mapM asStr with
    | some as, some bs => some (.bl (lexLtS as bs))
    | _, _ => none
  | _, _ => none
abbrev mLt : D → D → Mo D := lift2 dLt
theorem od_ltS : OpD g X (compareOp .Lt) (lift2 dLtS) := opd_lift op_lt_str fun av μ H Q st x y dx dy d rl rx ry hm p => by
  unfold dLtS at hm
  split at hm
  · cases hm
    cases rx
    cases ry
    exact ⟨_, _, rfl, rfl, p.here rl (.bl _)⟩
  · cases hm
theorem od_ltT (hu : X.A.units < cLine) : OpD g X (compareOp .Lt) (lift2 dLtT) := opd_lift (op_ltTS hu) fun av μ H Q st x y dx dy d rl rx ry hm p => by
  unfold dLtT at hm
  split at hm
  · split at hm
    · rename_i as bs e1 e2
      cases hm
      cases rx with
      | tup h1 l1 =>
        cases ry with
        | tup h2 l2 =>
          refine ⟨_, _, as, bs, rfl, rfl, ?_, ?_, p.here rl (.bl _)⟩
          · rw [← strs_of l1 e1]; exact h1
          · rw [← strs_of l2 e2]; exact h2
    · cases hm
  · cases hm
theorem od_lt (hu : X.A.units < cLine) : OpD g X (compareOp .Lt) mLt :=
  .or (m2 := lift2 dLtST) (opd_IB op_lt) (.or od_ltS (od_ltT hu) (or_lift fun x y d h => by
      unfold dLtST at h
      split at h
      · exact .inl h
      · exact .inr h
      · cases h)) (or_lift fun x y d h => by
      unfold dLt at h
      split at h
      · exact .inl h
      · exact .inr h
      · exact .inr h
      · cases h)
abbrev mLe : D → D → Mo D := lift2 (dIB fun i j => decide (i ≤ j))
abbrev mGt : D → D → Mo D := lift2 (dIB fun i j => decide (j < i))
abbrev mGe : D → D → Mo D := lift2 (dIB fun i j => decide (j ≤ i))
theorem od_le : OpD g X (compareOp .LtE) mLe := opd_IB op_le
theorem od_gt : OpD g X (compareOp .Gt) mGt := opd_IB op_gt
theorem od_ge : OpD g X (compareOp .GtE) mGe := opd_IB op_ge
/-! ### in, not in -/
def flatD : D → Bool
  | .non => true
  | .bl _ => true
  | .int _ => true
  | .str _ => true
  | _ => false
def eqFl : D → D → Bool
  | .non, .non => true
  | .bl a, .bl b => a == b
  | .bl a, .int b => (if a then 1 else 0) == b
  | .int a, .bl b => a == (if b then 1 else 0)
  | .int a, .int b => a == b
  | .str a, .str b => a == b
  | _, _ => false
theorem flat_of {K : PySem.W.Frag} {ca : Str → Addr} {av μ : List Addr} {H : Hp} {v : V} {d : D} (h : Rp K ca av μ H v d) (f : flatD d = true) : flatV v = true := by
  cases h <;> first | rfl | (simp [flatD] at f)
theorem eqFl_of {K : PySem.W.Frag} {ca : Str → Addr} {av μ : List Addr} {H : Hp} {v w : V} {d e : D} (h : Rp K ca av μ H v d) (h2 : Rp K ca av μ H w e) (f : flatD d = true) (f2 : flatD e = true) : eqV v w = eqFl d e := by
  cases h <;> first | (simp [flatD] at f; done) | (cases h2 <;> first | rfl | (simp [flatD] at f2; done))
theorem inFl_of {K : PySem.W.Frag} {ca : Str → Addr} {av μ : List Addr} {H : Hp} {w : V} {e : D} (h2 : Rp K ca av μ H w e) (f2 : flatD e = true) : ∀ {vs : List V} {ds : List D}, RpL K ca av μ H vs ds → ds.all flatD = true → vs.all flatV = true ∧ inV w vs = ds.any fun y => eqFl y e
  | _, _, .nil, _ => ⟨rfl, rfl⟩
  | _, _, .cons h t, f => by
    rw [List.all_cons, Bool.and_eq_true] at f
    obtain ⟨i1, i2⟩ := inFl_of h2 f2 t f.2
    refine ⟨by rw [List.all_cons, flat_of h f.1, i1]; rfl, ?_⟩
    unfold inV at i2 ⊢
    rw [List.any_cons, List.any_cons, i2, eqFl_of h h2 f.1 f2]
def seqItems (st : List Ob) (d : D) : Option (List D) := match res st d with
  | .tup ds => some ds
  | .lst ds => some ds
  | .ro ds => some ds
  | _ => none
theorem seq_of {K : PySem.W.Frag} {g : G} {av μ : List Addr} {st : List Ob} {H : Hp} {v : V} {d : D} {ds : List D} (r : Rel K g av μ st H) (h : Rp K g.ca av μ H v d) (e : seqItems st d = some ds) : ∃ p xs, v = .ref p ∧ (SqL K H p xs ∨ SqT K H p xs) ∧ RpL K g.ca av μ H xs ds := by
  unfold seqItems at e
  cases h with
  | tup h l => simp only [res] at e; cases e; exact ⟨_, _, rfl, .inr h, l⟩
  | lst h n1 n2 l => simp only [res] at e; cases e; exact ⟨_, _, rfl, .inl (SqL.of h), l⟩
  | ro h l => simp only [res] at e; cases e; exact ⟨_, _, rfl, .inl (ro_sqL h), l⟩
  | @loc n a hm =>
    unfold res at e
    cases e1 : st[n]? with
    | none => simp only [e1] at e; cases e
    | some ob =>
      cases ob with
      | lst ds =>
        simp only [e1] at e
        cases e
        cases r.obs n _ _ hm e1 with
        | lst h2 l2 => exact ⟨_, _, rfl, .inl (SqL.of h2), l2⟩
      | _ => simp only [e1] at e; cases e
  | _ => simp only [res] at e; cases e
def inB (st : List Ob) (x y : D) : Option Bool := match seqItems st y with
  | some ds => if flatD x = true ∧ ds.all flatD = true then some (ds.any fun z => eqFl z x) else none
  | none => match x, y with
    | .str a, .str b => if a.length = 1 then some (decide (a.cps.getD 0 0 ∈ b.cps.toList)) else none
    | _, _ => none
def mIn : D → D → Mo D := fun x y st => (inB st x y).map fun b => (.bl b, st)
def mNotIn : D → D → Mo D := fun x y st => (inB st x y).map fun b => (.bl (!b), st)
theorem one_sign {a : Str} (h : a.length = 1) : a = ⟨#[a.cps.getD 0 0]⟩ := by
  obtain ⟨c⟩ := a
  have hs : c.size = 1 := h
  congr 1
  apply Array.ext
  · simp [hs]
  · intro i h1 h2
    have : i = 0 := by omega
    subst this
    simp [Array.getD, hs]
theorem od_in : OpD g X (compareOp .In) mIn := ⟨_, OpR.or op_in_seq op_in_sign, fun av μ H Q st x y dx dy d st' rl rx ry hm p => by
  unfold mIn inB at hm
  cases e : seqItems st dy with
  | some ds =>
    simp only [e] at hm
    split at hm
    · rename_i h
      cases hm
      obtain ⟨q, xs, e1, hs, l⟩ := seq_of rl ry e
      obtain ⟨i1, i2⟩ := inFl_of rx h.1 l h.2
      refine .inl ⟨q, xs, e1, hs, flat_of rx h.1, i1, ?_⟩
      rw [i2]
      exact p.here rl (.bl _)
    · cases hm
  | none =>
    simp only [e] at hm
    split at hm
    · split at hm
      · rename_i a b _ h1
        cases hm
        cases rx
        cases ry
        exact .inr ⟨_, _, congrArg V.str (one_sign h1), rfl, p.here rl (.bl _)⟩
      · cases hm
    · cases hm⟩
theorem od_notIn : OpD g X (compareOp .NotIn) mNotIn := ⟨_, OpR.or op_notIn_seq op_notIn_sign, fun av μ H Q st x y dx dy d st' rl rx ry hm p => by
  unfold mNotIn inB at hm
  cases e : seqItems st dy with
  | some ds =>
    simp only [e] at hm
    split at hm
    · rename_i h
      cases hm
      obtain ⟨q, xs, e1, hs, l⟩ := seq_of rl ry e
      obtain ⟨i1, i2⟩ := inFl_of rx h.1 l h.2
      refine .inl ⟨q, xs, e1, hs, flat_of rx h.1, i1, ?_⟩
      rw [i2]
      exact p.here rl (.bl _)
    · cases hm
  | none =>
    simp only [e] at hm
    split at hm
    · split at hm
      · rename_i a b _ h1
        cases hm
        cases rx
        cases ry
        exact .inr ⟨_, _, congrArg V.str (one_sign h1), rfl, p.here rl (.bl _)⟩
      · cases hm
    · cases hm⟩
/-! ### is None, is True -/
def dIs : D → D → Option D
  | .bl a, .bl b => some (.bl (decide (a = b)))
  | x, .non => match x with
    | .non => some (.bl true)
    | _ => some (.bl false)
  | _, _ => none
theorem non_of {K : PySem.W.Frag} {ca : Str → Addr} {av μ : List Addr} {H : Hp} {v : V} {d : D} (h : Rp K ca av μ H v d) : decide (v = .non) = (match d with | .non => true | _ => false) := by
  cases h <;> rfl
end
end MM
set_option autoImplicit false
set_option maxRecDepth 100000
set_option maxHeartbeats 4000000
/-! M6: built-in functions and methods, items, slices, by data. -/
namespace MM
open PySem PySem.Spec PyProof.Rows L2 LamX NdefX
/-- a call of a built-in by values -/
def CallD (g : G) (X : Cx) (f : Value) (md : List D → Mo D) : Prop :=
  ∃ r, CallR X f r ∧ ∀ (av μ : List Addr) (H : Hp) (Q : VK) (st : List Ob) (xs : List V) (ds : List D) (d : D) (st' : List Ob), Rel X.K g av μ st H → RpL X.K g.ca av μ H xs ds → md ds st = some (d, st') → Post X.K g av μ H d st' Q → r xs H Q
def MtD (g : G) (X : Cx) (id : String) (T : String) (md : D → List D → Mo D) : Prop :=
  ∃ r, MtR X id r ∧ (∀ (av μ : List Addr) (H : Hp) (Q : VK) (st : List Ob) (x : V) (xs : List V) (dx : D) (ds : List D) (d : D) (st' : List Ob), Rel X.K g av μ st H → Rp X.K g.ca av μ H x dx → RpL X.K g.ca av μ H xs ds → md dx ds st = some (d, st') → Post X.K g av μ H d st' Q → r x xs H Q)
def xCall (md : List D → Mo D) (ml : Ev → Mo (List D)) : Ev → Mo D := fun ρ => (ml ρ).bind md
section
variable {g : G} {X : Cx} {e : Expr} {es : List Expr} {ml : Ev → Mo (List D)} {md : List D → Mo D} {p pos : Pos} {x : Str} {bid T : String}
theorem semCall {r : List V → Hp → VK → Prop} {t : TA}
    (s : ∀ (av μ : List Addr) (H : Hp) (Q : VK) (st : List Ob) (xs : List V) (ds : List D) (d : D) (st' : List Ob), Rel X.K g av μ st H → RpL X.K g.ca av μ H xs ds → md ds st = some (d, st') → Post X.K g av μ H d st' Q → r xs H Q)
    (sl : SemA X.K g t ml) : SemE X.K g (tCB r t) (xCall md ml) := fun av μ σ H Q ρ st d st' rl er hm p => by
  obtain ⟨ds, s1, h1, hm⟩ := Mo.bind_some hm
  exact sl av μ σ H _ ρ st ds s1 rl er h1 fun vs H1 μ1 e1 r1 q1 => s av μ1 H1 Q s1 vs ds d st' r1 q1 hm (p.mono e1)
theorem ev_callB (hc : CallD g X (.builtin bid) md) (hg : Gl X x) (hm : X.mg x = none) (hv : bootBuiltins x = some (.builtin bid)) (ha : AV g X (e :: es) ml) (hn : x ≠ "__name__" := by decide) (hdb : (x == ("__debug__" : Str)) = false := by decide)
    (he : starEach (e :: es) X.env = (false, eval e X.env) :: starEach es X.env := by rfl) (hpl : (backTo pos (starEach es X.env)).any (·.1) = false := by rfl) : EV g X (.Call (.Name x p) (e :: es) [] pos) (xCall md ml) := by
  obtain ⟨r, c, s⟩ := hc
  obtain ⟨t, pa, sl⟩ := ha.ex
  exact ⟨_, pe_callB c hg hm hv pa hn hdb he hpl, semCall s sl⟩
theorem ev_callTy (hc : CallD g X (.type T) md) (hg : Gl X x) (hm : X.mg x = none) (hv : bootBuiltins x = some (.type T)) (ha : AV g X (e :: es) ml) (hn : x ≠ "__name__" := by decide) (hdb : (x == ("__debug__" : Str)) = false := by decide)
    (he : starEach (e :: es) X.env = (false, eval e X.env) :: starEach es X.env := by rfl) (hpl : (backTo pos (starEach es X.env)).any (·.1) = false := by rfl) : EV g X (.Call (.Name x p) (e :: es) [] pos) (xCall md ml) := by
  obtain ⟨r, c, s⟩ := hc
  obtain ⟨t, pa, sl⟩ := ha.ex
  exact ⟨_, pe_callTy c hg hm hv pa hn hdb he hpl, semCall s sl⟩
/-- from the list of data, no change of the store -/
def liftL (f : List Ob → List D → Option D) : List D → Mo D := fun ds st => (f st ds).map fun d => (d, st)
theorem liftL_some {f : List Ob → List D → Option D} {ds : List D} {d : D} {st st' : List Ob} (h : liftL f ds st = some (d, st')) : f st ds = some d ∧ st' = st := by
  unfold liftL at h
  cases e : f st ds with
  | none => rw [e] at h; cases h
  | some z => rw [e] at h; cases h; exact ⟨rfl, rfl⟩
theorem calld {f : List Ob → List D → Option D} {fv : Value} {r : List V → Hp → VK → Prop} (c : CallR X fv r)
    (s : ∀ (av μ : List Addr) (H : Hp) (Q : VK) (st : List Ob) (xs : List V) (ds : List D) (d : D), Rel X.K g av μ st H → RpL X.K g.ca av μ H xs ds → f st ds = some d → Post X.K g av μ H d st Q → r xs H Q) : CallD g X fv (liftL f) :=
  ⟨r, c, fun av μ H Q st xs ds d st' rl rx hm p => by
    obtain ⟨e1, e2⟩ := liftL_some hm
    subst e2
    exact s av μ H Q _ xs ds d rl rx e1 p⟩
theorem rpl1 {K : PySem.W.Frag} {ca : Str → Addr} {av μ : List Addr} {H : Hp} {xs : List V} {d : D} (h : RpL K ca av μ H xs [d]) : ∃ x, xs = [x] ∧ Rp K ca av μ H x d := by
  cases h with
  | cons a b => cases b; exact ⟨_, rfl, a⟩
theorem rpl2 {K : PySem.W.Frag} {ca : Str → Addr} {av μ : List Addr} {H : Hp} {xs : List V} {d e : D} (h : RpL K ca av μ H xs [d, e]) : ∃ x y, xs = [x, y] ∧ Rp K ca av μ H x d ∧ Rp K ca av μ H y e := by
  cases h with
  | cons a b =>
    obtain ⟨y, rfl, h⟩ := rpl1 b
    exact ⟨_, _, rfl, a, h⟩
/-! ### len, int, abs, divmod, max, min, sum -/
def dLen (st : List Ob) : List D → Option D
  | [.str x] => if x.length ≤ 1000000 then some (.int x.length) else none
  | [d] => (match seqItems st d with
    | some ds => some (.int ds.length)
    | none => none)
  | _ => none
theorem cd_len : CallD g X (.builtin "len") (liftL dLen) := calld call_len fun av μ H Q st xs ds d rl rx hm p => by
  unfold dLen at hm
  split at hm
  · split at hm
    · rename_i y hy
      cases hm
      obtain ⟨v, rfl, h⟩ := rpl1 rx
      cases h
      exact ⟨_, _, rfl, ⟨Nat.le_trans hy line_le, rfl⟩, p.here rl (.int _)⟩
    · cases hm
  · split at hm
    · rename_i es e1
      cases hm
      obtain ⟨v, rfl, h⟩ := rpl1 rx
      obtain ⟨q, ys, rfl, hs, l⟩ := seq_of rl h e1
      rcases hs with hs | hs
      · exact ⟨_, _, rfl, .inl ⟨_, hs, rfl⟩, by rw [l.length]; exact p.here rl (.int _)⟩
      · exact ⟨_, _, rfl, .inr ⟨_, hs, rfl⟩, by rw [l.length]; exact p.here rl (.int _)⟩
    · cases hm
  · cases hm
def dInt (_ : List Ob) : List D → Option D
  | [.int i] => some (.int i)
  | [.bl b] => some (.int (if b then 1 else 0))
  | _ => none
theorem cd_int : CallD g X (.type "int") (liftL dInt) := calld call_int1 fun av μ H Q st xs ds d rl rx hm p => by
  unfold dInt at hm
  split at hm
  · cases hm
    obtain ⟨v, rfl, h⟩ := rpl1 rx
    cases h
    exact .inl ⟨_, rfl, p.here rl (.int _)⟩
  · cases hm
    obtain ⟨v, rfl, h⟩ := rpl1 rx
    cases h
    exact .inr ⟨_, rfl, p.here rl (.int _)⟩
  · cases hm
def dAbs (_ : List Ob) : List D → Option D
  | [.int i] => some (.int (if i < 0 then -i else i))
  | _ => none
theorem cd_abs : CallD g X (.builtin "abs") (liftL dAbs) := calld call_abs fun av μ H Q st xs ds d rl rx hm p => by
  unfold dAbs at hm
  split at hm
  · cases hm
    obtain ⟨v, rfl, h⟩ := rpl1 rx
    cases h
    exact ⟨_, rfl, p.here rl (.int _)⟩
  · cases hm
def dDivmod (_ : List Ob) : List D → Option D
  | [.int i, .int j] => if cDiv i j then some (.tup [.int (i / j), .int (i % j)]) else none
  | _ => none
theorem cd_divmod : CallD g X (.builtin "divmod") (liftL dDivmod) := calld call_divmod fun av μ H Q st xs ds d rl rx hm p => by
  unfold dDivmod at hm
  split at hm
  · split at hm
    · rename_i h
      cases hm
      obtain ⟨v, w, rfl, h1, h2⟩ := rpl2 rx
      cases h1
      cases h2
      exact ⟨_, _, rfl, h, fun q hq => p.newO rl hq (rp_newT rl hq (.cons (.int _) (.cons (.int _) .nil)))⟩
    · cases hm
  · cases hm
def asInt : D → Option Int
  | .int x => some x
  | _ => none
theorem ints_of {K : PySem.W.Frag} {ca : Str → Addr} {av μ : List Addr} {H : Hp} : ∀ {vs : List V} {ds : List D} {xs : List Int}, RpL K ca av μ H vs ds → ds.mapM asInt = some xs → vs = xs.map V.int
  | _, _, xs, .nil, e => by
    simp at e
    subst e
    rfl
  | _, d :: ds, xs, .cons h t, e => by
    rw [List.mapM_cons] at e
    cases d with
    | int x =>
      cases h
      cases e2 : ds.mapM asInt with
      | none => simp [asInt, e2] at e
      | some ys =>
        simp [asInt, e2] at e
        subst e
        rw [ints_of t e2]
        rfl
    | _ => simp [asInt] at e
def asBl : D → Option Bool
  | .bl x => some x
  | _ => none
theorem bls_of {K : PySem.W.Frag} {ca : Str → Addr} {av μ : List Addr} {H : Hp} : ∀ {vs : List V} {ds : List D} {xs : List Bool}, RpL K ca av μ H vs ds → ds.mapM asBl = some xs → vs = xs.map V.bl
  | _, _, xs, .nil, e => by
    simp at e
    subst e
    rfl
  | _, d :: ds, xs, .cons h t, e => by
    rw [List.mapM_cons] at e
    cases d with
    | bl x =>
      cases h
      cases e2 : ds.mapM asBl with
      | none => simp [asBl, e2] at e
      | some ys =>
        simp [asBl, e2] at e
        subst e
        rw [bls_of t e2]
        rfl
    | _ => simp [asBl] at e
def maxL : List Int → Int
  | [] => 0
  | x :: xs => xs.foldl max x
def minL : List Int → Int
  | [] => 0
  | x :: xs => xs.foldl min x
theorem foldl_max : ∀ (xs : List Int) (a : Int), (xs.foldl max a = a ∨ xs.foldl max a ∈ xs) ∧ a ≤ xs.foldl max a ∧ ∀ y ∈ xs, y ≤ xs.foldl max a
  | [], a => ⟨.inl rfl, Int.le_refl a, fun y h => by cases h⟩
  | x :: xs, a => by
    obtain ⟨h1, h2, h3⟩ := foldl_max xs (max a x)
    simp only [List.foldl_cons]
    refine ⟨?_, by omega, fun y hy => ?_⟩
    · rcases h1 with h1 | h1
      · rw [h1]
        by_cases c : a ≤ x
        · rw [Int.max_eq_right c]; exact .inr (by simp)
        · rw [Int.max_eq_left (by omega)]; exact .inl rfl
      · exact .inr (List.mem_cons_of_mem _ h1)
    · rcases List.mem_cons.mp hy with e | e
      · subst e; omega
      · exact h3 y e
theorem foldl_min : ∀ (xs : List Int) (a : Int), (xs.foldl min a = a ∨ xs.foldl min a ∈ xs) ∧ xs.foldl min a ≤ a ∧ ∀ y ∈ xs, xs.foldl min a ≤ y
  | [], a => ⟨.inl rfl, Int.le_refl a, fun y h => by cases h⟩
  | x :: xs, a => by
    obtain ⟨h1, h2, h3⟩ := foldl_min xs (min a x)
    simp only [List.foldl_cons]
    refine ⟨?_, by omega, fun y hy => ?_⟩
    · rcases h1 with h1 | h1
      · rw [h1]
        by_cases c : a ≤ x
        · rw [Int.min_eq_left c]; exact .inl rfl
        · rw [Int.min_eq_right (by omega)]; exact .inr (by simp)
      · exact .inr (List.mem_cons_of_mem _ h1)
    · rcases List.mem_cons.mp hy with e | e
      · subst e; omega
      · exact h3 y e
theorem maxL_spec {xs : List Int} {m : Int} (hm : m ∈ xs) (h : ∀ y ∈ xs, y ≤ m) : m = maxL xs := by
  cases xs with
  | nil => cases hm
  | cons x xs =>
    obtain ⟨h1, h2, h3⟩ := foldl_max xs x
    have e : maxL (x :: xs) = xs.foldl max x := rfl
    rw [e]
    have hle : xs.foldl max x ≤ m := by
      rcases h1 with h1 | h1
      · rw [h1]; exact h x (by simp)
      · exact h _ (List.mem_cons_of_mem _ h1)
    rcases List.mem_cons.mp hm with z | z
    · subst z; omega
    · have := h3 m z; omega
theorem minL_spec {xs : List Int} {m : Int} (hm : m ∈ xs) (h : ∀ y ∈ xs, m ≤ y) : m = minL xs := by
  cases xs with
  | nil => cases hm
  | cons x xs =>
    obtain ⟨h1, h2, h3⟩ := foldl_min xs x
    have e : minL (x :: xs) = xs.foldl min x := rfl
    rw [e]
    have hle : m ≤ xs.foldl min x := by
      rcases h1 with h1 | h1
      · rw [h1]; exact h x (by simp)
      · exact h _ (List.mem_cons_of_mem _ h1)
    rcases List.mem_cons.mp hm with z | z
    · subst z; omega
    · have := h3 m z; omega
def dMax2 (_ : List Ob) : List D → Option D
  | [.int i, .int j] => some (.int (if j > i then j else i))
  | _ => none
def dMin2 (_ : List Ob) : List D → Option D
  | [.int i, .int j] => some (.int (if j < i then j else i))
  | _ => none
theorem cd_max2 (hc : X.calm = true) : CallD g X (.builtin "max") (liftL dMax2) := calld (call_max2 hc) fun av μ H Q st xs ds d rl rx hm p => by
  unfold dMax2 at hm
  split at hm
  · cases hm
    obtain ⟨v, w, rfl, h1, h2⟩ := rpl2 rx
    cases h1
    cases h2
    exact ⟨_, _, rfl, p.here rl (.int _)⟩
  · cases hm
theorem cd_min2 (hc : X.calm = true) : CallD g X (.builtin "min") (liftL dMin2) := calld (call_min2 hc) fun av μ H Q st xs ds d rl rx hm p => by
  unfold dMin2 at hm
  split at hm
  · cases hm
    obtain ⟨v, w, rfl, h1, h2⟩ := rpl2 rx
    cases h1
    cases h2
    exact ⟨_, _, rfl, p.here rl (.int _)⟩
  · cases hm
/-- a list (no tuple) -/
def lstItems (st : List Ob) (d : D) : Option (List D) := match res st d with
  | .lst ds => some ds
  | .ro ds => some ds
  | _ => none
theorem lst_of {K : PySem.W.Frag} {av μ : List Addr} {st : List Ob} {H : Hp} {v : V} {d : D} {ds : List D} (r : Rel K g av μ st H) (h : Rp K g.ca av μ H v d) (e : lstItems st d = some ds) : ∃ p xs, v = .ref p ∧ SqL K H p xs ∧ RpL K g.ca av μ H xs ds := by
  unfold lstItems at e
  cases h with
  | lst h n1 n2 l => simp only [res] at e; cases e; exact ⟨_, _, rfl, SqL.of h, l⟩
  | ro h l => simp only [res] at e; cases e; exact ⟨_, _, rfl, ro_sqL h, l⟩
  | @loc n a hm =>
    unfold res at e
    cases e1 : st[n]? with
    | none => simp only [e1] at e; cases e
    | some ob =>
      cases ob with
      | lst ds =>
        simp only [e1] at e
        cases e
        cases r.obs n _ _ hm e1 with
        | lst h2 l2 => exact ⟨_, _, rfl, SqL.of h2, l2⟩
      | _ => simp only [e1] at e; cases e
  | _ => simp only [res] at e; cases e
def dSum (st : List Ob) : List D → Option D
  | [d] => ((lstItems st d).bind fun ds => ds.mapM asInt).map fun ns => .int ns.sum
  | _ => none
theorem cd_sum (hc : X.calm = true) : CallD g X (.builtin "sum") (liftL dSum) := calld (cr_sum hc) fun av μ H Q st xs ds d rl rx hm p => by
  unfold dSum at hm
  split at hm
  · rename_i d0
    obtain ⟨v, rfl, h⟩ := rpl1 rx
    cases e1 : lstItems st d0 with
    | none => rw [e1] at hm; cases hm
    | some es =>
      rw [e1] at hm
      cases e2 : es.mapM asInt with
      | none => simp [e2] at hm
      | some ns =>
        simp [e2] at hm
        subst hm
        obtain ⟨q, ys, rfl, hs, l⟩ := lst_of rl h e1
        exact ⟨q, ns, rfl, by rw [← ints_of l e2]; exact hs, p.here rl (.int _)⟩
  · cases hm
def dMaxL (st : List Ob) : List D → Option D
  | [d] => ((lstItems st d).bind fun ds => ds.mapM asInt).bind fun ns => if ns = [] then none else some (.int (maxL ns))
  | _ => none
def dMinL (st : List Ob) : List D → Option D
  | [d] => ((lstItems st d).bind fun ds => ds.mapM asInt).bind fun ns => if ns = [] then none else some (.int (minL ns))
  | _ => none
theorem cd_maxL (hc : X.calm = true) : CallD g X (.builtin "max") (liftL dMaxL) := calld (cr_max hc) fun av μ H Q st xs ds d rl rx hm p => by
  unfold dMaxL at hm
  split at hm
  · rename_i d0
    obtain ⟨v, rfl, h⟩ := rpl1 rx
    cases e1 : lstItems st d0 with
    | none => rw [e1] at hm; cases hm
    | some es =>
      rw [e1] at hm
      cases e2 : es.mapM asInt with
      | none => simp [e2] at hm
      | some ns =>
        simp [e2] at hm
        obtain ⟨hne, hm⟩ := hm
        subst hm
        obtain ⟨q, ys, rfl, hs, l⟩ := lst_of rl h e1
        exact ⟨q, ns, rfl, by rw [← ints_of l e2]; exact hs, List.length_pos_iff.mpr hne, fun m h1 h2 => by rw [maxL_spec h1 h2]; exact p.here rl (.int _)⟩
  · cases hm
theorem cd_minL (hc : X.calm = true) : CallD g X (.builtin "min") (liftL dMinL) := calld (cr_min hc) fun av μ H Q st xs ds d rl rx hm p => by
  unfold dMinL at hm
  split at hm
  · rename_i d0
    obtain ⟨v, rfl, h⟩ := rpl1 rx
    cases e1 : lstItems st d0 with
    | none => rw [e1] at hm; cases hm
    | some es =>
      rw [e1] at hm
      cases e2 : es.mapM asInt with
      | none => simp [e2] at hm
      | some ns =>
        simp [e2] at hm
        obtain ⟨hne, hm⟩ := hm
        subst hm
        obtain ⟨q, ys, rfl, hs, l⟩ := lst_of rl h e1
        exact ⟨q, ns, rfl, by rw [← ints_of l e2]; exact hs, List.length_pos_iff.mpr hne, fun m h1 h2 => by rw [minL_spec h1 h2]; exact p.here rl (.int _)⟩
  · cases hm
def dAll (st : List Ob) : List D → Option D
  | [d] => ((lstItems st d).bind fun ds => ds.mapM asBl).map fun bs => .bl (bs.all id)
  | _ => none
def dAny (st : List Ob) : List D → Option D
  | [d] => ((lstItems st d).bind fun ds => ds.mapM asBl).map fun bs => .bl (bs.any id)
  | _ => none
theorem cd_all (hc : X.calm = true) : CallD g X (.builtin "all") (liftL dAll) := calld (cr_all hc) fun av μ H Q st xs ds d rl rx hm p => by
  unfold dAll at hm
  split at hm
  · rename_i d0
    obtain ⟨v, rfl, h⟩ := rpl1 rx
    cases e1 : lstItems st d0 with
    | none => rw [e1] at hm; cases hm
    | some es =>
      rw [e1] at hm
      cases e2 : es.mapM asBl with
      | none => simp [e2] at hm
      | some ns =>
        simp [e2] at hm
        subst hm
        obtain ⟨q, ys, rfl, hs, l⟩ := lst_of rl h e1
        refine ⟨q, ns, rfl, by rw [← bls_of l e2]; exact hs, p.here rl ?_⟩
        have e3 : (ns.all fun x => x) = ns.all id := rfl
        first | exact .bl _ | (rw [e3]; exact .bl _)
  · cases hm
theorem cd_any (hc : X.calm = true) : CallD g X (.builtin "any") (liftL dAny) := calld (cr_any hc) fun av μ H Q st xs ds d rl rx hm p => by
  unfold dAny at hm
  split at hm
  · rename_i d0
    obtain ⟨v, rfl, h⟩ := rpl1 rx
    cases e1 : lstItems st d0 with
    | none => rw [e1] at hm; cases hm
    | some es =>
      rw [e1] at hm
      cases e2 : es.mapM asBl with
      | none => simp [e2] at hm
      | some ns =>
        simp [e2] at hm
        subst hm
        obtain ⟨q, ys, rfl, hs, l⟩ := lst_of rl h e1
        refine ⟨q, ns, rfl, by rw [← bls_of l e2]; exact hs, p.here rl ?_⟩
        exact .bl _
  · cases hm
/-! ### tuple(x), list(x), sorted(x) -/
def dTuple (st : List Ob) : List D → Option D
  | [d] => (seqItems st d).map .tup
  | _ => none
theorem cd_tuple : CallD g X (.type "tuple") (liftL dTuple) := calld call_tuple_of fun av μ H Q st xs ds d rl rx hm p => by
  unfold dTuple at hm
  split at hm
  · rename_i d0
    obtain ⟨v, rfl, h⟩ := rpl1 rx
    cases e1 : seqItems st d0 with
    | none => rw [e1] at hm; cases hm
    | some es =>
      rw [e1] at hm
      cases hm
      obtain ⟨q, ys, rfl, hs, l⟩ := seq_of rl h e1
      rcases hs with hs | hs
      · exact ⟨q, ys, rfl, .inl ⟨hs, fun b hb => p.newO rl hb (rp_newT rl hb l)⟩⟩
      · exact ⟨q, ys, rfl, .inr ⟨hs, p.here rl (.tup hs l)⟩⟩
  · cases hm
def dList (st : List Ob) : List D → Option D
  | [d] => (seqItems st d).map .lst
  | _ => none
theorem cd_list : CallD g X (.type "list") (liftL dList) := calld call_list_of fun av μ H Q st xs ds d rl rx hm p => by
  unfold dList at hm
  split at hm
  · rename_i d0
    obtain ⟨v, rfl, h⟩ := rpl1 rx
    cases e1 : seqItems st d0 with
    | none => rw [e1] at hm; cases hm
    | some es =>
      rw [e1] at hm
      cases hm
      obtain ⟨q, ys, rfl, hs, l⟩ := seq_of rl h e1
      exact ⟨q, ys, rfl, hs, fun b hb => p.newO rl hb (rp_newL rl hb l)⟩
  · cases hm
/-- a list that is to be changed -/
def mListM : List D → Mo D := fun ds st => match ds with
  | [d] => (seqItems st d).map fun es => (.loc st.length, st ++ [.lst es])
  | _ => none
theorem cd_listM : CallD g X (.type "list") mListM := ⟨_, call_list_of, fun av μ H Q st xs ds d st' rl rx hm p => by
  unfold mListM at hm
  split at hm
  · rename_i d0
    obtain ⟨v, rfl, h⟩ := rpl1 rx
    cases e1 : seqItems st d0 with
    | none => rw [e1] at hm; cases hm
    | some es =>
      rw [e1] at hm
      cases hm
      obtain ⟨q, ys, rfl, hs, l⟩ := seq_of rl h e1
      exact ⟨q, ys, rfl, hs, fun b hb => push_loc rl hb l p⟩
  · cases hm⟩
end
/-! ### sorted -/
open PySem.W in
theorem sorted_seq {prog : Program} {w : World} {A : Around} {E : Value → Shared → Prop} {s : Shared} {β : Type} {R : Value → β → Prop} {enc : β → PyData} {vs : List Value} {bs : List β} {l : Addr} {T : String} {o : Obj} {n : Nat} {Q : Value → Shared → Prop} (hT : T = "list" ∨ T = "tuple")
    (ho : s.heap.get? l = some o) (hc : o.cls = .type T) (hd : o.data = .seq vs.toArray n) (e : EachIs R vs bs) (er : EachIs (fun v b => ∃ as, Reads s.heap v (enc b) as) vs bs) (hal : AllAlike (bs.map enc)) (hk : Sortable (bs.map enc)) (hL : bs.length ≤ sizeLine)
    (hu : ∀ b, b ∈ bs → A.units + 2 + (enc b).depth < cLine)
    (h : ∀ (out : List Value) (c : Nat) (h1 h' : Heap), out.length = bs.length → EachIs R out (bs.mergeSort (dataLe false enc)) → (∀ b o, s.heap.get? b = some o → h1.get? b = some o) → (∀ b o, h1.get? b = some o → h'.get? b = some o) → h'.get? h1.objs.size = some (seqObj "list" (List.toArray out) c) → Q (.ref h1.objs.size) { s with heap := h' }) :
    wpAny (model prog w) A (call (.builtin "sorted") [.ref l]) Q E s := by
  have hz : vs.length ≤ sizeLine := by rw [e.length]; exact hL
  refine Calls.call_function_entry PyProof.Rows.kind_sorted PyProof.Rows.plain_sorted PyProof.Rows.entry_sorted (PyProof.Rows.args_sorted1 _) ?_
  unfold Builtin.«sorted»
  refine wpAny_bind (m := checkCount "sorted" 1 1 _) (wpAny_pure ?_)
  refine wpAny_bind (wpAny_collect_seq l hT ho hc hd (fun h1 hk1 => ?_) (by simpa using hz))
  refine wpAny_bind (wpAny_newList ?_ (by simpa using hz))
  have hoL : (h1.push (seqObj "list" vs.toArray 0)).get? h1.objs.size = some (seqObj "list" vs.toArray 0) := Heap.get?_push_size _ rfl
  show wpAny _ _ _ _ _ { s with heap := h1.push (seqObj "list" vs.toArray 0) }
  have er2 : EachIs (fun v b => ∃ as, Reads (sortingHeap (h1.push (seqObj "list" vs.toArray 0)) h1.objs.size vs) v (enc b) as) vs bs := er.mono fun _ _ ⟨as, r⟩ => ⟨as, PyProof.Rows.Reads.keeps (fun b o q => sortingHeap_old (Nat.ne_of_lt (Heap.lt_size (hk1 b o q))) (Heap.get?_push_of_some _ (hk1 b o q))) r⟩
  refine wpAny_bind (wpAny_holding (wpAny_call_entry PyProof.Rows.slot_list_sort ⟨_, hoL, rfl⟩ PyProof.Rows.entry_list_sort ?body (PyProof.Rows.args_list_sort _)))
  case body =>
    refine list_sort_vals (s := { s with heap := h1.push (seqObj "list" vs.toArray 0) }) (κ := dataKind (sortingHeap (h1.push (seqObj "list" vs.toArray 0)) h1.objs.size vs) (bs.map enc)) hoL (SortsAt.data (s := { s with heap := sortingHeap (h1.push (seqObj "list" vs.toArray 0)) h1.objs.size vs }) (each_map (R := fun v d => ∃ as, Reads (sortingHeap (h1.push (seqObj "list" vs.toArray 0)) h1.objs.size vs) v d as) enc er2) hal hk (bound_map hu)) hz ?_
    refine ⟨_, rfl, wpAny_pure ?_⟩
    obtain ⟨c, hc2⟩ := PyProof.Rows.sortedHeap_at (out := (sortVals (dataKind (sortingHeap (h1.push (seqObj "list" vs.toArray 0)) h1.objs.size vs) (bs.map enc)) false vs vs).toArray) hoL
    refine ⟨_, rfl, h _ c h1 _ (by rw [sortVals_length false rfl]; exact e.length) (sortVals_data false e er2 hal) hk1 (fun b o q1 => ?_) hc2⟩
    have hlt := Heap.lt_size q1
    rw [PyProof.Rows.sortedHeap_old (Nat.ne_of_lt hlt) (by rw [Heap.size_push]; exact Nat.lt_succ_of_lt hlt)]
    exact Heap.get?_push_of_some _ q1

theorem each_of {K : PySem.W.Frag} {X : Cx} {g : G} {av μ : List Addr} {H : Hp} {pins : List (Addr × Obj)} {σ : L2.St} {s : Shared} (I : Inv X pins σ H s) : ∀ {vs : List V} {us : List Value} {ds : List D}, RpL X.K g.ca av μ H vs ds → Vals vs us → pyOks ds = true →
    PySem.W.EachIs (fun u d => ∃ x, RelV x u ∧ Rp X.K g.ca av μ H x d) us ds ∧ PySem.W.EachIs (fun u d => ∃ as, Reads s.heap u (toPy d) as) us ds
  | _, _, _, .nil, r, _ => by cases r; exact ⟨.nil, .nil⟩
  | _, _, _, .cons h t, r, o => by
    cases r with
    | cons r1 r2 =>
      rw [pyOks, Bool.and_eq_true] at o
      obtain ⟨i1, i2⟩ := each_of (K := K) I t r2 o.2
      exact ⟨.cons ⟨_, r1, h⟩ i1, .cons (Dp.reads I _ _ _ (dp_of h o.1) r1) i2⟩
theorem each_back {K : PySem.W.Frag} {ca : Str → Addr} {av μ : List Addr} {H : Hp} : ∀ {us : List Value} {ds : List D}, PySem.W.EachIs (fun u d => ∃ x, RelV x u ∧ Rp K ca av μ H x d) us ds → ∃ vs, Vals vs us ∧ RpL K ca av μ H vs ds
  | _, _, .nil => ⟨[], .nil, .nil⟩
  | _, _, .cons ⟨x, r, h⟩ t => by
    obtain ⟨vs, h1, h2⟩ := each_back t
    exact ⟨x :: vs, .cons r h1, .cons h h2⟩
def alikeAllB (ds : List PyData) : Bool := ds.all fun d => ds.all fun e => PySem.W.alike d e
theorem alike_of {ds : List PyData} (h : alikeAllB ds = true) : PySem.W.AllAlike ds := fun d hd e he => List.all_eq_true.mp (List.all_eq_true.mp h d hd) e he
def isTupB : PyData → Bool
  | .tuple (_ :: _) => true
  | _ => false
def isOthB : PyData → Bool
  | .none => false
  | .tuple _ => false
  | _ => true
def sortableB (ds : List PyData) : Bool := ds.all isTupB || ds.all isOthB
theorem sortable_of {ds : List PyData} (h : sortableB ds = true) : PySem.W.Sortable ds := by
  unfold sortableB at h
  rw [Bool.or_eq_true] at h
  rcases h with h | h
  · refine .inl fun d hd => ?_
    have := List.all_eq_true.mp h d hd
    unfold isTupB at this
    split at this
    · exact ⟨_, _, rfl⟩
    · cases this
  · refine .inr fun d hd => ?_
    have := List.all_eq_true.mp h d hd
    refine ⟨fun e => ?_, fun xs e => ?_⟩ <;> (subst e; cases this)
def sortOk (ds : List D) : Bool := pyOks ds && (alikeAllB (ds.map toPy) && (sortableB (ds.map toPy) && (decide (ds.length ≤ 1000000) && ds.all fun d => decide ((toPy d).depth ≤ 60))))
def sortD (ds : List D) : List D := ds.mergeSort (PySem.W.dataLe false toPy)
def dSorted (st : List Ob) : List D → Option D
  | [d] => (match seqItems st d with
    | some ds => if sortOk ds = true then some (.lst (sortD ds)) else none
    | none => none)
  | _ => none
section
variable {g : G} {X : Cx}
def rSortD (K : PySem.W.Frag) (g : G) : List V → Hp → VK → Prop := fun xs H Q => ∃ p ys ds av μ, xs = [V.ref p] ∧ (SqL K H p ys ∨ SqT K H p ys) ∧ RpL K g.ca av μ H ys ds ∧ sortOk ds = true ∧ ∀ q zs, H q = none → RpL K g.ca av μ H zs (sortD ds) → Q (.ref q) (upd H q (.lst zs))
theorem call_sortD {k : Nat} (hr : Room k X.A) : CallR X (.builtin "sorted") (rSortD X.K g) := by
  intro pins s σ H xs us Q I r h
  obtain ⟨p, ys, ds, av, μ, rfl, hq, l, ok, q⟩ := h
  obtain ⟨u, rfl, rx⟩ := vals1 r
  cases rx
  unfold sortOk at ok
  simp only [Bool.and_eq_true] at ok
  obtain ⟨o1, o2, o3, o4, o5⟩ := ok
  have hlen : ds.length ≤ sizeLine := Nat.le_trans (of_decide_eq_true o4) line_le
  have core : ∀ {T : String} {o : Obj} {n : Nat} {its : List Value}, (T = "list" ∨ T = "tuple") → s.heap.get? p = some o → o.cls = .type T → o.data = .seq its.toArray n → Vals ys its → wpAny (model X.prog X.w) X.A (call (.builtin "sorted") [.ref p]) (EP X pins σ Q) X.xe s := fun {T o n its} hT ho hc hd rv => by
    obtain ⟨e1, e2⟩ := each_of (K := X.K) I l rv o1
    refine sorted_seq hT ho hc hd e1 e2 (alike_of o2) (sortable_of o3) hlen (fun b hb => ?_) fun out c h1 h' hl eo hk1 hk2 hat => ?_
    · have h1 := of_decide_eq_true (List.all_eq_true.mp o5 b hb)
      have h2 := hr.units
      omega
    · obtain ⟨zs, v1, v2⟩ := each_back eo
      have I0 : Inv X pins σ H { s with heap := h1 } := I.kept (t' := s.toks) hk1
      have na : H h1.objs.size = none := I0.hok.fresh (Nat.le_refl _)
      have I1 : Inv X pins σ (upd H h1.objs.size (.lst zs)) { s with heap := h' } := I0.laid (t' := s.toks) hk2 (Nat.le_refl _) (show ObjOk X.prog X.w _ h' _ (.lst zs) from ⟨by rw [v1.length, hl]; exact hlen, out, c, v1, hat⟩)
      exact ⟨.ref h1.objs.size, _, I1, rfl, q _ zs na v2⟩
  rcases hq with hq | hq
  · obtain ⟨its, r', pl, hz⟩ := I.list hq
    obtain ⟨o, ho, hc, n, hd⟩ := pl.isList
    exact core (.inl rfl) ho hc hd r'
  · obtain ⟨its, r', pl, hz⟩ := I.tuple hq
    obtain ⟨o, ho, hc, n, hd⟩ := pl
    exact core (.inr rfl) ho hc hd r'
theorem cd_sorted {k : Nat} (hr : Room k X.A) : CallD g X (.builtin "sorted") (liftL dSorted) := calld (call_sortD hr) fun av μ H Q st xs ds d rl rx hm p => by
  unfold dSorted at hm
  split at hm
  · rename_i d0
    obtain ⟨v, rfl, h⟩ := rpl1 rx
    cases e1 : seqItems st d0 with
    | none => rw [e1] at hm; cases hm
    | some es =>
      rw [e1] at hm
      simp only at hm
      split at hm
      · rename_i ok
        cases hm
        obtain ⟨q, ys, rfl, hs, l⟩ := seq_of rl h e1
        exact ⟨q, ys, es, av, μ, rfl, hs, l, ok, fun b zs hb l2 => p.newO rl hb (rp_newL rl hb l2)⟩
      · cases hm
  · cases hm
end
end MM
set_option autoImplicit false
set_option maxRecDepth 100000
set_option maxHeartbeats 4000000
/-! M7: items, slices, stores by place, methods of lists and texts, stars, isinstance, is. -/
namespace MM
open PySem PySem.Spec PyProof.Rows L2 LamX NdefX
section
variable {g : G} {X : Cx} {a b e : Expr} {ma mb : Ev → Mo D} {pos : Pos}
theorem atI_rp {K : PySem.W.Frag} {ca : Str → Addr} {av μ : List Addr} {H : Hp} {xs : List V} {ds : List D} {i : Int} {d : D} (l : RpL K ca av μ H xs ds) (h : atI ds i = some d) : ∃ v, atI xs i = some v ∧ Rp K ca av μ H v d := by
  unfold atI at h ⊢
  rw [l.length]
  cases e : ixN ds.length i with
  | none => rw [e] at h; cases h
  | some j =>
    rw [e] at h
    exact RpL.get l h
def dIx (st : List Ob) (x y : D) : Option D := match x, y with
  | .str z, .int i => if z.length ≤ 1000000 then (atI z.cps.toList i).map fun c => .str ⟨#[c]⟩ else none
  | x, .int i => (seqItems st x).bind fun ds => atI ds i
  | _, _ => none
def mIx : D → D → Mo D := fun x y st => (dIx st x y).map fun d => (d, st)
theorem ev_ix (ha : EV g X a ma) (hb : EV g X b mb) (hs : PlainIx b) : EV g X (.Subscript a b pos) (xBin mIx ma mb) := by
  obtain ⟨ta, pa, sa⟩ := ha.ex
  obtain ⟨tb, pb, sb⟩ := hb.ex
  refine ⟨_, pe_ix ix_seq pa pb hs, semBin (f := binaryOp .Add) (fun av μ H Q st x y dx dy d st' rl rx ry hm p => ?_) sa sb⟩
  unfold mIx at hm
  cases e : dIx st dx dy with
  | none => rw [e] at hm; cases hm
  | some d' =>
    rw [e] at hm
    cases hm
    unfold dIx at e
    split at e
    · split at e
      · rename_i z i hz
        cases rx
        cases ry
        cases e2 : atI z.cps.toList i with
        | none => rw [e2] at e; cases e
        | some c =>
          rw [e2] at e
          cases e
          exact .inr (.inr ⟨_, _, c, rfl, rfl, Nat.le_trans hz line_le, e2, p.here rl (.str _)⟩)
      · cases e
    · rename_i i hne
      cases ry
      cases e2 : seqItems st dx with
      | none => rw [e2] at e; cases e
      | some ds =>
        rw [e2] at e
        obtain ⟨q, ys, rfl, hq, l⟩ := seq_of rl rx e2
        obtain ⟨v, h1, h2⟩ := atI_rp l e
        rcases hq with hq | hq
        · exact .inl ⟨q, ys, i, v, rfl, rfl, hq, h1, p.here rl h2⟩
        · exact .inr (.inl ⟨q, ys, i, v, rfl, rfl, hq, h1, p.here rl h2⟩)
    · cases e
/-! ### slices -/
def SemO (K : PySem.W.Frag) (g : G) (t : TO) (m : Ev → Mo (Option Int)) : Prop := ∀ (av μ : List Addr) (σ : L2.St) (H : Hp) (Q : Option Int → Hp → Prop) (ρ : Ev) (st : List Ob) (o : Option Int) (st' : List Ob),
  Rel K g av μ st H → EnvR K g av μ H σ ρ → m ρ st = some (o, st') → (∀ H' μ', Ext μ μ' H H' → Rel K g av μ' st' H' → Q o H') → t σ H Q
structure OV (g : G) (X : Cx) (e : Option Expr) (m : Ev → Mo (Option Int)) : Prop where
  ex : ∃ t, PO X e t ∧ SemO X.K g t m
def oNone : Ev → Mo (Option Int) := fun _ => Mo.pure none
def oSome (m : Ev → Mo D) : Ev → Mo (Option Int) := fun ρ => (m ρ).bind fun d => match d with
  | .int i => Mo.pure (some i)
  | _ => Mo.fail
theorem ov_none : OV g X none oNone := ⟨_, po_none, fun av μ σ H Q ρ st o st' rl er hm p => by
  obtain ⟨z1, z2⟩ := Mo.pure_some hm
  subst z1 z2
  exact p H μ (Ext.refl _ _) rl⟩
theorem ov_some (h : EV g X e ma) : OV g X (some e) (oSome ma) := by
  obtain ⟨t, p0, s⟩ := h.ex
  refine ⟨_, po_some p0, fun av μ σ H Q ρ st o st' rl er hm p => ?_⟩
  obtain ⟨d, s1, h1, hm⟩ := Mo.bind_some hm
  refine s av μ σ H _ ρ st d s1 rl er h1 fun v H1 μ1 e1 r1 q1 => ?_
  split at hm
  · obtain ⟨z1, z2⟩ := Mo.pure_some hm
    subst z1 z2
    cases q1
    exact ⟨_, rfl, p H1 μ1 e1 r1⟩
  · cases hm
def cutD (xs : List D) (lo hi : Option Int) : List D := (xs.drop (HT.sIx xs.length 0 lo)).take (HT.sIx xs.length xs.length hi - HT.sIx xs.length 0 lo)
theorem cut_rp {K : PySem.W.Frag} {ca : Str → Addr} {av μ : List Addr} {H : Hp} {xs : List V} {ds : List D} {lo hi : Option Int} (l : RpL K ca av μ H xs ds) : RpL K ca av μ H (cutV xs lo hi) (cutD ds lo hi) := by
  unfold cutV cutD
  rw [l.length]
  exact RpL.take _ (RpL.drop _ l)
def dSlice (st : List Ob) (x : D) (lo hi : Option Int) : Option D := match x with
  | .str z => if z.length ≤ 1000000 then some (.str (cutS z lo hi)) else none
  | .tup ds => some (.tup (cutD ds lo hi))
  | x => (lstItems st x).map fun ds => .lst (cutD ds lo hi)
def xSlice (m : Ev → Mo D) (ml mh : Ev → Mo (Option Int)) : Ev → Mo D := fun ρ => (m ρ).bind fun x => (ml ρ).bind fun lo => (mh ρ).bind fun hi st => (dSlice st x lo hi).map fun d => (d, st)
theorem cut_whole {ds : List D} {lo hi : Option Int} (h : HT.sIx ds.length 0 lo = 0 ∧ HT.sIx ds.length ds.length hi = ds.length) : cutD ds lo hi = ds := by
  unfold cutD
  rw [h.1, h.2, List.drop_zero, Nat.sub_zero, List.take_length]
theorem ev_slice {lo hi : Option Expr} {p2 : Pos} {ml mh : Ev → Mo (Option Int)} (ha : EV g X a ma) (hl : OV g X lo ml) (hh : OV g X hi mh) : EV g X (.Subscript a (.Slice lo hi none p2) pos) (xSlice ma ml mh) := by
  obtain ⟨ta, pa, sa⟩ := ha.ex
  obtain ⟨tl, pl, sl⟩ := hl.ex
  obtain ⟨th, ph, sh⟩ := hh.ex
  refine ⟨_, pe_slice (SlR.or sl_list (SlR.or sl_tupA sl_str)) pa pl ph, fun av μ σ H Q ρ st d st' rl er hm p => ?_⟩
  obtain ⟨x, s1, h1, hm⟩ := Mo.bind_some hm
  obtain ⟨lo', s2, h2, hm⟩ := Mo.bind_some hm
  obtain ⟨hi', s3, h3, hm⟩ := Mo.bind_some hm
  refine sa av μ σ H _ ρ st x s1 rl er h1 fun v H1 μ1 e1 r1 q1 => ?_
  refine sl av μ1 σ H1 _ ρ s1 lo' s2 r1 (er.mono e1) h2 fun H2 μ2 e2 r2 => ?_
  refine sh av μ2 σ H2 _ ρ s2 hi' s3 r2 (er.mono (e1.trans e2)) h3 fun H3 μ3 e3 r3 => ?_
  have q3 := q1.mono (e2.trans e3)
  have p3 := p.mono ((e1.trans e2).trans e3)
  cases e : dSlice s3 x lo' hi' with
  | none => rw [e] at hm; cases hm
  | some d' =>
    rw [e] at hm
    cases hm
    unfold dSlice at e
    split at e
    · split at e
      · rename_i z hz
        cases e
        cases q3
        exact .inr (.inr ⟨_, rfl, Nat.le_trans hz line_le, p3.here r3 (.str _)⟩)
      · cases e
    · cases e
      cases q3 with
      | tup hq l =>
        refine .inr (.inl ⟨_, _, rfl, hq, fun hw => ?_, fun hw q hq2 => p3.newO r3 hq2 (rp_newT r3 hq2 (cut_rp l))⟩)
        rw [l.length] at hw
        rw [cut_whole hw] at p3
        exact p3.here r3 (.tup hq l)
    · cases e2 : lstItems st' x with
      | none => rw [e2] at e; cases e
      | some ds =>
        rw [e2] at e
        obtain ⟨q, ys, rfl, hq, l⟩ := lst_of r3 q3 e2
        cases e
        exact .inl ⟨q, ys, rfl, hq, fun z hz => p3.newO r3 hz (rp_newL r3 hz (cut_rp l))⟩
/-! ### o[i] = v, o a list of the store -/
def setLoc (o i v : D) : Mo Unit := fun st => match o, i with
  | .loc n, .int k => (match st[n]? with
    | some (.lst ds) => (ixN ds.length k).map fun j => ((), st.set n (.lst (ds.set j v)))
    | _ => none)
  | _, _ => none
def zSub (mo mi : Ev → Mo D) : Ev → D → Mo Ev := fun ρ v => (mo ρ).bind fun o => (mi ρ).bind fun i => (setLoc o i v).bind fun _ => Mo.pure ρ
theorem gv_sub (ha : EV g X a ma) (hb : EV g X b mb) (he : ∀ v, assign (.Subscript a b pos) X.env v = (do
      let ov ← holding [v] (eval a X.env)
      let iv ← holding [v, ov] (eval b X.env)
      standAt pos
      holding [v, ov, iv] (setItem ov iv v)
      release [v, ov, iv] []) := by intro _; rfl) : GV g X (.Subscript a b pos) [] (zSub ma mb) := by
  obtain ⟨ta, pa, sa⟩ := ha.ex
  obtain ⟨tb, pb, sb⟩ := hb.ex
  refine ⟨_, pg_sub pa pb set_list he, fun av μ σ H Q ρ st v d ρ' st' rl er rp hm q => ?_⟩
  obtain ⟨o, s1, h1, hm⟩ := Mo.bind_some hm
  obtain ⟨i, s2, h2, hm⟩ := Mo.bind_some hm
  obtain ⟨u, s3, h3, hm⟩ := Mo.bind_some hm
  obtain ⟨z1, z2⟩ := Mo.pure_some hm
  subst z1 z2
  refine sa av μ σ H _ ρ' st o s1 rl er h1 fun vo H1 μ1 e1 r1 q1 => ?_
  refine sb av μ1 σ H1 _ ρ' s1 i s2 r1 (er.mono e1) h2 fun vi H2 μ2 e2 r2 q2 => ?_
  unfold setLoc at h3
  split at h3
  · rename_i n k hm0
    split at h3
    · rename_i ds hds
      cases e : ixN ds.length k with
      | none => rw [e] at h3; cases h3
      | some j =>
        rw [e] at h3
        cases h3
        cases q2
        cases q1.mono e2 with
        | loc hn =>
          cases r2.obs n _ _ hn hds with
          | lst hH l =>
            refine ⟨_, _, k, j, rfl, rfl, hH, by rw [l.length]; exact e, ?_⟩
            refine q σ _ μ2 ((e1.trans e2).trans (Ext.write r2 hn)) (r2.write hn (.lst upd_same (RpL.set (Rp.mono (Ext.write r2 hn) (Rp.mono (e1.trans e2) rp)) j (RpL.mono (Ext.write r2 hn) l)))) (er.mono ((e1.trans e2).trans (Ext.write r2 hn))) fun vs hv => rfl
    · cases h3
  · cases h3
/-! ### methods -/
def tyD (T : String) (st : List Ob) (d : D) : Bool := match d with
  | .str _ => decide (T = "str")
  | d => decide (T = "list") && (lstItems st d).isSome
def xMt (T : String) (md : D → List D → Mo D) (mo : Ev → Mo D) (ml : Ev → Mo (List D)) : Ev → Mo D := fun ρ => (mo ρ).bind fun x st => if tyD T st x = true then ((ml ρ).bind fun ds => md x ds) st else none
theorem ty_of {K : PySem.W.Frag} {av μ : List Addr} {st : List Ob} {H : Hp} {v : V} {d : D} {T : String} (r : Rel K g av μ st H) (h : Rp K g.ca av μ H v d) (t : tyD T st d = true) : tyV K T v H := by
  unfold tyD at t
  split at t
  · cases h
    exact show T = "str" from of_decide_eq_true t
  · rw [Bool.and_eq_true] at t
    obtain ⟨t1, t2⟩ := t
    cases e : lstItems st d with
    | none => rw [e] at t2; cases t2
    | some ds =>
      obtain ⟨p, xs, rfl, hs, _⟩ := lst_of r h e
      exact .inl ⟨of_decide_eq_true t1, xs, hs⟩
variable {o : Expr} {es : List Expr} {mo : Ev → Mo D} {ml : Ev → Mo (List D)} {name : Str} {apos cpos : Pos} {T bid : String} {md : D → List D → Mo D}
theorem ev_bm (pa : PlainAttrs T) (slot : Slot T name bid) (hty : typeOf (.builtin bid) = pure (.type "method_descriptor")) (hm : MtD g X bid T md) (ho : EV g X o mo) (ha : AV g X (e :: es) ml)
    (hbase : attributeBase o name X.env (eval o X.env) = eval o X.env := by rfl)
    (hfew : ((backTo cpos (starEach (e :: es) X.env)).all (fun x => !x.1) && (backToKw cpos (keywordEach [] X.env)).all (fun x => x.1.isSome)
      && decide ((e :: es).length + ([] : List Keyword).length + (if ([] : List Keyword).isEmpty then 0 else 1) < 30)) = true := by rfl)
    (hline : (apos.endLine == cpos.line) = true := by rfl) (hs : starEach (e :: es) X.env = (false, eval e X.env) :: starEach es X.env := by rfl) (hplain : (backTo cpos (starEach es X.env)).any (·.1) = false := by rfl) :
    EV g X (.Call (.Attribute o name apos) (e :: es) [] cpos) (xMt T md mo ml) := by
  obtain ⟨r, m0, s0⟩ := hm
  obtain ⟨to, po, so⟩ := ho.ex
  obtain ⟨ta, pa', sa⟩ := ha.ex
  refine ⟨_, pe_bm pa slot hty m0 po pa' hbase hfew hline hs hplain, fun av μ σ H Q ρ st d st' rl er hm p => ?_⟩
  obtain ⟨x, s1, h1, hm⟩ := Mo.bind_some hm
  split at hm
  · rename_i ty
    obtain ⟨ds, s2, h2, hm⟩ := Mo.bind_some hm
    refine so av μ σ H _ ρ st x s1 rl er h1 fun v H1 μ1 e1 r1 q1 => ⟨ty_of r1 q1 ty, ?_⟩
    exact sa av μ1 σ H1 _ ρ s1 ds s2 r1 (er.mono e1) h2 fun vs H2 μ2 e2 r2 q2 => s0 av μ2 H2 Q s2 v vs x ds d st' r2 (q1.mono e2) q2 hm (p.mono (e1.trans e2))
  · cases hm
theorem ev_bm0 (pa : PlainAttrs T) (slot : Slot T name bid) (hty : typeOf (.builtin bid) = pure (.type "method_descriptor")) (hm : MtD g X bid T md) (ho : EV g X o mo)
    (hbase : attributeBase o name X.env (eval o X.env) = eval o X.env := by rfl) (hline : (apos.endLine == cpos.line) = true := by rfl) : EV g X (.Call (.Attribute o name apos) [] [] cpos) (xMt T md mo xNil) := by
  obtain ⟨r, m0, s0⟩ := hm
  obtain ⟨to, po, so⟩ := ho.ex
  refine ⟨_, pe_bm0 pa slot hty m0 po hbase hline, fun av μ σ H Q ρ st d st' rl er hm p => ?_⟩
  obtain ⟨x, s1, h1, hm⟩ := Mo.bind_some hm
  split at hm
  · rename_i ty
    obtain ⟨ds, s2, h2, hm⟩ := Mo.bind_some hm
    obtain ⟨z1, z2⟩ := Mo.pure_some h2
    subst z1 z2
    exact so av μ σ H _ ρ st x _ rl er h1 fun v H1 μ1 e1 r1 q1 => ⟨ty_of r1 q1 ty, s0 av μ1 H1 Q _ v [] x [] d st' r1 q1 .nil hm (p.mono e1)⟩
  · cases hm
def mAppend : D → List D → Mo D := fun x ds st => match x, ds with
  | .loc n, [y] => (match st[n]? with
    | some (.lst es) => if es.length ≤ 1000000 then some (.non, st.set n (.lst (es ++ [y]))) else none
    | _ => none)
  | _, _ => none
theorem md_append : MtD g X "list.append" "list" mAppend := ⟨_, mt_append, fun av μ H Q st x xs dx ds d st' rl rx rl2 hm p => by
  unfold mAppend at hm
  split at hm
  · rename_i n y
    split at hm
    · rename_i es hes
      split at hm
      · rename_i hlen
        cases hm
        obtain ⟨w, rfl, hw⟩ := rpl1 rl2
        cases rx with
        | loc hn =>
          cases rl.obs n _ _ hn hes with
          | lst hH l =>
            refine ⟨_, _, w, rfl, rfl, hH, by rw [l.length, sizeLine_eq]; omega, ?_⟩
            exact p _ _ μ (Ext.write rl hn) (rl.write hn (.lst upd_same (RpL.mono (Ext.write rl hn) (RpL.append l (.cons hw .nil))))) .non
      · cases hm
    · cases hm
  · cases hm⟩
def mPop0 : D → List D → Mo D := fun x ds st => match x, ds with
  | .loc n, [] => (match st[n]? with
    | some (.lst es) => (es[es.length - 1]?).map fun y => (y, st.set n (.lst es.dropLast))
    | _ => none)
  | _, _ => none
theorem md_pop0 : MtD g X "list.pop" "list" mPop0 := ⟨_, mt_pop, fun av μ H Q st x xs dx ds d st' rl rx rl2 hm p => by
  unfold mPop0 at hm
  split at hm
  · rename_i n
    split at hm
    · rename_i es hes
      cases e : es[es.length - 1]? with
      | none => rw [e] at hm; cases hm
      | some y =>
        rw [e] at hm
        cases hm
        cases rl2
        cases rx with
        | loc hn =>
          cases rl.obs n _ _ hn hes with
          | lst hH l =>
            obtain ⟨w, h1, h2⟩ := RpL.get l e
            refine ⟨_, _, w, rfl, rfl, hH, by rw [l.length]; exact h1, ?_⟩
            exact p _ _ μ (Ext.write rl hn) (rl.write hn (.lst upd_same (RpL.mono (Ext.write rl hn) (RpL.dropLast l)))) (Rp.mono (Ext.write rl hn) h2)
    · cases hm
  · cases hm⟩
def mPopAt : D → List D → Mo D := fun x ds st => match x, ds with
  | .loc n, [.int i] => (match st[n]? with
    | some (.lst es) => if 0 ≤ i ∧ i < 1000000 then (es[i.toNat]?).map fun y => (y, st.set n (.lst (es.eraseIdx i.toNat))) else none
    | _ => none)
  | _, _ => none
theorem md_popAt : MtD g X "list.pop" "list" mPopAt := ⟨_, mt_popAt, fun av μ H Q st x xs dx ds d st' rl rx rl2 hm p => by
  unfold mPopAt at hm
  split at hm
  · rename_i n i
    split at hm
    · rename_i es hes
      split at hm
      · rename_i hi
        cases e : es[i.toNat]? with
        | none => rw [e] at hm; cases hm
        | some y =>
          rw [e] at hm
          cases hm
          obtain ⟨w, rfl, hw⟩ := rpl1 rl2
          cases hw
          cases rx with
          | loc hn =>
            cases rl.obs n _ _ hn hes with
            | lst hH l =>
              obtain ⟨w, h1, h2⟩ := RpL.get l e
              have hk : i.toNat < es.length := (List.getElem?_eq_some_iff.mp e).1
              refine ⟨_, _, i, i.toNat, w, rfl, rfl, hH, by omega, by omega, ?_, h1, ?_⟩
              · have hx : ixN es.length i = some i.toNat := by
                  unfold ixN
                  rw [if_pos hi.1, if_pos (by omega)]
                rw [l.length]
                exact (ixN_seq hx).1
              · exact p _ _ μ (Ext.write rl hn) (rl.write hn (.lst upd_same (RpL.mono (Ext.write rl hn) (RpL.eraseIdx _ l)))) (Rp.mono (Ext.write rl hn) h2)
      · cases hm
    · cases hm
  · cases hm⟩
def mSplit : D → List D → Mo D := fun x ds st => match x, ds with
  | .str a, [.str b] => if (b.length == 0) = false ∧ a.length ≤ 1000000 then some (.lst ((Txt.split a b).map .str), st) else none
  | _, _ => none
theorem rpl_strs {K : PySem.W.Frag} {ca : Str → Addr} {av μ : List Addr} {H : Hp} : ∀ xs : List Str, RpL K ca av μ H (xs.map V.str) (xs.map D.str)
  | [] => .nil
  | x :: xs => .cons (.str x) (rpl_strs xs)
theorem md_split : MtD g X "str.split" "str" mSplit := ⟨_, mt_split, fun av μ H Q st x xs dx ds d st' rl rx rl2 hm p => by
  unfold mSplit at hm
  split at hm
  · split at hm
    · rename_i h
      cases hm
      obtain ⟨w, rfl, hw⟩ := rpl1 rl2
      cases hw
      cases rx
      exact ⟨_, _, rfl, rfl, h.1, by have := h.2; rw [sizeLine_eq]; omega, fun q hq => p.newO rl hq (rp_newL rl hq (rpl_strs _))⟩
    · cases hm
  · cases hm⟩
/-! ### a star in a display -/
def xStar (m : Ev → Mo D) (mr : Ev → Mo (List D)) : Ev → Mo (List D) := fun ρ => (m ρ).bind fun x st => match seqItems st x with
  | some ds => ((mr ρ).bind fun xs => Mo.pure (ds ++ xs)) st
  | none => none
theorem av_star {sp : Pos} (ha : EV g X e mo) (hb : AV g X es ml) (hs : starEach (.Starred e sp :: es) X.env = (true, eval e X.env) :: starEach es X.env := by rfl) : AV g X (.Starred e sp :: es) (xStar mo ml) := by
  obtain ⟨ta, pa, sa⟩ := ha.ex
  obtain ⟨tb, pb, sb⟩ := hb.ex
  refine ⟨_, StX.pa_star pa pb hs, fun av μ σ H Q ρ st d st' rl er hm p => ?_⟩
  obtain ⟨x, s1, h1, hm⟩ := Mo.bind_some hm
  cases e2 : seqItems s1 x with
  | none => rw [e2] at hm; cases hm
  | some ds =>
    rw [e2] at hm
    obtain ⟨xs, s2, h2, hm⟩ := Mo.bind_some hm
    obtain ⟨z1, z2⟩ := Mo.pure_some hm
    subst z1 z2
    refine sa av μ σ H _ ρ st x s1 rl er h1 fun v H1 μ1 e1 r1 q1 => ?_
    obtain ⟨q, ys, rfl, hq, l⟩ := seq_of r1 q1 e2
    refine ⟨q, ys, rfl, hq.symm, ?_⟩
    exact sb av μ1 σ H1 _ ρ s1 xs _ r1 (er.mono e1) h2 fun vs H2 μ2 e2 r2 q2 => p _ H2 μ2 (e1.trans e2) r2 (RpL.append (RpL.mono e2 l) q2)
end
end MM
set_option autoImplicit false
set_option maxRecDepth 100000
set_option maxHeartbeats 4000000
/-! M8: is, isinstance. -/
namespace MM
open PySem PySem.Spec PyProof.Rows L2 LamX NdefX
section
variable {g : G} {X : Cx}
def dIsN : D → D → Option D
  | .non, .non => some (.bl true)
  | _, .non => some (.bl false)
  | _, _ => none
def dIsB : D → D → Option D
  | .bl a, .bl b => some (.bl (decide (a = b)))
  | _, _ => none
def dIs2 : D → D → Option D
  | .bl a, .bl b => some (.bl (decide (a = b)))
  | .non, .non => some (.bl true)
  | _, .non => some (.bl false)
  | _, _ => none
abbrev mIs : D → D → Mo D := lift2 dIs2
theorem od_isB : OpD g X (compareOp .Is) (lift2 dIsB) := opd_lift op_is_bl fun av μ H Q st x y dx dy d rl rx ry hm p => by
    unfold dIsB at hm
    split at hm
    · cases hm
      cases rx
      cases ry
      exact ⟨_, _, rfl, rfl, p.here rl (.bl _)⟩
    · cases hm
theorem dIsN_ne {x : D} (h : x ≠ .non) : dIsN x .non = some (.bl false) := by
  cases x <;> first | rfl | exact absurd rfl h
theorem od_isN : OpD g X (compareOp .Is) (lift2 dIsN) := opd_lift op_isN fun av μ H Q st x y dx dy d rl rx ry hm p => by
    have hd := non_of rx
    unfold dIsN at hm
    split at hm
    · cases hm
      cases rx
      cases ry
      exact ⟨rfl, p.here rl (.bl _)⟩
    · cases hm
      cases ry
      refine ⟨rfl, ?_⟩
      rename_i hne
      have e : decide (x = .non) = false := by
        rw [hd]
        cases dx <;> first | rfl | exact absurd rfl (fun h => hne h)
      rw [e]
      exact p.here rl (.bl _)
    · cases hm
theorem or_is (x y d : D) (h : dIs2 x y = some d) : dIsB x y = some d ∨ dIsN x y = some d := by
  unfold dIs2 at h
  split at h
  · exact .inl h
  · exact .inr h
  · cases h
    rename_i hne
    exact .inr (dIsN_ne fun h => hne h)
  · cases h
theorem od_is : OpD g X (compareOp .Is) mIs := .or od_isB od_isN (or_lift or_is)
end
/-! ### isinstance -/
def tyNm (st : List Ob) : D → Option String
  | .non => some "NoneType"
  | .bl _ => some "bool"
  | .int _ => some "int"
  | .str _ => some "str"
  | .tup _ => some "tuple"
  | .lst _ => some "list"
  | .ro _ => some "list"
  | .dct _ _ => some "dict"
  | .loc n => (match st[n]? with
    | some (.lst _) => some "list"
    | some (.dK _ _) => some "dict"
    | _ => none)
  | _ => none
theorem tyX_of {K : PySem.W.Frag} {g : G} {av μ : List Addr} {st : List Ob} {H : Hp} {v : V} {d : D} {n : String} (r : Rel K g av μ st H) (h : Rp K g.ca av μ H v d) (e : tyNm st d = some n) : TyX K H v (.type n) := by
  cases h with
  | non => cases e; exact .base .non
  | bl b => cases e; exact .base (.bl b)
  | int i => cases e; exact .base (.int i)
  | str x => cases e; exact .base (.str x)
  | tup h l =>
    cases e
    rcases h with (h | ⟨o, h⟩) | ⟨o, its, k, h1, h2, _⟩
    · exact .base (.tup h)
    · exact .fTuple h
    · exact .kTuple h1 h2
  | lst h _ _ _ => cases e; exact .base (.lst h)
  | ro h _ =>
    cases e
    rcases h with ⟨o, h⟩ | (h | ⟨_, h⟩) | ⟨o, its, k, h1, h2, _⟩
    · exact .base (.frz h)
    · cases h
    · cases h
    · exact .kList h1 h2
  | ins h _ _ _ => cases e
  | dct h _ _ _ => cases e; exact .base (.dK h)
  | @loc n a hn =>
    cases e1 : st[n]? with
    | none => simp only [tyNm, e1] at e; cases e
    | some ob =>
      have ho := r.obs n a ob hn e1
      cases ob with
      | lst ds => simp only [tyNm, e1] at e; cases e; cases ho with | lst hH _ => exact .base (.lst hH)
      | dK ks ds => simp only [tyNm, e1] at e; cases e; cases ho with | dK hH _ => exact .base (.dK hH)
      | ins _ _ _ => simp only [tyNm, e1] at e; cases e
  | ty _ => cases e
  | cls _ => cases e
end MM
set_option autoImplicit false
set_option maxRecDepth 100000
set_option maxHeartbeats 4000000
/-! M9: isinstance. -/
namespace MM
open PySem PySem.Spec PyProof.Rows L2 LamX NdefX
/-- what isinstance asks of an own class's instances -/
structure InF (K : PySem.W.Frag) (C : Addr) : Prop where
  cl : Cls K C
  ha : PySem.W.findIn K (.ref C) "__class__" = some (some (.builtin "object.__class__"))
  hn : PySem.W.specialIn K (.builtin "object.__class__") "__get__" = some (some (.builtin "getset_descriptor.__get__"))
  htk : PySem.W.takesIn K (.builtin "object.__class__") = some true
  hm : PySem.W.mroIn K C (.type "object") = some true
def insCls (st : List Ob) : D → Option Str
  | .ins c _ _ => some c
  | .loc n => (match st[n]? with
    | some (.ins c _ _) => some c
    | _ => none)
  | _ => none
theorem insX_of {K : PySem.W.Frag} {g : G} {av μ : List Addr} {st : List Ob} {H : Hp} {v : V} {d : D} {c : Str} (r : Rel K g av μ st H) (h : Rp K g.ca av μ H v d) (e : insCls st d = some c) (F : InF K (g.ca c)) : TyX K H v (.ref (g.ca c)) := by
  cases h with
  | ins h _ _ _ => cases e; exact .base (.ins h F.cl F.ha F.hn F.htk F.hm)
  | @loc n a hn =>
    cases e1 : st[n]? with
    | none => simp only [insCls, e1] at e; cases e
    | some ob =>
      have ho := r.obs n a ob hn e1
      cases ob with
      | ins c' ns ds => simp only [insCls, e1] at e; cases e; cases ho with | ins hH _ => exact .base (.ins hH F.cl F.ha F.hn F.htk F.hm)
      | _ => simp only [insCls, e1] at e; cases e
  | _ => cases e
/-- the answers: tb says what is known of an own class's instances, nb which own classes kit values are never of -/
def dIsi (tb : Str → D → Option Bool) (nb : Str → Bool) (st : List Ob) : List D → Option D
  | [x, c] => (match tyNm st x with
    | some n => (match c with
      | .ty t => (kitB n t).map .bl
      | .cls c => if nb c = true then some (.bl false) else none
      | _ => none)
    | none => (insCls st x).bind fun k => (tb k c).map .bl)
  | _ => none
/-- tb and nb are right -/
structure IsiT (K : PySem.W.Frag) (g : G) (tb : Str → D → Option Bool) (nb : Str → Bool) : Prop where
  inf : ∀ k c b, tb k c = some b → InF K (g.ca k)
  ty : ∀ k t b, tb k (.ty t) = some b → PySem.W.kitOne K (.ref (g.ca k)) (.type t) = some b
  cls : ∀ k c b, tb k (.cls c) = some b → PySem.W.kitOne K (.ref (g.ca k)) (.ref (g.ca c)) = some b
  bi : ∀ n c, nb c = true → (n = "NoneType" ∨ n = "bool" ∨ n = "int" ∨ n = "str" ∨ n = "tuple" ∨ n = "list" ∨ n = "dict") → PySem.W.kitOne K (.type n) (.ref (g.ca c)) = some false
  only : ∀ k t b, tb k t = some b → (∃ n, t = .ty n) ∨ ∃ c, t = .cls c
theorem tyNm_mem {st : List Ob} {d : D} {n : String} (e : tyNm st d = some n) : n = "NoneType" ∨ n = "bool" ∨ n = "int" ∨ n = "str" ∨ n = "tuple" ∨ n = "list" ∨ n = "dict" := by
  cases d with
  | loc k =>
    cases e1 : st[k]? with
    | none => simp only [tyNm, e1] at e; cases e
    | some ob => cases ob <;> (simp only [tyNm, e1] at e; cases e) <;> simp
  | _ => cases e <;> simp
theorem cd_isi {g : G} {X : Cx} {tb : Str → D → Option Bool} {nb : Str → Bool} (I : IsiT X.K g tb nb) : CallD g X (.builtin "isinstance") (liftL (dIsi tb nb)) := calld call_isi fun av μ H Q st xs ds d rl rx hm p => by
  unfold dIsi at hm
  split at hm
  · rename_i x c
    obtain ⟨v, w, rfl, h1, h2⟩ := rpl2 rx
    cases e1 : tyNm st x with
    | some n =>
      simp only [e1] at hm
      split at hm
      · rename_i t
        cases e2 : kitB n t with
        | none => rw [e2] at hm; cases hm
        | some b =>
          rw [e2] at hm
          cases hm
          cases h2
          exact ⟨v, _, _, _, b, rfl, .ty t, tyX_of rl h1 e1, kit_ty e2, p.here rl (.bl _)⟩
      · rename_i c
        split at hm
        · rename_i e2
          cases hm
          cases h2
          exact ⟨v, _, _, _, false, rfl, .own _, tyX_of rl h1 e1, I.bi n c e2 (tyNm_mem e1), p.here rl (.bl _)⟩
        · cases hm
      · cases hm
    | none =>
      simp only [e1] at hm
      cases e2 : insCls st x with
      | none => rw [e2] at hm; cases hm
      | some k =>
        rw [e2] at hm
        cases e3 : tb k c with
        | none => simp [e3] at hm
        | some b =>
          simp [e3] at hm
          subst hm
          have F := I.inf k c b e3
          rcases I.only k c b e3 with ⟨n, rfl⟩ | ⟨c', rfl⟩
          · cases h2
            exact ⟨v, _, _, _, b, rfl, .ty n, insX_of rl h1 e2 F, I.ty k n b e3, p.here rl (.bl _)⟩
          · cases h2
            exact ⟨v, _, _, _, b, rfl, .own _, insX_of rl h1 e2 F, I.cls k c' b e3, p.here rl (.bl _)⟩
  · cases hm
end MM
set_option autoImplicit false
set_option maxRecDepth 100000
set_option maxHeartbeats 4000000
/-! M10: own functions: what a def promises, calls. -/
namespace MM
open PySem PySem.Spec PyProof.Rows L2 LamX NdefX
/-- arguments, closures among them -/
inductive RpAs (K : PySem.W.Frag) (g : G) (av μ : List Addr) (H : Hp) : List V → List A → Prop
  | nil : RpAs K g av μ H [] []
  | cons {v : V} {vs : List V} {x : A} {xs : List A} : RpA K g av μ H v x → RpAs K g av μ H vs xs → RpAs K g av μ H (v :: vs) (x :: xs)
section
variable {K : PySem.W.Frag} {g : G} {av μ : List Addr} {H : Hp}
theorem RpAs.length {vs : List V} {xs : List A} (h : RpAs K g av μ H vs xs) : vs.length = xs.length := by
  induction h with
  | nil => rfl
  | cons _ _ ih => rw [List.length_cons, List.length_cons, ih]
theorem RpAs.of : ∀ {vs : List V} {ds : List D}, RpL K g.ca av μ H vs ds → RpAs K g av μ H vs (ds.map .d)
  | _, _, .nil => .nil
  | _, _, .cons a b => .cons (show RpA K g av μ H _ (.d _) from a) (RpAs.of b)
theorem RpAs.append {vs ws : List V} {xs ys : List A} (h : RpAs K g av μ H vs xs) (t : RpAs K g av μ H ws ys) : RpAs K g av μ H (vs ++ ws) (xs ++ ys) := by
  induction h with
  | nil => exact t
  | cons a _ ih => exact .cons a ih
theorem RpAs.get {vs : List V} {xs : List A} (h : RpAs K g av μ H vs xs) : ∀ {i : Nat} {x : A}, xs[i]? = some x → ∃ v, vs[i]? = some v ∧ RpA K g av μ H v x := by
  induction h with
  | nil => intro i x e; simp at e
  | cons a _ ih =>
    intro i x e
    cases i with
    | zero => simp at e; subst e; exact ⟨_, rfl, a⟩
    | succ i => obtain ⟨v, h1, h2⟩ := ih (i := i) (by simpa using e); exact ⟨v, by simpa using h1, h2⟩
def startE (n : Nat) (as : List A) : Ev := as.map some ++ List.replicate (n - as.length) none
theorem startE_ok {N : List Str} {vs : List V} {as : List A} (h : RpAs K g av μ H vs as) : EnvR K g av μ H (L2.start N vs) (startE N.length as) := by
  have hl := h.length
  refine ⟨by simp [L2.start, startE, hl], fun i x e => ?_⟩
  unfold startE at e
  unfold L2.start
  by_cases hi : i < as.length
  · rw [List.getElem?_append_left (by simpa using hi), List.getElem?_map] at e
    cases e2 : as[i]? with
    | none => rw [e2] at e; cases e
    | some y =>
      rw [e2] at e
      cases e
      obtain ⟨v, h1, h2⟩ := h.get e2
      exact ⟨v, by rw [List.getElem?_append_left (by simpa [hl] using hi), List.getElem?_map, h1]; rfl, h2⟩
  · rw [List.getElem?_append_right (by simpa using Nat.le_of_not_lt hi)] at e
    have := List.mem_of_getElem? e
    simp at this
end
/-- what a body's end is to the caller -/
def endD : Out → Mo D
  | .rt d => Mo.pure d
  | .nx _ => Mo.pure .non
  | _ => Mo.fail
def runF (n : Nat) (m : Ev → Mo Out) : List A → Mo D := fun as => (m (startE n as)).bind endD
/-- the promise of a def whose calls answer as md says -/
def SpG (K : PySem.W.Frag) (g : G) (n : Nat) (md : List A → Mo D) : Sp := fun vs H Q _ => vs.length = n ∧ ∃ av μ st as d st', Rel K g av μ st H ∧ RpAs K g av μ H vs as ∧ md as st = some (d, st') ∧ Post K g av μ H d st' Q
section
variable {P : Program} {w : World} {K : PySem.W.Frag} {mg : Str → Option Value} {base : Heap} {g : G}
theorem body_ok {X : Cx} {body : List Stmt} {m : Ev → Mo Out} {vs : List V} {H : Hp} {Q : VK} {as : List A} {d : D} {av μ : List Addr} {st st' : List Ob} {N : List Str} (hb : BV g X body m) (rl : Rel X.K g av μ st H) (ra : RpAs X.K g av μ H vs as) (hm : runF N.length m as st = some (d, st')) (p : Post X.K g av μ H d st' Q) :
    ∃ t, PSs X body t ∧ t { nx := fun _ H' => Q .non H', rt := Q } (L2.start N vs) H := by
  obtain ⟨t, pt, s⟩ := hb.ex
  refine ⟨t, pt, ?_⟩
  obtain ⟨o, s1, h1, hm⟩ := Mo.bind_some hm
  refine s av μ _ H _ _ st o s1 rl (startE_ok ra) h1 ?_
  cases o with
  | rt d' =>
    obtain ⟨z1, z2⟩ := Mo.pure_some hm
    subst z1 z2
    exact fun v H' μ' x r q => p v H' μ' x r q
  | nx ρ' =>
    obtain ⟨z1, z2⟩ := Mo.pure_some hm
    subst z1 z2
    exact fun σ' H' μ' x r q => p _ H' μ' x r .non
  | bk _ => cases hm
  | ct _ => cases hm
/-- a def by its body -/
theorem fn_ok {x qual : Str} {params : Arguments} {body : List Stmt} {scope : Scope} {dvs : List V} {kws : List (Str × V)} {f : Addr} {fd : FuncData} {N ps : List Str} {k : Nat} {m : Ev → Mo Out}
    (F : FunD K x qual params body scope dvs kws f fd) (S : FnScope N ps scope)
    (hb : ∀ (cdv : Value) (A : Around) (outer : List Env) (s : Shared) (H : Hp) (E : XK), Room k (A.deeper (envOfC qual scope s.heap.objs.size f cdv)) → BV g (cxOf C8.CX0 P w K mg base N qual scope f cdv A outer s H E) body m) :
    FnOk P w K mg base C8.CX0 (k + 1) f fd ps (SpG K g ps.length (runF N.length m)) :=
  FunD.ok F S (fun vs H Q E h => h.1) fun cdv A outer s H vs Q E hr h => by
    obtain ⟨_, av, μ, st, as, d, st', rl, ra, hm, p⟩ := h
    exact body_ok (hb cdv A outer s H E hr) rl ra hm p
/-- a def that may be called by its name -/
structure Cal (P : Program) (w : World) (K : PySem.W.Frag) (mg : Str → Option Value) (base : Heap) (g : G) (k : Nat) (x : Str) (n : Nat) (md : List A → Mo D) : Prop where
  ex : ∃ (f : Addr) (fd : FuncData) (ps : List Str), FnOk P w K mg base C8.CX0 k f fd ps (SpG K g n md) ∧ mg x = some (.ref f) ∧ PySem.W.keepIn K (.ref f) = true ∧ Binds K fd ps []
theorem cal_of {x : Str} {params : Arguments} {body : List Stmt} {scope : Scope} {f : Addr} {fd : FuncData} {N ps : List Str} {k n : Nat} {m : Ev → Mo Out}
    (F : FunD K x x params body scope [] [] f fd) (hm : mg x = some (.ref f)) (hs : C8.scC N ps scope = true) (hn : ps.length = n)
    (hbd : ∀ (kV doc pm : Value) (an : Option Addr) (cdv ct : Value) (us : List Value), us.length = ps.length → bindArgs (PySem.W.fnOf x x params body scope .none kV doc pm an cdv ct) ⟨us, []⟩ = pure (ps.zip us))
    (hb : ∀ (cdv : Value) (A : Around) (outer : List Env) (s : Shared) (H : Hp) (E : XK), Room k (A.deeper (envOfC x scope s.heap.objs.size f cdv)) → BV g (cxOf C8.CX0 P w K mg base N x scope f cdv A outer s H E) body m) :
    Cal P w K mg base g (k + 1) x n (runF N.length m) := by
  subst hn
  exact ⟨f, fd, ps, fn_ok F (C8.fnScope_by hs) hb, hm, F.kp, F.bindsN hbd⟩
end
section
variable {g : G} {X : Cx} {k j n : Nat} {x : Str} {md : List A → Mo D} {p pos : Pos} {e : Expr} {es : List Expr} {ml : Ev → Mo (List D)}
/-- a call whose arguments are data -/
def xFn (n : Nat) (md : List A → Mo D) (ml : Ev → Mo (List D)) : Ev → Mo D := fun ρ => (ml ρ).bind fun ds => if ds.length = n then md (ds.map .d) else Mo.fail
theorem ev_call (c : Cal X.prog X.w X.K X.mg X.base g k x n md) (hr : Room j X.A) (hk : k ≤ j) (hg : Gl X x) (ha : AV g X (e :: es) ml)
    (hdb : (x == ("__debug__" : Str)) = false := by decide) (he : starEach (e :: es) X.env = (false, eval e X.env) :: starEach es X.env := by rfl) (hpl : (backTo pos (starEach es X.env)).any (·.1) = false := by rfl) :
    EV g X (.Call (.Name x p) (e :: es) [] pos) (xFn n md ml) := by
  obtain ⟨f, fd, ps, F, hm, kp, b⟩ := c.ex
  obtain ⟨t, pa, sl⟩ := ha.ex
  refine ⟨_, pe_call (E := C8.E0) F (hr.mono hk) hg hm kp b .nil C8.pass0 pa hdb he hpl, fun av μ σ H Q ρ st d st' rl er hm p => ?_⟩
  obtain ⟨ds, s1, h1, hm⟩ := Mo.bind_some hm
  split at hm
  · rename_i hn
    refine sl av μ σ H _ ρ st ds s1 rl er h1 fun vs H1 μ1 e1 r1 q1 => ?_
    rw [List.append_nil]
    exact ⟨by rw [q1.length]; exact hn, av, μ1, s1, _, d, st', r1, RpAs.of q1, hm, p.mono e1⟩
  · cases hm
theorem ev_call0 (c : Cal X.prog X.w X.K X.mg X.base g k x 0 md) (hr : Room j X.A) (hk : k ≤ j) (hg : Gl X x) (hdb : (x == ("__debug__" : Str)) = false := by decide) :
    EV g X (.Call (.Name x p) [] [] pos) (xFn 0 md xNil) := by
  obtain ⟨f, fd, ps, F, hm, kp, b⟩ := c.ex
  refine ⟨_, pe_call0 (E := C8.E0) F (hr.mono hk) hg hm kp b .nil C8.pass0 hdb, fun av μ σ H Q ρ st d st' rl er hm p => ?_⟩
  obtain ⟨ds, s1, h1, hm⟩ := Mo.bind_some hm
  obtain ⟨z1, z2⟩ := Mo.pure_some h1
  subst z1 z2
  exact ⟨rfl, av, μ, _, [], d, st', rl, .nil, hm, p⟩
end
end MM
set_option autoImplicit false
set_option maxRecDepth 100000
set_option maxHeartbeats 4000000
/-! M11: a lambda handed to a def, called there. -/
namespace MM
open PySem PySem.Spec PyProof.Rows L2 LamX NdefX
/-! ### arguments one behind another, the rest told -/
structure LV (g : G) (X : Cx) (es : List Expr) (m : Ev → Mo (List D)) : Prop where
  run : ∀ (pos : Pos) (pins : List (Addr × Obj)) (s : Shared) (σ : L2.St) (H : Hp) (rest : List (Bool × Sem Value)) (R : List Value → Shared → Prop) (av μ : List Addr) (ρ : Ev) (st : List Ob) (ds : List D) (st' : List Ob), Inv X pins σ H s →
    Rel X.K g av μ st H → EnvR X.K g av μ H σ ρ → m ρ st = some (ds, st') →
    (∀ us vs H' μ' s1, Vals vs us → Inv X pins σ H' s1 → Ext μ μ' H H' → Rel X.K g av μ' st' H' → RpL X.K g.ca av μ' H' vs ds → wpAny (model X.prog X.w) X.A (spliced rest) (fun ws s2 => R (us ++ ws) s2) X.xe s1) →
    wpAny (model X.prog X.w) X.A (spliced (backTo pos (starEach es X.env) ++ rest)) R X.xe s
section
variable {g : G} {X : Cx} {e : Expr} {es : List Expr} {me : Ev → Mo D} {ml : Ev → Mo (List D)}
theorem lv_nil : LV g X [] xNil := ⟨fun pos pins s σ H rest R av μ ρ st ds st' I rl er hm h => by
  obtain ⟨z1, z2⟩ := Mo.pure_some hm
  subst z1 z2
  exact h [] [] H μ s .nil I (Ext.refl _ _) rl .nil⟩
theorem lv_cons (ha : EV g X e me) (hb : LV g X es ml) (hs : starEach (e :: es) X.env = (false, eval e X.env) :: starEach es X.env := by rfl) : LV g X (e :: es) (xCons me ml) := by
  obtain ⟨ta, pa, sa⟩ := ha.ex
  refine ⟨fun pos pins s σ H rest R av μ ρ st ds st' I rl er hm h => ?_⟩
  obtain ⟨x, s1, h1, hm⟩ := Mo.bind_some hm
  obtain ⟨xs, s2, h2, hm⟩ := Mo.bind_some hm
  obtain ⟨z1, z2⟩ := Mo.pure_some hm
  subst z1 z2
  rw [hs]
  show wpAny _ _ (spliced ((false, eval e X.env) :: (backTo pos (starEach es X.env) ++ rest))) _ _ s
  refine Calls.spliced_cons (thn (pa.run pins s σ H (fun v H1 => ∃ μ1, Ext μ μ1 H H1 ∧ Rel X.K g av μ1 s1 H1 ∧ Rp X.K g.ca av μ1 H1 v x) I (sa av μ σ H _ ρ st x s1 rl er h1 fun v H1 μ1 e1 r1 q1 => ⟨μ1, e1, r1, q1⟩)) fun u sh ⟨v, H1, I1, r1, μ1, e1, rl1, q1⟩ => ?_)
  refine hb.run pos pins sh σ H1 rest _ av μ1 ρ s1 xs _ I1 rl1 (er.mono e1) h2 fun us vs H2 μ2 sh2 r2 I2 e2 rl2 q2 => ?_
  exact h (u :: us) (v :: vs) H2 μ2 sh2 (.cons r1 r2) I2 (e1.trans e2) rl2 (.cons (q1.mono e2) q2)
end
/-! ### what hangs on the classes' addresses and the tables alone -/
section
variable {K : PySem.W.Frag} {g g' : G} {av μ : List Addr} {st : List Ob} {H : Hp}
theorem Rel.sw (h1 : g'.ca = g.ca) (h2 : g'.T = g.T) (r : Rel K g av μ st H) : Rel K g' av μ st H := ⟨r.len, r.nd, r.avo, by rw [h1]; exact r.obs, by rw [h2]; exact r.tab⟩
theorem envR_data {vs : List V} {ds : List D} {n : Nat} (h : RpL K g.ca av μ H vs ds) : EnvR K g av μ H (vs.map some ++ List.replicate (n - vs.length) none) (startE n (ds.map .d)) := by
  have := startE_ok (N := List.replicate n "") (RpAs.of (g := g) h)
  unfold L2.start at this
  rwa [List.length_replicate] at this
end
/-- the reading of a whole by its mirror -/
theorem EV.mk' {g : G} {X : Cx} {e : Expr} {m : Ev → Mo D} (h : ∀ (pins : List (Addr × Obj)) (s : Shared) (σ : L2.St) (H : Hp) (Q : VK) (av μ : List Addr) (ρ : Ev) (st : List Ob) (d : D) (st' : List Ob), Inv X pins σ H s → Rel X.K g av μ st H → EnvR X.K g av μ H σ ρ → m ρ st = some (d, st') → Post X.K g av μ H d st' Q →
    wpAny (model X.prog X.w) X.A (eval e X.env) (EP X pins σ Q) X.xe s) : EV g X e m := ⟨TEof X.K g m, ⟨fun pins s σ H Q I ⟨av, μ, ρ, st, d, st', rl, er, hm, p⟩ => h pins s σ H Q av μ ρ st d st' I rl er hm p⟩, semOf⟩
/-! ### the lambda is made -/
section
variable {X : Cx} {pins : List (Addr × Obj)} {σ : L2.St} {H : Hp} {s : Shared}
theorem lam_makeN {T : List NTab} {nm : Nat → Nat → Str} {c P : Addr} {params : Arguments} {body : Expr} {scope : Scope} {pos : Pos} {E : Value → Shared → Prop} {Q : Value → Shared → Prop} (I : Inv X pins σ H s) (TB : TabB X.base X.mg c P) (hcode : X.env.code = .ref c)
    (hm : (P, nm) ∈ T) (hn : nm pos.line pos.col = X.env.qual ++ "<lambda>") (hu : ∀ p ∈ T, p.1 = P → p.2 = nm) (hT : TabsN T H) (hdef : defaultsOf params X.env = ([], [])) (hfree : ∀ y ∈ scope.names, y.2 = .free → ∃ c, X.env.cells.lookup y.1 = some c)
    (h : ∀ (f c' : Addr) (pm ctv : Value) (H1 : Hp) (s' : Shared), Inv X pins σ H1 s' → ExtN H H1 → (∀ b, H1 b = none → H b = none) → TabsN T H1 →
      s'.heap.get? f = some (PySem.W.kla_obj "<lambda>" (X.env.qual ++ "<lambda>") params body scope (cloFrom X.env.cells scope.names []) pm c' ctv) → H1 f = none → f ∉ frs X.stack → H1 c' = some (CodeO c' (X.env.qual ++ "<lambda>")) → Q (.ref f) s') :
    wpAny (model X.prog X.w) X.A (eval (.Lambda params body scope pos) X.env) Q E s := by
  obtain ⟨ps, hP, ht, ha⟩ := (show TabN H P nm from hT _ hm)
  refine PySem.W.kla_eval hdef ?_
  have bP : s.heap.BuiltinsAt X.mg P := TB.bm.keeps I.bk
  have hP' : s.heap.get? P = some { cls := .none, data := .fields ps } := I.hok P _ hP
  have nofr : ∀ f, s.heap.objs.size ≤ f → f ∉ frs X.stack := fun f hf z => by
    rcases List.mem_cons.mp (I.stkSub _ z) with e | e
    · have h1 := I.lt
      rw [← e] at h1
      exact Nat.lt_irrefl _ (Nat.lt_of_lt_of_le h1 hf)
    · exact I.nofs hf e
  cases hc : codeAmong pos ps.toList with
  | none =>
    refine PySem.W.kla_makeFunction (mg := X.mg) (c := c) (P := P) (ps := ps) (closure_ok hfree) I.ok.glob (I.mod.glob.keeps I.bk) hcode (TB.code.keeps I.bk) hP' ht hc TB.gP bP fun c' ctv h' tk hx hge hlt hrec htb => ?_
    obtain ⟨c2, oc, vs, t, e2, hoc, hd, hv⟩ := hrec
    cases e2
    have hsz : s.heap.objs.size ≤ h'.objs.size := Nat.le_trans hge (Nat.le_of_lt hlt)
    have nC : H c' = none := I.hok.fresh hge
    have I1 := inv_table (t' := tk) (more := #[rawInt pos.line, rawInt pos.col, .ref c']) (h' := h'.push (PySem.W.kla_obj "<lambda>" (X.env.qual ++ "<lambda>") params body scope (cloFrom X.env.cells scope.names []) ((X.mg "__name__").getD .none) c' ctv)) I hP
      (fun b o hb e => Heap.get?_push_of_some _ (hx b o hb e)) (Heap.get?_push_of_some _ htb) hge ⟨oc, vs, t, Heap.get?_push_of_some _ hoc, hd, hv⟩
    have hE : ExtN H (upd (upd H P (.tbl (ps ++ #[rawInt pos.line, rawInt pos.col, .ref c']))) c' (CodeO c' (X.env.qual ++ "<lambda>"))) := fun b o e n => by
      rw [upd_ne (ne_of_none e nC), upd_ne (fun z => n ps (Option.some.inj (e.symm.trans (by rw [z]; exact hP))))]
      exact e
    have eL : (ps ++ #[rawInt pos.line, rawInt pos.col, .ref c']).toList = ps.toList ++ [rawInt pos.line, rawInt pos.col, .ref c'] := by simp
    refine h h'.objs.size c' ((X.mg "__name__").getD .none) ctv _ _ I1 hE (fun b e => upd_none (upd_none e)) (fun p hp => ?_) (Heap.get?_push_size _ rfl) ?_ (nofr _ hsz) upd_same
    · by_cases hb : p.1 = P
      · rw [hu p hp hb, hb]
        refine ⟨_, by rw [upd_ne (ne_of_none hP nC), upd_same], by rw [eL]; exact PySem.TriplesOk_snoc _ _ _ _ ht, fun p' cv hcv => ?_⟩
        rw [eL] at hcv
        rcases among_app2 _ ht hcv with z | ⟨z, z1, z2⟩
        · obtain ⟨c0, e1, e2⟩ := ha p' cv z
          exact ⟨c0, e1, hE _ _ e2 codeO_ne⟩
        · refine ⟨c', z, ?_⟩
          rw [← z1, ← z2, hn]
          exact upd_same
      · obtain ⟨ps', a1, a2, a3⟩ := hT p hp
        refine ⟨ps', by rw [upd_ne (ne_of_none a1 nC), upd_ne hb]; exact a1, a2, fun p' cv hcv => ?_⟩
        obtain ⟨c0, e1, e2⟩ := a3 p' cv hcv
        exact ⟨c0, e1, hE _ _ e2 codeO_ne⟩
    · have n1 : h'.objs.size ≠ c' := Nat.ne_of_gt hlt
      have n2 : h'.objs.size ≠ P := Nat.ne_of_gt (Nat.lt_of_lt_of_le (Heap.lt_size hP') hsz)
      rw [upd_ne n1, upd_ne n2]
      exact I.hok.fresh hsz
  | some cv =>
    obtain ⟨c', e, hco⟩ := ha pos cv hc
    subst e
    rw [hn] at hco
    refine PySem.W.kla_makeFunctionHit (mg := X.mg) (c := c) (P := P) (ps := ps) (closure_ok hfree) I.ok.glob (I.mod.glob.keeps I.bk) hcode (TB.code.keeps I.bk) hP' ht hc bP fun ctv h' tk hx hsz => ?_
    have I1 : Inv X pins σ H { s with heap := h'.push (PySem.W.kla_obj "<lambda>" (X.env.qual ++ "<lambda>") params body scope (cloFrom X.env.cells scope.names []) ((X.mg "__name__").getD .none) c' ctv), toks := tk } := I.kept fun b o e => Heap.get?_push_of_some _ (hx b o e)
    exact h h'.objs.size c' ((X.mg "__name__").getD .none) ctv H _ I1 (ExtN.refl H) (fun _ e => e) hT (Heap.get?_push_size _ rfl) (I.hok.fresh hsz) (nofr _ hsz) hco
end
/-! ### the lambda is called -/
/-- the words of a lambda as Nested has them -/
abbrev lamNF (X : Cx) (params : Arguments) (scope : Scope) (c' : Addr) : NF := ⟨"<lambda>", X.env.qual ++ "<lambda>", params, [], scope, cloFrom X.env.cells scope.names [], c'⟩
theorem cells_later {Z : Cx} {cl : List (Str × Addr)} {fr : List Str} {ws : List (Option V)} {pins : List (Addr × Obj)} {σ : L2.St} {H : Hp} {s : Shared} (C : CellsAt cl fr ws Z.s_0.heap Z.H_0) (hx : Z.ex = []) (I : L2.Inv Z pins σ H s) : CellsAt cl fr ws s.heap H := by
  have nx : ∀ c : Addr, c ∉ Z.ex := fun c => by rw [hx]; simp
  have kp : ∀ y c, cl.lookup y = some c → ∀ v, Z.s_0.heap.IsCell c v → s.heap.IsCell c v := fun y c e v ⟨o, ho, hd⟩ => by
    obtain ⟨sl, q⟩ := I.base.any ho (C.all y c e).1 (nx c)
    exact ⟨_, q, hd⟩
  refine ⟨C.len, fun y c e => ?_, C.inj, fun i y e => ?_⟩
  · obtain ⟨n, v, z⟩ := C.all y c e
    refine ⟨?_, v, kp y c e v z⟩
    obtain ⟨o, ho, _⟩ := z
    exact I.base.free c o ho n (nx c)
  · obtain ⟨c, hc, hv⟩ := C.has i y e
    refine ⟨c, hc, fun v ev => ?_⟩
    obtain ⟨u, r, z⟩ := hv v ev
    exact ⟨u, r, kp y c hc _ z⟩
theorem pe_actN {Z : Cx} {f : Addr} {params : Arguments} {body : Expr} {F : NF} {pm ctv : Value} {N ps fr : List Str} {ws : List (Option V)} {k i : Nat} {a : Str} {p1 p2 : Pos} {e : Expr} {es : List Expr} {t : TA} {tb : TE}
    (hf : Z.s_0.heap.get? f = some (PySem.W.kla_obj "<lambda>" F.qual params body F.scope F.cl pm F.c ctv)) (hfn : Z.H_0 f = none) (hfr : f ∉ Z.fs) (hx : Z.ex = []) (C : CellsAt F.cl fr ws Z.s_0.heap Z.H_0) (S : NScope N ps fr F.scope)
    (hbind : ∀ us : List Value, us.length = ps.length → bindArgs (PySem.W.kla_fn "<lambda>" F.qual params body F.scope F.cl pm (.ref F.c) ctv) ⟨us, []⟩ = pure (ps.zip us)) (hr : Room (k + 1) Z.A)
    (hbody : ∀ (A : Around) (outer : List Env) (s : Shared) (H : Hp), Room k (A.deeper (envF F f s.heap.objs.size)) → PE (ncx C8.CX0 Z.prog Z.w Z.K Z.mg Z.base N F f A outer s H C8.E0) body tb)
    (hN : Z.N[i]? = some a) (hv : Vis Z.env.scope a) (ha : PA Z (e :: es) t) (hd : (a == ("__debug__" : Str)) = false := by decide) (hcd : (a == ("__classdict__" : Str)) = false := by decide)
    (he : starEach (e :: es) Z.env = (false, eval e Z.env) :: starEach es Z.env := by rfl) (hpl : (backTo p2 (starEach es Z.env)).any (·.1) = false := by rfl) :
    PE Z (.Call (.Name a p1) (e :: es) [] p2) (fun σZ HZ Q => σZ[i]? = some (some (.ref f)) ∧ t σZ HZ fun vs H1 => vs.length = ps.length ∧ H1 F.c = some (CodeO F.c F.qual) ∧ tb (startF N vs ws) H1 Q) := by
  refine ⟨fun pinsZ sZ σZ HZ Q IZ h => ?_⟩
  obtain ⟨hs, ht⟩ := h
  have at_ : ∀ {s1 : Shared} {H1 : Hp}, L2.Inv Z pinsZ σZ H1 s1 → s1.heap.get? f = some (PySem.W.kla_obj "<lambda>" F.qual params body F.scope F.cl pm F.c ctv) := fun I1 => I1.base.keep f _ hf hfn hfr (fun z => by rw [hx] at z; cases z)
  refine wpAny_Call_Name_kw (thn ((pe_var (pos := p1) (i := i) hN hv hd hcd).run pinsZ sZ σZ HZ (fun v H1 => v = .ref f ∧ H1 = HZ) IZ ⟨.ref f, hs, rfl, rfl⟩) fun u s1 ⟨v, H1, I1, r1, q1⟩ => ?_)
  obtain ⟨ev, eH⟩ := q1
  subst ev
  rw [eH] at I1
  obtain rfl : u = Value.ref f := r1
  refine PySem.W.callWith_F (first := []) ⟨_, _, _, _, at_ I1⟩ (thn (ha.run p2 pinsZ s1 σZ HZ _ I1 ht) fun us s2 ⟨vs, H2, I2, r, hl, hc, q⟩ => ⟨⟨_, _, _, _, at_ I2⟩, ?_⟩) he hpl
  show wpAny _ _ (call (.ref f) us) _ _ _
  obtain ⟨⟨oc, vs', t', hoc, hdc, hvc⟩, _, _⟩ := I2.hok F.c _ hc
  have C2 := cells_later C hx I2
  have rc : codeAny (model Z.prog Z.w) Z.A (.call (.ref f) ⟨us, []⟩) (CR C8.CX0 Z.stack Z.prog Z.w H2 s2 Q C8.E0) s2 := by
    refine PySem.W.kla_callFunE hr.depth (at_ I2) rfl S.co S.gen rfl ⟨F.c, oc, vs', t', rfl, hoc, hdc, hvc⟩ ?_
    rw [hbind us (by rw [← r.length]; exact hl)]
    refine wpAny_pure (wpAny_newFunctionEnv S.nocell (fun ⟨n, _⟩ hy => S.par n (List.of_mem_zip hy).1) (fun h₁ hns hsb => ⟨I2.nolimit.fresh _ hsb, ?_⟩) S.kind)
    show codeAny _ _ (.expr body (envF F f s2.heap.objs.size)) _ _
    have kp : ∀ b o, s2.heap.get? b = some o → h₁.get? b = some o := fun b o e => hsb.extBut b o (Nat.ne_of_lt (Heap.lt_size e)) (Heap.get?_push_of_some _ e)
    have J : L2.Inv (ncx C8.CX0 Z.prog Z.w Z.K Z.mg Z.base N F f Z.A Z.stack s2 H2 C8.E0) [] (startF N vs ws) H2 { s2 with heap := h₁, toks := s2.toks + (ps.zip us).length } := inv_startN S hr.hd I2.env0 hl r C2 hns kp
    refine PySem.W.kla_codeExpr (wpAny_mono ((hbody _ _ s2 H2 (hr.deeper _)).run [] _ _ H2 Q J q) (fun v s' hq => ?_) fun e s' hq => hq)
    obtain ⟨w', H', J', rv, q'⟩ := hq
    exact ⟨w', H', J'.os, J'.bare, J'.base, J'.hok, rv, q'⟩
  refine wpAny_call (codeAny_mono rc fun r' s' hq => ?_)
  cases r' with
  | error e => exact (show False from hq).elim
  | ok fl =>
    cases fl with
    | ret u => exact I2.after hq
    | next => exact False.elim hq
    | brk => exact False.elim hq
    | cont => exact False.elim hq
/-! ### a def called with a lambda as its last argument -/
def capsOf (ρ : Ev) : List Nat → Option (List D)
  | [] => some []
  | j :: js => match ρ[j]? with
    | some (some (.d x)) => (capsOf ρ js).map (x :: ·)
    | _ => none
theorem caps_ok {K : PySem.W.Frag} {g : G} {av μ : List Addr} {H : Hp} {σ : L2.St} {ρ : Ev} (er : EnvR K g av μ H σ ρ) : ∀ {js : List Nat} {caps : List D}, capsOf ρ js = some caps → ∃ vs : List V, js.map (slotAt σ) = vs.map some ∧ RpL K g.ca av μ H vs caps
  | [], _, h => by cases h; exact ⟨[], rfl, .nil⟩
  | j :: js, caps, h => by
    unfold capsOf at h
    split at h
    · rename_i x hx
      cases e : capsOf ρ js with
      | none => rw [e] at h; cases h
      | some r =>
        rw [e] at h
        cases h
        obtain ⟨vs, h1, h2⟩ := caps_ok er e
        obtain ⟨v, q1, q2⟩ := er.at_ j _ hx
        exact ⟨v :: vs, by rw [List.map_cons, List.map_cons, h1, slotAt_of q1], .cons q2 h2⟩
    · cases h
def xLam (i n np : Nat) (ml : Ev → Mo D) (mm : Ev → Mo (List D)) : Ev → Mo D := fun ρ st => match ρ[i]? with
  | some (some (.clo _ caps)) => ((mm ρ).bind fun ds => if ds.length = np then ml (startE n ((ds ++ caps).map .d)) else Mo.fail) st
  | _ => none
theorem xLam_some {i n np : Nat} {ml : Ev → Mo D} {mm : Ev → Mo (List D)} {ρ : Ev} {st : List Ob} {r : D × List Ob} (h : xLam i n np ml mm ρ st = some r) : ∃ k caps ds s1, ρ[i]? = some (some (.clo k caps)) ∧ mm ρ st = some (ds, s1) ∧ ds.length = np ∧ ml (startE n ((ds ++ caps).map .d)) s1 = some r := by
  unfold xLam at h
  split at h
  · rename_i k caps hc
    obtain ⟨ds, s1, h1, h2⟩ := Mo.bind_some (r := r.1) (s' := r.2) h
    split at h2
    · rename_i hl
      exact ⟨k, caps, ds, s1, hc, h1, hl, h2⟩
    · cases h2
  · cases h
def xLamCall (np : Nat) (js : List Nat) (ml : Ev → Mo (List D)) (md : List A → Mo D) : Ev → Mo D := fun ρ => match capsOf ρ js with
  | some caps => (ml ρ).bind fun ds => if ds.length + 1 = np then md (ds.map .d ++ [.clo 0 caps]) else Mo.fail
  | none => Mo.fail
theorem ev_lamcall {g : G} {X : Cx} {x a : Str} {pg : Arguments} {bg : List Stmt} {sg : Scope} {fg : Addr} {fd : FuncData} {Ng psg : List Str} {k i : Nat} {es es0 : List Expr} {e0 : Expr} {ml : Ev → Mo (List D)} {params : Arguments} {body : Expr} {scope : Scope} {lpos p pos : Pos}
    {c P : Addr} {nm : Nat → Nat → Str} {N ps fr : List Str} {js : List Nat} {mlam : Ev → Mo D} {mG : Ev → Mo Out}
    (Fg : FunD X.K x x pg bg sg [] [] fg fd) (hm : X.mg x = some (.ref fg)) (hs : C8.scC Ng psg sg = true)
    (hbd : ∀ (kV doc pm : Value) (an : Option Addr) (cdv ct : Value) (us : List Value), us.length = psg.length → bindArgs (PySem.W.fnOf x x pg bg sg .none kV doc pm an cdv ct) ⟨us, []⟩ = pure (psg.zip us))
    (hg : Gl X x) (hr : Room (k + 2) X.A) (hlast : ((e0 :: es0).dropLast, (e0 :: es0).getLast?) = (es, some (.Lambda params body scope lpos))) (hL : LV g X es ml)
    (TB : TabB X.base X.mg c P) (hcode : X.env.code = .ref c) (hmT : (P, nm) ∈ g.T) (hn : nm lpos.line lpos.col = X.env.qual ++ "<lambda>") (hu : ∀ p ∈ g.T, p.1 = P → p.2 = nm)
    (hS : nscB N ps fr scope = true) (hnd : ndefB X.env.scope scope fr = true) (hjs : js.map (fun j => X.N[j]?) = fr.map some) (hdef : defaultsOf params X.env = ([], []))
    (hbind : ∀ (q : Str) (cl : List (Str × Addr)) (pm cv ctv : Value) (us : List Value), us.length = ps.length → bindArgs (PySem.W.kla_fn "<lambda>" q params body scope cl pm cv ctv) ⟨us, []⟩ = pure (ps.zip us))
    (hbody : ∀ (A : Around) (outer : List Env) (s : Shared) (H : Hp) (f c' : Addr), Room k (A.deeper (envF (lamNF X params scope c') f s.heap.objs.size)) → EV g (ncx C8.CX0 X.prog X.w X.K X.mg X.base N (lamNF X params scope c') f A outer s H C8.E0) body mlam)
    (hNa : Ng[i]? = some a) (hva : Vis sg a)
    (hG : ∀ (clo : Hp → Nat → V → List (Addr × V) → Prop) (cloK : ∀ (H H' : Hp) k v cs, clo H k v cs → (∀ b φ, H b = some (.ext φ) → H' b = some (.ext φ)) → clo H' k v cs) (cdg : Value) (s : Shared) (H : Hp),
      Room (k + 1) (cxOf C8.CX0 X.prog X.w X.K X.mg X.base Ng x sg fg cdg X.A X.stack s H C8.E0).A →
      (∀ (e : Expr) (es : List Expr) (mm : Ev → Mo (List D)) (p1 p2 : Pos), AV ⟨g.ca, g.T, clo, cloK⟩ (cxOf C8.CX0 X.prog X.w X.K X.mg X.base Ng x sg fg cdg X.A X.stack s H C8.E0) (e :: es) mm →
        starEach (e :: es) (cxOf C8.CX0 X.prog X.w X.K X.mg X.base Ng x sg fg cdg X.A X.stack s H C8.E0).env = (false, eval e (cxOf C8.CX0 X.prog X.w X.K X.mg X.base Ng x sg fg cdg X.A X.stack s H C8.E0).env) :: starEach es (cxOf C8.CX0 X.prog X.w X.K X.mg X.base Ng x sg fg cdg X.A X.stack s H C8.E0).env →
        (backTo p2 (starEach es (cxOf C8.CX0 X.prog X.w X.K X.mg X.base Ng x sg fg cdg X.A X.stack s H C8.E0).env)).any (·.1) = false →
        EV ⟨g.ca, g.T, clo, cloK⟩ (cxOf C8.CX0 X.prog X.w X.K X.mg X.base Ng x sg fg cdg X.A X.stack s H C8.E0) (.Call (.Name a p1) (e :: es) [] p2) (xLam i N.length ps.length mlam mm)) →
      BV ⟨g.ca, g.T, clo, cloK⟩ (cxOf C8.CX0 X.prog X.w X.K X.mg X.base Ng x sg fg cdg X.A X.stack s H C8.E0) bg mG)
    (hl : starEach (e0 :: es0) X.env = starEach es X.env ++ [(false, eval (.Lambda params body scope lpos) X.env)] := by rfl)
    (hdb : (x == ("__debug__" : Str)) = false := by decide) (hd : (a == ("__debug__" : Str)) = false := by decide) (hcd : (a == ("__classdict__" : Str)) = false := by decide)
    (he : starEach (e0 :: es0) X.env = (false, eval e0 X.env) :: starEach es0 X.env := by rfl) (hpl : (backTo pos (starEach es0 X.env)).any (·.1) = false := by rfl) :
    EV g X (.Call (.Name x p) (e0 :: es0) [] pos) (xLamCall psg.length js ml (runF Ng.length mG)) := by
  refine EV.mk' fun pins s σ H Q av μ ρ st d st' I rl er hm' p' => ?_
  unfold xLamCall at hm'
  cases ec : capsOf ρ js with
  | none => rw [ec] at hm'; cases hm'
  | some caps =>
    rw [ec] at hm'
    obtain ⟨ds, s1, h1, hm'⟩ := Mo.bind_some hm'
    split at hm'
    · rename_i hlen
      obtain ⟨oc, od, dV, kV, doc, pm, an, cdv, ct, osl, rfl, lk, hcd', _, _⟩ := Fg.ex
      have hb0 := Fg.bindsN hbd
      have S := nscope_by hS
      refine wpAny_Call_Name_kw (ld_glob I hg hm ?_ hdb)
      refine PySem.W.callWith_K (h₀ := X.base) I.ok.mod.kin Fg.kp ?_ he hpl
      rw [hl]
      have eB : backTo pos (starEach es X.env ++ [(false, eval (.Lambda params body scope lpos) X.env)]) = backTo pos (starEach es X.env) ++ [(false, eval (.Lambda params body scope lpos) X.env)] := by
        unfold backTo
        rw [List.map_append]
        rfl
      rw [eB]
      refine hL.run pos pins s σ H _ _ av μ ρ st ds s1 I rl er h1 fun us vs H1 μ1 sh1 r1 I1 e1 rl1 q1 => ?_
      have hfree : ∀ y ∈ scope.names, y.2 = .free → ∃ c, X.env.cells.lookup y.1 = some c := fun y hy e => (ndef_free hnd y hy e).elim (fun z => I.ok.has _ (.inl z)) fun z => I.ok.has _ (.inr z)
      refine Calls.spliced_cons (lam_makeN I1 TB hcode hmT hn hu rl1.tab hdef hfree fun f c' pm' ctv H2 s2 I2 eN th T2 hf hfn hfr hco => ?_)
      refine Calls.spliced_nil ⟨I2.kIn, ?_⟩
      show wpAny _ _ (call (.ref fg) (us ++ [Value.ref f])) _ _ _
      have e2 : Ext μ1 μ1 H1 H2 := ⟨⟨[], by simp, fun _ h => by cases h⟩, fun b o hb _ ht => eN b o hb ht, th⟩
      obtain ⟨cv, hcv, rcv⟩ := caps_ok (er.mono (e1.trans e2)) ec
      have CA : CellsAt (cloFrom X.env.cells scope.names []) fr (js.map (slotAt σ)) s2.heap H2 := cells_of I2 (Caps.made I2.ok (ndef_free hnd) (ndef_fr hnd) hjs)
      have rl2 : Rel X.K g av μ1 s1 H2 := ⟨rl1.len, rl1.nd, fun b hb => ⟨fun z => (rl1.avo b hb).1 (th b z), (rl1.avo b hb).2⟩, fun n b ob x1 x2 => (rl1.obs n b ob x1 x2).mono e2 fun o ho => eN b o ho (by
        obtain ⟨u, hu1, hu2⟩ := (rl1.obs n b ob x1 x2).vol
        rw [ho] at hu1
        cases hu1
        exact hu2.tbl), T2⟩
      let CS : List (Addr × V) := cv.map fun v => (0, v)
      let clo : Hp → Nat → V → List (Addr × V) → Prop := fun H _ v cs => v = .ref f ∧ H c' = some (CodeO c' (X.env.qual ++ "<lambda>")) ∧ cs = CS
      have cloK : ∀ (H H' : Hp) k v cs, clo H k v cs → (∀ b φ, H b = some (.ext φ) → H' b = some (.ext φ)) → clo H' k v cs := fun H H' k v cs h q => ⟨h.1, q _ _ h.2.1, h.2.2⟩
      have eCS : CS.map (·.2) = cv := by
        show (cv.map fun v => ((0 : Addr), v)).map (·.2) = cv
        rw [List.map_map]
        exact List.map_id _
      have l1 : (us ++ [Value.ref f]).length = psg.length := by
        rw [List.length_append, ← r1.length, q1.length]
        exact hlen
      have l2 : (vs ++ [V.ref f]).length = psg.length := by
        rw [List.length_append, q1.length]
        exact hlen
      have rv : Vals (vs ++ [V.ref f]) (us ++ [Value.ref f]) := r1.append (.cons rfl .nil)
      have hr2 : Room ((k + 1) + 1) X.A := hr
      have rc : codeAny (model X.prog X.w) X.A (.call (.ref fg) ⟨us ++ [.ref f], []⟩) (CR C8.CX0 X.stack X.prog X.w H2 s2 Q C8.E0) s2 := by
        refine run_ofS (N := Ng) (ps := psg) (us := us ++ [.ref f]) (vs := vs ++ [.ref f]) lk hcd' (C8.fnScope_by hs) hr2 I2.env0 (by simpa using hb0 s2 (us ++ [.ref f]) I2.kIn (by simpa using l1)) rv l2 fun hr' => ?_
        have rl3 : Rel X.K ⟨g.ca, g.T, clo, cloK⟩ av μ1 s1 H2 := Rel.sw (g := g) rfl rfl rl2
        have rf : RpA X.K ⟨g.ca, g.T, clo, cloK⟩ av μ1 H2 (V.ref f) (.clo 0 caps) := ⟨CS, ⟨rfl, hco, rfl⟩, by rw [eCS]; exact rcv⟩
        have ra : RpAs X.K ⟨g.ca, g.T, clo, cloK⟩ av μ1 H2 (vs ++ [V.ref f]) (ds.map .d ++ [.clo 0 caps]) := (RpAs.of (g := ⟨g.ca, g.T, clo, cloK⟩) (RpL.mono e2 q1)).append (.cons rf .nil)
        have pz : Post X.K ⟨g.ca, g.T, clo, cloK⟩ av μ1 H2 d st' Q := fun v H' μ' x r q => (p'.mono (e1.trans e2)) v H' μ' x (Rel.sw (g := ⟨g.ca, g.T, clo, cloK⟩) (g' := g) rfl rfl r) q
        refine body_ok (g := ⟨g.ca, g.T, clo, cloK⟩) (hG clo cloK cdv s2 H2 hr' fun e es mm p1 p2 hA hst hpl2 => ?_) rl3 ra hm' pz
        obtain ⟨ta, pa, sa⟩ := hA.ex
        refine ⟨_, pe_actN (F := lamNF X params scope c') (i := i) (ws := js.map (slotAt σ)) (k := k) (tb := TEof X.K g mlam) hf hfn hfr rfl CA S (hbind _ _ _ _ _) hr' (fun A outer s H hr3 => (hbody A outer s H f c' hr3).pe) hNa hva pa hd hcd hst hpl2, fun av' μ' σZ HZ QZ ρZ stZ dZ stZ' rZ erZ hmZ pZ => ?_⟩
        obtain ⟨kZ, caps', dsZ, sZ1, hcaps, hZ1, hlZ, hmZ⟩ := xLam_some hmZ
        obtain ⟨v, z1, cs, ⟨z2, z3, z4⟩, z5⟩ := erZ.at_ i _ hcaps
        subst z2
        refine ⟨z1, ?_⟩
        refine sa av' μ' σZ HZ _ ρZ stZ dsZ sZ1 rZ erZ hZ1 fun vsZ HZ1 μZ1 eZ1 rZ1 qZ1 => ⟨by rw [qZ1.length]; exact hlZ, eZ1.imm _ _ z3 trivial, ?_⟩
        rw [z4, eCS] at z5
        have rAll : RpL X.K g.ca av' μZ1 HZ1 (vsZ ++ cv) (dsZ ++ caps') := RpL.append qZ1 (RpL.mono eZ1 z5)
        refine ⟨av', μZ1, _, sZ1, dZ, stZ', Rel.sw (g := ⟨g.ca, g.T, clo, cloK⟩) (g' := g) rfl rfl rZ1, ?_, hmZ, fun v H' μ'' x r q => (pZ.mono eZ1) v H' μ'' x (Rel.sw (K := X.K) (g := g) (g' := ⟨g.ca, g.T, clo, cloK⟩) rfl rfl r) q⟩
        have q := envR_data (g := g) (n := N.length) rAll
        have es : (vsZ ++ cv).map some ++ List.replicate (N.length - (vsZ ++ cv).length) none = startF N vsZ (js.map (slotAt σ)) := by
          unfold startF
          rw [hcv, List.map_append, List.append_assoc, List.length_append, List.length_map, Nat.sub_sub]
        rw [es] at q
        exact q
      refine wpAny_call (codeAny_mono rc fun r' s' hq => ?_)
      cases r' with
      | error e => exact (show False from hq).elim
      | ok fl =>
        cases fl with
        | ret u => exact I2.after hq
        | next => exact False.elim hq
        | brk => exact False.elim hq
        | cont => exact False.elim hq
    · cases hm'
end MM
set_option autoImplicit false
set_option maxRecDepth 100000
set_option maxHeartbeats 4000000
/-! M12: instances: made, their fields and properties, own == and !=, truth. -/
namespace MM
open PySem PySem.Spec PyProof.Rows L2 LamX NdefX
/-! ### freezing: what a call made new is told as a datum -/
mutual
/-- the places of the store that it has are below n -/
def D.lo (n : Nat) : D → Bool
  | .tup ds => D.loL n ds
  | .lst ds => D.loL n ds
  | .ro ds => D.loL n ds
  | .ins _ _ ds => D.loL n ds
  | .dct _ ds => D.loL n ds
  | .loc k => decide (k < n)
  | _ => true
def D.loL (n : Nat) : List D → Bool
  | [] => true
  | d :: r => D.lo n d && D.loL n r
end
section
variable {K : PySem.W.Frag} {g : G} {ca : Str → Addr} {av μ μ' r : List Addr} {H : Hp} {st : List Ob}
mutual
theorem Rp.shrink : ∀ {v : V} {d : D}, Rp K ca av (μ ++ r) H v d → D.lo μ.length d = true → Rp K ca av μ H v d
  | _, _, .non, _ => .non
  | _, _, .bl b, _ => .bl b
  | _, _, .int i, _ => .int i
  | _, _, .str x, _ => .str x
  | _, _, .ty x, _ => .ty x
  | _, _, .cls x, _ => .cls x
  | _, _, .tup h l, e => .tup h (RpL.shrink l (by simpa [D.lo] using e))
  | _, _, .lst h n1 n2 l, e => .lst h n1 (fun z => n2 (List.mem_append_left _ z)) (RpL.shrink l (by simpa [D.lo] using e))
  | _, _, .ro h l, e => .ro h (RpL.shrink l (by simpa [D.lo] using e))
  | _, _, .ins h n1 n2 l, e => .ins h n1 (fun z => n2 (List.mem_append_left _ z)) (RpL.shrink l (by simpa [D.lo] using e))
  | _, _, .dct h n1 n2 l, e => .dct h n1 (fun z => n2 (List.mem_append_left _ z)) (RpL.shrink l (by simpa [D.lo] using e))
  | _, _, .loc h, e => .loc (by
      have hn := of_decide_eq_true (show decide _ = true by simpa only [D.lo] using e)
      rw [List.getElem?_append_left hn] at h
      exact h)
theorem RpL.shrink : ∀ {vs : List V} {ds : List D}, RpL K ca av (μ ++ r) H vs ds → D.loL μ.length ds = true → RpL K ca av μ H vs ds
  | _, _, .nil, _ => .nil
  | _, _, .cons h t, e => by
    simp only [D.loL, Bool.and_eq_true] at e
    exact .cons (Rp.shrink h e.1) (RpL.shrink t e.2)
end
def Ob.lo (n : Nat) : Ob → Bool
  | .lst ds => D.loL n ds
  | .ins _ _ ds => D.loL n ds
  | .dK _ ds => D.loL n ds
theorem RpO.shrink {a : Addr} {ob : Ob} (h : RpO K ca av (μ ++ r) H a ob) (e : Ob.lo μ.length ob = true) : RpO K ca av μ H a ob := by
  cases h with
  | lst h l => exact .lst h (RpL.shrink l e)
  | ins h l => exact .ins h (RpL.shrink l e)
  | dK h l => exact .dK h (RpL.shrink l e)
theorem Rel.shrink (h : Rel K g av (μ ++ r) st H) (e : (st.take μ.length).all (Ob.lo μ.length) = true) : Rel K g av μ (st.take μ.length) H := by
  have hl := h.len
  rw [List.length_append] at hl
  refine ⟨by rw [List.length_take]; omega, (List.nodup_append.mp h.nd).1, fun a ha => ⟨(h.avo a ha).1, fun z => (h.avo a ha).2 (List.mem_append_left _ z)⟩, fun n a ob h1 h2 => ?_, h.tab⟩
  have hn : n < μ.length := (List.getElem?_eq_some_iff.mp h1).1
  have h3 : st[n]? = some ob := by rw [List.getElem?_take_of_lt hn] at h2; exact h2
  exact (h.obs n a ob (by rw [List.getElem?_append_left hn]; exact h1) h3).shrink (List.all_eq_true.mp e ob (List.mem_of_getElem? h2))
mutual
/-- the datum with the store's objects from n on written into it -/
def frzD (st : List Ob) (n : Nat) : Nat → D → Option D
  | 0, _ => none
  | k + 1, .loc i => if i < n then some (.loc i) else (match st[i]? with
    | some (.lst ds) => (frzL st n k ds).map .lst
    | some (.ins c ns ds) => (frzL st n k ds).map (.ins c ns)
    | some (.dK ks ds) => (frzL st n k ds).map (.dct ks)
    | none => none)
  | k + 1, .tup ds => if D.loL n ds = true then some (.tup ds) else (frzL st n k ds).map .tup
  | k + 1, d => if D.lo n d = true then some d else none
def frzL (st : List Ob) (n : Nat) : Nat → List D → Option (List D)
  | 0, _ => none
  | _ + 1, [] => some []
  | k + 1, d :: ds => (frzD st n k d).bind fun e => (frzL st n k ds).map (e :: ·)
end
theorem frz_ok (h : Rel K g av (μ ++ r) st H) : ∀ k : Nat, (∀ {v : V} {d e : D}, Rp K g.ca av (μ ++ r) H v d → frzD st μ.length k d = some e → Rp K g.ca av μ H v e) ∧ (∀ {vs : List V} {ds es : List D}, RpL K g.ca av (μ ++ r) H vs ds → frzL st μ.length k ds = some es → RpL K g.ca av μ H vs es)
  | 0 => ⟨fun _ z => by simp [frzD] at z, fun _ z => by simp [frzL] at z⟩
  | k + 1 => by
    obtain ⟨ih1, ih2⟩ := frz_ok h k
    have other : ∀ {v : V} {d e : D}, Rp K g.ca av (μ ++ r) H v d → (if D.lo μ.length d = true then some d else none) = some e → Rp K g.ca av μ H v e := fun {v d e} p z => by
      split at z
      · cases z
        exact Rp.shrink p (by assumption)
      · cases z
    refine ⟨fun {v d e} p z => ?_, fun {vs ds es} p z => ?_⟩
    · cases d with
      | loc i =>
        simp only [frzD] at z
        split at z
        · cases z
          exact Rp.shrink p (by simp only [D.lo]; exact decide_eq_true (by assumption))
        · rename_i hi
          cases p with
          | @loc _ a hn =>
            have n2 : a ∉ av := fun q => (h.avo a q).2 (List.mem_of_getElem? hn)
            have n1 : a ∉ μ := fun q => by
              rw [List.getElem?_append_right (by omega)] at hn
              exact (List.nodup_append.mp h.nd).2.2 a q a (List.mem_of_getElem? hn) rfl
            cases eo : st[i]? with
            | none => rw [eo] at z; cases z
            | some ob =>
              rw [eo] at z
              have ho := h.obs i a ob hn eo
              cases ob with
              | lst ds =>
                cases e2 : frzL st μ.length k ds with
                | none => simp [e2] at z
                | some es =>
                  simp [e2] at z
                  subst z
                  cases ho with
                  | lst hH l => exact .lst hH n2 n1 (ih2 l e2)
              | ins c ns ds =>
                cases e2 : frzL st μ.length k ds with
                | none => simp [e2] at z
                | some es =>
                  simp [e2] at z
                  subst z
                  cases ho with
                  | ins hH l => exact .ins hH n2 n1 (ih2 l e2)
              | dK ks ds =>
                cases e2 : frzL st μ.length k ds with
                | none => simp [e2] at z
                | some es =>
                  simp [e2] at z
                  subst z
                  cases ho with
                  | dK hH l => exact .dct hH n2 n1 (ih2 l e2)
      | tup ds =>
        simp only [frzD] at z
        split at z
        · rename_i hlo
          cases z
          exact Rp.shrink p (by simpa only [D.lo] using hlo)
        · cases e2 : frzL st μ.length k ds with
          | none => simp [e2] at z
          | some es =>
            simp [e2] at z
            subst z
            cases p with
            | tup hs l => exact .tup hs (ih2 l e2)
      | _ => exact other p (by simpa only [frzD] using z)
    · cases p with
      | nil =>
        simp only [frzL] at z
        cases z
        exact .nil
      | @cons v vs d ds p q =>
        simp only [frzL] at z
        cases e1 : frzD st μ.length k d with
        | none => rw [e1] at z; cases z
        | some e =>
          rw [e1] at z
          cases e2 : frzL st μ.length k ds with
          | none => simp [e2] at z
          | some es' =>
            simp [e2] at z
            subst z
            exact .cons (ih1 p e1) (ih2 q e2)
end
theorem frz_lo {st : List Ob} {n k : Nat} {d : D} (h : D.lo n d = true) : frzD st n (k + 1) d = some d := by
  cases d with
  | loc i => simp only [frzD]; rw [if_pos (of_decide_eq_true (by simpa only [D.lo] using h))]
  | tup ds => simp only [frzD]; rw [if_pos (by simpa only [D.lo] using h)]
  | _ => simp only [frzD]; rw [if_pos h]
/-- a part whose answer is told as a datum, its new objects forgotten -/
def frzM (k : Nat) (m : Mo D) : Mo D := fun st => match m st with
  | some (d, st') => if (st'.take st.length).all (Ob.lo st.length) = true then (frzD st' st.length k d).map fun e => (e, st'.take st.length) else none
  | none => none
theorem frzM_some {k : Nat} {m : Mo D} {st st'' : List Ob} {e : D} (h : frzM k m st = some (e, st'')) : ∃ d st', m st = some (d, st') ∧ (st'.take st.length).all (Ob.lo st.length) = true ∧ frzD st' st.length k d = some e ∧ st'' = st'.take st.length := by
  unfold frzM at h
  split at h
  · rename_i d st' hm
    split at h
    · rename_i hl
      cases e2 : frzD st' st.length k d with
      | none => rw [e2] at h; cases h
      | some x =>
        rw [e2] at h
        cases h
        exact ⟨d, st', hm, hl, e2, rfl⟩
    · cases h
  · cases h
theorem Post.frz {K : PySem.W.Frag} {g : G} {av μ : List Addr} {H : Hp} {d e : D} {st st' : List Ob} {Q : VK} {k : Nat} (hn : μ.length = st.length) (p : Post K g av μ H e (st'.take st.length) Q) (hl : (st'.take st.length).all (Ob.lo st.length) = true) (he : frzD st' st.length k d = some e) : Post K g av μ H d st' Q := fun v H' μ' x r q => by
  obtain ⟨⟨rr, er, hr⟩, kp, th⟩ := x
  subst er
  rw [← hn] at hl he p
  exact p v H' μ ⟨⟨[], by simp, fun _ z => by cases z⟩, kp, th⟩ (Rel.shrink r hl) ((frz_ok r k).1 q he)
def xFrz (k : Nat) (m : Ev → Mo D) : Ev → Mo D := fun ρ => frzM k (m ρ)
theorem ev_frz {g : G} {X : Cx} {e : Expr} {m : Ev → Mo D} (k : Nat) (h : EV g X e m) : EV g X e (xFrz k m) := by
  obtain ⟨t, p0, s0⟩ := h.ex
  refine ⟨t, p0, fun av μ σ H Q ρ st d st' rl er hm p => ?_⟩
  obtain ⟨d1, st1, h1, h2, h3, rfl⟩ := frzM_some hm
  exact s0 av μ σ H Q ρ st d1 st1 rl er h1 (Post.frz rl.len p h2 h3)
end MM
set_option autoImplicit false
set_option maxRecDepth 100000
set_option maxHeartbeats 4000000
/-! M13: promises weakened; instances: made, their fields and properties. -/
namespace MM
open PySem PySem.Spec PyProof.Rows L2 LamX NdefX
section
variable {P : Program} {w : World} {K : PySem.W.Frag} {mg : Str → Option Value} {base : Heap} {g : G} {k n : Nat} {x : Str} {md md' : List A → Mo D}
theorem spG_imp (h : ∀ as st r, as.length = n → md' as st = some r → md as st = some r) : ∀ vs H Q E, SpG K g n md' vs H Q E → SpG K g n md vs H Q E := fun vs H Q E ⟨hl, av, μ, st, as, d, st', rl, ra, hm, p⟩ => ⟨hl, av, μ, st, as, d, st', rl, ra, h as st _ (by rw [← ra.length]; exact hl) hm, p⟩
theorem spG_frz (j : Nat) : ∀ vs H Q E, SpG K g n (fun as => frzM j (md as)) vs H Q E → SpG K g n md vs H Q E := fun vs H Q E ⟨hl, av, μ, st, as, d, st', rl, ra, hm, p⟩ => by
  obtain ⟨d1, st1, h1, h2, h3, rfl⟩ := frzM_some hm
  exact ⟨hl, av, μ, st, as, d1, st1, rl, ra, h1, Post.frz rl.len p h2 h3⟩
theorem Cal.imp (c : Cal P w K mg base g k x n md) (h : ∀ as st r, as.length = n → md' as st = some r → md as st = some r) : Cal P w K mg base g k x n md' := by
  obtain ⟨f, fd, ps, F, h1, h2, h3⟩ := c.ex
  exact ⟨f, fd, ps, F.imp (spG_imp h), h1, h2, h3⟩
theorem Cal.frz (c : Cal P w K mg base g k x n md) (j : Nat) : Cal P w K mg base g k x n (fun as => frzM j (md as)) := by
  obtain ⟨f, fd, ps, F, h1, h2, h3⟩ := c.ex
  exact ⟨f, fd, ps, F.imp (spG_frz j), h1, h2, h3⟩
theorem Cal.mono {j : Nat} (c : Cal P w K mg base g k x n md) (h : k ≤ j) : Cal P w K mg base g j x n md := by
  obtain ⟨f, fd, ps, F, h1, h2, h3⟩ := c.ex
  exact ⟨f, fd, ps, F.mono h, h1, h2, h3⟩
end
/-! ### fields -/
def look1 (f : Str) : List Str → List D → Option D
  | n :: ns, d :: ds => if n = f then some d else look1 f ns ds
  | _, _ => none
def put1 (f : Str) (v : D) : List Str → List D → List D
  | n :: ns, d :: ds => if n = f then v :: ds else d :: put1 f v ns ds
  | _, _ => [v]
def putN (f : Str) : List Str → List Str
  | n :: ns => if n = f then n :: ns else n :: putN f ns
  | [] => [f]
section
variable {K : PySem.W.Frag} {g : G} {ca : Str → Addr} {av μ : List Addr} {H : Hp} {st : List Ob}
theorem look1_ok : ∀ {fs : List (Str × V)} {ds : List D} {f : Str} {d : D}, RpL K ca av μ H (fs.map (·.2)) ds → look1 f (fs.map (·.1)) ds = some d → ∃ v, fs.lookup f = some v ∧ Rp K ca av μ H v d
  | [], _, _, _, h, e => by cases h; cases e
  | (n, v) :: fs, _, f, d, h, e => by
    cases h with
    | cons h t =>
      simp only [List.map_cons, look1] at e
      by_cases hn : n = f
      · subst hn
        simp at e
        subst e
        exact ⟨v, by simp [List.lookup], h⟩
      · rw [if_neg hn] at e
        obtain ⟨u, h1, h2⟩ := look1_ok t e
        refine ⟨u, ?_, h2⟩
        have : (f == n) = false := by simpa using fun z => hn z.symm
        simp [List.lookup, this, h1]
theorem put1_ok {v : V} {d : D} (hv : Rp K ca av μ H v d) : ∀ {fs : List (Str × V)} {ds : List D} {f : Str}, RpL K ca av μ H (fs.map (·.2)) ds → RpL K ca av μ H ((putF f v fs).map (·.2)) (put1 f d (fs.map (·.1)) ds) ∧ (putF f v fs).map (·.1) = putN f (fs.map (·.1))
  | [], _, f, h => by
    cases h
    exact ⟨.cons hv .nil, rfl⟩
  | (n, u) :: fs, _, f, h => by
    cases h with
    | cons h t =>
      by_cases hn : n = f
      · subst hn
        simp only [putF, List.map_cons, put1, putN, if_true]
        exact ⟨.cons hv t, trivial⟩
      · obtain ⟨q1, q2⟩ := put1_ok hv (f := f) t
        simp only [putF, List.map_cons, put1, putN, if_neg hn]
        exact ⟨.cons h q1, by rw [q2]⟩
/-- an instance: its class, its fields -/
def insOf (st : List Ob) : D → Option (Str × List Str × List D)
  | .ins c ns ds => some (c, ns, ds)
  | .loc n => (match st[n]? with
    | some (.ins c ns ds) => some (c, ns, ds)
    | _ => none)
  | _ => none
theorem ins_of (r : Rel K g av μ st H) {v : V} {d : D} {c : Str} {ns : List Str} {ds : List D} (h : Rp K g.ca av μ H v d) (e : insOf st d = some (c, ns, ds)) : ∃ a dx fs, v = .ref a ∧ H a = some (.ins (g.ca c) dx fs) ∧ ns = fs.map (·.1) ∧ RpL K g.ca av μ H (fs.map (·.2)) ds := by
  cases h with
  | ins h _ _ l =>
    cases e
    exact ⟨_, _, _, rfl, h, rfl, l⟩
  | @loc n a hn =>
    cases e1 : st[n]? with
    | none => simp only [insOf, e1] at e; cases e
    | some ob =>
      have ho := r.obs n a ob hn e1
      cases ob with
      | ins c' ns' ds' =>
        simp only [insOf, e1] at e
        cases e
        cases ho with
        | ins hH l => exact ⟨_, _, _, rfl, hH, rfl, l⟩
      | _ => simp only [insOf, e1] at e; cases e
  | _ => cases e
end
section
variable {g : G} {X : Cx} {e o : Expr} {f c : Str} {pos pos' : Pos} {me mo : Ev → Mo D}
def dFld (c f : Str) (st : List Ob) (x : D) : Option D := match insOf st x with
  | some (c', ns, ds) => if c' = c then look1 f ns ds else none
  | none => none
def xFld (c f : Str) (m : Ev → Mo D) : Ev → Mo D := fun ρ => (m ρ).bind fun x st => (dFld c f st x).map fun d => (d, st)
theorem dFld_some {st : List Ob} {x d : D} (h : dFld c f st x = some d) : ∃ ns ds, insOf st x = some (c, ns, ds) ∧ look1 f ns ds = some d := by
  unfold dFld at h
  split at h
  · rename_i c' ns ds hi
    split at h
    · rename_i hc
      subst hc
      exact ⟨ns, ds, hi, h⟩
    · cases h
  · cases h
theorem ev_fld (hc : Cls X.K (g.ca c)) (hn : NoAttr X.K (g.ca c) f) (he : EV g X e me) (hb : attributeBase e f X.env (eval e X.env) = eval e X.env := by rfl) : EV g X (.Attribute e f pos) (xFld c f me) := by
  obtain ⟨t, p0, s0⟩ := he.ex
  refine ⟨_, pe_fld p0 hb, fun av μ σ H Q ρ st d st' rl er hm p => ?_⟩
  obtain ⟨x, s1, h1, hm⟩ := Mo.bind_some hm
  refine s0 av μ σ H _ ρ st x s1 rl er h1 fun v H1 μ1 e1 r1 q1 => ?_
  cases e2 : dFld c f s1 x with
  | none => rw [e2] at hm; cases hm
  | some d' =>
    rw [e2] at hm
    cases hm
    obtain ⟨ns, ds, hi, hl⟩ := dFld_some e2
    obtain ⟨a, dx, fs, rfl, hH, rfl, l⟩ := ins_of r1 q1 hi
    obtain ⟨u, hu, ru⟩ := look1_ok l hl
    exact ⟨a, _, dx, fs, u, rfl, hH, hc, hn, hu, (p.mono e1).here r1 ru⟩
/-- o.f = value, o in the store -/
def ySetF (c f : Str) (mo mv : Ev → Mo D) : Ev → Mo Out := fun ρ => (mv ρ).bind fun v => (mo ρ).bind fun o st => match o with
  | .loc n => (match st[n]? with
    | some (.ins c' ns ds) => if c' = c ∧ ns.length < 1000 then some (.nx ρ, st.set n (.ins c (putN f ns) (put1 f v ns ds))) else none
    | _ => none)
  | _ => none
theorem sv_fld (hc : Cls X.K (g.ca c)) (hn : NoAttr X.K (g.ca c) f) (ho : EV g X o mo) (he : EV g X e me) (hs : swapsWith e (some (.Attribute o f pos')) pos.line X.env = pure false := by rfl) : SV g X (.Assign [.Attribute o f pos'] e pos) (ySetF c f mo me) := by
  obtain ⟨to, po, so⟩ := ho.ex
  obtain ⟨te, pe, se⟩ := he.ex
  refine ⟨_, ps_fld po pe hs, fun av μ σ H E ρ st out st' rl er hm p => ?_⟩
  obtain ⟨v, s1, h1, hm⟩ := Mo.bind_some hm
  obtain ⟨x, s2, h2, hm⟩ := Mo.bind_some hm
  refine se av μ σ H _ ρ st v s1 rl er h1 fun vv H1 μ1 e1 r1 q1 => ?_
  refine so av μ1 σ H1 _ ρ s1 x s2 r1 (er.mono e1) h2 fun vo H2 μ2 e2 r2 q2 => ?_
  split at hm
  · rename_i n
    split at hm
    · rename_i c' ns ds hst
      split at hm
      · rename_i hcl
        obtain ⟨rfl, hlen⟩ := hcl
        cases hm
        cases q2 with
        | @loc _ a hn2 =>
          cases r2.obs n _ _ hn2 hst with
          | @ins dx _ fv _ hH l =>
            refine ⟨a, _, dx, fv, rfl, hH, hc, hn, by simpa using hlen, ?_⟩
            have xw : Ext μ2 μ2 H2 (upd H2 a (.ins (g.ca c') dx (putF f vv fv))) := Ext.write r2 hn2
            obtain ⟨w1, w2⟩ := put1_ok (f := f) (Rp.mono xw (Rp.mono e2 q1)) (RpL.mono xw l)
            have ro : RpO X.K g.ca av μ2 (upd H2 a (.ins (g.ca c') dx (putF f vv fv))) a (.ins c' ((putF f vv fv).map (·.1)) (put1 f v (fv.map (·.1)) ds)) := .ins upd_same w1
            rw [w2] at ro
            exact p σ _ μ2 ((e1.trans e2).trans xw) (r2.write hn2 ro) (er.mono ((e1.trans e2).trans xw))
      · cases hm
    · cases hm
  · cases hm
end
end MM
set_option autoImplicit false
set_option maxRecDepth 100000
set_option maxHeartbeats 4000000
/-! M14: properties, constructors, own == and !=, truth of instances. -/
namespace MM
open PySem PySem.Spec PyProof.Rows L2 LamX NdefX
/-! ### properties -/
structure PropC (P : Program) (w : World) (K : PySem.W.Frag) (mg : Str → Option Value) (base : Heap) (g : G) (k : Nat) (c f : Str) (md : List A → Mo D) : Prop where
  ex : ∃ (p ga : Addr) (fd : FuncData) (ps : List Str), PropOf K (g.ca c) f p ga ∧ FnOk P w K mg base C8.CX0 k ga fd ps (SpG K g 1 md) ∧ Binds K fd ps []
  cl : Cls K (g.ca c)
def xProp (c : Str) (md : List A → Mo D) (m : Ev → Mo D) : Ev → Mo D := fun ρ => (m ρ).bind fun x st => match insOf st x with
  | some (c', _, _) => if c' = c then md [.d x] st else none
  | none => none
section
variable {g : G} {X : Cx} {e o : Expr} {f c x : Str} {p pos : Pos} {me : Ev → Mo D} {ml : Ev → Mo (List D)} {k j n : Nat} {md : List A → Mo D} {es : List Expr}
theorem ev_prop (P : PropC X.prog X.w X.K X.mg X.base g k c f md) (hr : Room j X.A) (hk : k + 1 ≤ j) (he : EV g X e me) (hb : attributeBase e f X.env (eval e X.env) = eval e X.env := by rfl) : EV g X (.Attribute e f pos) (xProp c md me) := by
  obtain ⟨pp, ga, fd, ps, hp, F, b⟩ := P.ex
  obtain ⟨t, p0, s0⟩ := he.ex
  refine ⟨_, pe_prop (E := C8.E0) p0 P.cl hp F (hr.mono hk) b .nil C8.pass0 hb, fun av μ σ H Q ρ st d st' rl er hm p => ?_⟩
  obtain ⟨xd, s1, h1, hq⟩ := Mo.bind_some hm
  refine s0 av μ σ H _ ρ st xd s1 rl er h1 fun v H1 μ1 e1 r1 q1 => ?_
  split at hq
  · rename_i c' ns ds hi
    split at hq
    · rename_i hc
      subst hc
      obtain ⟨a, dx, fs, rfl, hH, _, l⟩ := ins_of r1 q1 hi
      exact ⟨a, dx, fs, rfl, hH, rfl, av, μ1, s1, [.d xd], d, st', r1, .cons q1 .nil, hq, p.mono e1⟩
    · cases hq
  · cases hq
/-! ### constructors -/
structure MakC (P : Program) (w : World) (K : PySem.W.Frag) (mg : Str → Option Value) (base : Heap) (g : G) (k : Nat) (x c : Str) (n : Nat) (md : List A → Mo D) : Prop where
  ex : ∃ (f : Addr) (fd : FuncData) (ps : List Str), Mk K (g.ca c) f ∧ FnOk P w K mg base C8.CX0 k f fd ps (SpG K g (n + 1) md) ∧ mg x = some (.ref (g.ca c)) ∧ Binds K fd ps []
def mkM (c : Str) (n : Nat) (md : List A → Mo D) : List D → Mo D := fun ds st => if ds.length = n then (match md (.d (.loc st.length) :: ds.map .d) (st ++ [.ins c [] []]) with
  | some (.non, st') => some (.loc st.length, st')
  | _ => none) else none
def xMake (c : Str) (n : Nat) (md : List A → Mo D) (ml : Ev → Mo (List D)) : Ev → Mo D := fun ρ => (ml ρ).bind (mkM c n md)
theorem make_sem {K : PySem.W.Frag} {av μ : List Addr} {st st' : List Ob} {H : Hp} {vs : List V} {ds : List D} {d : D} {Q : VK} {E : XK} (rl : Rel K g av μ st H) (rs : RpL K g.ca av μ H vs ds) (hm : mkM c n md ds st = some (d, st')) (p : Post K g av μ H d st' Q) :
    ∀ x dx, H x = none → H dx = none → dx ≠ x → SpG K g (n + 1) md (.ref x :: vs) (upd (upd H dx (.own x)) x (.ins (g.ca c) dx [])) (fun v H2 => v = .non ∧ Q (.ref x) H2) E := fun x dx nx ndx hne => by
  unfold mkM at hm
  split at hm
  · rename_i hl
    split at hm
    · rename_i st2 h2
      cases hm
      have e1 : Ext μ μ H (upd H dx (.own x)) := Ext.new ndx
      have r1 := rl.new (o := .own x) ndx
      have nx1 : upd H dx (.own x) x = none := by rw [upd_ne (fun z => hne z.symm)]; exact nx
      obtain ⟨r2, e2⟩ := r1.push (o := .ins (g.ca c) dx []) (ob := .ins c [] []) nx1 (RpO.ins (fv := []) upd_same .nil)
      have lx : (μ ++ [x])[st.length]? = some x := by
        rw [← rl.len, List.getElem?_append_right (Nat.le_refl _), Nat.sub_self]
        rfl
      refine ⟨by rw [List.length_cons, rs.length, hl], av, μ ++ [x], _, .d (.loc st.length) :: ds.map .d, .non, _, r2, .cons (show RpA K g av (μ ++ [x]) _ _ (.d _) from .loc lx) (RpAs.of (RpL.mono (e1.trans e2) rs)), h2, fun v H' μ' x' r' q' => ?_⟩
      cases q'
      refine ⟨rfl, p _ H' μ' ((e1.trans e2).trans x') r' (.loc ?_)⟩
      obtain ⟨⟨rr, er, _⟩, _, _⟩ := x'
      rw [er, List.getElem?_append_left (List.getElem?_eq_some_iff.mp lx).1]
      exact lx
    · cases hm
  · cases hm
theorem ev_make (M : MakC X.prog X.w X.K X.mg X.base g k x c n md) (hr : Room j X.A) (hk : k + 1 ≤ j) (hg : Gl X x) (ha : AV g X (e :: es) ml)
    (hdb : (x == ("__debug__" : Str)) = false := by decide) (he : starEach (e :: es) X.env = (false, eval e X.env) :: starEach es X.env := by rfl) (hpl : (backTo pos (starEach es X.env)).any (·.1) = false := by rfl) :
    EV g X (.Call (.Name x p) (e :: es) [] pos) (xMake c n md ml) := by
  obtain ⟨f, fd, ps, Mf, F, hm, b⟩ := M.ex
  obtain ⟨t, pa, sl⟩ := ha.ex
  refine ⟨_, pe_make (E := C8.E0) Mf F (hr.mono hk) hg hm b .nil C8.pass0 pa hdb he hpl, fun av μ σ H Q ρ st d st' rl er hm p => ?_⟩
  obtain ⟨ds, s1, h1, hm⟩ := Mo.bind_some hm
  refine sl av μ σ H _ ρ st ds s1 rl er h1 fun vs H1 μ1 e1 r1 q1 => ?_
  rw [List.append_nil]
  exact make_sem r1 q1 hm (p.mono e1)
/-! keywords -/
structure KV (g : G) (X : Cx) (kws : List Keyword) (m : Ev → Mo (List D)) : Prop where
  ex : ∃ t, PK X kws t ∧ SemA X.K g t m
theorem kv_nil : KV g X [] xNil := ⟨_, pk_nil, fun av μ σ H Q ρ st d st' rl er hm p => by
  obtain ⟨z1, z2⟩ := Mo.pure_some hm
  subst z1 z2
  exact p [] H μ (Ext.refl _ _) rl .nil⟩
theorem kv_cons {kws : List Keyword} {nm : Option Str} {kpos : Pos} (ha : EV g X e me) (hb : KV g X kws ml) : KV g X (⟨nm, e, kpos⟩ :: kws) (xCons me ml) := by
  obtain ⟨ta, pa, sa⟩ := ha.ex
  obtain ⟨tb, pb, sb⟩ := hb.ex
  refine ⟨_, pk_cons pa pb, fun av μ σ H Q ρ st d st' rl er hm p => ?_⟩
  obtain ⟨x, s1, h1, hm⟩ := Mo.bind_some hm
  obtain ⟨xs, s2, h2, hm⟩ := Mo.bind_some hm
  obtain ⟨z1, z2⟩ := Mo.pure_some hm
  subst z1 z2
  refine sa av μ σ H _ ρ st x s1 rl er h1 fun v H1 μ1 e1 r1 q1 => ?_
  refine sb av μ1 σ H1 _ ρ s1 xs _ r1 (er.mono e1) h2 fun vs H2 μ2 e2 r2 q2 => ?_
  exact p _ H2 μ2 (e1.trans e2) r2 (.cons (q1.mono e2) q2)
def pick {α : Type} (is : List Nat) (xs : List α) : List α := is.filterMap (xs[·]?)
theorem pick_vals {vs : List V} {us : List Value} (r : Vals vs us) (is : List Nat) : Vals (pick is vs) (pick is us) := by
  have gt : ∀ {vs : List V} {us : List Value}, Vals vs us → ∀ i : Nat, (vs[i]? = none ∧ us[i]? = none) ∨ ∃ v u, vs[i]? = some v ∧ us[i]? = some u ∧ L2.RelV v u := by
    intro vs us r
    induction r with
    | nil => intro i; exact .inl ⟨by simp, by simp⟩
    | cons h _ ih =>
      intro i
      cases i with
      | zero => exact .inr ⟨_, _, rfl, rfl, h⟩
      | succ i => simpa using ih i
  induction is with
  | nil => exact .nil
  | cons i is ih =>
    unfold pick at ih ⊢
    rw [List.filterMap_cons, List.filterMap_cons]
    rcases gt r i with ⟨h1, h2⟩ | ⟨v, u, h1, h2, h3⟩
    · rw [h1, h2]; exact ih
    · rw [h1, h2]; exact .cons h3 ih
theorem pick_rp {K : PySem.W.Frag} {ca : Str → Addr} {av μ : List Addr} {H : Hp} {vs : List V} {ds : List D} (r : RpL K ca av μ H vs ds) (is : List Nat) : RpL K ca av μ H (pick is vs) (pick is ds) := by
  have gt : ∀ {vs : List V} {ds : List D}, RpL K ca av μ H vs ds → ∀ i : Nat, (vs[i]? = none ∧ ds[i]? = none) ∨ ∃ v u, vs[i]? = some v ∧ ds[i]? = some u ∧ Rp K ca av μ H v u := by
    intro vs
    induction vs with
    | nil => intro ds r i; cases r; exact .inl ⟨by simp, by simp⟩
    | cons v vs ih =>
      intro ds r i
      cases r with
      | cons h t =>
        cases i with
        | zero => exact .inr ⟨_, _, rfl, rfl, h⟩
        | succ i => simpa using ih t i
  induction is with
  | nil => exact .nil
  | cons i is ih =>
    unfold pick at ih ⊢
    rw [List.filterMap_cons, List.filterMap_cons]
    rcases gt r i with ⟨h1, h2⟩ | ⟨v, u, h1, h2, h3⟩
    · rw [h1, h2]; exact ih
    · rw [h1, h2]; exact .cons h3 ih
structure MakK (P : Program) (w : World) (K : PySem.W.Frag) (mg : Str → Option Value) (base : Heap) (g : G) (k : Nat) (x c : Str) (n : Nat) (ks : List Str) (is : List Nat) (md : List A → Mo D) : Prop where
  ex : ∃ (f : Addr) (fd : FuncData) (ps : List Str), Mk K (g.ca c) f ∧ FnOk P w K mg base C8.CX0 k f fd ps (SpG K g (n + 1) md) ∧ mg x = some (.ref (g.ca c)) ∧ KBn K fd ps 1 ks (fun us ws => us ++ pick is ws) (fun vs zs => vs ++ pick is zs)
theorem kbn_of {K : PySem.W.Frag} {nm qual : Str} {params : Arguments} {body : List Stmt} {scope : Scope} {f : Addr} {fd : FuncData} {ps ks : List Str} {is : List Nat} (F : FunD K nm qual params body scope [] [] f fd)
    (h : ∀ (kV doc pm : Value) (an : Option Addr) (cdv ct : Value) (us ws : List Value), us.length = 1 → ws.length = ks.length → bindArgs (PySem.W.fnOf nm qual params body scope .none kV doc pm an cdv ct) ⟨us, ks.zip ws⟩ = pure (ps.zip (us ++ pick is ws))) :
    KBn K fd ps 1 ks (fun us ws => us ++ pick is ws) (fun vs zs => vs ++ pick is zs) := by
  obtain ⟨oc, od, dV, kV, doc, pm, an, cdv, ct, osl, rfl, lk, hcd, hD, hK⟩ := F.ex
  rcases hD with ⟨_, rfl⟩ | ⟨e, _⟩
  · exact ⟨fun s us ws _ l1 l2 => .of_eq (h kV doc pm an cdv ct us ws l1 l2), fun r1 r2 => r1.append (pick_vals r2 is)⟩
  · exact absurd rfl e
def xMakeK (c : Str) (n m : Nat) (is : List Nat) (md : List A → Mo D) (ml : Ev → Mo (List D)) : Ev → Mo D := fun ρ => (ml ρ).bind fun ds => if ds.length = m then mkM c n md (pick is ds) else Mo.fail
theorem ev_makeK {kws : List Keyword} {ks : List Str} {is : List Nat} (M : MakK X.prog X.w X.K X.mg X.base g k x c n ks is md) (hr : Room j X.A) (hk : k + 1 ≤ j) (hg : Gl X x) (ha : KV g X kws ml)
    (hall : (backToKw pos (keywordEach kws X.env)).all (·.1.isSome) = true := by rfl) (hks : (backToKw pos (keywordEach kws X.env)).filterMap (·.1) = ks := by rfl) (hdb : (x == ("__debug__" : Str)) = false := by decide)
    (hpl : ((backTo pos (starEach [] X.env)).any (·.1) || (backToKw pos (keywordEach kws X.env)).any (·.1.isNone)) = false := by rfl) :
    EV g X (.Call (.Name x p) [] kws pos) (xMakeK c n ks.length is md ml) := by
  obtain ⟨f, fd, ps, Mf, F, hm, b⟩ := M.ex
  obtain ⟨t, pa, sl⟩ := ha.ex
  refine ⟨_, pe_makeK0 (E := C8.E0) Mf F (hr.mono hk) hg hm b C8.pass0 pa hall hks hdb hpl, fun av μ σ H Q ρ st d st' rl er hm p => ?_⟩
  obtain ⟨ds, s1, h1, hm⟩ := Mo.bind_some hm
  split at hm
  · rename_i hl
    refine sl av μ σ H _ ρ st ds s1 rl er h1 fun vs H1 μ1 e1 r1 q1 => ⟨rfl, by rw [q1.length]; exact hl, ?_⟩
    exact make_sem r1 (pick_rp q1 is) hm (p.mono e1)
  · cases hm
end
end MM
set_option autoImplicit false
set_option maxRecDepth 100000
set_option maxHeartbeats 4000000
/-! M15: own == and !=, truth of instances. -/
namespace MM
open PySem PySem.Spec PyProof.Rows L2 LamX NdefX
/-- what == asks of an own class -/
structure EqF (K : PySem.W.Frag) (C f : Addr) : Prop where
  eq : PySem.W.findIn K (.ref C) "__eq__" = some (some (.ref f))
  fn : PySem.W.isFn K (.ref f) = true
structure EqC (P : Program) (w : World) (K : PySem.W.Frag) (mg : Str → Option Value) (base : Heap) (g : G) (k : Nat) (c : Str) (md : List A → Mo D) : Prop where
  ex : ∃ (f : Addr) (fd : FuncData) (ps : List Str), EqF K (g.ca c) f ∧ FnOk P w K mg base C8.CX0 k f fd ps (SpG K g 2 md) ∧ Binds K fd ps []
section
variable {g : G} {X : Cx} {k n : Nat} {md : List A → Mo D} {c : Str}
/-- f(x, y) by the own def; A: where -/
theorem run_eq {pins : List (Addr × Obj)} {σ : L2.St} {H : Hp} {s : Shared} {A : Around} {f a b : Addr} {fd : FuncData} {ps : List Str} {Q : VK} {R : Value → Shared → Prop} {E' : Value → Shared → Prop}
    (F : FnOk X.prog X.w X.K X.mg X.base C8.CX0 k f fd ps (SpG X.K g 2 md)) (hb : Binds X.K fd ps []) (hr : Room k A) (hA : A.frames = X.A.frames) (I : L2.Inv X pins σ H s)
    (hsp : SpG X.K g 2 md [.ref a, .ref b] H Q C8.E0) (hR : ∀ u s', EP X pins σ Q u s' → R u s') : wpAny (model X.prog X.w) A (call (.ref f) [.ref a, .ref b]) R E' s := by
  have e0 : Env0 X.prog X.w X.K X.mg X.base A X.stack s H := by
    have e := I.env0
    exact ⟨by rw [hA]; exact e.frames, e.mod, e.bs, e.bsz, e.funs, e.frf, e.hok, e.bare⟩
  have hl := F.len _ _ _ _ hsp
  have r2 : Vals [V.ref a, V.ref b] [Value.ref a, Value.ref b] := .cons rfl (.cons rfl .nil)
  refine wpAny_call (codeAny_mono (F.run A X.stack s H ⟨[.ref a, .ref b], []⟩ [.ref a, .ref b] [.ref a, .ref b] _ C8.E0 hr e0 (by
    have := hb s [.ref a, .ref b] I.kIn (by simpa using hl)
    simpa using this) r2 hsp) fun r s' hq => ?_)
  cases r with
  | error e => exact (show False from hq).elim
  | ok fl =>
    cases fl with
    | ret w => exact hR w s' (I.after hq)
    | next => exact False.elim hq
    | brk => exact False.elim hq
    | cont => exact False.elim hq
/-- the own == of two instances of c -/
def mEqOwn (c : Str) (md : List A → Mo D) : D → D → Mo D := fun x y st => match insOf st x, insOf st y with
  | some (c1, _, _), some (c2, _, _) => if c1 = c ∧ c2 = c then (match md [.d x, .d y] st with
    | some (.bl b, st') => some (.bl b, st')
    | _ => none) else none
  | _, _ => none
theorem mEqOwn_some {x y d : D} {st st' : List Ob} (h : mEqOwn c md x y st = some (d, st')) : ∃ ns1 ds1 ns2 ds2 b, insOf st x = some (c, ns1, ds1) ∧ insOf st y = some (c, ns2, ds2) ∧ md [.d x, .d y] st = some (.bl b, st') ∧ d = .bl b := by
  unfold mEqOwn at h
  split at h
  · rename_i c1 ns1 ds1 c2 ns2 ds2 h1 h2
    split at h
    · rename_i hc
      obtain ⟨rfl, rfl⟩ := hc
      split at h
      · rename_i b st2 hm
        cases h
        exact ⟨_, _, _, _, b, h1, h2, hm, rfl⟩
      · cases h
    · cases h
  · cases h
theorem od_eqOwn (C : EqC X.prog X.w X.K X.mg X.base g k c md) (hr : Room k X.A) : OpD g X (compareOp .Eq) (mEqOwn c md) := by
  obtain ⟨f, fd, ps, hf, F, hb⟩ := C.ex
  refine ⟨fun x y H Q => ∃ a b dx dy fs gs, x = .ref a ∧ y = .ref b ∧ H a = some (.ins (g.ca c) dx fs) ∧ H b = some (.ins (g.ca c) dy gs) ∧ SpG X.K g 2 md [.ref a, .ref b] H (fun v H' => (∃ k, v = .bl k) ∧ Q v H') C8.E0, ?_, fun av μ H Q st x y dx dy d st' rl rx ry hm p => ?_⟩
  · intro pins s σ H x y v u Q I rx ry ⟨a, b, dx, dy, fs, gs, ex, ey, ha, hb', hsp⟩
    subst ex ey
    cases rx
    cases ry
    obtain ⟨mA, J, _⟩ := ins_get I.hok ha
    obtain ⟨mB, J', _⟩ := ins_get I.hok hb'
    obtain ⟨od, J, _⟩ := J.look
    obtain ⟨od', J', _⟩ := J'.look
    obtain ⟨m, hF⟩ := I.fr
    show wpAny _ _ (richCompare .Eq _ _) _ _ _
    refine PySem.W.cmp_K (op := .Eq) (tb := .ref (g.ca c)) hr.units0 hF I.ok.mod.kin J J'.type (by simp [PySem.W.notFirst]) hf.eq hf.fn ?_
    refine run_eq F hb hr rfl I hsp fun u s' ⟨z, H', I', rz, ⟨kk, ez⟩, q⟩ => ?_
    subst ez
    cases rz
    exact ⟨.bl kk, H', I', rfl, q⟩
  · obtain ⟨ns1, ds1, ns2, ds2, b, i1, i2, hq, rfl⟩ := mEqOwn_some hm
    obtain ⟨a1, dx1, fs1, rfl, h1, _, _⟩ := ins_of rl rx i1
    obtain ⟨a2, dx2, fs2, rfl, h2, _, _⟩ := ins_of rl ry i2
    exact ⟨a1, a2, dx1, dx2, fs1, fs2, rfl, rfl, h1, h2, rfl, av, μ, st, [.d dx, .d dy], _, st', rl, .cons rx (.cons ry .nil), hq, fun v H' μ' x r q => by
      cases q
      exact ⟨⟨b, rfl⟩, p (.bl b) H' μ' x r (.bl b)⟩⟩
/-! ### != by the own == -/
/-- what != asks, besides -/
structure NeF (K : PySem.W.Frag) (C : Addr) : Prop where
  ne : PySem.W.findIn K (.ref C) "__ne__" = some (some (.builtin "object.__ne__"))
  hm : PySem.W.mroIn K C (.type "object") = some true
section
variable {prog : Program} {w : World} {A : Around} {E : Value → Shared → Prop} {s : Shared} {K : PySem.W.Frag} {x C L f : Addr} {h₀ : Heap} {m : Str → Option Value} {ox : Obj} {od : Option Obj} {name : Str} {b tb : Value}
theorem ifBound_KB {M : Model} {id : String} {args : List Value} {Q : Option Value → Shared → Prop} (X : K.In s.heap) (I : PySem.W.InstAt s.heap x ox C od) (hs : PySem.W.findIn K (.ref C) name = some (some (.builtin id))) (S : ∀ self, bindSpecial (.builtin id) self = pure (.builtin id, [self]))
    (h : wpAny M A (call (.builtin id) (.ref x :: args)) (fun v => Q (some v)) E s) : wpAny M A (callSpecialIfBound? (.ref x) name args) Q E s := by
  simp only [callSpecialIfBound?, bindSpecialIfBound?]
  refine wpAny_holding (wpAny_bind (wpAny_bind (wpAny_bind (I.type.here ((PySem.W.looks_findIn X hs).here ?_)))))
  simp only [S]
  refine wpAny_bind (wpAny_askSetting (wpAny_ite ?_))
  have fin : wpAny M A (call (.builtin id) ([.ref x] ++ args) >>= fun v => pure (some v)) Q E s := wpAny_bind (wpAny_mono h (fun v s' h' => wpAny_pure h') fun _ _ h' => h')
  split
  · exact wpAny_bind (wpAny_pure (wpAny_pure fin))
  · exact wpAny_tryCatch (wpAny_bind (wpAny_pure (wpAny_pure fin)))
theorem check_KB {M : Model} {id owner n : String} {rest : List Value} {Q : Unit → Shared → Prop} (X : K.In s.heap) (I : PySem.W.InstAt s.heap x ox C od) (hm : PySem.W.mroIn K C (.type owner) = some true) (hk : builtinKind id = some .slot) (hs : splitId id = some (owner, n))
    (ha : argsOk id ⟨.ref x :: rest, []⟩) (hq : Q () s) : wpAny M A (checkBuiltinCall id ⟨.ref x :: rest, []⟩) Q E s := by
  simp only [checkBuiltinCall, hk, hs]
  refine wpAny_bind ?_
  unfold isInstance
  refine wpAny_bind (I.type.here ((PySem.W.looks_mroIn X hm).here ?_))
  cases hsig : Manifest.signature? id with
  | none => exact wpAny_pure hq
  | some sig =>
    simp only [argsOk, hsig] at ha
    have h2 : Bind.checkArgs id sig ⟨.ref x :: rest, []⟩ = pure () := ha
    show wpAny M A (Bind.checkArgs id sig ⟨.ref x :: rest, []⟩) Q E _
    rw [h2]; exact wpAny_pure hq
end
/-- != is the own == turned round -/
def mNeOwn (c : Str) (md : List A → Mo D) : D → D → Mo D := fun x y st => match mEqOwn c md x y st with
  | some (.bl b, st') => some (.bl (!b), st')
  | _ => none
theorem ne_run {pins : List (Addr × Obj)} {σ : L2.St} {H : Hp} {s : Shared} {f a b dx dy : Addr} {fd : FuncData} {ps : List Str} {Q : VK} {fs gs : List (Str × V)}
    (F : FnOk X.prog X.w X.K X.mg X.base C8.CX0 k f fd ps (SpG X.K g 2 md)) (hb : Binds X.K fd ps []) (hr : Room (k + 1) X.A) (hf : EqF X.K (g.ca c) f) (hn : NeF X.K (g.ca c)) (I : L2.Inv X pins σ H s)
    (ha : H a = some (.ins (g.ca c) dx fs)) (hb' : H b = some (.ins (g.ca c) dy gs)) (hsp : SpG X.K g 2 md [.ref a, .ref b] H (fun v H' => ∃ k, v = .bl k ∧ Q (.bl (!k)) H') C8.E0) :
    wpAny (model X.prog X.w) X.A (richCompare .NotEq (.ref a) (.ref b)) (EP X pins σ Q) X.xe s := by
  obtain ⟨mA, J, _⟩ := ins_get I.hok ha
  obtain ⟨mB, J', _⟩ := ins_get I.hok hb'
  obtain ⟨od, J, _⟩ := J.look
  obtain ⟨od', J', _⟩ := J'.look
  have one : wpAny (model X.prog X.w) X.A (tryCompare (.ref a) "__ne__" (.ref b)) (fun r s' => ∃ v, r = some v ∧ EP X pins σ Q v s') X.xe s := by
    unfold tryCompare
    refine wpAny_bind (m := callSpecialIfBound? (.ref a) (Str.ofString "__ne__") [.ref b]) (ifBound_KB I.kIn J hn.ne PySem.F.cmp_object.ne.bind (wpAny_call (codeAny_call_builtin PySem.F.cmp_object.ne.plain PySem.F.cmpEntry_ne (check_KB I.kIn J hn.hm PySem.F.cmpKind_ne PySem.F.cmpSplit_ne (PySem.F.cmpArgs_ne _ _) ?_))))
    unfold Builtin.«object.__ne__»
    refine wpAny_bind (wpAny_pure ?_)
    refine wpAny_bind (m := cRoomFor "comparison" [Value.ref a, Value.ref b]) (wpAny_cRoomFor (hr.in1).units0 ?_)
    refine wpAny_bind (m := callSpecialIfBound? (.ref a) (Str.ofString "__eq__") [.ref b]) (PySem.W.ifBound_K I.kIn J hf.eq hf.fn (run_eq F hb hr.in1 rfl I hsp ?_))
    rintro u s' ⟨z, H', I', rz, kk, ez, q⟩
    subst ez
    cases rz
    refine wpAny_bind (m := truthy (.bool kk)) (wpAny_truthy_bool ?_)
    exact wpAny_pure (wpAny_pure ⟨_, rfl, .bl (!kk), H', I', rfl, q⟩)
  unfold richCompare
  simp only [oneThing_ref]
  refine wpAny_holding (wpAny_bind (wpAny_cRoomFor hr.units0 ?_))
  refine wpAny_bind (J.type.here (wpAny_bind (J'.type.here ?_)))
  rw [show (Value.ref (g.ca c) != Value.ref (g.ca c)) = false from by simp]
  simp only [Bool.false_eq_true, if_false]
  refine wpAny_bind (wpAny_pure ?_)
  simp only [Bool.false_eq_true, if_false]
  refine wpAny_bind (wpAny_mono one (fun r s' z => ?_) fun _ _ e => e)
  obtain ⟨v, rfl, hq⟩ := z
  exact wpAny_pure hq
theorem od_neOwn (C : EqC X.prog X.w X.K X.mg X.base g k c md) (hn : NeF X.K (g.ca c)) (hr : Room (k + 1) X.A) : OpD g X (compareOp .NotEq) (mNeOwn c md) := by
  obtain ⟨f, fd, ps, hf, F, hb⟩ := C.ex
  refine ⟨fun x y H Q => ∃ a b dx dy fs gs, x = .ref a ∧ y = .ref b ∧ H a = some (.ins (g.ca c) dx fs) ∧ H b = some (.ins (g.ca c) dy gs) ∧ SpG X.K g 2 md [.ref a, .ref b] H (fun v H' => ∃ k, v = .bl k ∧ Q (.bl (!k)) H') C8.E0, ?_, fun av μ H Q st x y dx dy d st' rl rx ry hm p => ?_⟩
  · intro pins s σ H x y v u Q I rx ry ⟨a, b, dx, dy, fs, gs, ex, ey, ha, hb', hsp⟩
    subst ex ey
    cases rx
    cases ry
    exact ne_run F hb hr hf hn I ha hb' hsp
  · unfold mNeOwn at hm
    split at hm
    · rename_i b0 st2 h0
      cases hm
      obtain ⟨ns1, ds1, ns2, ds2, b, i1, i2, hq, eb⟩ := mEqOwn_some h0
      cases eb
      obtain ⟨a1, dx1, fs1, rfl, h1, _, _⟩ := ins_of rl rx i1
      obtain ⟨a2, dx2, fs2, rfl, h2, _, _⟩ := ins_of rl ry i2
      exact ⟨a1, a2, dx1, dx2, fs1, fs2, rfl, rfl, h1, h2, rfl, av, μ, st, [.d dx, .d dy], _, _, rl, .cons rx (.cons ry .nil), hq, fun v H' μ' x r q => by
        cases q
        exact ⟨b0, rfl, p (.bl (!b0)) H' μ' x r (.bl _)⟩⟩
    · cases hm
/-! ### truth of an instance -/
structure TruF (K : PySem.W.Frag) (C : Addr) : Prop where
  b : PySem.W.findIn K (.ref C) "__bool__" = some none
  l : PySem.W.findIn K (.ref C) "__len__" = some none
def asIns (c : Str) (m : Ev → Mo D) : Ev → Mo Bool := fun ρ => (m ρ).bind fun x st => match insOf st x with
  | some (c', _, _) => if c' = c then some (true, st) else none
  | none => none
theorem tv_ins {a : Expr} {ma : Ev → Mo D} (hf : TruF X.K (g.ca c)) (ha : EV g X a ma) (he : ∀ whole, isTrue a X.env whole = (do let v ← whole; standAt a.pos; holding [v] (truthy v)) := by intro _; rfl) : TV g X a (asIns c ma) := by
  obtain ⟨t, p0, s0⟩ := ha.ex
  refine ⟨fun σ H Q => t σ H fun x H' => ∃ b dx fs, x = .ref b ∧ H' b = some (.ins (g.ca c) dx fs) ∧ Q true H', ⟨fun pins s σ H Q I h => ?_⟩, fun av μ σ H Q ρ st b st' rl er hm p => ?_⟩
  · refine isTrue_plain (thn (p0.run pins s σ H _ I h) fun v s1 ⟨x, H1, I1, r1, b, dx, fs, ex, hb, q⟩ => ?_) (he _)
    subst ex
    cases r1
    obtain ⟨mA, J, _⟩ := ins_get I1.hok hb
    obtain ⟨od, J, _⟩ := J.look
    obtain ⟨m, hF⟩ := I1.fr
    exact PySem.W.truthy_K0 hF I1.ok.mod.kin J hf.b hf.l ⟨H1, I1, q⟩
  · obtain ⟨x, s1, h1, hz⟩ := Mo.bind_some hm
    refine s0 av μ σ H _ ρ st x s1 rl er h1 fun v H1 μ1 e1 r1 q1 => ?_
    split at hz
    · rename_i c' ns ds hi
      split at hz
      · rename_i hc
        subst hc
        cases hz
        obtain ⟨a, dx, fs, rfl, hH, _, l⟩ := ins_of r1 q1 hi
        exact ⟨a, dx, fs, rfl, hH, p H1 μ1 e1 r1⟩
      · cases hz
    · cases hz
end
end MM
set_option autoImplicit false
set_option maxRecDepth 100000
set_option maxHeartbeats 4000000
/-! M16: dicts: of pairs, an item, the keys. -/
namespace MM
open PySem PySem.Spec PyProof.Rows L2 LamX NdefX
def keyD : D → Option L2.Key
  | .int i => some (.inl i)
  | .str x => some (.inr x)
  | _ => none
def kD : L2.Key → D
  | .inl i => .int i
  | .inr x => .str x
abbrev KD := List (L2.Key × D)
def valD (kds : KD) (k : L2.Key) : Option D := (kds.find? fun kv => decide (kv.1 = k)).map (·.2)
def putD (kds : KD) (k : L2.Key) (v : D) : KD := if (kds.any fun kv => decide (kv.1 = k)) = true then kds.map (fun kv => if kv.1 = k then (kv.1, v) else kv) else kds ++ [(k, v)]
def mergeD (kds more : KD) : KD := more.foldl (fun acc kv => putD acc kv.1 kv.2) kds
section
variable {K : PySem.W.Frag} {g : G} {ca : Str → Addr} {av μ : List Addr} {H : Hp} {st : List Ob}
inductive KvR (K : PySem.W.Frag) (ca : Str → Addr) (av μ : List Addr) (H : Hp) : List (L2.Key × V) → KD → Prop
  | nil : KvR K ca av μ H [] []
  | cons {k : L2.Key} {v : V} {d : D} {r : List (L2.Key × V)} {s : KD} : Rp K ca av μ H v d → KvR K ca av μ H r s → KvR K ca av μ H ((k, v) :: r) ((k, d) :: s)
theorem KvR.keys {kvs : List (L2.Key × V)} {kds : KD} (h : KvR K ca av μ H kvs kds) : kvs.map (·.1) = kds.map (·.1) := by
  induction h with
  | nil => rfl
  | cons _ _ ih => rw [List.map_cons, List.map_cons, ih]
theorem KvR.vals {kvs : List (L2.Key × V)} {kds : KD} (h : KvR K ca av μ H kvs kds) : RpL K ca av μ H (kvs.map (·.2)) (kds.map (·.2)) := by
  induction h with
  | nil => exact .nil
  | cons a _ ih => exact .cons a ih
theorem KvR.of : ∀ {kvs : List (L2.Key × V)} {ds : List D}, RpL K ca av μ H (kvs.map (·.2)) ds → KvR K ca av μ H kvs ((kvs.map (·.1)).zip ds)
  | [], _, h => by cases h; exact .nil
  | (k, v) :: r, _, h => by
    cases h with
    | cons a t => exact .cons a (KvR.of t)
theorem KvR.any {k : L2.Key} {kvs : List (L2.Key × V)} {kds : KD} (h : KvR K ca av μ H kvs kds) : (kvs.any fun kv => decide (kv.1 = k)) = kds.any fun kv => decide (kv.1 = k) := by
  induction h with
  | nil => rfl
  | cons _ _ ih => rw [List.any_cons, List.any_cons, ih]
theorem KvR.app {kvs kvs2 : List (L2.Key × V)} {kds kds2 : KD} (h : KvR K ca av μ H kvs kds) (h2 : KvR K ca av μ H kvs2 kds2) : KvR K ca av μ H (kvs ++ kvs2) (kds ++ kds2) := by
  induction h with
  | nil => exact h2
  | cons a _ ih => exact .cons a ih
theorem KvR.put {k : L2.Key} {v : V} {d : D} {kvs : List (L2.Key × V)} {kds : KD} (h : KvR K ca av μ H kvs kds) (hv : Rp K ca av μ H v d) : KvR K ca av μ H (putK kvs k v) (putD kds k d) := by
  unfold putK putD
  rw [h.any]
  split
  · rename_i hh
    clear hh
    induction h with
    | nil => exact .nil
    | @cons k' _ _ _ _ a _ ih =>
      rw [List.map_cons, List.map_cons]
      by_cases e : k' = k
      · rw [if_pos e, if_pos e]; exact .cons hv ih
      · rw [if_neg e, if_neg e]; exact .cons a ih
  · exact h.app (.cons hv .nil)
theorem KvR.merge {more : List (L2.Key × V)} {mds : KD} (h2 : KvR K ca av μ H more mds) : ∀ {kvs : List (L2.Key × V)} {kds : KD}, KvR K ca av μ H kvs kds → KvR K ca av μ H (mergeK kvs more) (mergeD kds mds) := by
  induction h2 with
  | nil => exact fun h => h
  | cons a _ ih => exact fun h => ih (h.put a)
theorem KvR.get {k : L2.Key} {d : D} {kvs : List (L2.Key × V)} {kds : KD} (h : KvR K ca av μ H kvs kds) (e : valD kds k = some d) : ∃ v, valV kvs k = some v ∧ Rp K ca av μ H v d := by
  induction h with
  | nil => cases e
  | @cons k' v d' r s a _ ih =>
    by_cases hk : k' = k
    · subst hk
      have : d' = d := by simpa [valD] using e
      subst this
      exact ⟨v, by simp [valV], a⟩
    · have e' : valD s k = some d := by simpa [valD, hk] using e
      obtain ⟨u, h1, h2⟩ := ih e'
      exact ⟨u, by simpa [valV, hk] using h1, h2⟩
theorem key_of {v : V} {d : D} {k : L2.Key} (h : Rp K ca av μ H v d) (e : keyD d = some k) : v = kV k := by
  cases h <;> first | (cases e; rfl) | cases e
theorem kD_rp (k : L2.Key) : Rp K ca av μ H (kV k) (kD k) := by
  cases k with
  | inl i => exact .int i
  | inr x => exact .str x
def dctOf (st : List Ob) : D → Option (List L2.Key × List D)
  | .dct ks ds => some (ks, ds)
  | .loc n => (match st[n]? with
    | some (.dK ks ds) => some (ks, ds)
    | _ => none)
  | _ => none
theorem dct_of (r : Rel K g av μ st H) {v : V} {d : D} {ks : List L2.Key} {ds : List D} (h : Rp K g.ca av μ H v d) (e : dctOf st d = some (ks, ds)) : ∃ a kvs, v = .ref a ∧ H a = some (.dK kvs) ∧ ks = kvs.map (·.1) ∧ RpL K g.ca av μ H (kvs.map (·.2)) ds := by
  cases h with
  | dct h _ _ l =>
    cases e
    exact ⟨_, _, rfl, h, rfl, l⟩
  | @loc n a hn =>
    cases e1 : st[n]? with
    | none => simp only [dctOf, e1] at e; cases e
    | some ob =>
      have ho := r.obs n a ob hn e1
      cases ob with
      | dK ks' ds' =>
        simp only [dctOf, e1] at e
        cases e
        cases ho with
        | dK hH l => exact ⟨_, _, rfl, hH, rfl, l⟩
      | _ => simp only [dctOf, e1] at e; cases e
  | _ => cases e
end
section
variable {g : G} {X : Cx} {a b : Expr} {ma mb : Ev → Mo D} {pos : Pos}
def dGetD (st : List Ob) (x y : D) : Option D := (dctOf st x).bind fun p => (keyD y).bind fun k => valD (p.1.zip p.2) k
def mGetD : D → D → Mo D := fun x y st => (dGetD st x y).map fun d => (d, st)
theorem ev_dget (hu : X.A.units + 64 < cLine) (ha : EV g X a ma) (hb : EV g X b mb) (hs : NoSl b) : EV g X (.Subscript a b pos) (xBin mGetD ma mb) := by
  obtain ⟨ta, pa, sa⟩ := ha.ex
  obtain ⟨tb, pb, sb⟩ := hb.ex
  refine ⟨_, pe_dget (by omega) pa pb hs, fun av μ σ H Q ρ st d st' rl er hm p => ?_⟩
  obtain ⟨dx, s1, h1, hm⟩ := Mo.bind_some hm
  obtain ⟨dy, s2, h2, hm⟩ := Mo.bind_some hm
  refine sa av μ σ H _ ρ st dx s1 rl er h1 fun x H1 μ1 e1 r1 q1 => ?_
  refine sb av μ1 σ H1 _ ρ s1 dy s2 r1 (er.mono e1) h2 fun y H2 μ2 e2 r2 q2 => ?_
  unfold mGetD at hm
  cases e : dGetD s2 dx dy with
  | none => rw [e] at hm; cases hm
  | some d' =>
    rw [e] at hm
    cases hm
    unfold dGetD at e
    obtain ⟨⟨ks, ds⟩, e3, e⟩ := Option.bind_eq_some_iff.mp e
    obtain ⟨k, e4, e⟩ := Option.bind_eq_some_iff.mp e
    obtain ⟨ad, kvs, rfl, hH, rfl, l⟩ := dct_of r2 (q1.mono e2) e3
    obtain ⟨v, h5, h6⟩ := (KvR.of l).get e
    have := key_of q2 e4
    subst this
    exact ⟨ad, v, rfl, by rw [← h5]; exact DGet.k hH, (p.mono (e1.trans e2)).here r2 h6⟩
/-- dict(list of pairs) -/
def pairsD : List D → Option KD
  | [] => some []
  | .tup [k, v] :: r => (keyD k).bind fun k => (pairsD r).map ((k, v) :: ·)
  | _ => none
def dDict (st : List Ob) (x : D) : Option KD := (lstItems st x).bind fun ds => (pairsD ds).map fun kds => mergeD [] kds
def mDictP : List D → Mo D := fun ds st => match ds with
  | [x] => (dDict st x).map fun kds => (.loc st.length, st ++ [.dK (kds.map (·.1)) (kds.map (·.2))])
  | _ => none
theorem pairs_ok {K : PySem.W.Frag} {ca : Str → Addr} {av μ : List Addr} {H : Hp} : ∀ {vs : List V} {ds : List D} {kds : KD}, RpL K ca av μ H vs ds → pairsD ds = some kds → ∃ (ps : List Addr) (kvs : List (L2.Key × V)), vs = ps.map V.ref ∧ Paired (fun p kv => SqT K H p [kV kv.1, kv.2]) ps kvs ∧ KvR K ca av μ H kvs kds
  | _, _, _, .nil, e => by cases e; exact ⟨[], [], rfl, .nil, .nil⟩
  | _, _, _, .cons (v := v) (d := d) h t, e => by
    unfold pairsD at e
    split at e
    · rename_i heq
      cases heq
    · rename_i k y r heq
      cases heq
      obtain ⟨kk, e1, e⟩ := Option.bind_eq_some_iff.mp e
      obtain ⟨kds', e2, e⟩ := Option.map_eq_some_iff.mp e
      subst e
      obtain ⟨ps, kvs, rfl, hp, hk⟩ := pairs_ok t e2
      cases h with
      | tup hs l =>
        obtain ⟨x1, x2, rfl, a1, a2⟩ := rpl2 l
        have := key_of a1 e1
        subst this
        exact ⟨_ :: ps, (kk, x2) :: kvs, rfl, .cons hs hp, .cons a2 hk⟩
    · cases e
theorem cd_dictP (hc : X.calm = true) : CallD g X (.type "dict") mDictP := ⟨_, call_dictP hc, fun av μ H Q st xs ds d st' rl rx hm p => by
  unfold mDictP at hm
  split at hm
  · rename_i x
    cases e : dDict st x with
    | none => rw [e] at hm; cases hm
    | some kds =>
      rw [e] at hm
      cases hm
      unfold dDict at e
      obtain ⟨is, e1, e⟩ := Option.bind_eq_some_iff.mp e
      obtain ⟨kds0, e2, e⟩ := Option.map_eq_some_iff.mp e
      subst e
      obtain ⟨v, rfl, hv⟩ := rpl1 rx
      obtain ⟨q, ys, rfl, hq, l⟩ := lst_of rl hv e1
      obtain ⟨ps, kvs, rfl, hp, hk⟩ := pairs_ok l e2
      refine ⟨q, ps, kvs, rfl, hq, hp, fun z hz => ?_⟩
      have x0 : Ext μ (μ ++ [z]) H (upd H z (.dK (mergeK [] kvs))) := ⟨⟨[z], rfl, fun a ha => by rw [List.mem_singleton.mp ha]; exact hz⟩, fun b u h _ _ => upd_some hz h, fun b h => upd_thr h⟩
      have hm2 : KvR X.K g.ca av μ H (mergeK [] kvs) (mergeD [] kds0) := hk.merge .nil
      have ro : RpO X.K g.ca av (μ ++ [z]) (upd H z (.dK (mergeK [] kvs))) z (.dK ((mergeK [] kvs).map (·.1)) ((mergeD [] kds0).map (·.2))) := .dK upd_same (RpL.mono x0 hm2.vals)
      rw [hm2.keys] at ro
      obtain ⟨r2, e2'⟩ := rl.push hz ro
      refine p _ _ (μ ++ [z]) e2' r2 (.loc ?_)
      rw [← rl.len, List.getElem?_append_right (Nat.le_refl _), Nat.sub_self]
      rfl
  · cases hm⟩
/-- list(dict) -/
def dListD (st : List Ob) : List D → Option D
  | [x] => (dctOf st x).map fun p => .lst (p.1.map kD)
  | _ => none
theorem keys_rp {K : PySem.W.Frag} {ca : Str → Addr} {av μ : List Addr} {H : Hp} : ∀ ks : List L2.Key, RpL K ca av μ H (ks.map kV) (ks.map kD)
  | [] => .nil
  | k :: ks => .cons (kD_rp k) (keys_rp ks)
theorem cd_listD (hc : X.calm = true) : CallD g X (.type "list") (liftL dListD) := calld (call_list_dK hc) fun av μ H Q st xs ds d rl rx hm p => by
  unfold dListD at hm
  split at hm
  · rename_i x
    obtain ⟨⟨ks, vs⟩, e1, e⟩ := Option.map_eq_some_iff.mp hm
    subst e
    obtain ⟨v, rfl, hv⟩ := rpl1 rx
    obtain ⟨ad, kvs, rfl, hH, rfl, l⟩ := dct_of rl hv e1
    refine ⟨ad, kvs, rfl, hH, fun q hq => p.newO rl hq (rp_newL rl hq ?_)⟩
    have := keys_rp (K := X.K) (ca := g.ca) (av := av) (μ := μ) (H := H) (kvs.map (·.1))
    rw [List.map_map] at this
    exact this
  · cases hm
end
end MM
set_option autoImplicit false
set_option maxRecDepth 100000
set_option maxHeartbeats 4000000
/-! M17: chains, globals, three names at once, minus, a text repeated. -/
namespace MM
open PySem PySem.Spec PyProof.Rows L2 LamX NdefX
section
variable {g : G} {X : Cx} {a b c e : Expr} {ma mb mc : Ev → Mo D} {pos : Pos}
def xChain (m1 m2 : D → D → Mo D) (ma mb mc : Ev → Mo D) : Ev → Mo D := fun ρ => (ma ρ).bind fun x => (mb ρ).bind fun y => (m1 x y).bind fun r => match r with
  | .bl k => if k = true then (mc ρ).bind fun z => m2 y z else Mo.pure (.bl false)
  | _ => Mo.fail
theorem sem_chain {m1 m2 : D → D → Mo D} {r r' : R2} {ta tb tc : TE}
    (s1 : ∀ (av μ : List Addr) (H : Hp) (Q : VK) (st : List Ob) (x y : V) (dx dy d : D) (st' : List Ob), Rel X.K g av μ st H → Rp X.K g.ca av μ H x dx → Rp X.K g.ca av μ H y dy → m1 dx dy st = some (d, st') → Post X.K g av μ H d st' Q → r x y H Q)
    (s2 : ∀ (av μ : List Addr) (H : Hp) (Q : VK) (st : List Ob) (x y : V) (dx dy d : D) (st' : List Ob), Rel X.K g av μ st H → Rp X.K g.ca av μ H x dx → Rp X.K g.ca av μ H y dy → m2 dx dy st = some (d, st') → Post X.K g av μ H d st' Q → r' x y H Q)
    (sa : SemE X.K g ta ma) (sb : SemE X.K g tb mb) (sc : SemE X.K g tc mc) : SemE X.K g (tChain r r' ta tb tc) (xChain m1 m2 ma mb mc) := fun av μ σ H Q ρ st d st' rl er hm p => by
  obtain ⟨dx, st1, h1, hm⟩ := Mo.bind_some hm
  obtain ⟨dy, st2, h2, hm⟩ := Mo.bind_some hm
  obtain ⟨dr, st3, h3, hm⟩ := Mo.bind_some hm
  refine sa av μ σ H _ ρ st dx st1 rl er h1 fun x H1 μ1 e1 r1 q1 => ?_
  refine sb av μ1 σ H1 _ ρ st1 dy st2 r1 (er.mono e1) h2 fun y H2 μ2 e2 r2 q2 => ?_
  refine s1 av μ2 H2 _ st2 x y dx dy dr st3 r2 (q1.mono e2) q2 h3 fun z H3 μ3 e3 r3 q3 => ?_
  cases dr with
  | bl k =>
    cases q3
    refine ⟨k, rfl, ?_⟩
    cases k with
    | true =>
      rw [if_pos rfl]
      obtain ⟨dz, st4, h4, hm⟩ := Mo.bind_some hm
      refine sc av μ3 σ H3 _ ρ st3 dz st4 r3 (er.mono ((e1.trans e2).trans e3)) h4 fun w H4 μ4 e4 r4 q4 => ?_
      exact s2 av μ4 H4 Q st4 y w dy dz d st' r4 (q2.mono (e3.trans e4)) q4 hm (p.mono (((e1.trans e2).trans e3).trans e4))
    | false =>
      rw [if_neg (by decide)]
      obtain ⟨z1, z2⟩ := Mo.pure_some hm
      subst z1 z2
      exact p _ H3 μ3 ((e1.trans e2).trans e3) r3 (.bl false)
  | _ => cases hm
theorem ev_chain {op op' : CmpOp} {m1 m2 : D → D → Mo D} (h1 : OpD g X (compareOp op) m1) (h2 : OpD g X (compareOp op') m2) (ha : EV g X a ma) (hb : EV g X b mb) (hc : EV g X c mc) (hm : lastMarks [op, op'] [b, c] = false := by with_unfolding_all rfl) :
    EV g X (.Compare a [op, op'] [b, c] pos) (xChain m1 m2 ma mb mc) := by
  obtain ⟨r1, o1, s1⟩ := h1
  obtain ⟨r2, o2, s2⟩ := h2
  obtain ⟨ta, pa, sa⟩ := ha.ex
  obtain ⟨tb, pb, sb⟩ := hb.ex
  obtain ⟨tc, pc, sc⟩ := hc.ex
  exact ⟨_, pe_chain o1 o2 pa pb pc hm, sem_chain s1 s2 sa sb sc⟩
theorem tv_chain {op op' : CmpOp} {m1 m2 : D → D → Mo D} (h1 : OpD g X (compareOp op) m1) (h2 : OpD g X (compareOp op') m2) (ha : EV g X a ma) (hb : EV g X b mb) (hc : EV g X c mc) (hm : lastMarks [op, op'] [b, c] = false := by with_unfolding_all rfl) :
    TV g X (.Compare a [op, op'] [b, c] pos) (asB (xChain m1 m2 ma mb mc)) := by
  obtain ⟨r1, o1, s1⟩ := h1
  obtain ⟨r2, o2, s2⟩ := h2
  obtain ⟨ta, pa, sa⟩ := ha.ex
  obtain ⟨tb, pb, sb⟩ := hb.ex
  obtain ⟨tc, pc, sc⟩ := hc.ex
  exact ⟨_, pt_chain o1 o2 pa pb pc hm, semB (sem_chain s1 s2 sa sb sc)⟩
/-! ### names of the module -/
theorem ev_ty {x : Str} {T : String} (hg : Gl X x) (hm : X.mg x = none) (hv : bootBuiltins x = some (.type T)) (hn : x ≠ "__name__" := by decide) (hd : (x == ("__debug__" : Str)) = false := by decide) : EV g X (.Name x pos) (xC (.ty T)) :=
  ev_c (pe_bltn hg hm hv (v := .ty T) rfl hn hd) fun _ _ _ => .ty T
theorem ev_cls {x c : Str} (hg : Gl X x) (hm : X.mg x = some (.ref (g.ca c))) (hd : (x == ("__debug__" : Str)) = false := by decide) : EV g X (.Name x pos) (xC (.cls c)) :=
  ev_c (pe_glob hg hm (v := .ref (g.ca c)) rfl hd) fun _ _ _ => .cls c
theorem ev_gint {x : Str} {i : Int} (hg : Gl X x) (hm : ∃ t, X.mg x = some (.int i t)) (hd : (x == ("__debug__" : Str)) = false := by decide) : EV g X (.Name x pos) (xC (.int i)) := by
  obtain ⟨t, hm⟩ := hm
  exact ev_c (pe_glob hg hm (v := .int i) ⟨t, rfl⟩ hd) fun _ _ _ => .int i
theorem ev_gstr {x : Str} {i : Str} (hg : Gl X x) (hm : ∃ t, X.mg x = some (.str i t)) (hd : (x == ("__debug__" : Str)) = false := by decide) : EV g X (.Name x pos) (xC (.str i)) := by
  obtain ⟨t, hm⟩ := hm
  exact ev_c (pe_glob hg hm (v := .str i) ⟨t, rfl⟩ hd) fun _ _ _ => .str i
/-- a tuple of texts -/
theorem ev_gtup {x : Str} {ts : List Str} (hg : Gl X x) (hm : ∃ a, X.mg x = some (.ref a) ∧ ∀ H, SqT X.K H a (ts.map V.str)) (hd : (x == ("__debug__" : Str)) = false := by decide) : EV g X (.Name x pos) (xC (.tup (ts.map D.str))) := by
  obtain ⟨a, hm, hs⟩ := hm
  exact ev_c (pe_glob hg hm (v := .ref a) rfl hd) fun av μ H => .tup (hs H) (rpl_strs ts)
/-! ### minus -/
def dNeg : D → Option D
  | .int i => some (.int (-i))
  | _ => none
def xNeg (m : Ev → Mo D) : Ev → Mo D := fun ρ => (m ρ).bind fun x st => (dNeg x).map fun d => (d, st)
theorem ev_neg (ha : EV g X a ma) : EV g X (.UnaryOp .USub a pos) (xNeg ma) := by
  obtain ⟨ta, pa, sa⟩ := ha.ex
  refine ⟨_, pe_un un_neg pa, fun av μ σ H Q ρ st d st' rl er hm p => ?_⟩
  obtain ⟨x, s1, h1, hm⟩ := Mo.bind_some hm
  refine sa av μ σ H _ ρ st x s1 rl er h1 fun v H1 μ1 e1 r1 q1 => ?_
  cases x with
  | int i =>
    cases hm
    cases q1
    exact ⟨i, rfl, (p.mono e1).here r1 (.int _)⟩
  | _ => cases hm
/-! ### a text repeated -/
def strRep (n : Nat) (x : Str) : Str := ⟨(List.replicate n x.cps).foldl (· ++ ·) #[]⟩
def dRepS : D → D → Option D
  | .str x, .int i => if 2 ≤ i ∧ i ≤ 1000 ∧ 1 ≤ x.length ∧ x.length ≤ 1000 then some (.str (strRep i.toNat x)) else none
  | _, _ => none
theorem op_repS : OpR X (binaryOp .Mult) (fun x y H Q => ∃ z i, x = .str z ∧ y = .int i ∧ 2 ≤ i ∧ i ≤ 1000 ∧ 1 ≤ z.length ∧ z.length ≤ 1000 ∧ Q (.str (strRep i.toNat z)) H) := by
  intro pins s σ H x y v u Q I rx ry ⟨z, i, ex, ey, h1, h2, h3, h4, q⟩
  subst ex ey
  obtain ⟨t, rfl⟩ := rx
  obtain ⟨t', rfl⟩ := ry
  have hz : sizeLine = 16777216 := sizeLine_eq
  have hle : z.length * i.toNat ≤ 1000000 := by
    have : i.toNat ≤ 1000 := by omega
    exact Nat.le_trans (Nat.mul_le_mul h4 this) (by decide)
  have hlen : (strRep i.toNat z).length = z.length * i.toNat := by
    have gen : ∀ (n : Nat) (acc : Array Nat), ((List.replicate n z.cps).foldl (· ++ ·) acc).size = acc.size + z.cps.size * n := by
      intro n
      induction n with
      | zero => intro acc; simp
      | succ n ih =>
        intro acc
        rw [List.replicate_succ, List.foldl_cons, ih, Array.size_append, Nat.mul_succ]
        omega
    have := gen i.toNat #[]
    simpa [strRep, Str.length] using this
  refine PySem.P.mul_str (by
    rw [decide_eq_false (by omega), decide_eq_false (by omega)]; rfl) (fun _ _ => ?_) (fun _ _ => ?_) ?_
  · have : (z.length : Int) * i ≤ 2 ^ 63 - 1 := by
      have e : ((z.length * i.toNat : Nat) : Int) = (z.length : Int) * i := by
        rw [Int.natCast_mul, Int.toNat_of_nonneg (by omega)]
      omega
    exact Int.not_lt.mpr (Int.le_ediv_of_mul_le (by omega) this)
  · first | unfold PySem.Builtin.Str.tooLong | unfold Builtin.Str.tooLong
    simp only [decide_eq_false_iff_not]
    omega
  · rw [if_neg (by omega), if_neg (by
      simp only [Bool.or_eq_true, beq_iff_eq]
      omega)]
    refine ⟨by rw [hz]; show (strRep i.toNat z).length ≤ _; omega, ?_⟩
    exact ⟨.str (strRep i.toNat z), H, I.tok _, ⟨_, rfl⟩, q⟩
theorem od_repS : OpD g X (binaryOp .Mult) (lift2 dRepS) := opd_lift op_repS fun av μ H Q st x y dx dy d rl rx ry hm p => by
  unfold dRepS at hm
  split at hm
  · split at hm
    · rename_i h
      cases hm
      cases rx
      cases ry
      exact ⟨_, _, rfl, rfl, h.1, h.2.1, h.2.2.1, h.2.2.2, p.here rl (.str _)⟩
    · cases hm
  · cases hm
/-! ### three names at once -/
def yPar3 (i j l : Nat) (m : Ev → Mo (List D)) : Ev → Mo Out := fun ρ => (m ρ).bind fun ds => match ds with
  | [a, b, c] => Mo.pure (.nx (((ρ.set i (some (.d a))).set j (some (.d b))).set l (some (.d c))))
  | _ => Mo.fail
theorem sv_par3 {i j l : Nat} {x y z : Str} {m : Ev → Mo (List D)} {px py pz pt : Pos} {kt : Nat} {k2 : Nat} {pt2 : Pos} (hc : X.calm = true) (hN : X.N.Nodup) (hi : X.N[i]? = some x) (hj : X.N[j]? = some y) (hl : X.N[l]? = some z) (hij : i ≠ j) (hil : i ≠ l) (hjl : j ≠ l)
    (hx : X.env.scope.names.lookup x = some .local) (hy : X.env.scope.names.lookup y = some .local) (hz : X.env.scope.names.lookup z = some .local) (ha : AV g X [a, b, c] m)
    (hw : swappedStores [.Tuple [.Name x px, .Name y py, .Name z pz] kt pt] (.Tuple [a, b, c] k2 pt2) X.env = pure (some [x, y, z]) := by rfl)
    (hs : swapsWithSole [.Tuple [.Name x px, .Name y py, .Name z pz] kt pt] (.Tuple [a, b, c] k2 pt2) pos.line X.env = pure false := by rfl) :
    SV g X (.Assign [.Tuple [.Name x px, .Name y py, .Name z pz] kt pt] (.Tuple [a, b, c] k2 pt2) pos) (yPar3 i j l m) := by
  obtain ⟨t, p, s⟩ := ha.ex
  refine ⟨_, ps_par3 hc hN hi hj hl hij hil hjl hx hy hz p hw hs, fun av μ σ H E ρ st o st' rl er hm q => ?_⟩
  obtain ⟨ds, st1, e1, hm⟩ := Mo.bind_some hm
  refine s av μ σ H _ ρ st ds st1 rl er e1 fun vs H1 μ1 x1 r1 q1 => ?_
  cases q1 with
  | nil => cases hm
  | cons p1 q1 =>
    cases q1 with
    | nil => cases hm
    | cons p2 q1 =>
      cases q1 with
      | nil => cases hm
      | cons p3 q1 =>
        cases q1 with
        | nil =>
          obtain ⟨z1, z2⟩ := Mo.pure_some hm
          subst z1 z2
          exact ⟨_, _, _, rfl, q _ H1 μ1 x1 r1 ((((er.mono x1).set p1 i).set p2 j).set p3 l)⟩
        | cons _ _ => cases hm
end
/-! a row of so many items -/
theorem len0 {α : Type} {P : List α → Prop} (h : P []) : ∀ us : List α, us.length = 0 → P us := fun us e => by
  match us, e with
  | [], _ => exact h
theorem len1 {α : Type} {P : List α → Prop} (h : ∀ a0 : α, P [a0]) : ∀ us : List α, us.length = 1 → P us := fun us e => by
  match us, e with
  | [a0], _ => exact h a0
theorem len2 {α : Type} {P : List α → Prop} (h : ∀ a0 a1 : α, P [a0, a1]) : ∀ us : List α, us.length = 2 → P us := fun us e => by
  match us, e with
  | [a0, a1], _ => exact h a0 a1
theorem len3 {α : Type} {P : List α → Prop} (h : ∀ a0 a1 a2 : α, P [a0, a1, a2]) : ∀ us : List α, us.length = 3 → P us := fun us e => by
  match us, e with
  | [a0, a1, a2], _ => exact h a0 a1 a2
theorem len4 {α : Type} {P : List α → Prop} (h : ∀ a0 a1 a2 a3 : α, P [a0, a1, a2, a3]) : ∀ us : List α, us.length = 4 → P us := fun us e => by
  match us, e with
  | [a0, a1, a2, a3], _ => exact h a0 a1 a2 a3
theorem len5 {α : Type} {P : List α → Prop} (h : ∀ a0 a1 a2 a3 a4 : α, P [a0, a1, a2, a3, a4]) : ∀ us : List α, us.length = 5 → P us := fun us e => by
  match us, e with
  | [a0, a1, a2, a3, a4], _ => exact h a0 a1 a2 a3 a4
theorem len6 {α : Type} {P : List α → Prop} (h : ∀ a0 a1 a2 a3 a4 a5 : α, P [a0, a1, a2, a3, a4, a5]) : ∀ us : List α, us.length = 6 → P us := fun us e => by
  match us, e with
  | [a0, a1, a2, a3, a4, a5], _ => exact h a0 a1 a2 a3 a4 a5
theorem len7 {α : Type} {P : List α → Prop} (h : ∀ a0 a1 a2 a3 a4 a5 a6 : α, P [a0, a1, a2, a3, a4, a5, a6]) : ∀ us : List α, us.length = 7 → P us := fun us e => by
  match us, e with
  | [a0, a1, a2, a3, a4, a5, a6], _ => exact h a0 a1 a2 a3 a4 a5 a6
theorem len8 {α : Type} {P : List α → Prop} (h : ∀ a0 a1 a2 a3 a4 a5 a6 a7 : α, P [a0, a1, a2, a3, a4, a5, a6, a7]) : ∀ us : List α, us.length = 8 → P us := fun us e => by
  match us, e with
  | [a0, a1, a2, a3, a4, a5, a6, a7], _ => exact h a0 a1 a2 a3 a4 a5 a6 a7
theorem len9 {α : Type} {P : List α → Prop} (h : ∀ a0 a1 a2 a3 a4 a5 a6 a7 a8 : α, P [a0, a1, a2, a3, a4, a5, a6, a7, a8]) : ∀ us : List α, us.length = 9 → P us := fun us e => by
  match us, e with
  | [a0, a1, a2, a3, a4, a5, a6, a7, a8], _ => exact h a0 a1 a2 a3 a4 a5 a6 a7 a8
end MM
set_option autoImplicit false
set_option maxRecDepth 100000
set_option maxHeartbeats 8000000
namespace K85
open PySem PySem.Spec PyProof.Rows L2 LamX NdefX MM
def top (i : Nat) : Stmt := PySem.Challenge.pw_watchposts_k85_whole_cases_made.main.body.getD i (.Pass ⟨0, 0, 0, 0⟩)
abbrev c_KINDS : D := .tup (([("near" : Str), ("open" : Str), ("apart" : Str), ("joined" : Str), ("once" : Str), ("double" : Str)] : List Str).map D.str)
abbrev c_LETTERS : D := .str "abcdefghijklmnopqrstuvwxyz"
abbrev c_MOST_LETTERS : D := .int 8
abbrev c_MOST_NUMBER : D := .int 9
abbrev c_MOST_PLACES : D := .int 9
abbrev c_WORDS : D := .tup (([("all" : Str), ("alone" : Str), ("apart" : Str), ("beside" : Str), ("burn" : Str), ("case" : Str), ("cut" : Str), ("double" : Str), ("fire" : Str), ("game" : Str), ("guard" : Str), ("in" : Str), ("joined" : Str), ("lost" : Str), ("near" : Str), ("next" : Str), ("no" : Str), ("none" : Str), ("of" : Str), ("once" : Str), ("open" : Str), ("out" : Str), ("place" : Str), ("post" : Str), ("posts" : Str), ("quit" : Str), ("rule" : Str), ("safe" : Str), ("set" : Str), ("sets" : Str), ("step" : Str), ("take" : Str), ("tie" : Str), ("undo" : Str), ("watch" : Str), ("watched" : Str), ("web" : Str), ("yes" : Str)] : List Str).map D.str)
/-- isinstance of own classes -/
def isiTb : Str → D → Option Bool := fun k d => match d with
  | .cls c => if (k = "Web" ∧ c = "Web") ∨ (k = "Case" ∧ c = "Case") then some true else none
  | _ => none
def isiNb : Str → Bool := fun _ => false
abbrev mIsi := liftL (dIsi isiTb isiNb)
structure Fx (K : PySem.W.Frag) (mg : Str → Option Value) (ca : Str → Addr) : Prop where
  isi : ∀ g : G, g.ca = ca → IsiT K g isiTb isiNb
  f_abs : mg "abs" = none
  f_all : mg "all" = none
  f_bool : mg "bool" = none
  f_dict : mg "dict" = none
  f_divmod : mg "divmod" = none
  f_enumerate : mg "enumerate" = none
  f_int : mg "int" = none
  f_isinstance : mg "isinstance" = none
  f_len : mg "len" = none
  f_list : mg "list" = none
  f_max : mg "max" = none
  f_min : mg "min" = none
  f_range : mg "range" = none
  f_sorted : mg "sorted" = none
  f_str : mg "str" = none
  f_tuple : mg "tuple" = none
  c_KINDS : ∃ a, mg "KINDS" = some (.ref a) ∧ ∀ H, SqT K H a (([("near" : Str), ("open" : Str), ("apart" : Str), ("joined" : Str), ("once" : Str), ("double" : Str)] : List Str).map V.str)
  c_LETTERS : ∃ t, mg "LETTERS" = some (.str "abcdefghijklmnopqrstuvwxyz" t)
  c_MOST_LETTERS : ∃ t, mg "MOST_LETTERS" = some (.int 8 t)
  c_MOST_NUMBER : ∃ t, mg "MOST_NUMBER" = some (.int 9 t)
  c_MOST_PLACES : ∃ t, mg "MOST_PLACES" = some (.int 9 t)
  c_WORDS : ∃ a, mg "WORDS" = some (.ref a) ∧ ∀ H, SqT K H a (([("all" : Str), ("alone" : Str), ("apart" : Str), ("beside" : Str), ("burn" : Str), ("case" : Str), ("cut" : Str), ("double" : Str), ("fire" : Str), ("game" : Str), ("guard" : Str), ("in" : Str), ("joined" : Str), ("lost" : Str), ("near" : Str), ("next" : Str), ("no" : Str), ("none" : Str), ("of" : Str), ("once" : Str), ("open" : Str), ("out" : Str), ("place" : Str), ("post" : Str), ("posts" : Str), ("quit" : Str), ("rule" : Str), ("safe" : Str), ("set" : Str), ("sets" : Str), ("step" : Str), ("take" : Str), ("tie" : Str), ("undo" : Str), ("watch" : Str), ("watched" : Str), ("web" : Str), ("yes" : Str)] : List Str).map V.str)
  g_Case : mg "Case" = some (.ref (ca "Case"))
  g_Web : mg "Web" = some (.ref (ca "Web"))
  cl_Case : Cls K (ca "Case")
  na_Case_all_of_it : NoAttr K (ca "Case") "all_of_it"
  cl_Web : Cls K (ca "Web")
  na_Web_all_told : NoAttr K (ca "Web") "all_told"
  ne_Web : NeF K (ca "Web")
  ne_Case : NeF K (ca "Case")
  tru_Case : TruF K (ca "Case")

def m_is_whole : Ev → Mo Out := (yRet (xAnd (xCall mIsi (xCons (xVar 0) (xCons (xC (.ty "int")) xNil))) (xNot (xCall mIsi (xCons (xVar 0) (xCons (xC (.ty "bool")) xNil))))))
theorem d_is_whole {P : Program} {w : World} {K : PySem.W.Frag} {mg : Str → Option Value} {base : Heap} {g : G} {k : Nat} (F : Fx K mg g.ca) (fa : Addr) (cdv : Value) (A : Around) (outer : List Env) (s : Shared) (H : Hp) (E : XK)
    (hr : Room (k + 2) (A.deeper (envOfC "is_whole" (defScope (top 4)) s.heap.objs.size fa cdv))) :
    BV g (cxOf C8.CX0 P w K mg base ["value"] "is_whole" (defScope (top 4)) fa cdv A outer s H E) (defBody (top 4)) (m_is_whole) := by
  have hN : (["value"] : List Str).Nodup := by decide
  exact (bv_one (sv_ret (ev_and (ev_callB (cd_isi (F.isi _ rfl)) rfl F.f_isinstance rfl (av_cons (ev_var (pv 0)) (av_cons (ev_ty rfl F.f_int rfl) av_nil))) (ev_one (ev_not (ev_callB (cd_isi (F.isi _ rfl)) rfl F.f_isinstance rfl (av_cons (ev_var (pv 0)) (av_cons (ev_ty rfl F.f_bool rfl) av_nil))))))))
def m_is_between (S_is_whole : List A → Mo D) : Ev → Mo Out := (yRet (xAnd (xFn 1 S_is_whole (xCons (xVar 0) xNil)) (xChain mLe mLe (xVar 1) (xVar 0) (xVar 2))))
theorem d_is_between {P : Program} {w : World} {K : PySem.W.Frag} {mg : Str → Option Value} {base : Heap} {g : G} {k : Nat} (F : Fx K mg g.ca) {S_is_whole : List A → Mo D} (h_is_whole : Cal P w K mg base g k "is_whole" 1 S_is_whole) (fa : Addr) (cdv : Value) (A : Around) (outer : List Env) (s : Shared) (H : Hp) (E : XK)
    (hr : Room (k + 2) (A.deeper (envOfC "is_between" (defScope (top 5)) s.heap.objs.size fa cdv))) :
    BV g (cxOf C8.CX0 P w K mg base ["value", "least", "most"] "is_between" (defScope (top 5)) fa cdv A outer s H E) (defBody (top 5)) (m_is_between S_is_whole) := by
  have hN : (["value", "least", "most"] : List Str).Nodup := by decide
  exact (bv_one (sv_ret (ev_and (ev_call h_is_whole hr (by omega) rfl (av_cons (ev_var (pv 0)) av_nil)) (ev_one (ev_chain od_le od_le (ev_var (pv 1)) (ev_var (pv 0)) (ev_var (pv 2)))))))
def m_is_one_of : Ev → Mo Out := (yRet (xAnd (xCall mIsi (xCons (xVar 0) (xCons (xC (.ty "str")) xNil))) (xBin mIn (xVar 0) (xVar 1))))
theorem d_is_one_of {P : Program} {w : World} {K : PySem.W.Frag} {mg : Str → Option Value} {base : Heap} {g : G} {k : Nat} (F : Fx K mg g.ca) (fa : Addr) (cdv : Value) (A : Around) (outer : List Env) (s : Shared) (H : Hp) (E : XK)
    (hr : Room (k + 2) (A.deeper (envOfC "is_one_of" (defScope (top 6)) s.heap.objs.size fa cdv))) :
    BV g (cxOf C8.CX0 P w K mg base ["value", "words"] "is_one_of" (defScope (top 6)) fa cdv A outer s H E) (defBody (top 6)) (m_is_one_of) := by
  have hN : (["value", "words"] : List Str).Nodup := by decide
  exact (bv_one (sv_ret (ev_and (ev_callB (cd_isi (F.isi _ rfl)) rfl F.f_isinstance rfl (av_cons (ev_var (pv 0)) (av_cons (ev_ty rfl F.f_str rfl) av_nil))) (ev_one (ev_cmp od_in (ev_var (pv 0)) (ev_var (pv 1)) (by with_unfolding_all rfl))))))
def m_is_word : Ev → Mo Out := (yRet (xAnd (xCall mIsi (xCons (xVar 0) (xCons (xC (.ty "str")) xNil))) (xAnd (xBin mNe (xVar 0) (xC (.str ""))) (xCall (liftL dAll) (xCons (xComp (itemsS (xVar 0)) [1] (zName 1) tYesM (xBin mIn (xVar 1) (xC c_LETTERS))) xNil)))))
theorem d_is_word {P : Program} {w : World} {K : PySem.W.Frag} {mg : Str → Option Value} {base : Heap} {g : G} {k : Nat} (F : Fx K mg g.ca) (fa : Addr) (cdv : Value) (A : Around) (outer : List Env) (s : Shared) (H : Hp) (E : XK)
    (hr : Room (k + 2) (A.deeper (envOfC "is_word" (defScope (top 7)) s.heap.objs.size fa cdv))) :
    BV g (cxOf C8.CX0 P w K mg base ["value", "sign"] "is_word" (defScope (top 7)) fa cdv A outer s H E) (defBody (top 7)) (m_is_word) := by
  have hN : (["value", "sign"] : List Str).Nodup := by decide
  exact (bv_one (sv_ret (ev_and (ev_callB (cd_isi (F.isi _ rfl)) rfl F.f_isinstance rfl (av_cons (ev_var (pv 0)) (av_cons (ev_ty rfl F.f_str rfl) av_nil))) (ev_and (ev_cmp (od_ne hr.units) (ev_var (pv 0)) ev_str (nomark _)) (ev_one (ev_callB (cd_all rfl) rfl F.f_all rfl (av_cons (ev_lc (own := [("sign", 1)]) rfl hN (iv_str (ev_var (pv 0))) (blkOk_by (by kernel_rfl)) (BlkV.of (fun s H C cl fp => (gv_name hN rfl (by first | exact .inl rfl | exact .inr rfl))) (fun s H C cl fp => tsv_nil) (fun s H C cl fp => (ev_cmp od_in (ev_var (pv 1)) (ev_gstr rfl F.c_LETTERS) (by with_unfolding_all rfl)))) (by decide)) av_nil)))))))
def m_is_name (S_is_word : List A → Mo D) : Ev → Mo Out := (yRet (xAnd (xFn 1 S_is_word (xCons (xVar 0) xNil)) (xAnd (xBin mLe (xCall (liftL dLen) (xCons (xVar 0) xNil)) (xC c_MOST_LETTERS)) (xBin mNotIn (xVar 0) (xC c_WORDS)))))
theorem d_is_name {P : Program} {w : World} {K : PySem.W.Frag} {mg : Str → Option Value} {base : Heap} {g : G} {k : Nat} (F : Fx K mg g.ca) {S_is_word : List A → Mo D} (h_is_word : Cal P w K mg base g k "is_word" 1 S_is_word) (fa : Addr) (cdv : Value) (A : Around) (outer : List Env) (s : Shared) (H : Hp) (E : XK)
    (hr : Room (k + 2) (A.deeper (envOfC "is_name" (defScope (top 8)) s.heap.objs.size fa cdv))) :
    BV g (cxOf C8.CX0 P w K mg base ["value"] "is_name" (defScope (top 8)) fa cdv A outer s H E) (defBody (top 8)) (m_is_name S_is_word) := by
  have hN : (["value"] : List Str).Nodup := by decide
  exact (bv_one (sv_ret (ev_and (ev_call h_is_word hr (by omega) rfl (av_cons (ev_var (pv 0)) av_nil)) (ev_and (ev_cmp od_le (ev_callB cd_len rfl F.f_len rfl (av_cons (ev_var (pv 0)) av_nil)) (ev_gint rfl F.c_MOST_LETTERS) (nomark _)) (ev_one (ev_cmp od_notIn (ev_var (pv 0)) (ev_gtup rfl F.c_WORDS) (by with_unfolding_all rfl)))))))
def m_is_tuple_of : Ev → Mo Out := (yRet (xAnd (xCall mIsi (xCons (xVar 0) (xCons (xC (.ty "tuple")) xNil))) (xBin mEq (xCall (liftL dLen) (xCons (xVar 0) xNil)) (xVar 1))))
theorem d_is_tuple_of {P : Program} {w : World} {K : PySem.W.Frag} {mg : Str → Option Value} {base : Heap} {g : G} {k : Nat} (F : Fx K mg g.ca) (fa : Addr) (cdv : Value) (A : Around) (outer : List Env) (s : Shared) (H : Hp) (E : XK)
    (hr : Room (k + 2) (A.deeper (envOfC "is_tuple_of" (defScope (top 9)) s.heap.objs.size fa cdv))) :
    BV g (cxOf C8.CX0 P w K mg base ["value", "many"] "is_tuple_of" (defScope (top 9)) fa cdv A outer s H E) (defBody (top 9)) (m_is_tuple_of) := by
  have hN : (["value", "many"] : List Str).Nodup := by decide
  exact (bv_one (sv_ret (ev_and (ev_callB (cd_isi (F.isi _ rfl)) rfl F.f_isinstance rfl (av_cons (ev_var (pv 0)) (av_cons (ev_ty rfl F.f_tuple rfl) av_nil))) (ev_one (ev_cmp (od_eq hr.units) (ev_callB cd_len rfl F.f_len rfl (av_cons (ev_var (pv 0)) av_nil)) (ev_var (pv 1)) (nomark _))))))
def m_is_pair (S_is_tuple_of : List A → Mo D) : Ev → Mo Out := (yRet (xFn 2 S_is_tuple_of (xCons (xVar 0) (xCons (xC (.int 2)) xNil))))
theorem d_is_pair {P : Program} {w : World} {K : PySem.W.Frag} {mg : Str → Option Value} {base : Heap} {g : G} {k : Nat} (F : Fx K mg g.ca) {S_is_tuple_of : List A → Mo D} (h_is_tuple_of : Cal P w K mg base g k "is_tuple_of" 2 S_is_tuple_of) (fa : Addr) (cdv : Value) (A : Around) (outer : List Env) (s : Shared) (H : Hp) (E : XK)
    (hr : Room (k + 2) (A.deeper (envOfC "is_pair" (defScope (top 10)) s.heap.objs.size fa cdv))) :
    BV g (cxOf C8.CX0 P w K mg base ["value"] "is_pair" (defScope (top 10)) fa cdv A outer s H E) (defBody (top 10)) (m_is_pair S_is_tuple_of) := by
  have hN : (["value"] : List Str).Nodup := by decide
  exact (bv_one (sv_ret (ev_call h_is_tuple_of hr (by omega) rfl (av_cons (ev_var (pv 0)) (av_cons ev_int av_nil)))))
def m_wrong_in (lam : Nat → (Ev → Mo (List D)) → Ev → Mo D) : Ev → Mo Out := (ySeq (yIf (xOrB (xNotB (asB (xCall mIsi (xCons (xVar 0) (xCons (xC (.ty "tuple")) xNil))))) (asB (xBin mLt (xCall (liftL dLen) (xCons (xVar 0) xNil)) (xVar 1)))) (yRet (xLst (xCons (xC .non) xNil))) yNil)
  (ySeq (yFor (itemsET (xVar 0)) (zTup (zCons (zName 4) (zCons (zName 5) zNil))) (yIf (xOrB (asB (xBin mEq (xVar 4) (xVar 2))) (xNotB (asB (lam 3 (xCons (xSlice (xVar 0) oNone (oSome (xVar 4))) (xCons (xVar 5) xNil)))))) (yRet (xLst (xCons (xVar 4) xNil))) yNil))
  (yRet (xLst xNil))))
theorem d_wrong_in {P : Program} {w : World} {K : PySem.W.Frag} {mg : Str → Option Value} {base : Heap} {g : G} {k : Nat} (F : Fx K mg g.ca) (fa : Addr) (cdv : Value) (A : Around) (outer : List Env) (s : Shared) (H : Hp)
    (hr : Room (k) (A.deeper (envOfC "wrong_in" (defScope (top 11)) s.heap.objs.size fa cdv))) (lam : Nat → (Ev → Mo (List D)) → Ev → Mo D) (hlam : ∀ (e : Expr) (es : List Expr) (mm : Ev → Mo (List D)) (p1 p2 : Pos), AV g (cxOf C8.CX0 P w K mg base ["value", "least", "most", "is_right", "index", "each"] "wrong_in" (defScope (top 11)) fa cdv A outer s H C8.E0) (e :: es) mm → starEach (e :: es) (cxOf C8.CX0 P w K mg base ["value", "least", "most", "is_right", "index", "each"] "wrong_in" (defScope (top 11)) fa cdv A outer s H C8.E0).env = (false, eval e (cxOf C8.CX0 P w K mg base ["value", "least", "most", "is_right", "index", "each"] "wrong_in" (defScope (top 11)) fa cdv A outer s H C8.E0).env) :: starEach es (cxOf C8.CX0 P w K mg base ["value", "least", "most", "is_right", "index", "each"] "wrong_in" (defScope (top 11)) fa cdv A outer s H C8.E0).env → (backTo p2 (starEach es (cxOf C8.CX0 P w K mg base ["value", "least", "most", "is_right", "index", "each"] "wrong_in" (defScope (top 11)) fa cdv A outer s H C8.E0).env)).any (·.1) = false → EV g (cxOf C8.CX0 P w K mg base ["value", "least", "most", "is_right", "index", "each"] "wrong_in" (defScope (top 11)) fa cdv A outer s H C8.E0) (.Call (.Name "is_right" p1) (e :: es) [] p2) (lam 3 mm)) :
    BV g (cxOf C8.CX0 P w K mg base ["value", "least", "most", "is_right", "index", "each"] "wrong_in" (defScope (top 11)) fa cdv A outer s H C8.E0) (defBody (top 11)) (m_wrong_in lam) := by
  have hN : (["value", "least", "most", "is_right", "index", "each"] : List Str).Nodup := by decide
  exact (bv_cons (sv_if (WV.tv (wv_or (tv_not (tv_val (ev_callB (cd_isi (F.isi _ rfl)) rfl F.f_isinstance rfl (av_cons (ev_var (pv 0)) (av_cons (ev_ty rfl F.f_tuple rfl) av_nil))))) (wv_or1 (tv_cmp (od_lt hr.units0) (ev_callB cd_len rfl F.f_len rfl (av_cons (ev_var (pv 0)) av_nil)) (ev_var (pv 1)) (nomark _))))) (bv_one (sv_ret (ev_lst (av_cons ev_non av_nil)))) bv_nil)
  (bv_cons (sv_for (passes_of rfl) rfl (iv_enumT rfl F.f_enumerate (ev_var (pv 0))) (gv_tup rfl (gsv_cons (gv_name hN rfl (by first | exact .inl rfl | exact .inr rfl)) (gsv_cons (gv_name hN rfl (by first | exact .inl rfl | exact .inr rfl)) gsv_nil))) (bv_one (sv_if (WV.tv (wv_or (tv_cmp (od_eq hr.units) (ev_var (pv 4)) (ev_var (pv 2)) (nomark _)) (wv_or1 (tv_not (tv_val (hlam _ _ _ _ _ (av_cons (ev_slice (ev_var (pv 0)) ov_none (ov_some (ev_var (pv 4)))) (av_cons (ev_var (pv 5)) av_nil)) rfl rfl)))))) (bv_one (sv_ret (ev_lst (av_cons (ev_var (pv 4)) av_nil)))) bv_nil)))
  (bv_one (sv_ret (ev_lst av_nil)))))
def m_are_below : Ev → Mo Out := (yRet (xOr (xBin mEq (xVar 0) (xTup xNil)) (xBin mLt (xBin mIx (xVar 0) (xNeg (xC (.int 1)))) (xVar 1))))
theorem d_are_below {P : Program} {w : World} {K : PySem.W.Frag} {mg : Str → Option Value} {base : Heap} {g : G} {k : Nat} (F : Fx K mg g.ca) (fa : Addr) (cdv : Value) (A : Around) (outer : List Env) (s : Shared) (H : Hp) (E : XK)
    (hr : Room (k + 2) (A.deeper (envOfC "are_below" (defScope (top 12)) s.heap.objs.size fa cdv))) :
    BV g (cxOf C8.CX0 P w K mg base ["ahead", "value"] "are_below" (defScope (top 12)) fa cdv A outer s H E) (defBody (top 12)) (m_are_below) := by
  have hN : (["ahead", "value"] : List Str).Nodup := by decide
  exact (bv_one (sv_ret (ev_or (ev_cmp (od_eq hr.units) (ev_var (pv 0)) (ev_tup av_nil) (nomark _)) (ev_one (ev_cmp (od_lt hr.units0) (ev_ix (ev_var (pv 0)) (ev_neg ev_int) (by intro _ _; rfl)) (ev_var (pv 1)) (nomark _))))))
def m_is_set_of_names (S_is_one_of : List A → Mo D) (S_are_below : List A → Mo D) : Ev → Mo Out := (yRet (xBin mEq (xLamCall 4 [1] (xCons (xVar 0) (xCons (xC (.int 0)) (xCons (xCall (liftL dLen) (xCons (xVar 1) xNil)) xNil))) (runF 6 (m_wrong_in (fun i => xLam i 3 2 (xAnd (xFn 2 S_is_one_of (xCons (xVar 1) (xCons (xVar 2) xNil))) (xFn 2 S_are_below (xCons (xVar 0) (xCons (xVar 1) xNil)))))))) (xLst xNil)))
theorem d_is_set_of_names {P : Program} {w : World} {K : PySem.W.Frag} {mg : Str → Option Value} {base : Heap} {g : G} {k : Nat} (F : Fx K mg g.ca) {S_is_one_of : List A → Mo D} {S_are_below : List A → Mo D} (h_is_one_of : Cal P w K mg base g k "is_one_of" 2 S_is_one_of) (h_are_below : Cal P w K mg base g k "are_below" 2 S_are_below) {fdg : FuncData} {ag c Pt : Addr} {nm : Nat → Nat → Str} (fg_wrong_in : FunD K "wrong_in" "wrong_in" (defArgs (top 11)) (defBody (top 11)) (defScope (top 11)) [] [] ag fdg) (hg_wrong_in : mg "wrong_in" = some (.ref ag)) (TB : TabB base mg c Pt) (hmT : (Pt, nm) ∈ g.T) (hnm : ∀ p : Pos, nm p.line p.col = "is_set_of_names.<locals>.<lambda>") (hu : ∀ p ∈ g.T, p.1 = Pt → p.2 = nm) (fa : Addr)  (A : Around) (outer : List Env) (s : Shared) (H : Hp) (E : XK)
    (hr : Room (k + 2) (A.deeper (envOfC "is_set_of_names" (defScope (top 13)) s.heap.objs.size fa (.ref c)))) :
    BV g (cxOf C8.CX0 P w K mg base ["value", "names"] "is_set_of_names" (defScope (top 13)) fa (.ref c) A outer s H E) (defBody (top 13)) (m_is_set_of_names S_is_one_of S_are_below) := by
  have hN : (["value", "names"] : List Str).Nodup := by decide
  exact (bv_one (sv_ret (ev_cmp (od_eq hr.units) (ev_lamcall (k := k) (N := ["ahead", "each", "names"]) (ps := ["ahead", "each"]) (fr := ["names"]) (js := [1]) (i := 3) (a := "is_right") (Ng := ["value", "least", "most", "is_right", "index", "each"]) (psg := ["value", "least", "most", "is_right"]) fg_wrong_in hg_wrong_in (by kernel_rfl) (fun kV doc pm an cdv ct => len4 fun _ _ _ _ => rfl) rfl (hr.mono (by omega)) rfl (lv_cons (ev_var (pv 0)) (lv_cons ev_int (lv_cons (ev_callB cd_len rfl F.f_len rfl (av_cons (ev_var (pv 1)) av_nil)) lv_nil))) TB rfl hmT (hnm _) hu (by kernel_rfl) (by kernel_rfl) rfl rfl (fun q cl pm cv ctv => len2 fun _ _ => rfl) (fun A outer s H f c' hr => (ev_and (ev_call h_is_one_of hr (by omega) rfl (av_cons (ev_var (pv 1)) (av_cons (ev_var (pv 2)) av_nil))) (ev_one (ev_call h_are_below hr (by omega) rfl (av_cons (ev_var (pv 0)) (av_cons (ev_var (pv 1)) av_nil)))))) rfl (by first | exact .inl rfl | exact .inr (.inl rfl)) (fun clo cloK cdg s H hr hlam => d_wrong_in (k := k) (g := ⟨g.ca, g.T, clo, cloK⟩) F _ _ _ _ _ _ (hr.mono (by omega)) _ hlam)) (ev_lst av_nil) (nomark _))))
def m_wrong_in_places (S_is_name : List A → Mo D) (S_are_below : List A → Mo D) : Ev → Mo Out := (yRet (xLamCall 4 [] (xCons (xVar 0) (xCons (xC (.int 1)) (xCons (xC c_MOST_PLACES) xNil))) (runF 6 (m_wrong_in (fun i => xLam i 2 2 (xAnd (xFn 1 S_is_name (xCons (xVar 1) xNil)) (xFn 2 S_are_below (xCons (xVar 0) (xCons (xVar 1) xNil)))))))))
theorem d_wrong_in_places {P : Program} {w : World} {K : PySem.W.Frag} {mg : Str → Option Value} {base : Heap} {g : G} {k : Nat} (F : Fx K mg g.ca) {S_is_name : List A → Mo D} {S_are_below : List A → Mo D} (h_is_name : Cal P w K mg base g k "is_name" 1 S_is_name) (h_are_below : Cal P w K mg base g k "are_below" 2 S_are_below) {fdg : FuncData} {ag c Pt : Addr} {nm : Nat → Nat → Str} (fg_wrong_in : FunD K "wrong_in" "wrong_in" (defArgs (top 11)) (defBody (top 11)) (defScope (top 11)) [] [] ag fdg) (hg_wrong_in : mg "wrong_in" = some (.ref ag)) (TB : TabB base mg c Pt) (hmT : (Pt, nm) ∈ g.T) (hnm : ∀ p : Pos, nm p.line p.col = "wrong_in_places.<locals>.<lambda>") (hu : ∀ p ∈ g.T, p.1 = Pt → p.2 = nm) (fa : Addr)  (A : Around) (outer : List Env) (s : Shared) (H : Hp) (E : XK)
    (hr : Room (k + 2) (A.deeper (envOfC "wrong_in_places" (defScope (top 16)) s.heap.objs.size fa (.ref c)))) :
    BV g (cxOf C8.CX0 P w K mg base ["value"] "wrong_in_places" (defScope (top 16)) fa (.ref c) A outer s H E) (defBody (top 16)) (m_wrong_in_places S_is_name S_are_below) := by
  have hN : (["value"] : List Str).Nodup := by decide
  exact (bv_one (sv_ret (ev_lamcall (k := k) (N := ["ahead", "each"]) (ps := ["ahead", "each"]) (fr := []) (js := []) (i := 3) (a := "is_right") (Ng := ["value", "least", "most", "is_right", "index", "each"]) (psg := ["value", "least", "most", "is_right"]) fg_wrong_in hg_wrong_in (by kernel_rfl) (fun kV doc pm an cdv ct => len4 fun _ _ _ _ => rfl) rfl (hr.mono (by omega)) rfl (lv_cons (ev_var (pv 0)) (lv_cons ev_int (lv_cons (ev_gint rfl F.c_MOST_PLACES) lv_nil))) TB rfl hmT (hnm _) hu (by kernel_rfl) (by kernel_rfl) rfl rfl (fun q cl pm cv ctv => len2 fun _ _ => rfl) (fun A outer s H f c' hr => (ev_and (ev_call h_is_name hr (by omega) rfl (av_cons (ev_var (pv 1)) av_nil)) (ev_one (ev_call h_are_below hr (by omega) rfl (av_cons (ev_var (pv 0)) (av_cons (ev_var (pv 1)) av_nil)))))) rfl (by first | exact .inl rfl | exact .inr (.inl rfl)) (fun clo cloK cdg s H hr hlam => d_wrong_in (k := k) (g := ⟨g.ca, g.T, clo, cloK⟩) F _ _ _ _ _ _ (hr.mono (by omega)) _ hlam))))
def m_is_tie (S_is_pair : List A → Mo D) (S_is_one_of : List A → Mo D) : Ev → Mo Out := (yRet (xAnd (xFn 1 S_is_pair (xCons (xVar 1) xNil)) (xAnd (xFn 2 S_is_one_of (xCons (xBin mIx (xVar 1) (xC (.int 0))) (xCons (xVar 0) xNil))) (xAnd (xFn 2 S_is_one_of (xCons (xBin mIx (xVar 1) (xC (.int 1))) (xCons (xVar 0) xNil))) (xBin mLt (xBin mIx (xVar 1) (xC (.int 0))) (xBin mIx (xVar 1) (xC (.int 1))))))))
theorem d_is_tie {P : Program} {w : World} {K : PySem.W.Frag} {mg : Str → Option Value} {base : Heap} {g : G} {k : Nat} (F : Fx K mg g.ca) {S_is_pair : List A → Mo D} {S_is_one_of : List A → Mo D} (h_is_pair : Cal P w K mg base g k "is_pair" 1 S_is_pair) (h_is_one_of : Cal P w K mg base g k "is_one_of" 2 S_is_one_of) (fa : Addr) (cdv : Value) (A : Around) (outer : List Env) (s : Shared) (H : Hp) (E : XK)
    (hr : Room (k + 2) (A.deeper (envOfC "is_tie" (defScope (top 17)) s.heap.objs.size fa cdv))) :
    BV g (cxOf C8.CX0 P w K mg base ["places", "value"] "is_tie" (defScope (top 17)) fa cdv A outer s H E) (defBody (top 17)) (m_is_tie S_is_pair S_is_one_of) := by
  have hN : (["places", "value"] : List Str).Nodup := by decide
  exact (bv_one (sv_ret (ev_and (ev_call h_is_pair hr (by omega) rfl (av_cons (ev_var (pv 1)) av_nil)) (ev_and (ev_call h_is_one_of hr (by omega) rfl (av_cons (ev_ix (ev_var (pv 1)) ev_int (by intro _ _; rfl)) (av_cons (ev_var (pv 0)) av_nil))) (ev_and (ev_call h_is_one_of hr (by omega) rfl (av_cons (ev_ix (ev_var (pv 1)) ev_int (by intro _ _; rfl)) (av_cons (ev_var (pv 0)) av_nil))) (ev_one (ev_cmp (od_lt hr.units0) (ev_ix (ev_var (pv 1)) ev_int (by intro _ _; rfl)) (ev_ix (ev_var (pv 1)) ev_int (by intro _ _; rfl)) (nomark _))))))))
def m_wrong_in_ties (S_is_tie : List A → Mo D) (S_are_below : List A → Mo D) : Ev → Mo Out := (yRet (xLamCall 4 [0] (xCons (xVar 1) (xCons (xC (.int 0)) (xCons (xC .non) xNil))) (runF 6 (m_wrong_in (fun i => xLam i 3 2 (xAnd (xFn 2 S_is_tie (xCons (xVar 2) (xCons (xVar 1) xNil))) (xFn 2 S_are_below (xCons (xVar 0) (xCons (xVar 1) xNil)))))))))
theorem d_wrong_in_ties {P : Program} {w : World} {K : PySem.W.Frag} {mg : Str → Option Value} {base : Heap} {g : G} {k : Nat} (F : Fx K mg g.ca) {S_is_tie : List A → Mo D} {S_are_below : List A → Mo D} (h_is_tie : Cal P w K mg base g k "is_tie" 2 S_is_tie) (h_are_below : Cal P w K mg base g k "are_below" 2 S_are_below) {fdg : FuncData} {ag c Pt : Addr} {nm : Nat → Nat → Str} (fg_wrong_in : FunD K "wrong_in" "wrong_in" (defArgs (top 11)) (defBody (top 11)) (defScope (top 11)) [] [] ag fdg) (hg_wrong_in : mg "wrong_in" = some (.ref ag)) (TB : TabB base mg c Pt) (hmT : (Pt, nm) ∈ g.T) (hnm : ∀ p : Pos, nm p.line p.col = "wrong_in_ties.<locals>.<lambda>") (hu : ∀ p ∈ g.T, p.1 = Pt → p.2 = nm) (fa : Addr)  (A : Around) (outer : List Env) (s : Shared) (H : Hp) (E : XK)
    (hr : Room (k + 2) (A.deeper (envOfC "wrong_in_ties" (defScope (top 18)) s.heap.objs.size fa (.ref c)))) :
    BV g (cxOf C8.CX0 P w K mg base ["places", "value"] "wrong_in_ties" (defScope (top 18)) fa (.ref c) A outer s H E) (defBody (top 18)) (m_wrong_in_ties S_is_tie S_are_below) := by
  have hN : (["places", "value"] : List Str).Nodup := by decide
  exact (bv_one (sv_ret (ev_lamcall (k := k) (N := ["ahead", "each", "places"]) (ps := ["ahead", "each"]) (fr := ["places"]) (js := [0]) (i := 3) (a := "is_right") (Ng := ["value", "least", "most", "is_right", "index", "each"]) (psg := ["value", "least", "most", "is_right"]) fg_wrong_in hg_wrong_in (by kernel_rfl) (fun kV doc pm an cdv ct => len4 fun _ _ _ _ => rfl) rfl (hr.mono (by omega)) rfl (lv_cons (ev_var (pv 1)) (lv_cons ev_int (lv_cons ev_non lv_nil))) TB rfl hmT (hnm _) hu (by kernel_rfl) (by kernel_rfl) rfl rfl (fun q cl pm cv ctv => len2 fun _ _ => rfl) (fun A outer s H f c' hr => (ev_and (ev_call h_is_tie hr (by omega) rfl (av_cons (ev_var (pv 2)) (av_cons (ev_var (pv 1)) av_nil))) (ev_one (ev_call h_are_below hr (by omega) rfl (av_cons (ev_var (pv 0)) (av_cons (ev_var (pv 1)) av_nil)))))) rfl (by first | exact .inl rfl | exact .inr (.inl rfl)) (fun clo cloK cdg s H hr hlam => d_wrong_in (k := k) (g := ⟨g.ca, g.T, clo, cloK⟩) F _ _ _ _ _ _ (hr.mono (by omega)) _ hlam))))
def m_Web_ddinitdd (S_wrong_in_places : List A → Mo D) (S_wrong_in_ties : List A → Mo D) : Ev → Mo Out := (ySeq (yFor (itemsL (xFn 1 S_wrong_in_places (xCons (xVar 1) xNil))) (zName 3) yNever)
  (ySeq (yFor (itemsL (xFn 2 S_wrong_in_ties (xCons (xVar 1) (xCons (xVar 2) xNil)))) (zName 3) yNever)
  (ySetF "Web" "all_told" (xVar 0) (xTup (xCons (xVar 1) (xCons (xVar 2) xNil))))))
theorem d_Web_ddinitdd {P : Program} {w : World} {K : PySem.W.Frag} {mg : Str → Option Value} {base : Heap} {g : G} {k : Nat} (F : Fx K mg g.ca) {S_wrong_in_places : List A → Mo D} {S_wrong_in_ties : List A → Mo D} (h_wrong_in_places : Cal P w K mg base g k "wrong_in_places" 1 S_wrong_in_places) (h_wrong_in_ties : Cal P w K mg base g k "wrong_in_ties" 2 S_wrong_in_ties) (fa : Addr) (cdv : Value) (A : Around) (outer : List Env) (s : Shared) (H : Hp) (E : XK)
    (hr : Room (k + 2) (A.deeper (envOfC "Web.__init__" (defScope (inClass (top 36) 0)) s.heap.objs.size fa cdv))) :
    BV g (cxOf C8.CX0 P w K mg base ["self", "places", "ties", "index"] "Web.__init__" (defScope (inClass (top 36) 0)) fa cdv A outer s H E) (defBody (inClass (top 36) 0)) (m_Web_ddinitdd S_wrong_in_places S_wrong_in_ties) := by
  have hN : (["self", "places", "ties", "index"] : List Str).Nodup := by decide
  exact (bv_cons (sv_for (passes_of rfl) rfl (iv_lst (ev_call h_wrong_in_places hr (by omega) rfl (av_cons (ev_var (pv 1)) av_nil))) (gv_name hN rfl (by first | exact .inl rfl | exact .inr rfl)) (bv_one sv_never))
  (bv_cons (sv_for (passes_of rfl) rfl (iv_lst (ev_call h_wrong_in_ties hr (by omega) rfl (av_cons (ev_var (pv 1)) (av_cons (ev_var (pv 2)) av_nil)))) (gv_name hN rfl (by first | exact .inl rfl | exact .inr rfl)) (bv_one sv_never))
  (bv_one (sv_fld F.cl_Web F.na_Web_all_told (ev_var (pv 0)) (ev_tup (av_cons (ev_var (pv 1)) (av_cons (ev_var (pv 2)) av_nil)))))))
def m_Web_places : Ev → Mo Out := (yRet (xBin mIx (xFld "Web" "all_told" (xVar 0)) (xC (.int 0))))
theorem d_Web_places {P : Program} {w : World} {K : PySem.W.Frag} {mg : Str → Option Value} {base : Heap} {g : G} {k : Nat} (F : Fx K mg g.ca) (fa : Addr) (cdv : Value) (A : Around) (outer : List Env) (s : Shared) (H : Hp) (E : XK)
    (hr : Room (k + 2) (A.deeper (envOfC "Web.places" (defScope (inClass (top 36) 1)) s.heap.objs.size fa cdv))) :
    BV g (cxOf C8.CX0 P w K mg base ["self"] "Web.places" (defScope (inClass (top 36) 1)) fa cdv A outer s H E) (defBody (inClass (top 36) 1)) (m_Web_places) := by
  have hN : (["self"] : List Str).Nodup := by decide
  exact (bv_one (sv_ret (ev_ix (ev_fld F.cl_Web F.na_Web_all_told (ev_var (pv 0))) ev_int (by intro _ _; rfl))))
def m_Web_ties : Ev → Mo Out := (yRet (xBin mIx (xFld "Web" "all_told" (xVar 0)) (xC (.int 1))))
theorem d_Web_ties {P : Program} {w : World} {K : PySem.W.Frag} {mg : Str → Option Value} {base : Heap} {g : G} {k : Nat} (F : Fx K mg g.ca) (fa : Addr) (cdv : Value) (A : Around) (outer : List Env) (s : Shared) (H : Hp) (E : XK)
    (hr : Room (k + 2) (A.deeper (envOfC "Web.ties" (defScope (inClass (top 36) 2)) s.heap.objs.size fa cdv))) :
    BV g (cxOf C8.CX0 P w K mg base ["self"] "Web.ties" (defScope (inClass (top 36) 2)) fa cdv A outer s H E) (defBody (inClass (top 36) 2)) (m_Web_ties) := by
  have hN : (["self"] : List Str).Nodup := by decide
  exact (bv_one (sv_ret (ev_ix (ev_fld F.cl_Web F.na_Web_all_told (ev_var (pv 0))) ev_int (by intro _ _; rfl))))
def m_Web_parts : Ev → Mo Out := (yRet (xFld "Web" "all_told" (xVar 0)))
theorem d_Web_parts {P : Program} {w : World} {K : PySem.W.Frag} {mg : Str → Option Value} {base : Heap} {g : G} {k : Nat} (F : Fx K mg g.ca) (fa : Addr) (cdv : Value) (A : Around) (outer : List Env) (s : Shared) (H : Hp) (E : XK)
    (hr : Room (k + 2) (A.deeper (envOfC "Web.parts" (defScope (inClass (top 36) 3)) s.heap.objs.size fa cdv))) :
    BV g (cxOf C8.CX0 P w K mg base ["self"] "Web.parts" (defScope (inClass (top 36) 3)) fa cdv A outer s H E) (defBody (inClass (top 36) 3)) (m_Web_parts) := by
  have hN : (["self"] : List Str).Nodup := by decide
  exact (bv_one (sv_ret (ev_fld F.cl_Web F.na_Web_all_told (ev_var (pv 0)))))
def m_Web_ddeqdd (S_Web_parts : List A → Mo D) : Ev → Mo Out := (yRet (xAnd (xCall mIsi (xCons (xVar 1) (xCons (xC (.cls "Web")) xNil))) (xBin mEq (xProp "Web" S_Web_parts (xVar 0)) (xProp "Web" S_Web_parts (xVar 1)))))
theorem d_Web_ddeqdd {P : Program} {w : World} {K : PySem.W.Frag} {mg : Str → Option Value} {base : Heap} {g : G} {k : Nat} (F : Fx K mg g.ca) {S_Web_parts : List A → Mo D} (p_Web_parts : PropC P w K mg base g k "Web" "parts" S_Web_parts) (fa : Addr) (cdv : Value) (A : Around) (outer : List Env) (s : Shared) (H : Hp) (E : XK)
    (hr : Room (k + 2) (A.deeper (envOfC "Web.__eq__" (defScope (inClass (top 36) 4)) s.heap.objs.size fa cdv))) :
    BV g (cxOf C8.CX0 P w K mg base ["self", "other"] "Web.__eq__" (defScope (inClass (top 36) 4)) fa cdv A outer s H E) (defBody (inClass (top 36) 4)) (m_Web_ddeqdd S_Web_parts) := by
  have hN : (["self", "other"] : List Str).Nodup := by decide
  exact (bv_one (sv_ret (ev_and (ev_callB (cd_isi (F.isi _ rfl)) rfl F.f_isinstance rfl (av_cons (ev_var (pv 1)) (av_cons (ev_cls rfl F.g_Web) av_nil))) (ev_one (ev_cmp (od_eq hr.units) (ev_prop p_Web_parts hr (by omega) (ev_var (pv 0))) (ev_prop p_Web_parts hr (by omega) (ev_var (pv 1))) (nomark _))))))
def m_check_web : Ev → Mo Out := (yIf (xNotB (asB (xCall mIsi (xCons (xVar 0) (xCons (xC (.cls "Web")) xNil))))) yNever yNil)
theorem d_check_web {P : Program} {w : World} {K : PySem.W.Frag} {mg : Str → Option Value} {base : Heap} {g : G} {k : Nat} (F : Fx K mg g.ca) (fa : Addr) (cdv : Value) (A : Around) (outer : List Env) (s : Shared) (H : Hp) (E : XK)
    (hr : Room (k + 2) (A.deeper (envOfC "check_web" (defScope (top 37)) s.heap.objs.size fa cdv))) :
    BV g (cxOf C8.CX0 P w K mg base ["web"] "check_web" (defScope (top 37)) fa cdv A outer s H E) (defBody (top 37)) (m_check_web) := by
  have hN : (["web"] : List Str).Nodup := by decide
  exact (bv_one (sv_if (tv_not (tv_val (ev_callB (cd_isi (F.isi _ rfl)) rfl F.f_isinstance rfl (av_cons (ev_var (pv 0)) (av_cons (ev_cls rfl F.g_Web) av_nil))))) (bv_one sv_never) bv_nil))
def m_check_set (S_is_set_of_names : List A → Mo D) (S_Web_places : List A → Mo D) : Ev → Mo Out := (yIf (xNotB (asB (xFn 2 S_is_set_of_names (xCons (xVar 1) (xCons (xProp "Web" S_Web_places (xVar 0)) xNil))))) yNever yNil)
theorem d_check_set {P : Program} {w : World} {K : PySem.W.Frag} {mg : Str → Option Value} {base : Heap} {g : G} {k : Nat} (F : Fx K mg g.ca) {S_is_set_of_names : List A → Mo D} {S_Web_places : List A → Mo D} (h_is_set_of_names : Cal P w K mg base g k "is_set_of_names" 2 S_is_set_of_names) (p_Web_places : PropC P w K mg base g k "Web" "places" S_Web_places) (fa : Addr) (cdv : Value) (A : Around) (outer : List Env) (s : Shared) (H : Hp) (E : XK)
    (hr : Room (k + 2) (A.deeper (envOfC "check_set" (defScope (top 38)) s.heap.objs.size fa cdv))) :
    BV g (cxOf C8.CX0 P w K mg base ["web", "some"] "check_set" (defScope (top 38)) fa cdv A outer s H E) (defBody (top 38)) (m_check_set S_is_set_of_names S_Web_places) := by
  have hN : (["web", "some"] : List Str).Nodup := by decide
  exact (bv_one (sv_if (tv_not (tv_val (ev_call h_is_set_of_names hr (by omega) rfl (av_cons (ev_var (pv 1)) (av_cons (ev_prop p_Web_places hr (by omega) (ev_var (pv 0))) av_nil))))) (bv_one sv_never) bv_nil))
def m_check_posts (S_check_web : List A → Mo D) (S_check_set : List A → Mo D) : Ev → Mo Out := (ySeq (yDrop (xFn 1 S_check_web (xCons (xVar 0) xNil)))
  (yDrop (xFn 2 S_check_set (xCons (xVar 0) (xCons (xVar 1) xNil)))))
theorem d_check_posts {P : Program} {w : World} {K : PySem.W.Frag} {mg : Str → Option Value} {base : Heap} {g : G} {k : Nat} (F : Fx K mg g.ca) {S_check_web : List A → Mo D} {S_check_set : List A → Mo D} (h_check_web : Cal P w K mg base g k "check_web" 1 S_check_web) (h_check_set : Cal P w K mg base g k "check_set" 2 S_check_set) (fa : Addr) (cdv : Value) (A : Around) (outer : List Env) (s : Shared) (H : Hp) (E : XK)
    (hr : Room (k + 2) (A.deeper (envOfC "check_posts" (defScope (top 39)) s.heap.objs.size fa cdv))) :
    BV g (cxOf C8.CX0 P w K mg base ["web", "posts"] "check_posts" (defScope (top 39)) fa cdv A outer s H E) (defBody (top 39)) (m_check_posts S_check_web S_check_set) := by
  have hN : (["web", "posts"] : List Str).Nodup := by decide
  exact (bv_cons (sv_drop (ev_call h_check_web hr (by omega) rfl (av_cons (ev_var (pv 0)) av_nil)))
  (bv_one (sv_drop (ev_call h_check_set hr (by omega) rfl (av_cons (ev_var (pv 0)) (av_cons (ev_var (pv 1)) av_nil))))))
def m_check_kind (S_is_one_of : List A → Mo D) : Ev → Mo Out := (yIf (xNotB (asB (xFn 2 S_is_one_of (xCons (xVar 0) (xCons (xC c_KINDS) xNil))))) yNever yNil)
theorem d_check_kind {P : Program} {w : World} {K : PySem.W.Frag} {mg : Str → Option Value} {base : Heap} {g : G} {k : Nat} (F : Fx K mg g.ca) {S_is_one_of : List A → Mo D} (h_is_one_of : Cal P w K mg base g k "is_one_of" 2 S_is_one_of) (fa : Addr) (cdv : Value) (A : Around) (outer : List Env) (s : Shared) (H : Hp) (E : XK)
    (hr : Room (k + 2) (A.deeper (envOfC "check_kind" (defScope (top 40)) s.heap.objs.size fa cdv))) :
    BV g (cxOf C8.CX0 P w K mg base ["kind"] "check_kind" (defScope (top 40)) fa cdv A outer s H E) (defBody (top 40)) (m_check_kind S_is_one_of) := by
  have hN : (["kind"] : List Str).Nodup := by decide
  exact (bv_one (sv_if (tv_not (tv_val (ev_call h_is_one_of hr (by omega) rfl (av_cons (ev_var (pv 0)) (av_cons (ev_gtup rfl F.c_KINDS) av_nil))))) (bv_one sv_never) bv_nil))
def m_check_place (S_is_one_of : List A → Mo D) (S_Web_places : List A → Mo D) : Ev → Mo Out := (yIf (xNotB (asB (xFn 2 S_is_one_of (xCons (xVar 1) (xCons (xProp "Web" S_Web_places (xVar 0)) xNil))))) yNever yNil)
theorem d_check_place {P : Program} {w : World} {K : PySem.W.Frag} {mg : Str → Option Value} {base : Heap} {g : G} {k : Nat} (F : Fx K mg g.ca) {S_is_one_of : List A → Mo D} {S_Web_places : List A → Mo D} (h_is_one_of : Cal P w K mg base g k "is_one_of" 2 S_is_one_of) (p_Web_places : PropC P w K mg base g k "Web" "places" S_Web_places) (fa : Addr) (cdv : Value) (A : Around) (outer : List Env) (s : Shared) (H : Hp) (E : XK)
    (hr : Room (k + 2) (A.deeper (envOfC "check_place" (defScope (top 41)) s.heap.objs.size fa cdv))) :
    BV g (cxOf C8.CX0 P w K mg base ["web", "place"] "check_place" (defScope (top 41)) fa cdv A outer s H E) (defBody (top 41)) (m_check_place S_is_one_of S_Web_places) := by
  have hN : (["web", "place"] : List Str).Nodup := by decide
  exact (bv_one (sv_if (tv_not (tv_val (ev_call h_is_one_of hr (by omega) rfl (av_cons (ev_var (pv 1)) (av_cons (ev_prop p_Web_places hr (by omega) (ev_var (pv 0))) av_nil))))) (bv_one sv_never) bv_nil))
def m_check_number (S_is_between : List A → Mo D) : Ev → Mo Out := (yIf (xNotB (asB (xFn 3 S_is_between (xCons (xVar 0) (xCons (xVar 1) (xCons (xVar 2) xNil)))))) yNever yNil)
theorem d_check_number {P : Program} {w : World} {K : PySem.W.Frag} {mg : Str → Option Value} {base : Heap} {g : G} {k : Nat} (F : Fx K mg g.ca) {S_is_between : List A → Mo D} (h_is_between : Cal P w K mg base g k "is_between" 3 S_is_between) (fa : Addr) (cdv : Value) (A : Around) (outer : List Env) (s : Shared) (H : Hp) (E : XK)
    (hr : Room (k + 2) (A.deeper (envOfC "check_number" (defScope (top 42)) s.heap.objs.size fa cdv))) :
    BV g (cxOf C8.CX0 P w K mg base ["number", "least", "most"] "check_number" (defScope (top 42)) fa cdv A outer s H E) (defBody (top 42)) (m_check_number S_is_between) := by
  have hN : (["number", "least", "most"] : List Str).Nodup := by decide
  exact (bv_one (sv_if (tv_not (tv_val (ev_call h_is_between hr (by omega) rfl (av_cons (ev_var (pv 0)) (av_cons (ev_var (pv 1)) (av_cons (ev_var (pv 2)) av_nil)))))) (bv_one sv_never) bv_nil))
def m_Case_ddinitdd (S_check_posts : List A → Mo D) (S_check_kind : List A → Mo D) (S_check_number : List A → Mo D) (S_check_place : List A → Mo D) : Ev → Mo Out := (ySeq (yDrop (xFn 2 S_check_posts (xCons (xVar 1) (xCons (xVar 2) xNil))))
  (ySeq (yDrop (xFn 1 S_check_kind (xCons (xVar 3) xNil)))
  (ySeq (yDrop (xFn 3 S_check_number (xCons (xVar 4) (xCons (xC (.int 0)) (xCons (xC c_MOST_NUMBER) xNil)))))
  (ySeq (yDrop (xFn 2 S_check_place (xCons (xVar 1) (xCons (xVar 5) xNil))))
  (ySeq (yDrop (xFn 3 S_check_number (xCons (xVar 6) (xCons (xC (.int 0)) (xCons (xC c_MOST_NUMBER) xNil)))))
  (ySetF "Case" "all_of_it" (xVar 0) (xTup (xCons (xVar 1) (xCons (xVar 2) (xCons (xVar 3) (xCons (xVar 4) (xCons (xVar 5) (xCons (xVar 6) xNil)))))))))))))
theorem d_Case_ddinitdd {P : Program} {w : World} {K : PySem.W.Frag} {mg : Str → Option Value} {base : Heap} {g : G} {k : Nat} (F : Fx K mg g.ca) {S_check_posts : List A → Mo D} {S_check_kind : List A → Mo D} {S_check_number : List A → Mo D} {S_check_place : List A → Mo D} (h_check_posts : Cal P w K mg base g k "check_posts" 2 S_check_posts) (h_check_kind : Cal P w K mg base g k "check_kind" 1 S_check_kind) (h_check_number : Cal P w K mg base g k "check_number" 3 S_check_number) (h_check_place : Cal P w K mg base g k "check_place" 2 S_check_place) (fa : Addr) (cdv : Value) (A : Around) (outer : List Env) (s : Shared) (H : Hp) (E : XK)
    (hr : Room (k + 2) (A.deeper (envOfC "Case.__init__" (defScope (inClass (top 45) 0)) s.heap.objs.size fa cdv))) :
    BV g (cxOf C8.CX0 P w K mg base ["self", "web", "posts", "kind", "many", "place", "beats"] "Case.__init__" (defScope (inClass (top 45) 0)) fa cdv A outer s H E) (defBody (inClass (top 45) 0)) (m_Case_ddinitdd S_check_posts S_check_kind S_check_number S_check_place) := by
  have hN : (["self", "web", "posts", "kind", "many", "place", "beats"] : List Str).Nodup := by decide
  exact (bv_cons (sv_drop (ev_call h_check_posts hr (by omega) rfl (av_cons (ev_var (pv 1)) (av_cons (ev_var (pv 2)) av_nil))))
  (bv_cons (sv_drop (ev_call h_check_kind hr (by omega) rfl (av_cons (ev_var (pv 3)) av_nil)))
  (bv_cons (sv_drop (ev_call h_check_number hr (by omega) rfl (av_cons (ev_var (pv 4)) (av_cons ev_int (av_cons (ev_gint rfl F.c_MOST_NUMBER) av_nil)))))
  (bv_cons (sv_drop (ev_call h_check_place hr (by omega) rfl (av_cons (ev_var (pv 1)) (av_cons (ev_var (pv 5)) av_nil))))
  (bv_cons (sv_drop (ev_call h_check_number hr (by omega) rfl (av_cons (ev_var (pv 6)) (av_cons ev_int (av_cons (ev_gint rfl F.c_MOST_NUMBER) av_nil)))))
  (bv_one (sv_fld F.cl_Case F.na_Case_all_of_it (ev_var (pv 0)) (ev_tup (av_cons (ev_var (pv 1)) (av_cons (ev_var (pv 2)) (av_cons (ev_var (pv 3)) (av_cons (ev_var (pv 4)) (av_cons (ev_var (pv 5)) (av_cons (ev_var (pv 6)) av_nil))))))))))))))
def m_Case_web : Ev → Mo Out := (yRet (xBin mIx (xFld "Case" "all_of_it" (xVar 0)) (xC (.int 0))))
theorem d_Case_web {P : Program} {w : World} {K : PySem.W.Frag} {mg : Str → Option Value} {base : Heap} {g : G} {k : Nat} (F : Fx K mg g.ca) (fa : Addr) (cdv : Value) (A : Around) (outer : List Env) (s : Shared) (H : Hp) (E : XK)
    (hr : Room (k + 2) (A.deeper (envOfC "Case.web" (defScope (inClass (top 45) 1)) s.heap.objs.size fa cdv))) :
    BV g (cxOf C8.CX0 P w K mg base ["self"] "Case.web" (defScope (inClass (top 45) 1)) fa cdv A outer s H E) (defBody (inClass (top 45) 1)) (m_Case_web) := by
  have hN : (["self"] : List Str).Nodup := by decide
  exact (bv_one (sv_ret (ev_ix (ev_fld F.cl_Case F.na_Case_all_of_it (ev_var (pv 0))) ev_int (by intro _ _; rfl))))
def m_Case_posts : Ev → Mo Out := (yRet (xBin mIx (xFld "Case" "all_of_it" (xVar 0)) (xC (.int 1))))
theorem d_Case_posts {P : Program} {w : World} {K : PySem.W.Frag} {mg : Str → Option Value} {base : Heap} {g : G} {k : Nat} (F : Fx K mg g.ca) (fa : Addr) (cdv : Value) (A : Around) (outer : List Env) (s : Shared) (H : Hp) (E : XK)
    (hr : Room (k + 2) (A.deeper (envOfC "Case.posts" (defScope (inClass (top 45) 2)) s.heap.objs.size fa cdv))) :
    BV g (cxOf C8.CX0 P w K mg base ["self"] "Case.posts" (defScope (inClass (top 45) 2)) fa cdv A outer s H E) (defBody (inClass (top 45) 2)) (m_Case_posts) := by
  have hN : (["self"] : List Str).Nodup := by decide
  exact (bv_one (sv_ret (ev_ix (ev_fld F.cl_Case F.na_Case_all_of_it (ev_var (pv 0))) ev_int (by intro _ _; rfl))))
def m_Case_kind : Ev → Mo Out := (yRet (xBin mIx (xFld "Case" "all_of_it" (xVar 0)) (xC (.int 2))))
theorem d_Case_kind {P : Program} {w : World} {K : PySem.W.Frag} {mg : Str → Option Value} {base : Heap} {g : G} {k : Nat} (F : Fx K mg g.ca) (fa : Addr) (cdv : Value) (A : Around) (outer : List Env) (s : Shared) (H : Hp) (E : XK)
    (hr : Room (k + 2) (A.deeper (envOfC "Case.kind" (defScope (inClass (top 45) 3)) s.heap.objs.size fa cdv))) :
    BV g (cxOf C8.CX0 P w K mg base ["self"] "Case.kind" (defScope (inClass (top 45) 3)) fa cdv A outer s H E) (defBody (inClass (top 45) 3)) (m_Case_kind) := by
  have hN : (["self"] : List Str).Nodup := by decide
  exact (bv_one (sv_ret (ev_ix (ev_fld F.cl_Case F.na_Case_all_of_it (ev_var (pv 0))) ev_int (by intro _ _; rfl))))
def m_Case_many : Ev → Mo Out := (yRet (xBin mIx (xFld "Case" "all_of_it" (xVar 0)) (xC (.int 3))))
theorem d_Case_many {P : Program} {w : World} {K : PySem.W.Frag} {mg : Str → Option Value} {base : Heap} {g : G} {k : Nat} (F : Fx K mg g.ca) (fa : Addr) (cdv : Value) (A : Around) (outer : List Env) (s : Shared) (H : Hp) (E : XK)
    (hr : Room (k + 2) (A.deeper (envOfC "Case.many" (defScope (inClass (top 45) 4)) s.heap.objs.size fa cdv))) :
    BV g (cxOf C8.CX0 P w K mg base ["self"] "Case.many" (defScope (inClass (top 45) 4)) fa cdv A outer s H E) (defBody (inClass (top 45) 4)) (m_Case_many) := by
  have hN : (["self"] : List Str).Nodup := by decide
  exact (bv_one (sv_ret (ev_ix (ev_fld F.cl_Case F.na_Case_all_of_it (ev_var (pv 0))) ev_int (by intro _ _; rfl))))
def m_Case_place : Ev → Mo Out := (yRet (xBin mIx (xFld "Case" "all_of_it" (xVar 0)) (xC (.int 4))))
theorem d_Case_place {P : Program} {w : World} {K : PySem.W.Frag} {mg : Str → Option Value} {base : Heap} {g : G} {k : Nat} (F : Fx K mg g.ca) (fa : Addr) (cdv : Value) (A : Around) (outer : List Env) (s : Shared) (H : Hp) (E : XK)
    (hr : Room (k + 2) (A.deeper (envOfC "Case.place" (defScope (inClass (top 45) 5)) s.heap.objs.size fa cdv))) :
    BV g (cxOf C8.CX0 P w K mg base ["self"] "Case.place" (defScope (inClass (top 45) 5)) fa cdv A outer s H E) (defBody (inClass (top 45) 5)) (m_Case_place) := by
  have hN : (["self"] : List Str).Nodup := by decide
  exact (bv_one (sv_ret (ev_ix (ev_fld F.cl_Case F.na_Case_all_of_it (ev_var (pv 0))) ev_int (by intro _ _; rfl))))
def m_Case_beats : Ev → Mo Out := (yRet (xBin mIx (xFld "Case" "all_of_it" (xVar 0)) (xC (.int 5))))
theorem d_Case_beats {P : Program} {w : World} {K : PySem.W.Frag} {mg : Str → Option Value} {base : Heap} {g : G} {k : Nat} (F : Fx K mg g.ca) (fa : Addr) (cdv : Value) (A : Around) (outer : List Env) (s : Shared) (H : Hp) (E : XK)
    (hr : Room (k + 2) (A.deeper (envOfC "Case.beats" (defScope (inClass (top 45) 6)) s.heap.objs.size fa cdv))) :
    BV g (cxOf C8.CX0 P w K mg base ["self"] "Case.beats" (defScope (inClass (top 45) 6)) fa cdv A outer s H E) (defBody (inClass (top 45) 6)) (m_Case_beats) := by
  have hN : (["self"] : List Str).Nodup := by decide
  exact (bv_one (sv_ret (ev_ix (ev_fld F.cl_Case F.na_Case_all_of_it (ev_var (pv 0))) ev_int (by intro _ _; rfl))))
def m_Case_parts (S_Web_parts : List A → Mo D) : Ev → Mo Out := (yRet (xTup (xCons (xProp "Web" S_Web_parts (xBin mIx (xFld "Case" "all_of_it" (xVar 0)) (xC (.int 0)))) (xStar (xSlice (xFld "Case" "all_of_it" (xVar 0)) (oSome (xC (.int 1))) oNone) xNil))))
theorem d_Case_parts {P : Program} {w : World} {K : PySem.W.Frag} {mg : Str → Option Value} {base : Heap} {g : G} {k : Nat} (F : Fx K mg g.ca) {S_Web_parts : List A → Mo D} (p_Web_parts : PropC P w K mg base g k "Web" "parts" S_Web_parts) (fa : Addr) (cdv : Value) (A : Around) (outer : List Env) (s : Shared) (H : Hp) (E : XK)
    (hr : Room (k + 2) (A.deeper (envOfC "Case.parts" (defScope (inClass (top 45) 7)) s.heap.objs.size fa cdv))) :
    BV g (cxOf C8.CX0 P w K mg base ["self"] "Case.parts" (defScope (inClass (top 45) 7)) fa cdv A outer s H E) (defBody (inClass (top 45) 7)) (m_Case_parts S_Web_parts) := by
  have hN : (["self"] : List Str).Nodup := by decide
  exact (bv_one (sv_ret (ev_tup (av_cons (ev_prop p_Web_parts hr (by omega) (ev_ix (ev_fld F.cl_Case F.na_Case_all_of_it (ev_var (pv 0))) ev_int (by intro _ _; rfl))) (av_star (ev_slice (ev_fld F.cl_Case F.na_Case_all_of_it (ev_var (pv 0))) (ov_some ev_int) ov_none) av_nil)))))
def m_Case_ddeqdd (S_Case_parts : List A → Mo D) : Ev → Mo Out := (yRet (xAnd (xCall mIsi (xCons (xVar 1) (xCons (xC (.cls "Case")) xNil))) (xBin mEq (xProp "Case" S_Case_parts (xVar 0)) (xProp "Case" S_Case_parts (xVar 1)))))
theorem d_Case_ddeqdd {P : Program} {w : World} {K : PySem.W.Frag} {mg : Str → Option Value} {base : Heap} {g : G} {k : Nat} (F : Fx K mg g.ca) {S_Case_parts : List A → Mo D} (p_Case_parts : PropC P w K mg base g k "Case" "parts" S_Case_parts) (fa : Addr) (cdv : Value) (A : Around) (outer : List Env) (s : Shared) (H : Hp) (E : XK)
    (hr : Room (k + 2) (A.deeper (envOfC "Case.__eq__" (defScope (inClass (top 45) 8)) s.heap.objs.size fa cdv))) :
    BV g (cxOf C8.CX0 P w K mg base ["self", "other"] "Case.__eq__" (defScope (inClass (top 45) 8)) fa cdv A outer s H E) (defBody (inClass (top 45) 8)) (m_Case_ddeqdd S_Case_parts) := by
  have hN : (["self", "other"] : List Str).Nodup := by decide
  exact (bv_one (sv_ret (ev_and (ev_callB (cd_isi (F.isi _ rfl)) rfl F.f_isinstance rfl (av_cons (ev_var (pv 1)) (av_cons (ev_cls rfl F.g_Case) av_nil))) (ev_one (ev_cmp (od_eq hr.units) (ev_prop p_Case_parts hr (by omega) (ev_var (pv 0))) (ev_prop p_Case_parts hr (by omega) (ev_var (pv 1))) (nomark _))))))
def m_law_well : Ev → Mo Out := (ySeq (ySet 2 (xBin mAdd (xC (.int 704969)) (xBin mMul (xC (.int 6121)) (xVar 1))))
  (ySeq (yFor (itemsL (xSlice (xVar 0) oNone (oSome (xC (.int 16))))) (zName 3) (ySet 2 (xBin mMod (xCall (liftL dInt) (xCons (xBin mAdd (xBin mAdd (xBin mMul (xVar 2) (xC (.int 48271))) (xBin mMod (xCall (liftL dInt) (xCons (xVar 3) xNil)) (xC (.int 2147483549)))) (xC (.int 23))) xNil)) (xC (.int 2147483587)))))
  (ySeq (ySet 4 (xIf (asB (xBin mLt (xVar 1) (xCall (liftL dLen) (xCons (xVar 0) xNil)))) (xCall (liftL dInt) (xCons (xBin mIx (xVar 0) (xVar 1)) xNil)) (xC (.int 0))))
  (ySeq (ySet 2 (xBin mMod (xCall (liftL dInt) (xCons (xBin mAdd (xBin mAdd (xBin mMul (xVar 2) (xC (.int 53))) (xBin mMul (xBin mMod (xCall (liftL dInt) (xCons (xVar 4) xNil)) (xC (.int 2147483549))) (xC (.int 15013)))) (xC (.int 11))) xNil)) (xC (.int 2147483587))))
  (yRet (xLstM (xCons (xIf (xOrB (asB (xBin mLt (xVar 4) (xC (.int 0)))) (asB (xBin mGe (xVar 4) (xBin mPow (xC (.int 10)) (xC (.int 15)))))) (xCall (liftL dAbs) (xCons (xVar 4) xNil)) (xC (.int 0))) (xCons (xVar 2) (xCons (xC (.int 0)) xNil)))))))))
theorem d_law_well {P : Program} {w : World} {K : PySem.W.Frag} {mg : Str → Option Value} {base : Heap} {g : G} {k : Nat} (F : Fx K mg g.ca) (fa : Addr) (cdv : Value) (A : Around) (outer : List Env) (s : Shared) (H : Hp) (E : XK)
    (hr : Room (k + 2) (A.deeper (envOfC "_law_well" (defScope (top 47)) s.heap.objs.size fa cdv))) :
    BV g (cxOf C8.CX0 P w K mg base ["script", "lap", "stirred", "cell", "own"] "_law_well" (defScope (top 47)) fa cdv A outer s H E) (defBody (top 47)) (m_law_well) := by
  have hN : (["script", "lap", "stirred", "cell", "own"] : List Str).Nodup := by decide
  exact (bv_cons (sv_set hN rfl (by first | exact .inl rfl | exact .inr rfl) (ev_op od_add ev_int (ev_op od_mul ev_int (ev_var (pv 1)))))
  (bv_cons (sv_for (passes_of rfl) rfl (iv_lst (ev_slice (ev_var (pv 0)) ov_none (ov_some ev_int))) (gv_name hN rfl (by first | exact .inl rfl | exact .inr rfl)) (bv_one (sv_set hN rfl (by first | exact .inl rfl | exact .inr rfl) (ev_op od_mod (ev_callTy cd_int rfl F.f_int rfl (av_cons (ev_op od_add (ev_op od_add (ev_op od_mul (ev_var (pv 2)) ev_int) (ev_op od_mod (ev_callTy cd_int rfl F.f_int rfl (av_cons (ev_var (pv 3)) av_nil)) ev_int)) ev_int) av_nil)) ev_int))))
  (bv_cons (sv_set hN rfl (by first | exact .inl rfl | exact .inr rfl) (ev_if (tv_cmp (od_lt hr.units0) (ev_var (pv 1)) (ev_callB cd_len rfl F.f_len rfl (av_cons (ev_var (pv 0)) av_nil)) (nomark _)) (ev_callTy cd_int rfl F.f_int rfl (av_cons (ev_ix (ev_var (pv 0)) (ev_var (pv 1)) (by intro _ _; rfl)) av_nil)) ev_int))
  (bv_cons (sv_set hN rfl (by first | exact .inl rfl | exact .inr rfl) (ev_op od_mod (ev_callTy cd_int rfl F.f_int rfl (av_cons (ev_op od_add (ev_op od_add (ev_op od_mul (ev_var (pv 2)) ev_int) (ev_op od_mul (ev_op od_mod (ev_callTy cd_int rfl F.f_int rfl (av_cons (ev_var (pv 4)) av_nil)) ev_int) ev_int)) ev_int) av_nil)) ev_int))
  (bv_one (sv_ret (ev_lstM (av_cons (ev_if (WV.tv (wv_or (tv_cmp (od_lt hr.units0) (ev_var (pv 4)) ev_int (nomark _)) (wv_or1 (tv_cmp od_ge (ev_var (pv 4)) (ev_op od_pow ev_int ev_int) (nomark _))))) (ev_callB cd_abs rfl F.f_abs rfl (av_cons (ev_var (pv 4)) av_nil)) ev_int) (av_cons (ev_var (pv 2)) (av_cons ev_int av_nil))))))))))
def m_law_draw : Ev → Mo Out := (ySeq (yIf (asB (xBin mGt (xBin mIx (xVar 0) (xC (.int 0))) (xC (.int 0)))) (ySeq (yAsg (xCall (liftL dDivmod) (xCons (xBin mIx (xVar 0) (xC (.int 0))) (xCons (xVar 1) xNil))) (zTup (zCons (zSub (xVar 0) (xC (.int 0))) (zCons (zName 2) zNil))))
  (yRet (xVar 2))) yNil)
  (ySeq (yAsg (xBin mAdd (xBin mIx (xVar 0) (xC (.int 2))) (xC (.int 1))) (zSub (xVar 0) (xC (.int 2))))
  (ySeq (ySet 3 (xBin mMod (xCall (liftL dInt) (xCons (xBin mAdd (xBin mAdd (xBin mMul (xBin mIx (xVar 0) (xC (.int 1))) (xC (.int 40009))) (xBin mMul (xC (.int 15013)) (xBin mIx (xVar 0) (xC (.int 2))))) (xC (.int 3))) xNil)) (xC (.int 2147483587))))
  (ySeq (yAsg (xBin mMod (xCall (liftL dInt) (xCons (xBin mAdd (xBin mMul (xVar 3) (xBin mAdd (xBin mMod (xCall (liftL dInt) (xCons (xVar 3) xNil)) (xC (.int 5003))) (xC (.int 20011)))) (xBin mIx (xVar 0) (xC (.int 2)))) xNil)) (xC (.int 2147483587))) (zSub (xVar 0) (xC (.int 1))))
  (yRet (xBin mMod (xCall (liftL dInt) (xCons (xBin mDiv (xBin mIx (xVar 0) (xC (.int 1))) (xC (.int 1031))) xNil)) (xVar 1)))))))
theorem d_law_draw {P : Program} {w : World} {K : PySem.W.Frag} {mg : Str → Option Value} {base : Heap} {g : G} {k : Nat} (F : Fx K mg g.ca) (fa : Addr) (cdv : Value) (A : Around) (outer : List Env) (s : Shared) (H : Hp) (E : XK)
    (hr : Room (k + 2) (A.deeper (envOfC "_law_draw" (defScope (top 48)) s.heap.objs.size fa cdv))) :
    BV g (cxOf C8.CX0 P w K mg base ["well", "limit", "figure", "mixed"] "_law_draw" (defScope (top 48)) fa cdv A outer s H E) (defBody (top 48)) (m_law_draw) := by
  have hN : (["well", "limit", "figure", "mixed"] : List Str).Nodup := by decide
  exact (bv_cons (sv_if (tv_cmp od_gt (ev_ix (ev_var (pv 0)) ev_int (by intro _ _; rfl)) ev_int (nomark _)) (bv_cons (sv_asg (ev_callB cd_divmod rfl F.f_divmod rfl (av_cons (ev_ix (ev_var (pv 0)) ev_int (by intro _ _; rfl)) (av_cons (ev_var (pv 1)) av_nil))) (gv_tup rfl (gsv_cons (gv_sub (ev_var (pv 0)) ev_int) (gsv_cons (gv_name hN rfl (by first | exact .inl rfl | exact .inr rfl)) gsv_nil))))
  (bv_one (sv_ret (ev_var (pv 2))))) bv_nil)
  (bv_cons (sv_asg (ev_op od_add (ev_ix (ev_var (pv 0)) ev_int (by intro _ _; rfl)) ev_int) (gv_sub (ev_var (pv 0)) ev_int))
  (bv_cons (sv_set hN rfl (by first | exact .inl rfl | exact .inr rfl) (ev_op od_mod (ev_callTy cd_int rfl F.f_int rfl (av_cons (ev_op od_add (ev_op od_add (ev_op od_mul (ev_ix (ev_var (pv 0)) ev_int (by intro _ _; rfl)) ev_int) (ev_op od_mul ev_int (ev_ix (ev_var (pv 0)) ev_int (by intro _ _; rfl)))) ev_int) av_nil)) ev_int))
  (bv_cons (sv_asg (ev_op od_mod (ev_callTy cd_int rfl F.f_int rfl (av_cons (ev_op od_add (ev_op od_mul (ev_var (pv 3)) (ev_op od_add (ev_op od_mod (ev_callTy cd_int rfl F.f_int rfl (av_cons (ev_var (pv 3)) av_nil)) ev_int) ev_int)) (ev_ix (ev_var (pv 0)) ev_int (by intro _ _; rfl))) av_nil)) ev_int) (gv_sub (ev_var (pv 0)) ev_int))
  (bv_one (sv_ret (ev_op od_mod (ev_callTy cd_int rfl F.f_int rfl (av_cons (ev_op od_div (ev_ix (ev_var (pv 0)) ev_int (by intro _ _; rfl)) ev_int) av_nil)) (ev_var (pv 1)))))))))
def m_law_of (S_law_draw : List A → Mo D) : Ev → Mo Out := (yRet (xBin mIx (xVar 1) (xFn 2 S_law_draw (xCons (xVar 0) (xCons (xCall (liftL dLen) (xCons (xVar 1) xNil)) xNil)))))
theorem d_law_of {P : Program} {w : World} {K : PySem.W.Frag} {mg : Str → Option Value} {base : Heap} {g : G} {k : Nat} (F : Fx K mg g.ca) {S_law_draw : List A → Mo D} (h_law_draw : Cal P w K mg base g k "_law_draw" 2 S_law_draw) (fa : Addr) (cdv : Value) (A : Around) (outer : List Env) (s : Shared) (H : Hp) (E : XK)
    (hr : Room (k + 2) (A.deeper (envOfC "_law_of" (defScope (top 49)) s.heap.objs.size fa cdv))) :
    BV g (cxOf C8.CX0 P w K mg base ["well", "some"] "_law_of" (defScope (top 49)) fa cdv A outer s H E) (defBody (top 49)) (m_law_of S_law_draw) := by
  have hN : (["well", "some"] : List Str).Nodup := by decide
  exact (bv_one (sv_ret (ev_ix (ev_var (pv 1)) (ev_call h_law_draw hr (by omega) rfl (av_cons (ev_var (pv 0)) (av_cons (ev_callB cd_len rfl F.f_len rfl (av_cons (ev_var (pv 1)) av_nil)) av_nil))) (by intro _ _; rfl))))
def m_law_shuffled (S_law_draw : List A → Mo D) : Ev → Mo Out := (ySeq (yPar 2 3 (xCons (xCall (mListM) (xCons (xVar 1) xNil)) (xCons (xLstM xNil) xNil)))
  (ySeq (yFor (itemsR1 (xCons (xCall (liftL dLen) (xCons (xVar 2) xNil)) xNil)) (zName 4) (yDrop (xMt "list" mAppend (xVar 3) (xCons (xMt "list" mPopAt (xVar 2) (xCons (xFn 2 S_law_draw (xCons (xVar 0) (xCons (xCall (liftL dLen) (xCons (xVar 2) xNil)) xNil))) xNil)) xNil))))
  (yRet (xVar 3))))
theorem d_law_shuffled {P : Program} {w : World} {K : PySem.W.Frag} {mg : Str → Option Value} {base : Heap} {g : G} {k : Nat} (F : Fx K mg g.ca) {S_law_draw : List A → Mo D} (h_law_draw : Cal P w K mg base g k "_law_draw" 2 S_law_draw) (fa : Addr) (cdv : Value) (A : Around) (outer : List Env) (s : Shared) (H : Hp) (E : XK)
    (hr : Room (k + 2) (A.deeper (envOfC "_law_shuffled" (defScope (top 50)) s.heap.objs.size fa cdv))) :
    BV g (cxOf C8.CX0 P w K mg base ["well", "some", "left", "found", "k"] "_law_shuffled" (defScope (top 50)) fa cdv A outer s H E) (defBody (top 50)) (m_law_shuffled S_law_draw) := by
  have hN : (["well", "some", "left", "found", "k"] : List Str).Nodup := by decide
  exact (bv_cons (sv_par rfl hN rfl rfl (by decide) rfl rfl (av_cons (ev_callTy cd_listM rfl F.f_list rfl (av_cons (ev_var (pv 1)) av_nil)) (av_cons (ev_lstM av_nil) av_nil)))
  (bv_cons (sv_for (passes_of rfl) rfl (iv_range1 rfl F.f_range (av_cons (ev_callB cd_len rfl F.f_len rfl (av_cons (ev_var (pv 2)) av_nil)) av_nil)) (gv_name hN rfl (by first | exact .inl rfl | exact .inr rfl)) (bv_one (sv_drop (ev_bm PySem.F.plainAttrs_list PySem.F.slot_list_append PySem.F.type_list_append md_append (ev_var (pv 3)) (av_cons (ev_bm PySem.F.plainAttrs_list PySem.F.slot_list_pop PySem.F.type_list_pop md_popAt (ev_var (pv 2)) (av_cons (ev_call h_law_draw hr (by omega) rfl (av_cons (ev_var (pv 0)) (av_cons (ev_callB cd_len rfl F.f_len rfl (av_cons (ev_var (pv 2)) av_nil)) av_nil))) av_nil)) av_nil)))))
  (bv_one (sv_ret (ev_var (pv 3))))))
def m_law_same (S_law_same : List A → Mo D) : Ev → Mo Out := (ySeq (yIf (asB (xCall mIsi (xCons (xVar 1) (xCons (xC (.ty "tuple")) xNil)))) (ySeq (yIf (xOrB (xNotB (asB (xCall mIsi (xCons (xVar 0) (xCons (xC (.ty "tuple")) xNil))))) (asB (xBin mNe (xCall (liftL dLen) (xCons (xVar 0) xNil)) (xCall (liftL dLen) (xCons (xVar 1) xNil))))) (yRet (xC (.bl false))) yNil)
  (yRet (xCall (liftL dAll) (xCons (xComp (itemsR1 (xCons (xCall (liftL dLen) (xCons (xVar 1) xNil)) xNil)) [3] (zName 3) tYesM (xFn 2 S_law_same (xCons (xBin mIx (xVar 0) (xVar 3)) (xCons (xBin mIx (xVar 1) (xVar 3)) xNil)))) xNil)))) yNil)
  (ySeq (yIf (asB (xCall mIsi (xCons (xVar 1) (xCons (xC (.ty "bool")) xNil)))) (yRet (xAnd (xCall mIsi (xCons (xVar 0) (xCons (xC (.ty "bool")) xNil))) (xBin mEq (xVar 0) (xVar 1)))) yNil)
  (ySeq (yIf (asB (xCall mIsi (xCons (xVar 1) (xCons (xC (.ty "int")) xNil)))) (yRet (xAnd (xCall mIsi (xCons (xVar 0) (xCons (xC (.ty "int")) xNil))) (xAnd (xNot (xCall mIsi (xCons (xVar 0) (xCons (xC (.ty "bool")) xNil)))) (xBin mEq (xVar 0) (xVar 1))))) yNil)
  (ySeq (yIf (asB (xCall mIsi (xCons (xVar 1) (xCons (xC (.ty "str")) xNil)))) (yRet (xAnd (xCall mIsi (xCons (xVar 0) (xCons (xC (.ty "str")) xNil))) (xBin mEq (xVar 0) (xVar 1)))) yNil)
  (ySeq (yIf (asB (xBin mIs (xVar 1) (xC .non))) (yRet (xBin mIs (xVar 0) (xC .non))) yNil)
  yNever)))))
theorem d_law_same {P : Program} {w : World} {K : PySem.W.Frag} {mg : Str → Option Value} {base : Heap} {g : G} {k : Nat} (F : Fx K mg g.ca) {S_law_same : List A → Mo D} (h_law_same : Cal P w K mg base g k "_law_same" 2 S_law_same) (fa : Addr) (cdv : Value) (A : Around) (outer : List Env) (s : Shared) (H : Hp) (E : XK)
    (hr : Room (k + 2) (A.deeper (envOfC "_law_same" (defScope (top 51)) s.heap.objs.size fa cdv))) :
    BV g (cxOf C8.CX0 P w K mg base ["one", "two", "alike", "k"] "_law_same" (defScope (top 51)) fa cdv A outer s H E) (defBody (top 51)) (m_law_same S_law_same) := by
  have hN : (["one", "two", "alike", "k"] : List Str).Nodup := by decide
  exact (bv_cons (sv_if (tv_val (ev_callB (cd_isi (F.isi _ rfl)) rfl F.f_isinstance rfl (av_cons (ev_var (pv 1)) (av_cons (ev_ty rfl F.f_tuple rfl) av_nil)))) (bv_cons (sv_if (WV.tv (wv_or (tv_not (tv_val (ev_callB (cd_isi (F.isi _ rfl)) rfl F.f_isinstance rfl (av_cons (ev_var (pv 0)) (av_cons (ev_ty rfl F.f_tuple rfl) av_nil))))) (wv_or1 (tv_cmp (od_ne hr.units) (ev_callB cd_len rfl F.f_len rfl (av_cons (ev_var (pv 0)) av_nil)) (ev_callB cd_len rfl F.f_len rfl (av_cons (ev_var (pv 1)) av_nil)) (nomark _))))) (bv_one (sv_ret ev_bl)) bv_nil)
  (bv_one (sv_ret (ev_callB (cd_all rfl) rfl F.f_all rfl (av_cons (ev_lc (own := [("k", 3)]) rfl hN (iv_range1 rfl F.f_range (av_cons (ev_callB cd_len rfl F.f_len rfl (av_cons (ev_var (pv 1)) av_nil)) av_nil)) (blkOk_by (by kernel_rfl)) (BlkV.of (fun s H C cl fp => (gv_name hN rfl (by first | exact .inl rfl | exact .inr rfl))) (fun s H C cl fp => tsv_nil) (fun s H C cl fp => (ev_call h_law_same hr (by omega) rfl (av_cons (ev_ix (ev_var (pv 0)) (ev_var (pv 3)) (by intro _ _; rfl)) (av_cons (ev_ix (ev_var (pv 1)) (ev_var (pv 3)) (by intro _ _; rfl)) av_nil))))) (by decide)) av_nil))))) bv_nil)
  (bv_cons (sv_if (tv_val (ev_callB (cd_isi (F.isi _ rfl)) rfl F.f_isinstance rfl (av_cons (ev_var (pv 1)) (av_cons (ev_ty rfl F.f_bool rfl) av_nil)))) (bv_one (sv_ret (ev_and (ev_callB (cd_isi (F.isi _ rfl)) rfl F.f_isinstance rfl (av_cons (ev_var (pv 0)) (av_cons (ev_ty rfl F.f_bool rfl) av_nil))) (ev_one (ev_cmp (od_eq hr.units) (ev_var (pv 0)) (ev_var (pv 1)) (nomark _)))))) bv_nil)
  (bv_cons (sv_if (tv_val (ev_callB (cd_isi (F.isi _ rfl)) rfl F.f_isinstance rfl (av_cons (ev_var (pv 1)) (av_cons (ev_ty rfl F.f_int rfl) av_nil)))) (bv_one (sv_ret (ev_and (ev_callB (cd_isi (F.isi _ rfl)) rfl F.f_isinstance rfl (av_cons (ev_var (pv 0)) (av_cons (ev_ty rfl F.f_int rfl) av_nil))) (ev_and (ev_not (ev_callB (cd_isi (F.isi _ rfl)) rfl F.f_isinstance rfl (av_cons (ev_var (pv 0)) (av_cons (ev_ty rfl F.f_bool rfl) av_nil)))) (ev_one (ev_cmp (od_eq hr.units) (ev_var (pv 0)) (ev_var (pv 1)) (nomark _))))))) bv_nil)
  (bv_cons (sv_if (tv_val (ev_callB (cd_isi (F.isi _ rfl)) rfl F.f_isinstance rfl (av_cons (ev_var (pv 1)) (av_cons (ev_ty rfl F.f_str rfl) av_nil)))) (bv_one (sv_ret (ev_and (ev_callB (cd_isi (F.isi _ rfl)) rfl F.f_isinstance rfl (av_cons (ev_var (pv 0)) (av_cons (ev_ty rfl F.f_str rfl) av_nil))) (ev_one (ev_cmp (od_eq hr.units) (ev_var (pv 0)) (ev_var (pv 1)) (nomark _)))))) bv_nil)
  (bv_cons (sv_if (tv_cmp od_is (ev_var (pv 1)) ev_non (nomark _)) (bv_one (sv_ret (ev_cmp od_is (ev_var (pv 0)) ev_non (nomark _)))) bv_nil)
  bv_never)))))
def m_law_words : Ev → Mo Out := (ySeq (ySet 0 (xC (.str "all alone apart beside burn case cut double fire game guard in joined lost near next no none of once open")))
  (ySeq (ySet 0 (xBin mAdd (xVar 0) (xC (.str " out place post posts quit rule safe set sets step take tie undo watch watched web yes"))))
  (yRet (xMt "str" mSplit (xVar 0) (xCons (xC (.str " ")) xNil)))))
theorem d_law_words {P : Program} {w : World} {K : PySem.W.Frag} {mg : Str → Option Value} {base : Heap} {g : G} {k : Nat} (F : Fx K mg g.ca) (fa : Addr) (cdv : Value) (A : Around) (outer : List Env) (s : Shared) (H : Hp) (E : XK)
    (hr : Room (k + 2) (A.deeper (envOfC "_law_words" (defScope (top 52)) s.heap.objs.size fa cdv))) :
    BV g (cxOf C8.CX0 P w K mg base ["words"] "_law_words" (defScope (top 52)) fa cdv A outer s H E) (defBody (top 52)) (m_law_words) := by
  have hN : (["words"] : List Str).Nodup := by decide
  exact (bv_cons (sv_set hN rfl (by first | exact .inl rfl | exact .inr rfl) ev_str)
  (bv_cons (sv_set hN rfl (by first | exact .inl rfl | exact .inr rfl) (ev_op od_add (ev_var (pv 0)) ev_str))
  (bv_one (sv_ret (ev_bm PySem.F.plainAttrs_str PySem.F.slot_str_split PySem.F.type_str_split md_split (ev_var (pv 0)) (av_cons ev_str av_nil))))))
def m_law_own : Ev → Mo Out := (yRet (xMt "str" mSplit (xC (.str "apart double joined near once open")) (xCons (xC (.str " ")) xNil)))
theorem d_law_own {P : Program} {w : World} {K : PySem.W.Frag} {mg : Str → Option Value} {base : Heap} {g : G} {k : Nat} (F : Fx K mg g.ca) (fa : Addr) (cdv : Value) (A : Around) (outer : List Env) (s : Shared) (H : Hp) (E : XK)
    (hr : Room (k + 2) (A.deeper (envOfC "_law_own" (defScope (top 53)) s.heap.objs.size fa cdv))) :
    BV g (cxOf C8.CX0 P w K mg base [] "_law_own" (defScope (top 53)) fa cdv A outer s H E) (defBody (top 53)) (m_law_own) := by
  have hN : ([] : List Str).Nodup := by decide
  exact (bv_one (sv_ret (ev_bm PySem.F.plainAttrs_str PySem.F.slot_str_split PySem.F.type_str_split md_split ev_str (av_cons ev_str av_nil))))
def m_law_names (S_law_of : List A → Mo D) (S_law_draw : List A → Mo D) (S_law_words : List A → Mo D) (S_law_own : List A → Mo D) : Ev → Mo Out := (ySeq (yPar 2 3 (xCons (xC (.str "abcdefghijklmnopqrstuvwxyz")) (xCons (xLstM xNil) xNil)))
  (ySeq (yFor (itemsR1 (xCons (xVar 1) xNil)) (zName 4) (ySeq (yPar 5 6 (xCons (xC (.str "")) (xCons (xFn 2 S_law_of (xCons (xVar 0) (xCons (xTup (xCons (xC (.int 0)) (xCons (xC (.int 0)) (xCons (xC (.int 1)) (xCons (xC (.int 2)) (xCons (xC (.int 3)) (xCons (xC (.int 7)) xNil))))))) xNil))) xNil)))
  (ySeq (yFor (itemsR1 (xCons (xVar 6) xNil)) (zName 7) (ySet 5 (xBin mAdd (xVar 5) (xFn 2 S_law_of (xCons (xVar 0) (xCons (xVar 2) xNil))))))
  (ySeq (ySet 8 (xFn 2 S_law_draw (xCons (xVar 0) (xCons (xBin mAdd (xVar 6) (xC (.int 1))) xNil))))
  (ySeq (ySet 5 (xBin mAdd (xBin mAdd (xSlice (xVar 5) oNone (oSome (xVar 8))) (xBin mIx (xVar 2) (xVar 4))) (xSlice (xVar 5) (oSome (xVar 8)) oNone)))
  (yDrop (xMt "list" mAppend (xVar 3) (xCons (xIf (xOrB (asB (xBin mIn (xVar 5) (xVar 3))) (xOrB (asB (xBin mIn (xVar 5) (xFn 0 S_law_words xNil))) (asB (xBin mIn (xVar 5) (xFn 0 S_law_own xNil))))) (xBin (lift2 dRepS) (xBin mIx (xVar 2) (xVar 4)) (xC (.int 8))) (xVar 5)) xNil))))))))
  (yRet (xCall (liftL dTuple) (xCons (xCall (liftL dSorted) (xCons (xVar 3) xNil)) xNil)))))
theorem d_law_names {P : Program} {w : World} {K : PySem.W.Frag} {mg : Str → Option Value} {base : Heap} {g : G} {k : Nat} (F : Fx K mg g.ca) {S_law_of : List A → Mo D} {S_law_draw : List A → Mo D} {S_law_words : List A → Mo D} {S_law_own : List A → Mo D} (h_law_of : Cal P w K mg base g k "_law_of" 2 S_law_of) (h_law_draw : Cal P w K mg base g k "_law_draw" 2 S_law_draw) (h_law_words : Cal P w K mg base g k "_law_words" 0 S_law_words) (h_law_own : Cal P w K mg base g k "_law_own" 0 S_law_own) (fa : Addr) (cdv : Value) (A : Around) (outer : List Env) (s : Shared) (H : Hp) (E : XK)
    (hr : Room (k + 2) (A.deeper (envOfC "_law_names" (defScope (top 54)) s.heap.objs.size fa cdv))) :
    BV g (cxOf C8.CX0 P w K mg base ["well", "many", "letters", "found", "turn", "name", "size", "lap", "at"] "_law_names" (defScope (top 54)) fa cdv A outer s H E) (defBody (top 54)) (m_law_names S_law_of S_law_draw S_law_words S_law_own) := by
  have hN : (["well", "many", "letters", "found", "turn", "name", "size", "lap", "at"] : List Str).Nodup := by decide
  exact (bv_cons (sv_par rfl hN rfl rfl (by decide) rfl rfl (av_cons ev_str (av_cons (ev_lstM av_nil) av_nil)))
  (bv_cons (sv_for (passes_of rfl) rfl (iv_range1 rfl F.f_range (av_cons (ev_var (pv 1)) av_nil)) (gv_name hN rfl (by first | exact .inl rfl | exact .inr rfl)) (bv_cons (sv_par rfl hN rfl rfl (by decide) rfl rfl (av_cons ev_str (av_cons (ev_call h_law_of hr (by omega) rfl (av_cons (ev_var (pv 0)) (av_cons (ev_tup (av_cons ev_int (av_cons ev_int (av_cons ev_int (av_cons ev_int (av_cons ev_int (av_cons ev_int av_nil))))))) av_nil))) av_nil)))
  (bv_cons (sv_for (passes_of rfl) rfl (iv_range1 rfl F.f_range (av_cons (ev_var (pv 6)) av_nil)) (gv_name hN rfl (by first | exact .inl rfl | exact .inr rfl)) (bv_one (sv_set hN rfl (by first | exact .inl rfl | exact .inr rfl) (ev_op od_add (ev_var (pv 5)) (ev_call h_law_of hr (by omega) rfl (av_cons (ev_var (pv 0)) (av_cons (ev_var (pv 2)) av_nil)))))))
  (bv_cons (sv_set hN rfl (by first | exact .inl rfl | exact .inr rfl) (ev_call h_law_draw hr (by omega) rfl (av_cons (ev_var (pv 0)) (av_cons (ev_op od_add (ev_var (pv 6)) ev_int) av_nil))))
  (bv_cons (sv_set hN rfl (by first | exact .inl rfl | exact .inr rfl) (ev_op od_add (ev_op od_add (ev_slice (ev_var (pv 5)) ov_none (ov_some (ev_var (pv 8)))) (ev_ix (ev_var (pv 2)) (ev_var (pv 4)) (by intro _ _; rfl))) (ev_slice (ev_var (pv 5)) (ov_some (ev_var (pv 8))) ov_none)))
  (bv_one (sv_drop (ev_bm PySem.F.plainAttrs_list PySem.F.slot_list_append PySem.F.type_list_append md_append (ev_var (pv 3)) (av_cons (ev_if (WV.tv (wv_or (tv_cmp od_in (ev_var (pv 5)) (ev_var (pv 3)) (by with_unfolding_all rfl)) (wv_or (tv_cmp od_in (ev_var (pv 5)) (ev_call0 h_law_words hr (by omega) rfl) (by with_unfolding_all rfl)) (wv_or1 (tv_cmp od_in (ev_var (pv 5)) (ev_call0 h_law_own hr (by omega) rfl) (by with_unfolding_all rfl)))))) (ev_op od_repS (ev_ix (ev_var (pv 2)) (ev_var (pv 4)) (by intro _ _; rfl)) ev_int) (ev_var (pv 5))) av_nil)))))))))
  (bv_one (sv_ret (ev_callTy cd_tuple rfl F.f_tuple rfl (av_cons (ev_callB (cd_sorted hr) rfl F.f_sorted rfl (av_cons (ev_var (pv 3)) av_nil)) av_nil))))))
def m_law_web (S_law_names : List A → Mo D) (S_law_of : List A → Mo D) (S_law_draw : List A → Mo D) (S_law_shuffled : List A → Mo D) : Ev → Mo Out := (ySeq (yPar3 2 3 4 (xCons (xFn 2 S_law_names (xCons (xVar 0) (xCons (xVar 1) xNil))) (xCons (xFn 2 S_law_of (xCons (xVar 0) (xCons (xTup (xCons (xC (.int 0)) (xCons (xC (.int 1)) (xCons (xC (.int 2)) (xCons (xC (.int 3)) (xCons (xC (.int 4)) xNil)))))) xNil))) (xCons (xLst xNil) xNil))))
  (ySeq (yFor (itemsR1 (xCons (xVar 1) xNil)) (zName 5) (yFor (itemsT (xSlice (xVar 2) (oSome (xBin mAdd (xVar 5) (xC (.int 1)))) oNone)) (zName 6) (ySet 4 (xBin mAdd (xVar 4) (xIf (asB (xBin mLt (xFn 2 S_law_draw (xCons (xVar 0) (xCons (xC (.int 5)) xNil))) (xVar 3))) (xLst (xCons (xTup (xCons (xBin mIx (xVar 2) (xVar 5)) (xCons (xVar 6) xNil))) xNil)) (xLst xNil))))))
  (ySeq (yIf (asB (xBin mEq (xFn 2 S_law_draw (xCons (xVar 0) (xCons (xC (.int 3)) xNil))) (xC (.int 0)))) (ySeq (ySet 7 (xFn 2 S_law_shuffled (xCons (xVar 0) (xCons (xVar 2) xNil))))
  (ySet 4 (xComp (itemsR2 (xCons (xC (.int 1)) (xCons (xVar 1) xNil))) [5] (zName 5) tYesM (xCall (liftL dTuple) (xCons (xCall (liftL dSorted) (xCons (xTup (xCons (xBin mIx (xVar 7) (xVar 5)) (xCons (xBin mIx (xVar 7) (xFn 2 S_law_draw (xCons (xVar 0) (xCons (xVar 5) xNil)))) xNil))) xNil)) xNil))))) yNil)
  (yRet (xTup (xCons (xVar 2) (xCons (xCall (liftL dTuple) (xCons (xCall (liftL dSorted) (xCons (xVar 4) xNil)) xNil)) xNil)))))))
theorem d_law_web {P : Program} {w : World} {K : PySem.W.Frag} {mg : Str → Option Value} {base : Heap} {g : G} {k : Nat} (F : Fx K mg g.ca) {S_law_names : List A → Mo D} {S_law_of : List A → Mo D} {S_law_draw : List A → Mo D} {S_law_shuffled : List A → Mo D} (h_law_names : Cal P w K mg base g k "_law_names" 2 S_law_names) (h_law_of : Cal P w K mg base g k "_law_of" 2 S_law_of) (h_law_draw : Cal P w K mg base g k "_law_draw" 2 S_law_draw) (h_law_shuffled : Cal P w K mg base g k "_law_shuffled" 2 S_law_shuffled) (fa : Addr) (cdv : Value) (A : Around) (outer : List Env) (s : Shared) (H : Hp) (E : XK)
    (hr : Room (k + 2) (A.deeper (envOfC "_law_web" (defScope (top 55)) s.heap.objs.size fa cdv))) :
    BV g (cxOf C8.CX0 P w K mg base ["well", "many", "places", "often", "found", "k", "other", "some"] "_law_web" (defScope (top 55)) fa cdv A outer s H E) (defBody (top 55)) (m_law_web S_law_names S_law_of S_law_draw S_law_shuffled) := by
  have hN : (["well", "many", "places", "often", "found", "k", "other", "some"] : List Str).Nodup := by decide
  exact (bv_cons (sv_par3 rfl hN rfl rfl rfl (by decide) (by decide) (by decide) rfl rfl rfl (av_cons (ev_call h_law_names hr (by omega) rfl (av_cons (ev_var (pv 0)) (av_cons (ev_var (pv 1)) av_nil))) (av_cons (ev_call h_law_of hr (by omega) rfl (av_cons (ev_var (pv 0)) (av_cons (ev_tup (av_cons ev_int (av_cons ev_int (av_cons ev_int (av_cons ev_int (av_cons ev_int av_nil)))))) av_nil))) (av_cons (ev_lst av_nil) av_nil))))
  (bv_cons (sv_for (passes_of rfl) rfl (iv_range1 rfl F.f_range (av_cons (ev_var (pv 1)) av_nil)) (gv_name hN rfl (by first | exact .inl rfl | exact .inr rfl)) (bv_one (sv_for (passes_of rfl) rfl (iv_tup (ev_slice (ev_var (pv 2)) (ov_some (ev_op od_add (ev_var (pv 5)) ev_int)) ov_none)) (gv_name hN rfl (by first | exact .inl rfl | exact .inr rfl)) (bv_one (sv_set hN rfl (by first | exact .inl rfl | exact .inr rfl) (ev_op od_add (ev_var (pv 4)) (ev_if (tv_cmp (od_lt hr.units0) (ev_call h_law_draw hr (by omega) rfl (av_cons (ev_var (pv 0)) (av_cons ev_int av_nil))) (ev_var (pv 3)) (nomark _)) (ev_lst (av_cons (ev_tup (av_cons (ev_ix (ev_var (pv 2)) (ev_var (pv 5)) (by intro _ _; rfl)) (av_cons (ev_var (pv 6)) av_nil))) av_nil)) (ev_lst av_nil))))))))
  (bv_cons (sv_if (tv_cmp (od_eq hr.units) (ev_call h_law_draw hr (by omega) rfl (av_cons (ev_var (pv 0)) (av_cons ev_int av_nil))) ev_int (nomark _)) (bv_cons (sv_set hN rfl (by first | exact .inl rfl | exact .inr rfl) (ev_call h_law_shuffled hr (by omega) rfl (av_cons (ev_var (pv 0)) (av_cons (ev_var (pv 2)) av_nil))))
  (bv_one (sv_setLc (own := [("k", 5)]) rfl hN rfl rfl rfl (iv_range2 rfl F.f_range (av_cons ev_int (av_cons (ev_var (pv 1)) av_nil))) (blkOk_by (by kernel_rfl)) (BlkV.of (fun s H C cl fp => (gv_name hN rfl (by first | exact .inl rfl | exact .inr rfl))) (fun s H C cl fp => tsv_nil) (fun s H C cl fp => (ev_callTy cd_tuple rfl F.f_tuple rfl (av_cons (ev_callB (cd_sorted hr) rfl F.f_sorted rfl (av_cons (ev_tup (av_cons (ev_ix (ev_var (pv 7)) (ev_var (pv 5)) (by intro _ _; rfl)) (av_cons (ev_ix (ev_var (pv 7)) (ev_call h_law_draw hr (by omega) rfl (av_cons (ev_var (pv 0)) (av_cons (ev_var (pv 5)) av_nil))) (by intro _ _; rfl)) av_nil))) av_nil)) av_nil)))) (by decide)))) bv_nil)
  (bv_one (sv_ret (ev_tup (av_cons (ev_var (pv 2)) (av_cons (ev_callTy cd_tuple rfl F.f_tuple rfl (av_cons (ev_callB (cd_sorted hr) rfl F.f_sorted rfl (av_cons (ev_var (pv 4)) av_nil)) av_nil)) av_nil))))))))
def m_law_near : Ev → Mo Out := (ySeq (ySet 1 (xCall (mDictP) (xCons (xComp (itemsT (xBin mIx (xVar 0) (xC (.int 0)))) [4] (zName 4) tYesM (xTup (xCons (xVar 4) (xCons (xLstM xNil) xNil)))) xNil)))
  (ySeq (yFor (itemsT (xBin mIx (xVar 0) (xC (.int 1)))) (zTup (zCons (zName 2) (zCons (zName 3) zNil))) (ySeq (yDrop (xMt "list" mAppend (xBin mGetD (xVar 1) (xVar 2)) (xCons (xVar 3) xNil)))
  (yDrop (xMt "list" mAppend (xBin mGetD (xVar 1) (xVar 3)) (xCons (xVar 2) xNil)))))
  (yRet (xVar 1))))
theorem d_law_near {P : Program} {w : World} {K : PySem.W.Frag} {mg : Str → Option Value} {base : Heap} {g : G} {k : Nat} (F : Fx K mg g.ca) (fa : Addr) (cdv : Value) (A : Around) (outer : List Env) (s : Shared) (H : Hp) (E : XK)
    (hr : Room (k + 2) (A.deeper (envOfC "_law_near" (defScope (top 56)) s.heap.objs.size fa cdv))) :
    BV g (cxOf C8.CX0 P w K mg base ["parts", "found", "one", "two", "place"] "_law_near" (defScope (top 56)) fa cdv A outer s H E) (defBody (top 56)) (m_law_near) := by
  have hN : (["parts", "found", "one", "two", "place"] : List Str).Nodup := by decide
  exact (bv_cons (sv_set hN rfl (by first | exact .inl rfl | exact .inr rfl) (ev_callTy (cd_dictP rfl) rfl F.f_dict rfl (av_cons (ev_lc (own := [("place", 4)]) rfl hN (iv_tup (ev_ix (ev_var (pv 0)) ev_int (by intro _ _; rfl))) (blkOk_by (by kernel_rfl)) (BlkV.of (fun s H C cl fp => (gv_name hN rfl (by first | exact .inl rfl | exact .inr rfl))) (fun s H C cl fp => tsv_nil) (fun s H C cl fp => (ev_tup (av_cons (ev_var (pv 4)) (av_cons (ev_lstM av_nil) av_nil))))) (by decide)) av_nil)))
  (bv_cons (sv_for (passes_of rfl) rfl (iv_tup (ev_ix (ev_var (pv 0)) ev_int (by intro _ _; rfl))) (gv_tup rfl (gsv_cons (gv_name hN rfl (by first | exact .inl rfl | exact .inr rfl)) (gsv_cons (gv_name hN rfl (by first | exact .inl rfl | exact .inr rfl)) gsv_nil))) (bv_cons (sv_drop (ev_bm PySem.F.plainAttrs_list PySem.F.slot_list_append PySem.F.type_list_append md_append (ev_dget hr.units (ev_var (pv 1)) (ev_var (pv 2)) (by intro _ _; rfl)) (av_cons (ev_var (pv 3)) av_nil)))
  (bv_one (sv_drop (ev_bm PySem.F.plainAttrs_list PySem.F.slot_list_append PySem.F.type_list_append md_append (ev_dget hr.units (ev_var (pv 1)) (ev_var (pv 3)) (by intro _ _; rfl)) (av_cons (ev_var (pv 2)) av_nil))))))
  (bv_one (sv_ret (ev_var (pv 1))))))
def m_law_all_sets : Ev → Mo Out := (ySeq (ySet 1 (xLst (xCons (xTup xNil) xNil)))
  (ySeq (yFor (itemsT (xVar 0)) (zName 2) (ySet 1 (xBin mAdd (xVar 1) (xComp (itemsL (xVar 1)) [3] (zName 3) tYesM (xBin mAdd (xVar 3) (xTup (xCons (xVar 2) xNil)))))))
  (yRet (xComp (itemsL (xCall (liftL dSorted) (xCons (xComp (itemsL (xVar 1)) [3] (zName 3) tYesM (xTup (xCons (xCall (liftL dLen) (xCons (xVar 3) xNil)) (xCons (xVar 3) xNil)))) xNil))) [4, 3] (zTup (zCons (zName 4) (zCons (zName 3) zNil))) tYesM (xVar 3)))))
theorem d_law_all_sets {P : Program} {w : World} {K : PySem.W.Frag} {mg : Str → Option Value} {base : Heap} {g : G} {k : Nat} (F : Fx K mg g.ca) (fa : Addr) (cdv : Value) (A : Around) (outer : List Env) (s : Shared) (H : Hp) (E : XK)
    (hr : Room (k + 2) (A.deeper (envOfC "_law_all_sets" (defScope (top 57)) s.heap.objs.size fa cdv))) :
    BV g (cxOf C8.CX0 P w K mg base ["places", "rows", "place", "row", "size"] "_law_all_sets" (defScope (top 57)) fa cdv A outer s H E) (defBody (top 57)) (m_law_all_sets) := by
  have hN : (["places", "rows", "place", "row", "size"] : List Str).Nodup := by decide
  exact (bv_cons (sv_set hN rfl (by first | exact .inl rfl | exact .inr rfl) (ev_lst (av_cons (ev_tup av_nil) av_nil)))
  (bv_cons (sv_for (passes_of rfl) rfl (iv_tup (ev_var (pv 0))) (gv_name hN rfl (by first | exact .inl rfl | exact .inr rfl)) (bv_one (sv_set hN rfl (by first | exact .inl rfl | exact .inr rfl) (ev_op od_add (ev_var (pv 1)) (ev_lc (own := [("row", 3)]) rfl hN (iv_lst (ev_var (pv 1))) (blkOk_by (by kernel_rfl)) (BlkV.of (fun s H C cl fp => (gv_name hN rfl (by first | exact .inl rfl | exact .inr rfl))) (fun s H C cl fp => tsv_nil) (fun s H C cl fp => (ev_op od_add (ev_var (pv 3)) (ev_tup (av_cons (ev_var (pv 2)) av_nil))))) (by decide))))))
  (bv_one (sv_ret (ev_lc (own := [("size", 4), ("row", 3)]) rfl hN (iv_lst (ev_callB (cd_sorted hr) rfl F.f_sorted rfl (av_cons (ev_lc (own := [("row", 3)]) rfl hN (iv_lst (ev_var (pv 1))) (blkOk_by (by kernel_rfl)) (BlkV.of (fun s H C cl fp => (gv_name hN rfl (by first | exact .inl rfl | exact .inr rfl))) (fun s H C cl fp => tsv_nil) (fun s H C cl fp => (ev_tup (av_cons (ev_callB cd_len rfl F.f_len rfl (av_cons (ev_var (pv 3)) av_nil)) (av_cons (ev_var (pv 3)) av_nil))))) (by decide)) av_nil))) (blkOk_by (by kernel_rfl)) (BlkV.of (fun s H C cl fp => (gv_tup rfl (gsv_cons (gv_name hN rfl (by first | exact .inl rfl | exact .inr rfl)) (gsv_cons (gv_name hN rfl (by first | exact .inl rfl | exact .inr rfl)) gsv_nil)))) (fun s H C cl fp => tsv_nil) (fun s H C cl fp => (ev_var (pv 3)))) (by decide))))))
def m_law_some (S_law_of : List A → Mo D) (S_law_draw : List A → Mo D) : Ev → Mo Out := (ySeq (ySet 2 (xFn 2 S_law_of (xCons (xVar 0) (xCons (xTup (xCons (xC (.int 2)) (xCons (xC (.int 3)) (xCons (xC (.int 5)) xNil)))) xNil))))
  (yRet (xCall (liftL dTuple) (xCons (xComp (itemsT (xVar 1)) [3] (zName 3) (asB (xBin mEq (xFn 2 S_law_draw (xCons (xVar 0) (xCons (xVar 2) xNil))) (xC (.int 0)))) (xVar 3)) xNil))))
theorem d_law_some {P : Program} {w : World} {K : PySem.W.Frag} {mg : Str → Option Value} {base : Heap} {g : G} {k : Nat} (F : Fx K mg g.ca) {S_law_of : List A → Mo D} {S_law_draw : List A → Mo D} (h_law_of : Cal P w K mg base g k "_law_of" 2 S_law_of) (h_law_draw : Cal P w K mg base g k "_law_draw" 2 S_law_draw) (fa : Addr) (cdv : Value) (A : Around) (outer : List Env) (s : Shared) (H : Hp) (E : XK)
    (hr : Room (k + 2) (A.deeper (envOfC "_law_some" (defScope (top 58)) s.heap.objs.size fa cdv))) :
    BV g (cxOf C8.CX0 P w K mg base ["well", "places", "often", "place"] "_law_some" (defScope (top 58)) fa cdv A outer s H E) (defBody (top 58)) (m_law_some S_law_of S_law_draw) := by
  have hN : (["well", "places", "often", "place"] : List Str).Nodup := by decide
  exact (bv_cons (sv_set hN rfl (by first | exact .inl rfl | exact .inr rfl) (ev_call h_law_of hr (by omega) rfl (av_cons (ev_var (pv 0)) (av_cons (ev_tup (av_cons ev_int (av_cons ev_int (av_cons ev_int av_nil)))) av_nil))))
  (bv_one (sv_ret (ev_callTy cd_tuple rfl F.f_tuple rfl (av_cons (ev_lc (own := [("place", 3)]) rfl hN (iv_tup (ev_var (pv 1))) (blkOk_by (by kernel_rfl)) (BlkV.of (fun s H C cl fp => (gv_name hN rfl (by first | exact .inl rfl | exact .inr rfl))) (fun s H C cl fp => (tsv_one (tv_cmp (od_eq hr.units) (ev_call h_law_draw hr (by omega) rfl (av_cons (ev_var (pv 0)) (av_cons (ev_var (pv 2)) av_nil))) ev_int (nomark _)))) (fun s H C cl fp => (ev_var (pv 3)))) (by decide)) av_nil)))))
def m_law_parts_of : Ev → Mo Out := (ySeq (yPar 2 3 (xCons (xCall (liftL dList) (xCons (xVar 1) xNil)) (xCons (xLstM xNil) xNil)))
  (ySeq (yWhile 1000 (asB (xBin mNe (xVar 2) (xLst xNil))) (ySeq (yAsg (xTup (xCons (xLstM (xCons (xBin mIx (xVar 2) (xC (.int 0))) xNil)) (xCons (xLstM (xCons (xBin mIx (xVar 2) (xC (.int 0))) xNil)) xNil))) (zTup (zCons (zName 4) (zCons (zName 5) zNil))))
  (ySeq (yWhile 1000 (asB (xBin mNe (xVar 5) (xLst xNil))) (yFor (itemsL (xBin mGetD (xVar 0) (xMt "list" mPop0 (xVar 5) xNil))) (zName 6) (yIf (xAndB (asB (xBin mIn (xVar 6) (xVar 2))) (asB (xBin mNotIn (xVar 6) (xVar 4)))) (ySeq (yDrop (xMt "list" mAppend (xVar 4) (xCons (xVar 6) xNil)))
  (yDrop (xMt "list" mAppend (xVar 5) (xCons (xVar 6) xNil)))) yNil)))
  (ySeq (yDrop (xMt "list" mAppend (xVar 3) (xCons (xVar 4) xNil)))
  (ySet 2 (xComp (itemsL (xVar 2)) [7] (zName 7) (asB (xBin mNotIn (xVar 7) (xVar 4))) (xVar 7)))))))
  (yRet (xVar 3))))
theorem d_law_parts_of {P : Program} {w : World} {K : PySem.W.Frag} {mg : Str → Option Value} {base : Heap} {g : G} {k : Nat} (F : Fx K mg g.ca) (fa : Addr) (cdv : Value) (A : Around) (outer : List Env) (s : Shared) (H : Hp) (E : XK)
    (hr : Room (k + 2) (A.deeper (envOfC "_law_parts_of" (defScope (top 59)) s.heap.objs.size fa cdv))) :
    BV g (cxOf C8.CX0 P w K mg base ["near", "some", "left", "rows", "row", "edge", "other", "place"] "_law_parts_of" (defScope (top 59)) fa cdv A outer s H E) (defBody (top 59)) (m_law_parts_of) := by
  have hN : (["near", "some", "left", "rows", "row", "edge", "other", "place"] : List Str).Nodup := by decide
  exact (bv_cons (sv_par rfl hN rfl rfl (by decide) rfl rfl (av_cons (ev_callTy cd_list rfl F.f_list rfl (av_cons (ev_var (pv 1)) av_nil)) (av_cons (ev_lstM av_nil) av_nil)))
  (bv_cons (sv_while 1000 (passes_of rfl) (tv_cmp (od_ne hr.units) (ev_var (pv 2)) (ev_lst av_nil) (nomark _)) (bv_cons (sv_asg (ev_tup (av_cons (ev_lstM (av_cons (ev_ix (ev_var (pv 2)) ev_int (by intro _ _; rfl)) av_nil)) (av_cons (ev_lstM (av_cons (ev_ix (ev_var (pv 2)) ev_int (by intro _ _; rfl)) av_nil)) av_nil))) (gv_tup rfl (gsv_cons (gv_name hN rfl (by first | exact .inl rfl | exact .inr rfl)) (gsv_cons (gv_name hN rfl (by first | exact .inl rfl | exact .inr rfl)) gsv_nil))))
  (bv_cons (sv_while 1000 (passes_of rfl) (tv_cmp (od_ne hr.units) (ev_var (pv 5)) (ev_lst av_nil) (nomark _)) (bv_one (sv_for (passes_of rfl) rfl (iv_lst (ev_dget hr.units (ev_var (pv 0)) (ev_bm0 PySem.F.plainAttrs_list PySem.F.slot_list_pop PySem.F.type_list_pop md_pop0 (ev_var (pv 5))) (by intro _ _; rfl))) (gv_name hN rfl (by first | exact .inl rfl | exact .inr rfl)) (bv_one (sv_if (WV.tv (wv_and (tv_cmp od_in (ev_var (pv 6)) (ev_var (pv 2)) (by with_unfolding_all rfl)) (wv_and1 (tv_cmp od_notIn (ev_var (pv 6)) (ev_var (pv 4)) (by with_unfolding_all rfl))))) (bv_cons (sv_drop (ev_bm PySem.F.plainAttrs_list PySem.F.slot_list_append PySem.F.type_list_append md_append (ev_var (pv 4)) (av_cons (ev_var (pv 6)) av_nil)))
  (bv_one (sv_drop (ev_bm PySem.F.plainAttrs_list PySem.F.slot_list_append PySem.F.type_list_append md_append (ev_var (pv 5)) (av_cons (ev_var (pv 6)) av_nil))))) bv_nil)))))
  (bv_cons (sv_drop (ev_bm PySem.F.plainAttrs_list PySem.F.slot_list_append PySem.F.type_list_append md_append (ev_var (pv 3)) (av_cons (ev_var (pv 4)) av_nil)))
  (bv_one (sv_setLc (own := [("place", 7)]) rfl hN rfl rfl rfl (iv_lst (ev_var (pv 2))) (blkOk_by (by kernel_rfl)) (BlkV.of (fun s H C cl fp => (gv_name hN rfl (by first | exact .inl rfl | exact .inr rfl))) (fun s H C cl fp => (tsv_one (tv_cmp od_notIn (ev_var (pv 7)) (ev_var (pv 4)) (by with_unfolding_all rfl)))) (fun s H C cl fp => (ev_var (pv 7)))) (by decide)))))))
  (bv_one (sv_ret (ev_var (pv 3))))))
def m_law_sees : Ev → Mo Out := (yRet (xBin mAdd (xLst (xCons (xVar 1) xNil)) (xBin mGetD (xVar 0) (xVar 1))))
theorem d_law_sees {P : Program} {w : World} {K : PySem.W.Frag} {mg : Str → Option Value} {base : Heap} {g : G} {k : Nat} (F : Fx K mg g.ca) (fa : Addr) (cdv : Value) (A : Around) (outer : List Env) (s : Shared) (H : Hp) (E : XK)
    (hr : Room (k + 2) (A.deeper (envOfC "_law_sees" (defScope (top 60)) s.heap.objs.size fa cdv))) :
    BV g (cxOf C8.CX0 P w K mg base ["near", "place"] "_law_sees" (defScope (top 60)) fa cdv A outer s H E) (defBody (top 60)) (m_law_sees) := by
  have hN : (["near", "place"] : List Str).Nodup := by decide
  exact (bv_one (sv_ret (ev_op od_add (ev_lst (av_cons (ev_var (pv 1)) av_nil)) (ev_dget hr.units (ev_var (pv 0)) (ev_var (pv 1)) (by intro _ _; rfl)))))
def m_law_tied_posts : Ev → Mo Out := (yRet (xComp (itemsT (xVar 1)) [2] (zName 2) (asB (xBin mNe (xComp (itemsL (xBin mGetD (xVar 0) (xVar 2))) [3] (zName 3) (asB (xBin mIn (xVar 3) (xVar 1))) (xVar 3)) (xLst xNil))) (xVar 2)))
theorem d_law_tied_posts {P : Program} {w : World} {K : PySem.W.Frag} {mg : Str → Option Value} {base : Heap} {g : G} {k : Nat} (F : Fx K mg g.ca) (fa : Addr) (cdv : Value) (A : Around) (outer : List Env) (s : Shared) (H : Hp) (E : XK)
    (hr : Room (k + 2) (A.deeper (envOfC "_law_tied_posts" (defScope (top 61)) s.heap.objs.size fa cdv))) :
    BV g (cxOf C8.CX0 P w K mg base ["near", "posts", "post", "other"] "_law_tied_posts" (defScope (top 61)) fa cdv A outer s H E) (defBody (top 61)) (m_law_tied_posts) := by
  have hN : (["near", "posts", "post", "other"] : List Str).Nodup := by decide
  exact (bv_one (sv_ret (ev_lc (own := [("post", 2)]) rfl hN (iv_tup (ev_var (pv 1))) (blkOk_by (by kernel_rfl)) (BlkV.of (fun s H C cl fp => (gv_name hN rfl (by first | exact .inl rfl | exact .inr rfl))) (fun s H C cl fp => (tsv_one (tv_cmp (od_ne hr.units) (ev_lc (own := [("other", 3)]) rfl hN (iv_lst (ev_dget hr.units (ev_var (pv 0)) (ev_var (pv 2)) (by intro _ _; rfl))) (blkOk_by (by kernel_rfl)) (BlkV.of (fun s H C cl fp => (gv_name hN rfl (by first | exact .inl rfl | exact .inr rfl))) (fun s H C cl fp => (tsv_one (tv_cmp od_in (ev_var (pv 3)) (ev_var (pv 1)) (by with_unfolding_all rfl)))) (fun s H C cl fp => (ev_var (pv 3)))) (by decide)) (ev_lst av_nil) (nomark _)))) (fun s H C cl fp => (ev_var (pv 2)))) (by decide))))
def m_law_ill_watched (S_law_sees : List A → Mo D) : Ev → Mo Out := (ySeq (ySet 3 (xLst xNil))
  (ySeq (yFor (itemsL (xCall (liftL dListD) (xCons (xVar 0) xNil))) (zName 4) (ySeq (ySet 5 (xCall (liftL dLen) (xCons (xComp (itemsL (xFn 2 S_law_sees (xCons (xVar 0) (xCons (xVar 4) xNil)))) [8] (zName 8) (asB (xBin mIn (xVar 8) (xVar 2))) (xVar 8)) xNil)))
  (ySeq (ySet 6 (xCall (liftL dLen) (xCons (xComp (itemsL (xBin mGetD (xVar 0) (xVar 4))) [8] (zName 8) (asB (xBin mIn (xVar 8) (xVar 2))) (xVar 8)) xNil)))
  (ySeq (ySet 7 (xBin mGt (xVar 5) (xC (.int 0))))
  (ySeq (yIf (asB (xBin mEq (xVar 1) (xC (.str "open")))) (ySet 7 (xBin mGt (xVar 6) (xC (.int 0)))) yNil)
  (ySeq (yIf (asB (xBin mEq (xVar 1) (xC (.str "once")))) (ySet 7 (xBin mEq (xVar 5) (xC (.int 1)))) yNil)
  (ySeq (yIf (asB (xBin mEq (xVar 1) (xC (.str "double")))) (ySet 7 (xBin mGt (xVar 5) (xC (.int 1)))) yNil)
  (ySet 3 (xBin mAdd (xVar 3) (xIf (asB (xVar 7)) (xLst xNil) (xLst (xCons (xVar 4) xNil))))))))))))
  (yRet (xVar 3))))
theorem d_law_ill_watched {P : Program} {w : World} {K : PySem.W.Frag} {mg : Str → Option Value} {base : Heap} {g : G} {k : Nat} (F : Fx K mg g.ca) {S_law_sees : List A → Mo D} (h_law_sees : Cal P w K mg base g k "_law_sees" 2 S_law_sees) (fa : Addr) (cdv : Value) (A : Around) (outer : List Env) (s : Shared) (H : Hp) (E : XK)
    (hr : Room (k + 2) (A.deeper (envOfC "_law_ill_watched" (defScope (top 62)) s.heap.objs.size fa cdv))) :
    BV g (cxOf C8.CX0 P w K mg base ["near", "kind", "posts", "found", "place", "many", "beside", "fine", "post"] "_law_ill_watched" (defScope (top 62)) fa cdv A outer s H E) (defBody (top 62)) (m_law_ill_watched S_law_sees) := by
  have hN : (["near", "kind", "posts", "found", "place", "many", "beside", "fine", "post"] : List Str).Nodup := by decide
  exact (bv_cons (sv_set hN rfl (by first | exact .inl rfl | exact .inr rfl) (ev_lst av_nil))
  (bv_cons (sv_for (passes_of rfl) rfl (iv_lst (ev_callTy (cd_listD rfl) rfl F.f_list rfl (av_cons (ev_var (pv 0)) av_nil))) (gv_name hN rfl (by first | exact .inl rfl | exact .inr rfl)) (bv_cons (sv_set hN rfl (by first | exact .inl rfl | exact .inr rfl) (ev_callB cd_len rfl F.f_len rfl (av_cons (ev_lc (own := [("post", 8)]) rfl hN (iv_lst (ev_call h_law_sees hr (by omega) rfl (av_cons (ev_var (pv 0)) (av_cons (ev_var (pv 4)) av_nil)))) (blkOk_by (by kernel_rfl)) (BlkV.of (fun s H C cl fp => (gv_name hN rfl (by first | exact .inl rfl | exact .inr rfl))) (fun s H C cl fp => (tsv_one (tv_cmp od_in (ev_var (pv 8)) (ev_var (pv 2)) (by with_unfolding_all rfl)))) (fun s H C cl fp => (ev_var (pv 8)))) (by decide)) av_nil)))
  (bv_cons (sv_set hN rfl (by first | exact .inl rfl | exact .inr rfl) (ev_callB cd_len rfl F.f_len rfl (av_cons (ev_lc (own := [("post", 8)]) rfl hN (iv_lst (ev_dget hr.units (ev_var (pv 0)) (ev_var (pv 4)) (by intro _ _; rfl))) (blkOk_by (by kernel_rfl)) (BlkV.of (fun s H C cl fp => (gv_name hN rfl (by first | exact .inl rfl | exact .inr rfl))) (fun s H C cl fp => (tsv_one (tv_cmp od_in (ev_var (pv 8)) (ev_var (pv 2)) (by with_unfolding_all rfl)))) (fun s H C cl fp => (ev_var (pv 8)))) (by decide)) av_nil)))
  (bv_cons (sv_set hN rfl (by first | exact .inl rfl | exact .inr rfl) (ev_cmp od_gt (ev_var (pv 5)) ev_int (nomark _)))
  (bv_cons (sv_if (tv_cmp (od_eq hr.units) (ev_var (pv 1)) ev_str (nomark _)) (bv_one (sv_set hN rfl (by first | exact .inl rfl | exact .inr rfl) (ev_cmp od_gt (ev_var (pv 6)) ev_int (nomark _)))) bv_nil)
  (bv_cons (sv_if (tv_cmp (od_eq hr.units) (ev_var (pv 1)) ev_str (nomark _)) (bv_one (sv_set hN rfl (by first | exact .inl rfl | exact .inr rfl) (ev_cmp (od_eq hr.units) (ev_var (pv 5)) ev_int (nomark _)))) bv_nil)
  (bv_cons (sv_if (tv_cmp (od_eq hr.units) (ev_var (pv 1)) ev_str (nomark _)) (bv_one (sv_set hN rfl (by first | exact .inl rfl | exact .inr rfl) (ev_cmp od_gt (ev_var (pv 5)) ev_int (nomark _)))) bv_nil)
  (bv_one (sv_set hN rfl (by first | exact .inl rfl | exact .inr rfl) (ev_op od_add (ev_var (pv 3)) (ev_if (tv_val (ev_var (pv 7))) (ev_lst av_nil) (ev_lst (av_cons (ev_var (pv 4)) av_nil)))))))))))))
  (bv_one (sv_ret (ev_var (pv 3))))))
def m_law_is_of_kind (S_law_ill_watched : List A → Mo D) (S_law_tied_posts : List A → Mo D) (S_law_parts_of : List A → Mo D) : Ev → Mo Out := (ySeq (yIf (asB (xBin mNe (xFn 3 S_law_ill_watched (xCons (xVar 0) (xCons (xVar 1) (xCons (xVar 2) xNil)))) (xLst xNil))) (yRet (xC (.bl false))) yNil)
  (ySeq (yIf (asB (xBin mEq (xVar 1) (xC (.str "apart")))) (yRet (xBin mEq (xFn 2 S_law_tied_posts (xCons (xVar 0) (xCons (xVar 2) xNil))) (xLst xNil))) yNil)
  (yRet (xOr (xBin mNe (xVar 1) (xC (.str "joined"))) (xBin mEq (xCall (liftL dLen) (xCons (xFn 2 S_law_parts_of (xCons (xVar 0) (xCons (xVar 2) xNil))) xNil)) (xC (.int 1)))))))
theorem d_law_is_of_kind {P : Program} {w : World} {K : PySem.W.Frag} {mg : Str → Option Value} {base : Heap} {g : G} {k : Nat} (F : Fx K mg g.ca) {S_law_ill_watched : List A → Mo D} {S_law_tied_posts : List A → Mo D} {S_law_parts_of : List A → Mo D} (h_law_ill_watched : Cal P w K mg base g k "_law_ill_watched" 3 S_law_ill_watched) (h_law_tied_posts : Cal P w K mg base g k "_law_tied_posts" 2 S_law_tied_posts) (h_law_parts_of : Cal P w K mg base g k "_law_parts_of" 2 S_law_parts_of) (fa : Addr) (cdv : Value) (A : Around) (outer : List Env) (s : Shared) (H : Hp) (E : XK)
    (hr : Room (k + 2) (A.deeper (envOfC "_law_is_of_kind" (defScope (top 63)) s.heap.objs.size fa cdv))) :
    BV g (cxOf C8.CX0 P w K mg base ["near", "kind", "posts"] "_law_is_of_kind" (defScope (top 63)) fa cdv A outer s H E) (defBody (top 63)) (m_law_is_of_kind S_law_ill_watched S_law_tied_posts S_law_parts_of) := by
  have hN : (["near", "kind", "posts"] : List Str).Nodup := by decide
  exact (bv_cons (sv_if (tv_cmp (od_ne hr.units) (ev_call h_law_ill_watched hr (by omega) rfl (av_cons (ev_var (pv 0)) (av_cons (ev_var (pv 1)) (av_cons (ev_var (pv 2)) av_nil)))) (ev_lst av_nil) (nomark _)) (bv_one (sv_ret ev_bl)) bv_nil)
  (bv_cons (sv_if (tv_cmp (od_eq hr.units) (ev_var (pv 1)) ev_str (nomark _)) (bv_one (sv_ret (ev_cmp (od_eq hr.units) (ev_call h_law_tied_posts hr (by omega) rfl (av_cons (ev_var (pv 0)) (av_cons (ev_var (pv 2)) av_nil))) (ev_lst av_nil) (nomark _)))) bv_nil)
  (bv_one (sv_ret (ev_or (ev_cmp (od_ne hr.units) (ev_var (pv 1)) ev_str (nomark _)) (ev_one (ev_cmp (od_eq hr.units) (ev_callB cd_len rfl F.f_len rfl (av_cons (ev_call h_law_parts_of hr (by omega) rfl (av_cons (ev_var (pv 0)) (av_cons (ev_var (pv 2)) av_nil))) av_nil)) ev_int (nomark _))))))))
def m_law_kinds : Ev → Mo Out := (yRet (xTup (xCons (xC (.str "near")) (xCons (xC (.str "open")) (xCons (xC (.str "apart")) (xCons (xC (.str "joined")) (xCons (xC (.str "once")) (xCons (xC (.str "double")) xNil))))))))
theorem d_law_kinds {P : Program} {w : World} {K : PySem.W.Frag} {mg : Str → Option Value} {base : Heap} {g : G} {k : Nat} (F : Fx K mg g.ca) (fa : Addr) (cdv : Value) (A : Around) (outer : List Env) (s : Shared) (H : Hp) (E : XK)
    (hr : Room (k + 2) (A.deeper (envOfC "_law_kinds" (defScope (top 64)) s.heap.objs.size fa cdv))) :
    BV g (cxOf C8.CX0 P w K mg base [] "_law_kinds" (defScope (top 64)) fa cdv A outer s H E) (defBody (top 64)) (m_law_kinds) := by
  have hN : ([] : List Str).Nodup := by decide
  exact (bv_one (sv_ret (ev_tup (av_cons ev_str (av_cons ev_str (av_cons ev_str (av_cons ev_str (av_cons ev_str (av_cons ev_str av_nil)))))))))
def m_law_of_kind (S_law_near : List A → Mo D) (S_law_all_sets : List A → Mo D) (S_law_is_of_kind : List A → Mo D) : Ev → Mo Out := (ySeq (ySet 2 (xFn 1 S_law_near (xCons (xVar 0) xNil)))
  (yRet (xComp (itemsL (xFn 1 S_law_all_sets (xCons (xBin mIx (xVar 0) (xC (.int 0))) xNil))) [3] (zName 3) (asB (xFn 3 S_law_is_of_kind (xCons (xVar 2) (xCons (xVar 1) (xCons (xVar 3) xNil))))) (xVar 3))))
theorem d_law_of_kind {P : Program} {w : World} {K : PySem.W.Frag} {mg : Str → Option Value} {base : Heap} {g : G} {k : Nat} (F : Fx K mg g.ca) {S_law_near : List A → Mo D} {S_law_all_sets : List A → Mo D} {S_law_is_of_kind : List A → Mo D} (h_law_near : Cal P w K mg base g k "_law_near" 1 S_law_near) (h_law_all_sets : Cal P w K mg base g k "_law_all_sets" 1 S_law_all_sets) (h_law_is_of_kind : Cal P w K mg base g k "_law_is_of_kind" 3 S_law_is_of_kind) (fa : Addr) (cdv : Value) (A : Around) (outer : List Env) (s : Shared) (H : Hp) (E : XK)
    (hr : Room (k + 2) (A.deeper (envOfC "_law_of_kind" (defScope (top 65)) s.heap.objs.size fa cdv))) :
    BV g (cxOf C8.CX0 P w K mg base ["parts", "kind", "near", "some"] "_law_of_kind" (defScope (top 65)) fa cdv A outer s H E) (defBody (top 65)) (m_law_of_kind S_law_near S_law_all_sets S_law_is_of_kind) := by
  have hN : (["parts", "kind", "near", "some"] : List Str).Nodup := by decide
  exact (bv_cons (sv_set hN rfl (by first | exact .inl rfl | exact .inr rfl) (ev_call h_law_near hr (by omega) rfl (av_cons (ev_var (pv 0)) av_nil)))
  (bv_one (sv_ret (ev_lc (own := [("some", 3)]) rfl hN (iv_lst (ev_call h_law_all_sets hr (by omega) rfl (av_cons (ev_ix (ev_var (pv 0)) ev_int (by intro _ _; rfl)) av_nil))) (blkOk_by (by kernel_rfl)) (BlkV.of (fun s H C cl fp => (gv_name hN rfl (by first | exact .inl rfl | exact .inr rfl))) (fun s H C cl fp => (tsv_one (tv_val (ev_call h_law_is_of_kind hr (by omega) rfl (av_cons (ev_var (pv 2)) (av_cons (ev_var (pv 1)) (av_cons (ev_var (pv 3)) av_nil))))))) (fun s H C cl fp => (ev_var (pv 3)))) (by decide)))))
def m_law_case (S_law_web : List A → Mo D) (S_law_of : List A → Mo D) (S_law_kinds : List A → Mo D) (S_law_some : List A → Mo D) (S_law_of_kind : List A → Mo D) (S_law_draw : List A → Mo D) : Ev → Mo Out := (ySeq (yPar 2 3 (xCons (xFn 2 S_law_web (xCons (xVar 0) (xCons (xVar 1) xNil))) (xCons (xFn 2 S_law_of (xCons (xVar 0) (xCons (xFn 0 S_law_kinds xNil) xNil))) xNil)))
  (ySeq (yPar 4 5 (xCons (xFn 2 S_law_some (xCons (xVar 0) (xCons (xBin mIx (xVar 2) (xC (.int 0))) xNil))) (xCons (xFn 2 S_law_of_kind (xCons (xVar 2) (xCons (xVar 3) xNil))) xNil)))
  (ySeq (yIf (xAndB (asB (xBin mGt (xFn 2 S_law_draw (xCons (xVar 0) (xCons (xC (.int 3)) xNil))) (xC (.int 0)))) (asB (xBin mNe (xVar 5) (xLst xNil)))) (ySet 4 (xFn 2 S_law_of (xCons (xVar 0) (xCons (xVar 5) xNil)))) yNil)
  (yRet (xTup (xCons (xVar 2) (xCons (xVar 4) (xCons (xVar 3) (xCons (xFn 2 S_law_draw (xCons (xVar 0) (xCons (xC (.int 3)) xNil))) (xCons (xFn 2 S_law_of (xCons (xVar 0) (xCons (xBin mIx (xVar 2) (xC (.int 0))) xNil))) (xCons (xFn 2 S_law_draw (xCons (xVar 0) (xCons (xBin mAdd (xVar 1) (xC (.int 1))) xNil))) xNil)))))))))))
theorem d_law_case {P : Program} {w : World} {K : PySem.W.Frag} {mg : Str → Option Value} {base : Heap} {g : G} {k : Nat} (F : Fx K mg g.ca) {S_law_web : List A → Mo D} {S_law_of : List A → Mo D} {S_law_kinds : List A → Mo D} {S_law_some : List A → Mo D} {S_law_of_kind : List A → Mo D} {S_law_draw : List A → Mo D} (h_law_web : Cal P w K mg base g k "_law_web" 2 S_law_web) (h_law_of : Cal P w K mg base g k "_law_of" 2 S_law_of) (h_law_kinds : Cal P w K mg base g k "_law_kinds" 0 S_law_kinds) (h_law_some : Cal P w K mg base g k "_law_some" 2 S_law_some) (h_law_of_kind : Cal P w K mg base g k "_law_of_kind" 2 S_law_of_kind) (h_law_draw : Cal P w K mg base g k "_law_draw" 2 S_law_draw) (fa : Addr) (cdv : Value) (A : Around) (outer : List Env) (s : Shared) (H : Hp) (E : XK)
    (hr : Room (k + 2) (A.deeper (envOfC "_law_case" (defScope (top 66)) s.heap.objs.size fa cdv))) :
    BV g (cxOf C8.CX0 P w K mg base ["well", "many", "parts", "kind", "posts", "fine"] "_law_case" (defScope (top 66)) fa cdv A outer s H E) (defBody (top 66)) (m_law_case S_law_web S_law_of S_law_kinds S_law_some S_law_of_kind S_law_draw) := by
  have hN : (["well", "many", "parts", "kind", "posts", "fine"] : List Str).Nodup := by decide
  exact (bv_cons (sv_par rfl hN rfl rfl (by decide) rfl rfl (av_cons (ev_call h_law_web hr (by omega) rfl (av_cons (ev_var (pv 0)) (av_cons (ev_var (pv 1)) av_nil))) (av_cons (ev_call h_law_of hr (by omega) rfl (av_cons (ev_var (pv 0)) (av_cons (ev_call0 h_law_kinds hr (by omega) rfl) av_nil))) av_nil)))
  (bv_cons (sv_par rfl hN rfl rfl (by decide) rfl rfl (av_cons (ev_call h_law_some hr (by omega) rfl (av_cons (ev_var (pv 0)) (av_cons (ev_ix (ev_var (pv 2)) ev_int (by intro _ _; rfl)) av_nil))) (av_cons (ev_call h_law_of_kind hr (by omega) rfl (av_cons (ev_var (pv 2)) (av_cons (ev_var (pv 3)) av_nil))) av_nil)))
  (bv_cons (sv_if (WV.tv (wv_and (tv_cmp od_gt (ev_call h_law_draw hr (by omega) rfl (av_cons (ev_var (pv 0)) (av_cons ev_int av_nil))) ev_int (nomark _)) (wv_and1 (tv_cmp (od_ne hr.units) (ev_var (pv 5)) (ev_lst av_nil) (nomark _))))) (bv_one (sv_set hN rfl (by first | exact .inl rfl | exact .inr rfl) (ev_call h_law_of hr (by omega) rfl (av_cons (ev_var (pv 0)) (av_cons (ev_var (pv 5)) av_nil))))) bv_nil)
  (bv_one (sv_ret (ev_tup (av_cons (ev_var (pv 2)) (av_cons (ev_var (pv 4)) (av_cons (ev_var (pv 3)) (av_cons (ev_call h_law_draw hr (by omega) rfl (av_cons (ev_var (pv 0)) (av_cons ev_int av_nil))) (av_cons (ev_call h_law_of hr (by omega) rfl (av_cons (ev_var (pv 0)) (av_cons (ev_ix (ev_var (pv 2)) ev_int (by intro _ _; rfl)) av_nil))) (av_cons (ev_call h_law_draw hr (by omega) rfl (av_cons (ev_var (pv 0)) (av_cons (ev_op od_add (ev_var (pv 1)) ev_int) av_nil))) av_nil))))))))))))
def m_law_cased (S_Case_ddinitdd : List A → Mo D) (S_Web_ddinitdd : List A → Mo D) : Ev → Mo Out := (yRet (xMake "Case" 6 S_Case_ddinitdd (xCons (xMake "Web" 2 S_Web_ddinitdd (xCons (xBin mIx (xBin mIx (xVar 0) (xC (.int 0))) (xC (.int 0))) (xCons (xBin mIx (xBin mIx (xVar 0) (xC (.int 0))) (xC (.int 1))) xNil))) (xCons (xBin mIx (xVar 0) (xC (.int 1))) (xCons (xBin mIx (xVar 0) (xC (.int 2))) (xCons (xBin mIx (xVar 0) (xC (.int 3))) (xCons (xBin mIx (xVar 0) (xC (.int 4))) (xCons (xBin mIx (xVar 0) (xC (.int 5))) xNil))))))))
theorem d_law_cased {P : Program} {w : World} {K : PySem.W.Frag} {mg : Str → Option Value} {base : Heap} {g : G} {k : Nat} (F : Fx K mg g.ca) {S_Case_ddinitdd : List A → Mo D} {S_Web_ddinitdd : List A → Mo D} (k_Case : MakC P w K mg base g k "Case" "Case" 6 S_Case_ddinitdd) (k_Web : MakC P w K mg base g k "Web" "Web" 2 S_Web_ddinitdd) (fa : Addr) (cdv : Value) (A : Around) (outer : List Env) (s : Shared) (H : Hp) (E : XK)
    (hr : Room (k + 2) (A.deeper (envOfC "_law_cased" (defScope (top 67)) s.heap.objs.size fa cdv))) :
    BV g (cxOf C8.CX0 P w K mg base ["case"] "_law_cased" (defScope (top 67)) fa cdv A outer s H E) (defBody (top 67)) (m_law_cased S_Case_ddinitdd S_Web_ddinitdd) := by
  have hN : (["case"] : List Str).Nodup := by decide
  exact (bv_one (sv_ret (ev_make k_Case hr (by omega) rfl (av_cons (ev_make k_Web hr (by omega) rfl (av_cons (ev_ix (ev_ix (ev_var (pv 0)) ev_int (by intro _ _; rfl)) ev_int (by intro _ _; rfl)) (av_cons (ev_ix (ev_ix (ev_var (pv 0)) ev_int (by intro _ _; rfl)) ev_int (by intro _ _; rfl)) av_nil))) (av_cons (ev_ix (ev_var (pv 0)) ev_int (by intro _ _; rfl)) (av_cons (ev_ix (ev_var (pv 0)) ev_int (by intro _ _; rfl)) (av_cons (ev_ix (ev_var (pv 0)) ev_int (by intro _ _; rfl)) (av_cons (ev_ix (ev_var (pv 0)) ev_int (by intro _ _; rfl)) (av_cons (ev_ix (ev_var (pv 0)) ev_int (by intro _ _; rfl)) av_nil)))))))))
def m_law_right (S_law_case : List A → Mo D) (S_law_draw : List A → Mo D) (S_law_cased : List A → Mo D) (S_Web_ddinitdd : List A → Mo D) (S_Case_ddinitdd : List A → Mo D) (S_Web_ddeqdd : List A → Mo D) (S_Case_web : List A → Mo D) (S_law_same : List A → Mo D) (S_Case_posts : List A → Mo D) (S_Case_kind : List A → Mo D) (S_Case_many : List A → Mo D) (S_Case_place : List A → Mo D) (S_Case_beats : List A → Mo D) (S_Case_parts : List A → Mo D) (S_Case_ddeqdd : List A → Mo D) : Ev → Mo Out := (ySeq (ySet 1 (xFn 2 S_law_case (xCons (xVar 0) (xCons (xBin mAdd (xC (.int 1)) (xFn 2 S_law_draw (xCons (xVar 0) (xCons (xC (.int 6)) xNil)))) xNil))))
  (ySeq (yPar 2 3 (xCons (xFn 1 S_law_cased (xCons (xVar 1) xNil)) (xCons (xMake "Web" 2 S_Web_ddinitdd (xCons (xBin mIx (xBin mIx (xVar 1) (xC (.int 0))) (xC (.int 0))) (xCons (xBin mIx (xBin mIx (xVar 1) (xC (.int 0))) (xC (.int 1))) xNil))) xNil)))
  (ySeq (ySet 4 (xMakeK "Case" 6 6 [5, 4, 3, 2, 1, 0] S_Case_ddinitdd (xCons (xBin mIx (xVar 1) (xC (.int 5))) (xCons (xBin mIx (xVar 1) (xC (.int 4))) (xCons (xBin mIx (xVar 1) (xC (.int 3))) (xCons (xBin mIx (xVar 1) (xC (.int 2))) (xCons (xBin mIx (xVar 1) (xC (.int 1))) (xCons (xVar 3) xNil))))))))
  (ySeq (yIf (xOrB (asB (xBin (mNeOwn "Web" S_Web_ddeqdd) (xProp "Case" S_Case_web (xVar 2)) (xVar 3))) (xNotB (asB (xFn 2 S_law_same (xCons (xTup (xCons (xProp "Case" S_Case_posts (xVar 2)) (xCons (xProp "Case" S_Case_kind (xVar 2)) (xCons (xProp "Case" S_Case_many (xVar 2)) (xCons (xProp "Case" S_Case_place (xVar 2)) (xCons (xProp "Case" S_Case_beats (xVar 2)) (xCons (xProp "Case" S_Case_parts (xVar 2)) (xCons (xProp "Case" S_Case_parts (xVar 4)) xNil)))))))) (xCons (xBin mAdd (xSlice (xVar 1) (oSome (xC (.int 1))) oNone) (xTup (xCons (xVar 1) (xCons (xVar 1) xNil)))) xNil)))))) (yRet (xC (.bl false))) yNil)
  (ySeq (ySet 5 (xLst (xCons (xFn 2 S_law_case (xCons (xVar 0) (xCons (xCall (liftL dLen) (xCons (xBin mIx (xBin mIx (xVar 1) (xC (.int 0))) (xC (.int 0))) xNil)) xNil))) (xCons (xBin mAdd (xBin mAdd (xSlice (xVar 1) oNone (oSome (xC (.int 3)))) (xTup (xCons (xBin mAdd (xBin mIx (xVar 1) (xC (.int 3))) (xC (.int 1))) xNil))) (xSlice (xVar 1) (oSome (xC (.int 4))) oNone)) (xCons (xBin mAdd (xSlice (xVar 1) oNone (oSome (xC (.int 5)))) (xTup (xCons (xBin mAdd (xBin mIx (xVar 1) (xC (.int 5))) (xC (.int 1))) xNil))) (xCons (xBin mAdd (xBin mAdd (xSlice (xVar 1) oNone (oSome (xC (.int 4)))) (xTup (xCons (xBin mIx (xBin mIx (xBin mIx (xVar 1) (xC (.int 0))) (xC (.int 0))) (xNeg (xC (.int 1)))) xNil))) (xSlice (xVar 1) (oSome (xC (.int 5))) oNone)) xNil))))))
  (ySeq (ySet 5 (xBin mAdd (xVar 5) (xLst (xCons (xBin mAdd (xBin mAdd (xSlice (xVar 1) oNone (oSome (xC (.int 2)))) (xTup (xCons (xIf (asB (xBin mNe (xBin mIx (xVar 1) (xC (.int 2))) (xC (.str "open")))) (xC (.str "open")) (xC (.str "once"))) xNil))) (xSlice (xVar 1) (oSome (xC (.int 3))) oNone)) (xCons (xBin mAdd (xBin mAdd (xSlice (xVar 1) oNone (oSome (xC (.int 1)))) (xTup (xCons (xIf (asB (xBin mNe (xBin mIx (xVar 1) (xC (.int 1))) (xBin mIx (xBin mIx (xVar 1) (xC (.int 0))) (xC (.int 0))))) (xBin mIx (xBin mIx (xVar 1) (xC (.int 0))) (xC (.int 0))) (xTup xNil)) xNil))) (xSlice (xVar 1) (oSome (xC (.int 2))) oNone)) xNil)))))
  (ySeq (yFor (itemsL (xVar 5)) (zName 6) (ySeq (ySet 7 (xFn 1 S_law_cased (xCons (xVar 6) xNil)))
  (yIf (xOrB (asB (xBin mNe (xBin (mEqOwn "Case" S_Case_ddeqdd) (xVar 2) (xVar 7)) (xBin mEq (xVar 6) (xVar 1)))) (asB (xBin mEq (xBin (mNeOwn "Case" S_Case_ddeqdd) (xVar 2) (xVar 7)) (xBin mEq (xVar 6) (xVar 1))))) (yRet (xC (.bl false))) yNil)))
  (ySeq (yIf (xNotB (asIns "Case" (xVar 2))) (yRet (xC (.bl false))) yNil)
  (yRet (xAnd (xBin (mEqOwn "Case" S_Case_ddeqdd) (xVar 2) (xVar 4)) (xNot (xBin (mNeOwn "Case" S_Case_ddeqdd) (xVar 2) (xVar 4)))))))))))))
theorem d_law_right {P : Program} {w : World} {K : PySem.W.Frag} {mg : Str → Option Value} {base : Heap} {g : G} {k : Nat} (F : Fx K mg g.ca) {S_law_case : List A → Mo D} {S_law_draw : List A → Mo D} {S_law_cased : List A → Mo D} {S_Web_ddinitdd : List A → Mo D} {S_Case_ddinitdd : List A → Mo D} {S_Web_ddeqdd : List A → Mo D} {S_Case_web : List A → Mo D} {S_law_same : List A → Mo D} {S_Case_posts : List A → Mo D} {S_Case_kind : List A → Mo D} {S_Case_many : List A → Mo D} {S_Case_place : List A → Mo D} {S_Case_beats : List A → Mo D} {S_Case_parts : List A → Mo D} {S_Case_ddeqdd : List A → Mo D} (h_law_case : Cal P w K mg base g k "_law_case" 2 S_law_case) (h_law_draw : Cal P w K mg base g k "_law_draw" 2 S_law_draw) (h_law_cased : Cal P w K mg base g k "_law_cased" 1 S_law_cased) (h_law_same : Cal P w K mg base g k "_law_same" 2 S_law_same) (k_Web : MakC P w K mg base g k "Web" "Web" 2 S_Web_ddinitdd) (k_Case : MakC P w K mg base g k "Case" "Case" 6 S_Case_ddinitdd) (mk_Case : MakK P w K mg base g k "Case" "Case" 6 ["beats", "place", "many", "kind", "posts", "web"] [5, 4, 3, 2, 1, 0] S_Case_ddinitdd) (e_Web : EqC P w K mg base g k "Web" S_Web_ddeqdd) (p_Case_web : PropC P w K mg base g k "Case" "web" S_Case_web) (p_Case_posts : PropC P w K mg base g k "Case" "posts" S_Case_posts) (p_Case_kind : PropC P w K mg base g k "Case" "kind" S_Case_kind) (p_Case_many : PropC P w K mg base g k "Case" "many" S_Case_many) (p_Case_place : PropC P w K mg base g k "Case" "place" S_Case_place) (p_Case_beats : PropC P w K mg base g k "Case" "beats" S_Case_beats) (p_Case_parts : PropC P w K mg base g k "Case" "parts" S_Case_parts) (e_Case : EqC P w K mg base g k "Case" S_Case_ddeqdd) (fa : Addr) (cdv : Value) (A : Around) (outer : List Env) (s : Shared) (H : Hp) (E : XK)
    (hr : Room (k + 2) (A.deeper (envOfC "_law_right" (defScope (top 68)) s.heap.objs.size fa cdv))) :
    BV g (cxOf C8.CX0 P w K mg base ["well", "told", "one", "web", "two", "others", "other", "made"] "_law_right" (defScope (top 68)) fa cdv A outer s H E) (defBody (top 68)) (m_law_right S_law_case S_law_draw S_law_cased S_Web_ddinitdd S_Case_ddinitdd S_Web_ddeqdd S_Case_web S_law_same S_Case_posts S_Case_kind S_Case_many S_Case_place S_Case_beats S_Case_parts S_Case_ddeqdd) := by
  have hN : (["well", "told", "one", "web", "two", "others", "other", "made"] : List Str).Nodup := by decide
  exact (bv_cons (sv_set hN rfl (by first | exact .inl rfl | exact .inr rfl) (ev_call h_law_case hr (by omega) rfl (av_cons (ev_var (pv 0)) (av_cons (ev_op od_add ev_int (ev_call h_law_draw hr (by omega) rfl (av_cons (ev_var (pv 0)) (av_cons ev_int av_nil)))) av_nil))))
  (bv_cons (sv_par rfl hN rfl rfl (by decide) rfl rfl (av_cons (ev_call h_law_cased hr (by omega) rfl (av_cons (ev_var (pv 1)) av_nil)) (av_cons (ev_make k_Web hr (by omega) rfl (av_cons (ev_ix (ev_ix (ev_var (pv 1)) ev_int (by intro _ _; rfl)) ev_int (by intro _ _; rfl)) (av_cons (ev_ix (ev_ix (ev_var (pv 1)) ev_int (by intro _ _; rfl)) ev_int (by intro _ _; rfl)) av_nil))) av_nil)))
  (bv_cons (sv_set hN rfl (by first | exact .inl rfl | exact .inr rfl) (ev_makeK (ks := ["beats", "place", "many", "kind", "posts", "web"]) mk_Case hr (by omega) rfl (kv_cons (ev_ix (ev_var (pv 1)) ev_int (by intro _ _; rfl)) (kv_cons (ev_ix (ev_var (pv 1)) ev_int (by intro _ _; rfl)) (kv_cons (ev_ix (ev_var (pv 1)) ev_int (by intro _ _; rfl)) (kv_cons (ev_ix (ev_var (pv 1)) ev_int (by intro _ _; rfl)) (kv_cons (ev_ix (ev_var (pv 1)) ev_int (by intro _ _; rfl)) (kv_cons (ev_var (pv 3)) kv_nil))))))))
  (bv_cons (sv_if (WV.tv (wv_or (tv_cmp (od_neOwn e_Web F.ne_Web (hr.mono (by omega))) (ev_prop p_Case_web hr (by omega) (ev_var (pv 2))) (ev_var (pv 3)) (nomark _)) (wv_or1 (tv_not (tv_val (ev_call h_law_same hr (by omega) rfl (av_cons (ev_tup (av_cons (ev_prop p_Case_posts hr (by omega) (ev_var (pv 2))) (av_cons (ev_prop p_Case_kind hr (by omega) (ev_var (pv 2))) (av_cons (ev_prop p_Case_many hr (by omega) (ev_var (pv 2))) (av_cons (ev_prop p_Case_place hr (by omega) (ev_var (pv 2))) (av_cons (ev_prop p_Case_beats hr (by omega) (ev_var (pv 2))) (av_cons (ev_prop p_Case_parts hr (by omega) (ev_var (pv 2))) (av_cons (ev_prop p_Case_parts hr (by omega) (ev_var (pv 4))) av_nil)))))))) (av_cons (ev_op od_add (ev_slice (ev_var (pv 1)) (ov_some ev_int) ov_none) (ev_tup (av_cons (ev_var (pv 1)) (av_cons (ev_var (pv 1)) av_nil)))) av_nil)))))))) (bv_one (sv_ret ev_bl)) bv_nil)
  (bv_cons (sv_set hN rfl (by first | exact .inl rfl | exact .inr rfl) (ev_lst (av_cons (ev_call h_law_case hr (by omega) rfl (av_cons (ev_var (pv 0)) (av_cons (ev_callB cd_len rfl F.f_len rfl (av_cons (ev_ix (ev_ix (ev_var (pv 1)) ev_int (by intro _ _; rfl)) ev_int (by intro _ _; rfl)) av_nil)) av_nil))) (av_cons (ev_op od_add (ev_op od_add (ev_slice (ev_var (pv 1)) ov_none (ov_some ev_int)) (ev_tup (av_cons (ev_op od_add (ev_ix (ev_var (pv 1)) ev_int (by intro _ _; rfl)) ev_int) av_nil))) (ev_slice (ev_var (pv 1)) (ov_some ev_int) ov_none)) (av_cons (ev_op od_add (ev_slice (ev_var (pv 1)) ov_none (ov_some ev_int)) (ev_tup (av_cons (ev_op od_add (ev_ix (ev_var (pv 1)) ev_int (by intro _ _; rfl)) ev_int) av_nil))) (av_cons (ev_op od_add (ev_op od_add (ev_slice (ev_var (pv 1)) ov_none (ov_some ev_int)) (ev_tup (av_cons (ev_ix (ev_ix (ev_ix (ev_var (pv 1)) ev_int (by intro _ _; rfl)) ev_int (by intro _ _; rfl)) (ev_neg ev_int) (by intro _ _; rfl)) av_nil))) (ev_slice (ev_var (pv 1)) (ov_some ev_int) ov_none)) av_nil))))))
  (bv_cons (sv_set hN rfl (by first | exact .inl rfl | exact .inr rfl) (ev_op od_add (ev_var (pv 5)) (ev_lst (av_cons (ev_op od_add (ev_op od_add (ev_slice (ev_var (pv 1)) ov_none (ov_some ev_int)) (ev_tup (av_cons (ev_if (tv_cmp (od_ne hr.units) (ev_ix (ev_var (pv 1)) ev_int (by intro _ _; rfl)) ev_str (nomark _)) ev_str ev_str) av_nil))) (ev_slice (ev_var (pv 1)) (ov_some ev_int) ov_none)) (av_cons (ev_op od_add (ev_op od_add (ev_slice (ev_var (pv 1)) ov_none (ov_some ev_int)) (ev_tup (av_cons (ev_if (tv_cmp (od_ne hr.units) (ev_ix (ev_var (pv 1)) ev_int (by intro _ _; rfl)) (ev_ix (ev_ix (ev_var (pv 1)) ev_int (by intro _ _; rfl)) ev_int (by intro _ _; rfl)) (nomark _)) (ev_ix (ev_ix (ev_var (pv 1)) ev_int (by intro _ _; rfl)) ev_int (by intro _ _; rfl)) (ev_tup av_nil)) av_nil))) (ev_slice (ev_var (pv 1)) (ov_some ev_int) ov_none)) av_nil)))))
  (bv_cons (sv_for (passes_of rfl) rfl (iv_lst (ev_var (pv 5))) (gv_name hN rfl (by first | exact .inl rfl | exact .inr rfl)) (bv_cons (sv_set hN rfl (by first | exact .inl rfl | exact .inr rfl) (ev_call h_law_cased hr (by omega) rfl (av_cons (ev_var (pv 6)) av_nil)))
  (bv_one (sv_if (WV.tv (wv_or (tv_cmp (od_ne hr.units) (ev_cmp (od_eqOwn e_Case (hr.mono (by omega))) (ev_var (pv 2)) (ev_var (pv 7)) (nomark _)) (ev_cmp (od_eq hr.units) (ev_var (pv 6)) (ev_var (pv 1)) (nomark _)) (nomark _)) (wv_or1 (tv_cmp (od_eq hr.units) (ev_cmp (od_neOwn e_Case F.ne_Case (hr.mono (by omega))) (ev_var (pv 2)) (ev_var (pv 7)) (nomark _)) (ev_cmp (od_eq hr.units) (ev_var (pv 6)) (ev_var (pv 1)) (nomark _)) (nomark _))))) (bv_one (sv_ret ev_bl)) bv_nil))))
  (bv_cons (sv_if (tv_not (tv_ins F.tru_Case (ev_var (pv 2)))) (bv_one (sv_ret ev_bl)) bv_nil)
  (bv_one (sv_ret (ev_and (ev_cmp (od_eqOwn e_Case (hr.mono (by omega))) (ev_var (pv 2)) (ev_var (pv 4)) (nomark _)) (ev_one (ev_not (ev_cmp (od_neOwn e_Case F.ne_Case (hr.mono (by omega))) (ev_var (pv 2)) (ev_var (pv 4)) (nomark _)))))))))))))))
def m_law (S_law_well : List A → Mo D) (S_law_right : List A → Mo D) : Ev → Mo Out := (ySeq (ySet 1 (xComp (itemsR1 (xCons (xCall (liftL dMax2) (xCons (xC (.int 1)) (xCons (xCall (liftL dMin2) (xCons (xCall (liftL dLen) (xCons (xVar 0) xNil)) (xCons (xC (.int 3)) xNil))) xNil))) xNil)) [2] (zName 2) tYesM (xFn 2 S_law_well (xCons (xVar 0) (xCons (xVar 2) xNil)))))
  (yRet (xCall (liftL dAll) (xCons (xComp (itemsR1 (xCons (xC (.int 15)) xNil)) [2] (zName 2) tYesM (xFn 1 S_law_right (xCons (xBin mIx (xVar 1) (xBin mMod (xCall (liftL dInt) (xCons (xVar 2) xNil)) (xCall (liftL dLen) (xCons (xVar 1) xNil)))) xNil))) xNil))))
theorem d_law {P : Program} {w : World} {K : PySem.W.Frag} {mg : Str → Option Value} {base : Heap} {g : G} {k : Nat} (F : Fx K mg g.ca) {S_law_well : List A → Mo D} {S_law_right : List A → Mo D} (h_law_well : Cal P w K mg base g k "_law_well" 2 S_law_well) (h_law_right : Cal P w K mg base g k "_law_right" 1 S_law_right) (fa : Addr) (cdv : Value) (A : Around) (outer : List Env) (s : Shared) (H : Hp) (E : XK)
    (hr : Room (k + 2) (A.deeper (envOfC "law" (defScope (top 69)) s.heap.objs.size fa cdv))) :
    BV g (cxOf C8.CX0 P w K mg base ["script", "wells", "lap"] "law" (defScope (top 69)) fa cdv A outer s H E) (defBody (top 69)) (m_law S_law_well S_law_right) := by
  have hN : (["script", "wells", "lap"] : List Str).Nodup := by decide
  exact (bv_cons (sv_set hN rfl (by first | exact .inl rfl | exact .inr rfl) (ev_lc (own := [("lap", 2)]) rfl hN (iv_range1 rfl F.f_range (av_cons (ev_callB (cd_max2 rfl) rfl F.f_max rfl (av_cons ev_int (av_cons (ev_callB (cd_min2 rfl) rfl F.f_min rfl (av_cons (ev_callB cd_len rfl F.f_len rfl (av_cons (ev_var (pv 0)) av_nil)) (av_cons ev_int av_nil))) av_nil))) av_nil)) (blkOk_by (by kernel_rfl)) (BlkV.of (fun s H C cl fp => (gv_name hN rfl (by first | exact .inl rfl | exact .inr rfl))) (fun s H C cl fp => tsv_nil) (fun s H C cl fp => (ev_call h_law_well hr (by omega) rfl (av_cons (ev_var (pv 0)) (av_cons (ev_var (pv 2)) av_nil))))) (by decide)))
  (bv_one (sv_ret (ev_callB (cd_all rfl) rfl F.f_all rfl (av_cons (ev_lc (own := [("lap", 2)]) rfl hN (iv_range1 rfl F.f_range (av_cons ev_int av_nil)) (blkOk_by (by kernel_rfl)) (BlkV.of (fun s H C cl fp => (gv_name hN rfl (by first | exact .inl rfl | exact .inr rfl))) (fun s H C cl fp => tsv_nil) (fun s H C cl fp => (ev_call h_law_right hr (by omega) rfl (av_cons (ev_ix (ev_var (pv 1)) (ev_op od_mod (ev_callTy cd_int rfl F.f_int rfl (av_cons (ev_var (pv 2)) av_nil)) (ev_callB cd_len rfl F.f_len rfl (av_cons (ev_var (pv 1)) av_nil))) (by intro _ _; rfl)) av_nil)))) (by decide)) av_nil)))))
end K85
set_option autoImplicit false
set_option maxRecDepth 100000
set_option maxHeartbeats 4000000
/-! MLh: the head's hook with property getters; promises from the head's facts. -/
namespace MM
open PySem PySem.Spec PyProof.Rows L2 LamX NdefX
/-- a property's getter: the class, the name, the def's words -/
structure GetD where
  cls : Str
  f : Str
  name : Str
  qual : Str
  params : Arguments
  body : List Stmt
  scope : Scope
def gAd (K : PySem.W.Frag) (c f : Str) : Addr := match PySem.W.recIn K (He.ma K (He.ga K c) f) "property" with
  | some (.ref a :: _) => a
  | _ => 0
def fnWA (K : PySem.W.Frag) (a : Addr) : He.FnW := match K.lookup a with
  | some ⟨_, _, .func fd, _⟩ => some (fd.name, fd.qualname, fd.params, fd.body, fd.scope, fd.globals, fd.closure, fd.builtins)
  | _ => none
def GetD.val (d : GetD) : He.FnW := some (d.name, d.qual, d.params, .stmts d.body, d.scope, mainGlobals, [], builtinsNs)
def GetD.fok (K : PySem.W.Frag) (d : GetD) : Bool := PySem.W.keepIn K (.ref (gAd K d.cls d.f)) && (match K.lookup (gAd K d.cls d.f) with
  | some ⟨_, _, .func fd, _⟩ => PySem.W.codeIn K fd.code d.qual && (He.dflB K fd.defaults [] && He.kwdB K fd.kwdefaults [])
  | _ => false)
def GetD.pok (K : PySem.W.Frag) (d : GetD) : Bool := He.eqO (PySem.W.findIn K (.ref (He.ga K d.cls)) d.f) (some (some (.ref (He.ma K (He.ga K d.cls) d.f)))) && (He.eqO (PySem.W.specialIn K (.ref (He.ma K (He.ga K d.cls) d.f)) "__get__") (some (some (.builtin "property.__get__"))) &&
  (decide (PySem.W.takesIn K (.ref (He.ma K (He.ga K d.cls) d.f)) = some true) && (match PySem.W.recIn K (He.ma K (He.ga K d.cls) d.f) "property" with
  | some (.ref _ :: _) => true
  | _ => false)))
theorem getD_fun {K : PySem.W.Frag} {d : GetD} (e : fnWA K (gAd K d.cls d.f) = d.val) (c : d.fok K = true) : ∃ fd, FunD K d.name d.qual d.params d.body d.scope [] [] (gAd K d.cls d.f) fd := by
  obtain ⟨kp, c2⟩ := He.ba c
  unfold fnWA at e
  cases q : K.lookup (gAd K d.cls d.f) with
  | none =>
    rw [q] at c2
    cases c2
  | some o =>
    obtain ⟨oc, od, dt, osl⟩ := o
    rw [q] at c2 e
    cases dt with
    | func fd =>
      obtain ⟨n1, n2, n3, n4, n5, n6, n7, n8, n9, n10, n11, n12, n13, n14, n15⟩ := fd
      have e2 : (some (n1, n2, n3, n4, n5, n6, n7, n15) : He.FnW) = some (d.name, d.qual, d.params, .stmts d.body, d.scope, mainGlobals, [], builtinsNs) := e
      simp only [Option.some.injEq, Prod.mk.injEq] at e2
      obtain ⟨h1, h2, h3, h4, h5, h6, h7, h8⟩ := e2
      subst h1 h2 h3 h4 h5 h6 h7 h8
      obtain ⟨k1, k2⟩ := He.ba (show (PySem.W.codeIn K n13 d.qual && (He.dflB K n8 [] && He.kwdB K n9 [])) = true from c2)
      obtain ⟨k3, k4⟩ := He.ba k2
      exact ⟨_, ⟨oc, od, n8, n9, n10, n11, n12, n13, n14, osl, rfl, q, k1, He.dflB_ok k3, He.kwdB_ok k4⟩, kp⟩
    | _ => cases c2
theorem getD_prop {K : PySem.W.Frag} {d : GetD} (c : d.pok K = true) : PropOf K (He.ga K d.cls) d.f (He.ma K (He.ga K d.cls) d.f) (gAd K d.cls d.f) := by
  obtain ⟨h1, h2⟩ := He.ba c
  obtain ⟨h3, h4⟩ := He.ba h2
  obtain ⟨h5, h6⟩ := He.ba h4
  refine ⟨He.eqO_ok h1, He.eqO_ok h3, of_decide_eq_true h5, ?_⟩
  unfold gAd
  cases e : PySem.W.recIn K (He.ma K (He.ga K d.cls) d.f) "property" with
  | none => rw [e] at h6; cases h6
  | some l =>
    rw [e] at h6
    cases l with
    | nil => cases h6
    | cons v r =>
      cases v with
      | ref a => exact ⟨r, rfl⟩
      | _ => cases h6
/-! ### the hook -/
abbrev AlP : Type := He.AlX × (Bool × List He.FnW)
def obsG (gs : List GetD) (K : PySem.W.Frag) : Bool × List He.FnW := (gs.all fun d => d.fok K && d.pok K, gs.map fun d => fnWA K (gAd K d.cls d.f))
structure SaysP (fa : List He.Fa) (fn : List He.DefD) (tf : List He.Defn) (gs : List GetD) (ex : PySem.W.Frag → Bool) (w : World) (h : Heap) (K : PySem.W.Frag) : Prop where
  x : He.SaysX fa fn [] tf ex w h K
  g : obsG gs K = (true, gs.map GetD.val)
def obsP (n : Nat) (fa : List He.Fa) (fn : List He.DefD) (tf : List He.Defn) (gs : List GetD) (ex : PySem.W.Frag → Bool) (g : Addr → Option Obj) : AlP := (He.obsX n fa fn [] tf ex g, obsG gs (He.frT g (He.asD g n)))
def hookP (n : Nat) (fa : List He.Fa) (fn : List He.DefD) (tf : List He.Defn) (gs : List GetD) (ex : PySem.W.Frag → Bool) : PySem.W.Hook where
  α := AlP
  obs := fun s => obsP n fa fn tf gs ex s.heap.get?
  val := fun w => (He.valX fn [] w, (true, gs.map GetD.val))
  says := fun w h => ∃ K : PySem.W.Frag, K.In h ∧ SaysP fa fn tf gs ex w h K
  of := fun _ _ e => ⟨_, He.frT_in, He.saysX_of (congrArg Prod.fst e), congrArg Prod.snd e⟩
  keeps := fun _ _ _ ⟨K, hK, c⟩ k => ⟨K, PySem.W.Frag.In.keeps hK k, ⟨⟨c.x.t, c.x.more, c.x.hd, c.x.out, fun p hp => k _ _ (c.x.empty p hp)⟩, c.g⟩⟩
theorem obsP_eq {n : Nat} {fa : List He.Fa} {fn : List He.DefD} {tf : List He.Defn} {gs : List GetD} {ex : PySem.W.Frag → Bool} {g : Addr → Option Obj} {s : Shared} (h : ∀ a, g a = s.heap.get? a) : obsP n fa fn tf gs ex g = (hookP n fa fn tf gs ex).obs s := by
  have e : g = s.heap.get? := funext h
  rw [e] <;> rfl
section
variable {fa : List He.Fa} {fn : List He.DefD} {tf : List He.Defn} {gs : List GetD} {ex : PySem.W.Frag → Bool} {w : World} {h : Heap} {K : PySem.W.Frag}
theorem SaysP.getter (c : SaysP fa fn tf gs ex w h K) {d : GetD} (hd : d ∈ gs) : (∃ fd, FunD K d.name d.qual d.params d.body d.scope [] [] (gAd K d.cls d.f) fd) ∧ PropOf K (He.ga K d.cls) d.f (He.ma K (He.ga K d.cls) d.f) (gAd K d.cls d.f) := by
  have e1 : (gs.all fun d => d.fok K && d.pok K) = true := congrArg Prod.fst c.g
  have e2 : (gs.map fun d => fnWA K (gAd K d.cls d.f)) = gs.map GetD.val := congrArg Prod.snd c.g
  obtain ⟨h1, h2⟩ := He.ba (List.all_eq_true.mp e1 d hd)
  exact ⟨getD_fun (List.map_inj_left.mp e2 d hd) h1, getD_prop h2⟩
theorem SaysP.fact (c : SaysP fa fn tf gs ex w h K) {f : He.Fa} (hf : f ∈ fa) : f.ok K = true := He.SaysD.facts (congrArg Prod.fst c.x.t) hf
theorem SaysP.def_ (c : SaysP fa fn tf gs ex w h K) {d : He.DefD} (hd : d ∈ fn) : ∃ fd, FunD K d.name d.qual d.params d.body d.scope (d.dvs K) (d.kws K) (He.fAd K d.at_) fd := He.SaysD.defs (congrArg Prod.fst c.x.t) hd
end
/-! ### promises -/
section
variable {P : Program} {w : World} {K : PySem.W.Frag} {mg : Str → Option Value} {base : Heap} {g : G}
/-- a def that makes lambdas: its code object is told -/
theorem fn_okC {pp : Str × Option Str} {x qual : Str} {params : Arguments} {body : List Stmt} {scope : Scope} {fd : FuncData} {N ps : List Str} {k : Nat} {m : Ev → Mo Out}
    (F : FunD K x qual params body scope [] [] (He.fAd K pp) fd) (S : FnScope N ps scope)
    (hb : ∀ (A : Around) (outer : List Env) (s : Shared) (H : Hp) (E : XK), Room k (A.deeper (envOfC qual scope s.heap.objs.size (He.fAd K pp) (.ref (He.codeOf K pp)))) → BV g (cxOf C8.CX0 P w K mg base N qual scope (He.fAd K pp) (.ref (He.codeOf K pp)) A outer s H E) body m) :
    FnOk P w K mg base C8.CX0 (k + 1) (He.fAd K pp) fd ps (SpG K g ps.length (runF N.length m)) := by
  obtain ⟨oc, od, dV, kV, doc, pm, an, cdv, ct, osl, rfl, lk, hcd, _, _⟩ := F.ex
  obtain ⟨c, hc⟩ := He.codeIn_ref hcd
  have e : cdv = .ref (He.codeOf K pp) := by
    rw [He.codeOf_eq lk hc]
    exact hc
  subst e
  exact fn_of lk hcd S (fun vs H Q E h => h.1) fun A outer s H vs Q E hr h => by
    obtain ⟨_, av, μ, st, as, d, st', rl, ra, hm, p⟩ := h
    exact body_ok (hb A outer s H E hr) rl ra hm p
theorem cal_ofC {pp : Str × Option Str} {x : Str} {params : Arguments} {body : List Stmt} {scope : Scope} {fd : FuncData} {N ps : List Str} {k n : Nat} {m : Ev → Mo Out}
    (F : FunD K x x params body scope [] [] (He.fAd K pp) fd) (hm : mg x = some (.ref (He.fAd K pp))) (hs : C8.scC N ps scope = true) (hn : ps.length = n)
    (hbd : ∀ (kV doc pm : Value) (an : Option Addr) (cdv ct : Value) (us : List Value), us.length = ps.length → bindArgs (PySem.W.fnOf x x params body scope .none kV doc pm an cdv ct) ⟨us, []⟩ = pure (ps.zip us))
    (hb : ∀ (A : Around) (outer : List Env) (s : Shared) (H : Hp) (E : XK), Room k (A.deeper (envOfC x scope s.heap.objs.size (He.fAd K pp) (.ref (He.codeOf K pp)))) → BV g (cxOf C8.CX0 P w K mg base N x scope (He.fAd K pp) (.ref (He.codeOf K pp)) A outer s H E) body m) :
    Cal P w K mg base g (k + 1) x n (runF N.length m) := by
  subst hn
  exact ⟨_, fd, ps, fn_okC F (C8.fnScope_by hs) hb, hm, F.kp, F.bindsN hbd⟩
theorem prop_of {c f x qual : Str} {params : Arguments} {body : List Stmt} {scope : Scope} {p ga : Addr} {fd : FuncData} {N ps : List Str} {k : Nat} {m : Ev → Mo Out}
    (F : FunD K x qual params body scope [] [] ga fd) (hp : PropOf K (g.ca c) f p ga) (hc : Cls K (g.ca c)) (hs : C8.scC N ps scope = true) (hn : ps.length = 1)
    (hbd : ∀ (kV doc pm : Value) (an : Option Addr) (cdv ct : Value) (us : List Value), us.length = ps.length → bindArgs (PySem.W.fnOf x qual params body scope .none kV doc pm an cdv ct) ⟨us, []⟩ = pure (ps.zip us))
    (hb : ∀ (cdv : Value) (A : Around) (outer : List Env) (s : Shared) (H : Hp) (E : XK), Room k (A.deeper (envOfC qual scope s.heap.objs.size ga cdv)) → BV g (cxOf C8.CX0 P w K mg base N qual scope ga cdv A outer s H E) body m) :
    PropC P w K mg base g (k + 1) c f (runF N.length m) := by
  have := fn_ok (g := g) F (C8.fnScope_by hs) hb
  rw [hn] at this
  exact ⟨⟨p, ga, fd, ps, hp, this, F.bindsN hbd⟩, hc⟩
theorem mak_of {x c nm qual : Str} {params : Arguments} {body : List Stmt} {scope : Scope} {f : Addr} {fd : FuncData} {N ps : List Str} {k n : Nat} {m : Ev → Mo Out}
    (F : FunD K nm qual params body scope [] [] f fd) (M : Mk K (g.ca c) f) (hm : mg x = some (.ref (g.ca c))) (hs : C8.scC N ps scope = true) (hn : ps.length = n + 1)
    (hbd : ∀ (kV doc pm : Value) (an : Option Addr) (cdv ct : Value) (us : List Value), us.length = ps.length → bindArgs (PySem.W.fnOf nm qual params body scope .none kV doc pm an cdv ct) ⟨us, []⟩ = pure (ps.zip us))
    (hb : ∀ (cdv : Value) (A : Around) (outer : List Env) (s : Shared) (H : Hp) (E : XK), Room k (A.deeper (envOfC qual scope s.heap.objs.size f cdv)) → BV g (cxOf C8.CX0 P w K mg base N qual scope f cdv A outer s H E) body m) :
    MakC P w K mg base g (k + 1) x c n (runF N.length m) := by
  have := fn_ok (g := g) F (C8.fnScope_by hs) hb
  rw [hn] at this
  exact ⟨f, fd, ps, M, this, hm, F.bindsN hbd⟩
theorem makK_of {x c nm qual : Str} {params : Arguments} {body : List Stmt} {scope : Scope} {f : Addr} {fd : FuncData} {N ps ks : List Str} {is : List Nat} {k n : Nat} {m : Ev → Mo Out}
    (F : FunD K nm qual params body scope [] [] f fd) (M : Mk K (g.ca c) f) (hm : mg x = some (.ref (g.ca c))) (hs : C8.scC N ps scope = true) (hn : ps.length = n + 1)
    (hbd : ∀ (kV doc pm : Value) (an : Option Addr) (cdv ct : Value) (us ws : List Value), us.length = 1 → ws.length = ks.length → bindArgs (PySem.W.fnOf nm qual params body scope .none kV doc pm an cdv ct) ⟨us, ks.zip ws⟩ = pure (ps.zip (us ++ pick is ws)))
    (hb : ∀ (cdv : Value) (A : Around) (outer : List Env) (s : Shared) (H : Hp) (E : XK), Room k (A.deeper (envOfC qual scope s.heap.objs.size f cdv)) → BV g (cxOf C8.CX0 P w K mg base N qual scope f cdv A outer s H E) body m) :
    MakK P w K mg base g (k + 1) x c n ks is (runF N.length m) := by
  have := fn_ok (g := g) F (C8.fnScope_by hs) hb
  rw [hn] at this
  exact ⟨f, fd, ps, M, this, hm, kbn_of F hbd⟩
theorem eq_of {c nm qual : Str} {params : Arguments} {body : List Stmt} {scope : Scope} {f : Addr} {fd : FuncData} {N ps : List Str} {k : Nat} {m : Ev → Mo Out}
    (F : FunD K nm qual params body scope [] [] f fd) (M : EqF K (g.ca c) f) (hs : C8.scC N ps scope = true) (hn : ps.length = 2)
    (hbd : ∀ (kV doc pm : Value) (an : Option Addr) (cdv ct : Value) (us : List Value), us.length = ps.length → bindArgs (PySem.W.fnOf nm qual params body scope .none kV doc pm an cdv ct) ⟨us, []⟩ = pure (ps.zip us))
    (hb : ∀ (cdv : Value) (A : Around) (outer : List Env) (s : Shared) (H : Hp) (E : XK), Room k (A.deeper (envOfC qual scope s.heap.objs.size f cdv)) → BV g (cxOf C8.CX0 P w K mg base N qual scope f cdv A outer s H E) body m) :
    EqC P w K mg base g (k + 1) c (runF N.length m) := by
  have := fn_ok (g := g) F (C8.fnScope_by hs) hb
  rw [hn] at this
  exact ⟨f, fd, ps, M, this, F.bindsN hbd⟩
variable {k j n : Nat} {c f x : Str} {md md' : List A → Mo D} {ks : List Str} {is : List Nat}
theorem PropC.imp (o : PropC P w K mg base g k c f md) (hk : k ≤ j) (h : ∀ as st r, as.length = 1 → md' as st = some r → md as st = some r) : PropC P w K mg base g j c f md' := by
  obtain ⟨p, ga, fd, ps, hp, F, b⟩ := o.ex
  exact ⟨⟨p, ga, fd, ps, hp, (F.imp (spG_imp h)).mono hk, b⟩, o.cl⟩
theorem MakC.imp (o : MakC P w K mg base g k x c n md) (hk : k ≤ j) (h : ∀ as st r, as.length = n + 1 → md' as st = some r → md as st = some r) : MakC P w K mg base g j x c n md' := by
  obtain ⟨f, fd, ps, M, F, hm, b⟩ := o.ex
  exact ⟨f, fd, ps, M, (F.imp (spG_imp h)).mono hk, hm, b⟩
theorem MakK.imp (o : MakK P w K mg base g k x c n ks is md) (hk : k ≤ j) (h : ∀ as st r, as.length = n + 1 → md' as st = some r → md as st = some r) : MakK P w K mg base g j x c n ks is md' := by
  obtain ⟨f, fd, ps, M, F, hm, b⟩ := o.ex
  exact ⟨f, fd, ps, M, (F.imp (spG_imp h)).mono hk, hm, b⟩
theorem EqC.imp (o : EqC P w K mg base g k c md) (hk : k ≤ j) (h : ∀ as st r, as.length = 2 → md' as st = some r → md as st = some r) : EqC P w K mg base g j c md' := by
  obtain ⟨f, fd, ps, M, F, b⟩ := o.ex
  exact ⟨f, fd, ps, M, (F.imp (spG_imp h)).mono hk, b⟩
theorem PropC.frz (o : PropC P w K mg base g k c f md) (i : Nat) : PropC P w K mg base g k c f (fun as => frzM i (md as)) := by
  obtain ⟨p, ga, fd, ps, hp, F, b⟩ := o.ex
  exact ⟨⟨p, ga, fd, ps, hp, F.imp (spG_frz i), b⟩, o.cl⟩
theorem MakC.frz (o : MakC P w K mg base g k x c n md) (i : Nat) : MakC P w K mg base g k x c n (fun as => frzM i (md as)) := by
  obtain ⟨f, fd, ps, M, F, hm, b⟩ := o.ex
  exact ⟨f, fd, ps, M, F.imp (spG_frz i), hm, b⟩
theorem MakK.frz (o : MakK P w K mg base g k x c n ks is md) (i : Nat) : MakK P w K mg base g k x c n ks is (fun as => frzM i (md as)) := by
  obtain ⟨f, fd, ps, M, F, hm, b⟩ := o.ex
  exact ⟨f, fd, ps, M, F.imp (spG_frz i), hm, b⟩
theorem EqC.frz (o : EqC P w K mg base g k c md) (i : Nat) : EqC P w K mg base g k c (fun as => frzM i (md as)) := by
  obtain ⟨f, fd, ps, M, F, b⟩ := o.ex
  exact ⟨f, fd, ps, M, F.imp (spG_frz i), b⟩
theorem PropC.mono (o : PropC P w K mg base g k c f md) (h : k ≤ j) : PropC P w K mg base g j c f md := o.imp h fun _ _ _ _ e => e
theorem MakC.mono (o : MakC P w K mg base g k x c n md) (h : k ≤ j) : MakC P w K mg base g j x c n md := o.imp h fun _ _ _ _ e => e
theorem MakK.mono (o : MakK P w K mg base g k x c n ks is md) (h : k ≤ j) : MakK P w K mg base g j x c n ks is md := o.imp h fun _ _ _ _ e => e
theorem EqC.mono (o : EqC P w K mg base g k c md) (h : k ≤ j) : EqC P w K mg base g j c md := o.imp h fun _ _ _ _ e => e
/-- a def that is never asked -/
theorem cal_none {x : Str} {params : Arguments} {body : List Stmt} {scope : Scope} {f : Addr} {fd : FuncData} {ps : List Str}
    (F : FunD K x x params body scope [] [] f fd) (hm : mg x = some (.ref f)) (hn : ps.length = n)
    (hbd : ∀ (kV doc pm : Value) (an : Option Addr) (cdv ct : Value) (us : List Value), us.length = ps.length → bindArgs (PySem.W.fnOf x x params body scope .none kV doc pm an cdv ct) ⟨us, []⟩ = pure (ps.zip us)) :
    Cal P w K mg base g k x n (fun _ _ => none) :=
  ⟨f, fd, ps, ⟨fun vs H Q E h => h.1.trans hn.symm, fun A outer s H args us vs Q E _ _ _ _ ⟨_, av, μ, st, as, d, st', _, _, e, _⟩ => by cases e⟩, hm, F.kp, F.bindsN hbd⟩
/-- the law's promise from what its mirror answers -/
theorem law_sp {md : List A → Mo D} {H : Hp} {a : Addr} {ns : List Int} {E : XK} (hT : TabsN g.T H) (hS : SqL K H a (ns.map V.int)) (hm : ∀ d : D, d = .ro (ns.map D.int) ∨ d = .lst (ns.map D.int) → ∃ st', md [.d d] [] = some (.bl true, st')) : SpG K g 1 md [.ref a] H (fun v _ => v = .bl true) E := by
  have hints : ∀ l : List Int, RpL K g.ca [] [] H (l.map V.int) (l.map D.int) := fun l => by
    induction l with
    | nil => exact .nil
    | cons i l ih => exact .cons (.int i) ih
  have rel : Rel K g [] [] [] H := ⟨rfl, .nil, fun b hb => (by cases hb), fun n b ob h1 _ => (by simp at h1), hT⟩
  have fin : ∀ d : D, Rp K g.ca [] [] H (.ref a) d → (∃ st', md [.d d] [] = some (.bl true, st')) → SpG K g 1 md [.ref a] H (fun v _ => v = .bl true) E := fun d rp ⟨st', e⟩ =>
    ⟨rfl, [], [], [], [.d d], .bl true, st', rel, .cons rp .nil, e, fun v H' μ' x r q => by cases q; rfl⟩
  rcases hS with (h | ⟨o, h⟩) | h
  · exact fin (.lst (ns.map D.int)) (.lst h (by simp) (by simp) (hints ns)) (hm _ (.inr rfl))
  · exact fin (.ro (ns.map D.int)) (.ro (.inl ⟨o, h⟩) (hints ns)) (hm _ (.inl rfl))
  · exact fin (.ro (ns.map D.int)) (.ro (.inr (.inr h)) (hints ns)) (hm _ (.inl rfl))
end
end MM
set_option autoImplicit false
set_option maxRecDepth 100000
set_option maxHeartbeats 0
namespace K85
open PySem PySem.Spec PyProof.Rows L2 LamX NdefX MM
def dd_is_whole : He.DefD := ⟨("is_whole", none), "is_whole", "is_whole", defArgs (top 4), defBody (top 4), defScope (top 4), [], []⟩
def dd_is_between : He.DefD := ⟨("is_between", none), "is_between", "is_between", defArgs (top 5), defBody (top 5), defScope (top 5), [], []⟩
def dd_is_one_of : He.DefD := ⟨("is_one_of", none), "is_one_of", "is_one_of", defArgs (top 6), defBody (top 6), defScope (top 6), [], []⟩
def dd_is_word : He.DefD := ⟨("is_word", none), "is_word", "is_word", defArgs (top 7), defBody (top 7), defScope (top 7), [], []⟩
def dd_is_name : He.DefD := ⟨("is_name", none), "is_name", "is_name", defArgs (top 8), defBody (top 8), defScope (top 8), [], []⟩
def dd_is_tuple_of : He.DefD := ⟨("is_tuple_of", none), "is_tuple_of", "is_tuple_of", defArgs (top 9), defBody (top 9), defScope (top 9), [], []⟩
def dd_is_pair : He.DefD := ⟨("is_pair", none), "is_pair", "is_pair", defArgs (top 10), defBody (top 10), defScope (top 10), [], []⟩
def dd_wrong_in : He.DefD := ⟨("wrong_in", none), "wrong_in", "wrong_in", defArgs (top 11), defBody (top 11), defScope (top 11), [], []⟩
def dd_are_below : He.DefD := ⟨("are_below", none), "are_below", "are_below", defArgs (top 12), defBody (top 12), defScope (top 12), [], []⟩
def dd_is_set_of_names : He.DefD := ⟨("is_set_of_names", none), "is_set_of_names", "is_set_of_names", defArgs (top 13), defBody (top 13), defScope (top 13), [], []⟩
def dd_wrong_in_places : He.DefD := ⟨("wrong_in_places", none), "wrong_in_places", "wrong_in_places", defArgs (top 16), defBody (top 16), defScope (top 16), [], []⟩
def dd_is_tie : He.DefD := ⟨("is_tie", none), "is_tie", "is_tie", defArgs (top 17), defBody (top 17), defScope (top 17), [], []⟩
def dd_wrong_in_ties : He.DefD := ⟨("wrong_in_ties", none), "wrong_in_ties", "wrong_in_ties", defArgs (top 18), defBody (top 18), defScope (top 18), [], []⟩
def dd_Web_ddinitdd : He.DefD := ⟨("Web", some "__init__"), "__init__", "Web.__init__", defArgs (inClass (top 36) 0), defBody (inClass (top 36) 0), defScope (inClass (top 36) 0), [], []⟩
def gd_Web_places : GetD := ⟨"Web", "places", "places", "Web.places", defArgs (inClass (top 36) 1), defBody (inClass (top 36) 1), defScope (inClass (top 36) 1)⟩
def gd_Web_ties : GetD := ⟨"Web", "ties", "ties", "Web.ties", defArgs (inClass (top 36) 2), defBody (inClass (top 36) 2), defScope (inClass (top 36) 2)⟩
def gd_Web_parts : GetD := ⟨"Web", "parts", "parts", "Web.parts", defArgs (inClass (top 36) 3), defBody (inClass (top 36) 3), defScope (inClass (top 36) 3)⟩
def dd_Web_ddeqdd : He.DefD := ⟨("Web", some "__eq__"), "__eq__", "Web.__eq__", defArgs (inClass (top 36) 4), defBody (inClass (top 36) 4), defScope (inClass (top 36) 4), [], []⟩
def dd_check_web : He.DefD := ⟨("check_web", none), "check_web", "check_web", defArgs (top 37), defBody (top 37), defScope (top 37), [], []⟩
def dd_check_set : He.DefD := ⟨("check_set", none), "check_set", "check_set", defArgs (top 38), defBody (top 38), defScope (top 38), [], []⟩
def dd_check_posts : He.DefD := ⟨("check_posts", none), "check_posts", "check_posts", defArgs (top 39), defBody (top 39), defScope (top 39), [], []⟩
def dd_check_kind : He.DefD := ⟨("check_kind", none), "check_kind", "check_kind", defArgs (top 40), defBody (top 40), defScope (top 40), [], []⟩
def dd_check_place : He.DefD := ⟨("check_place", none), "check_place", "check_place", defArgs (top 41), defBody (top 41), defScope (top 41), [], []⟩
def dd_check_number : He.DefD := ⟨("check_number", none), "check_number", "check_number", defArgs (top 42), defBody (top 42), defScope (top 42), [], []⟩
def dd_Case_ddinitdd : He.DefD := ⟨("Case", some "__init__"), "__init__", "Case.__init__", defArgs (inClass (top 45) 0), defBody (inClass (top 45) 0), defScope (inClass (top 45) 0), [], []⟩
def gd_Case_web : GetD := ⟨"Case", "web", "web", "Case.web", defArgs (inClass (top 45) 1), defBody (inClass (top 45) 1), defScope (inClass (top 45) 1)⟩
def gd_Case_posts : GetD := ⟨"Case", "posts", "posts", "Case.posts", defArgs (inClass (top 45) 2), defBody (inClass (top 45) 2), defScope (inClass (top 45) 2)⟩
def gd_Case_kind : GetD := ⟨"Case", "kind", "kind", "Case.kind", defArgs (inClass (top 45) 3), defBody (inClass (top 45) 3), defScope (inClass (top 45) 3)⟩
def gd_Case_many : GetD := ⟨"Case", "many", "many", "Case.many", defArgs (inClass (top 45) 4), defBody (inClass (top 45) 4), defScope (inClass (top 45) 4)⟩
def gd_Case_place : GetD := ⟨"Case", "place", "place", "Case.place", defArgs (inClass (top 45) 5), defBody (inClass (top 45) 5), defScope (inClass (top 45) 5)⟩
def gd_Case_beats : GetD := ⟨"Case", "beats", "beats", "Case.beats", defArgs (inClass (top 45) 6), defBody (inClass (top 45) 6), defScope (inClass (top 45) 6)⟩
def gd_Case_parts : GetD := ⟨"Case", "parts", "parts", "Case.parts", defArgs (inClass (top 45) 7), defBody (inClass (top 45) 7), defScope (inClass (top 45) 7)⟩
def dd_Case_ddeqdd : He.DefD := ⟨("Case", some "__eq__"), "__eq__", "Case.__eq__", defArgs (inClass (top 45) 8), defBody (inClass (top 45) 8), defScope (inClass (top 45) 8), [], []⟩
def dd_law_well : He.DefD := ⟨("_law_well", none), "_law_well", "_law_well", defArgs (top 47), defBody (top 47), defScope (top 47), [], []⟩
def dd_law_draw : He.DefD := ⟨("_law_draw", none), "_law_draw", "_law_draw", defArgs (top 48), defBody (top 48), defScope (top 48), [], []⟩
def dd_law_of : He.DefD := ⟨("_law_of", none), "_law_of", "_law_of", defArgs (top 49), defBody (top 49), defScope (top 49), [], []⟩
def dd_law_shuffled : He.DefD := ⟨("_law_shuffled", none), "_law_shuffled", "_law_shuffled", defArgs (top 50), defBody (top 50), defScope (top 50), [], []⟩
def dd_law_same : He.DefD := ⟨("_law_same", none), "_law_same", "_law_same", defArgs (top 51), defBody (top 51), defScope (top 51), [], []⟩
def dd_law_words : He.DefD := ⟨("_law_words", none), "_law_words", "_law_words", defArgs (top 52), defBody (top 52), defScope (top 52), [], []⟩
def dd_law_own : He.DefD := ⟨("_law_own", none), "_law_own", "_law_own", defArgs (top 53), defBody (top 53), defScope (top 53), [], []⟩
def dd_law_names : He.DefD := ⟨("_law_names", none), "_law_names", "_law_names", defArgs (top 54), defBody (top 54), defScope (top 54), [], []⟩
def dd_law_web : He.DefD := ⟨("_law_web", none), "_law_web", "_law_web", defArgs (top 55), defBody (top 55), defScope (top 55), [], []⟩
def dd_law_near : He.DefD := ⟨("_law_near", none), "_law_near", "_law_near", defArgs (top 56), defBody (top 56), defScope (top 56), [], []⟩
def dd_law_all_sets : He.DefD := ⟨("_law_all_sets", none), "_law_all_sets", "_law_all_sets", defArgs (top 57), defBody (top 57), defScope (top 57), [], []⟩
def dd_law_some : He.DefD := ⟨("_law_some", none), "_law_some", "_law_some", defArgs (top 58), defBody (top 58), defScope (top 58), [], []⟩
def dd_law_parts_of : He.DefD := ⟨("_law_parts_of", none), "_law_parts_of", "_law_parts_of", defArgs (top 59), defBody (top 59), defScope (top 59), [], []⟩
def dd_law_sees : He.DefD := ⟨("_law_sees", none), "_law_sees", "_law_sees", defArgs (top 60), defBody (top 60), defScope (top 60), [], []⟩
def dd_law_tied_posts : He.DefD := ⟨("_law_tied_posts", none), "_law_tied_posts", "_law_tied_posts", defArgs (top 61), defBody (top 61), defScope (top 61), [], []⟩
def dd_law_ill_watched : He.DefD := ⟨("_law_ill_watched", none), "_law_ill_watched", "_law_ill_watched", defArgs (top 62), defBody (top 62), defScope (top 62), [], []⟩
def dd_law_is_of_kind : He.DefD := ⟨("_law_is_of_kind", none), "_law_is_of_kind", "_law_is_of_kind", defArgs (top 63), defBody (top 63), defScope (top 63), [], []⟩
def dd_law_kinds : He.DefD := ⟨("_law_kinds", none), "_law_kinds", "_law_kinds", defArgs (top 64), defBody (top 64), defScope (top 64), [], []⟩
def dd_law_of_kind : He.DefD := ⟨("_law_of_kind", none), "_law_of_kind", "_law_of_kind", defArgs (top 65), defBody (top 65), defScope (top 65), [], []⟩
def dd_law_case : He.DefD := ⟨("_law_case", none), "_law_case", "_law_case", defArgs (top 66), defBody (top 66), defScope (top 66), [], []⟩
def dd_law_cased : He.DefD := ⟨("_law_cased", none), "_law_cased", "_law_cased", defArgs (top 67), defBody (top 67), defScope (top 67), [], []⟩
def dd_law_right : He.DefD := ⟨("_law_right", none), "_law_right", "_law_right", defArgs (top 68), defBody (top 68), defScope (top 68), [], []⟩
def dd_law : He.DefD := ⟨("law", none), "law", "law", defArgs (top 69), defBody (top 69), defScope (top 69), [], []⟩
def fn : List He.DefD := [dd_is_whole, dd_is_between, dd_is_one_of, dd_is_word, dd_is_name, dd_is_tuple_of, dd_is_pair, dd_wrong_in, dd_are_below, dd_is_set_of_names, dd_wrong_in_places, dd_is_tie, dd_wrong_in_ties, dd_Web_ddinitdd, dd_Web_ddeqdd, dd_check_web, dd_check_set, dd_check_posts, dd_check_kind, dd_check_place, dd_check_number, dd_Case_ddinitdd, dd_Case_ddeqdd, dd_law_well, dd_law_draw, dd_law_of, dd_law_shuffled, dd_law_same, dd_law_words, dd_law_own, dd_law_names, dd_law_web, dd_law_near, dd_law_all_sets, dd_law_some, dd_law_parts_of, dd_law_sees, dd_law_tied_posts, dd_law_ill_watched, dd_law_is_of_kind, dd_law_kinds, dd_law_of_kind, dd_law_case, dd_law_cased, dd_law_right, dd_law]
def gs : List GetD := [gd_Web_places, gd_Web_ties, gd_Web_parts, gd_Case_web, gd_Case_posts, gd_Case_kind, gd_Case_many, gd_Case_place, gd_Case_beats, gd_Case_parts]
def fa : List He.Fa := [.glo "is_whole", .glo "is_between", .glo "is_one_of", .glo "is_word", .glo "is_name", .glo "is_tuple_of", .glo "is_pair", .glo "wrong_in", .glo "are_below", .glo "is_set_of_names", .glo "wrong_in_places", .glo "is_tie", .glo "wrong_in_ties", .glo "check_web", .glo "check_set", .glo "check_posts", .glo "check_kind", .glo "check_place", .glo "check_number", .glo "_law_well", .glo "_law_draw", .glo "_law_of", .glo "_law_shuffled", .glo "_law_same", .glo "_law_words", .glo "_law_own", .glo "_law_names", .glo "_law_web", .glo "_law_near", .glo "_law_all_sets", .glo "_law_some", .glo "_law_parts_of", .glo "_law_sees", .glo "_law_tied_posts", .glo "_law_ill_watched", .glo "_law_is_of_kind", .glo "_law_kinds", .glo "_law_of_kind", .glo "_law_case", .glo "_law_cased", .glo "_law_right", .glo "law", .free "abs", .free "all", .free "bool", .free "dict", .free "divmod", .free "enumerate", .free "int", .free "isinstance", .free "len", .free "list", .free "max", .free "min", .free "range", .free "sorted", .free "str", .free "tuple", .glo "Case", .glo "Web", .int "MOST_LETTERS" 8, .int "MOST_NUMBER" 9, .int "MOST_PLACES" 9, .str "LETTERS" "abcdefghijklmnopqrstuvwxyz", .glo "KINDS", .glo "WORDS", .cls "Case", .cls "Web", .mkr "Case", .mkr "Web", .noat "Case" "all_of_it", .noat "Web" "all_told"]
def tf : List He.Defn := [("is_set_of_names", none), ("wrong_in_places", none), ("wrong_in_ties", none)]
def loose0 : List Str := ["is_whole", "is_between", "is_one_of", "is_word", "is_name", "is_tuple_of", "is_pair", "wrong_in", "are_below", "is_set_of_names", "wrong_in_places", "is_tie", "wrong_in_ties", "check_web", "check_set", "check_posts", "check_kind", "check_place", "check_number", "_law_well", "_law_draw", "_law_of", "_law_shuffled", "_law_same", "_law_words", "_law_own", "_law_names", "_law_web", "_law_near", "_law_all_sets"]
def loose1 : List Str := ["_law_some", "_law_parts_of", "_law_sees", "_law_tied_posts", "_law_ill_watched", "_law_is_of_kind", "_law_kinds", "_law_of_kind", "_law_case", "_law_cased", "_law_right", "WatchError", "InvalidNumber", "InvalidSet", "InvalidWord", "UnknownPlace", "NotAWeb", "InvalidPlaces", "InvalidTies", "Web", "Case", "LETTERS", "MOST_LETTERS", "WORDS", "MOST_PLACES", "NEAR", "OPEN", "APART", "JOINED", "ONCE"]
def loose2 : List Str := ["DOUBLE", "KINDS", "MOST_NUMBER"]
def loose : List Str := loose0 ++ loose1 ++ loose2
def tv_KINDS : List He.Dv := ([("near" : Str), ("open" : Str), ("apart" : Str), ("joined" : Str), ("once" : Str), ("double" : Str)] : List Str).map He.Dv.str
def tv_WORDS : List He.Dv := ([("all" : Str), ("alone" : Str), ("apart" : Str), ("beside" : Str), ("burn" : Str), ("case" : Str), ("cut" : Str), ("double" : Str), ("fire" : Str), ("game" : Str), ("guard" : Str), ("in" : Str), ("joined" : Str), ("lost" : Str), ("near" : Str), ("next" : Str), ("no" : Str), ("none" : Str), ("of" : Str), ("once" : Str), ("open" : Str), ("out" : Str), ("place" : Str), ("post" : Str), ("posts" : Str), ("quit" : Str), ("rule" : Str), ("safe" : Str), ("set" : Str), ("sets" : Str), ("step" : Str), ("take" : Str), ("tie" : Str), ("undo" : Str), ("watch" : Str), ("watched" : Str), ("web" : Str), ("yes" : Str)] : List Str).map He.Dv.str
def ex0 (K : PySem.W.Frag) : Bool := He.tupB K "KINDS" tv_KINDS
def ex1 (K : PySem.W.Frag) : Bool := He.tupB K "WORDS" tv_WORDS
def ex2 (K : PySem.W.Frag) : Bool := He.eqO (PySem.W.findIn K (.ref (He.ga K "Case")) "__eq__") (some (some (.ref (He.fAd K ("Case", some "__eq__")))))
def ex3 (K : PySem.W.Frag) : Bool := PySem.W.isFn K (.ref (He.fAd K ("Case", some "__eq__")))
def ex4 (K : PySem.W.Frag) : Bool := He.eqO (PySem.W.findIn K (.ref (He.ga K "Web")) "__eq__") (some (some (.ref (He.fAd K ("Web", some "__eq__")))))
def ex5 (K : PySem.W.Frag) : Bool := PySem.W.isFn K (.ref (He.fAd K ("Web", some "__eq__")))
def ex6 (K : PySem.W.Frag) : Bool := He.eqO (PySem.W.findIn K (.ref (He.ga K "Web")) "__ne__") (some (some (.builtin "object.__ne__")))
def ex7 (K : PySem.W.Frag) : Bool := decide (PySem.W.mroIn K (He.ga K "Web") (.type "object") = some true)
def ex8 (K : PySem.W.Frag) : Bool := He.eqO (PySem.W.findIn K (.ref (He.ga K "Case")) "__ne__") (some (some (.builtin "object.__ne__")))
def ex9 (K : PySem.W.Frag) : Bool := decide (PySem.W.mroIn K (He.ga K "Case") (.type "object") = some true)
def ex10 (K : PySem.W.Frag) : Bool := He.eqO (PySem.W.findIn K (.ref (He.ga K "Case")) "__bool__") (some none)
def ex11 (K : PySem.W.Frag) : Bool := He.eqO (PySem.W.findIn K (.ref (He.ga K "Case")) "__len__") (some none)
def ex12 (K : PySem.W.Frag) : Bool := He.eqO (PySem.W.findIn K (.ref (He.ga K "Case")) "__class__") (some (some (.builtin "object.__class__")))
def ex13 (K : PySem.W.Frag) : Bool := decide (PySem.W.mroIn K (He.ga K "Case") (.type "object") = some true)
def ex14 (K : PySem.W.Frag) : Bool := He.eqO (PySem.W.findIn K (.ref (He.ga K "Web")) "__class__") (some (some (.builtin "object.__class__")))
def ex15 (K : PySem.W.Frag) : Bool := decide (PySem.W.mroIn K (He.ga K "Web") (.type "object") = some true)
def ex16 (K : PySem.W.Frag) : Bool := He.eqO (PySem.W.specialIn K (.builtin "object.__class__") "__get__") (some (some (.builtin "getset_descriptor.__get__")))
def ex17 (K : PySem.W.Frag) : Bool := decide (PySem.W.takesIn K (.builtin "object.__class__") = some true)
def ex18 (K : PySem.W.Frag) : Bool := decide (PySem.W.kitOne K (.ref (He.ga K "Web")) (.ref (He.ga K "Web")) = some true)
def ex19 (K : PySem.W.Frag) : Bool := decide (PySem.W.kitOne K (.ref (He.ga K "Case")) (.ref (He.ga K "Case")) = some true)
def ex20 (K : PySem.W.Frag) : Bool := decide ((tf.map fun p => (He.cT K p).2).Nodup)
def exs : List (PySem.W.Frag → Bool) := [ex0, ex1, ex2, ex3, ex4, ex5, ex6, ex7, ex8, ex9, ex10, ex11, ex12, ex13, ex14, ex15, ex16, ex17, ex18, ex19, ex20]
def ex (K : PySem.W.Frag) : Bool := exs.all fun f => f K
abbrev R : PySem.W.OpenRow := PySem.W.OpenLaw.row PySem.Challenge.rw_watchposts_k85_whole_cases_made
abbrev hk : PySem.W.Hook := hookP 7 fa fn tf gs ex
def ob (s : PySem.W.SharedT) : AlP := obsP 7 fa fn tf gs ex (HandSHeadRun.getT s)
theorem ob_eq (s : PySem.W.SharedT) : ob s = hk.obs s.abs := obsP_eq (HandSHeadRun.getT_eq s)
theorem run (w : World) : HandSHeadRun.RunEq R (PySem.W.view R.prog [69]) hk ob 9000 loose w := by
  intro os
  kernel_rfl
end K85
set_option autoImplicit false
set_option maxRecDepth 100000
set_option maxHeartbeats 4000000
/-! MW: what a mirror answers, by weakest preconditions. -/
namespace MM
open PySem PySem.Spec L2
def wp {α : Type} (m : Mo α) (st : List Ob) (Q : α → List Ob → Prop) : Prop := ∃ a st', m st = some (a, st') ∧ Q a st'
section
variable {α β : Type} {st : List Ob} {Q R : α → List Ob → Prop}
@[simp] theorem wp_pure {a : α} : wp (Mo.pure a) st Q ↔ Q a st := ⟨fun ⟨_, _, e, q⟩ => (by cases e; exact q), fun q => ⟨a, st, rfl, q⟩⟩
@[simp] theorem wp_fail : wp (Mo.fail : Mo α) st Q ↔ False := ⟨fun ⟨_, _, e, _⟩ => (by cases e), fun h => False.elim h⟩
theorem wp_mono {m : Mo α} (h : wp m st Q) (hq : ∀ a s, Q a s → R a s) : wp m st R := let ⟨a, s, e, q⟩ := h; ⟨a, s, e, hq a s q⟩
@[simp] theorem wp_bind {m : Mo α} {f : α → Mo β} {Q : β → List Ob → Prop} : wp (m.bind f) st Q ↔ wp m st fun a s => wp (f a) s Q := by
  constructor
  · rintro ⟨b, s, e, q⟩
    obtain ⟨a, s1, e1, e2⟩ := Mo.bind_some e
    exact ⟨a, s1, e1, b, s, e2, q⟩
  · rintro ⟨a, s1, e1, b, s, e2, q⟩
    exact ⟨b, s, by unfold Mo.bind; rw [e1]; exact e2, q⟩
theorem wp_def {m : Mo α} : wp m st Q ↔ match m st with | some (a, s) => Q a s | none => False := by
  unfold wp
  cases e : m st with
  | none => simp
  | some p =>
    obtain ⟨a, s⟩ := p
    constructor
    · rintro ⟨a', s', e', q⟩
      cases e'
      exact q
    · intro q
      exact ⟨a, s, rfl, q⟩
@[simp] theorem wp_opt {f : List Ob → Option α} : wp (fun st => (f st).map fun d => (d, st)) st Q ↔ match f st with | some d => Q d st | none => False := by
  rw [wp_def]
  cases f st <;> rfl
theorem wp_ite {c : Prop} [Decidable c] {m n : Mo α} : wp (if c then m else n) st Q ↔ if c then wp m st Q else wp n st Q := by split <;> rfl
theorem wp_ite_pos {c : Prop} [Decidable c] {m n : Mo α} (h : c) : wp (if c then m else n) st Q ↔ wp m st Q := by rw [if_pos h]
end
section
variable {st : List Ob} {ρ : Ev}
variable {Q : D → List Ob → Prop} {QL : List D → List Ob → Prop} {QB : Bool → List Ob → Prop} {QO : Out → List Ob → Prop} {QE : Ev → List Ob → Prop}
@[simp] theorem wp_var {i : Nat} : wp (xVar i ρ) st Q ↔ match ρ[i]? with | some (some (.d x)) => Q x st | _ => False := by
  rw [wp_def]
  unfold xVar
  rcases ρ[i]? with _ | (_ | (x | _)) <;> simp
@[simp] theorem wp_c {d : D} : wp (xC d ρ) st Q ↔ Q d st := wp_pure
@[simp] theorem wp_lift2 {f : D → D → Option D} {x y : D} : wp (lift2 f x y) st Q ↔ match f x y with | some d => Q d st | none => False := by
  rw [wp_def]
  unfold lift2
  cases f x y <;> rfl
@[simp] theorem wp_xBin {f : D → D → Mo D} {ma mb : Ev → Mo D} : wp (xBin f ma mb ρ) st Q ↔ wp (ma ρ) st fun x s => wp (mb ρ) s fun y s' => wp (f x y) s' Q := by simp [xBin]
def isB (Q : Bool → List Ob → Prop) : D → List Ob → Prop := fun d s => match d with
  | .bl b => Q b s
  | _ => False
@[simp] theorem isB_bl {b : Bool} : isB QB (.bl b) st ↔ QB b st := Iff.rfl
@[simp] theorem wp_asB {m : Ev → Mo D} : wp (asB m ρ) st QB ↔ wp (m ρ) st (isB QB) := by
  unfold asB
  rw [wp_bind]
  have : (fun a s => wp (match a with | .bl b => Mo.pure b | _ => Mo.fail) s QB) = isB QB := by
    funext a s
    cases a <;> simp [isB]
  exact Iff.of_eq (congrArg (wp (m ρ) st) this)
@[simp] theorem wp_xAndB {ma mb : Ev → Mo Bool} : wp (xAndB ma mb ρ) st QB ↔ wp (ma ρ) st fun b s => if b = true then wp (mb ρ) s QB else QB false s := by simp [xAndB, wp_ite]
@[simp] theorem wp_xOrB {ma mb : Ev → Mo Bool} : wp (xOrB ma mb ρ) st QB ↔ wp (ma ρ) st fun b s => if b = true then QB true s else wp (mb ρ) s QB := by simp [xOrB, wp_ite]
@[simp] theorem wp_xNotB {ma : Ev → Mo Bool} : wp (xNotB ma ρ) st QB ↔ wp (ma ρ) st fun b s => QB (!b) s := by simp [xNotB]
@[simp] theorem wp_xAnd {ma mb : Ev → Mo D} : wp (xAnd ma mb ρ) st Q ↔ wp (ma ρ) st (isB fun b s => if b = true then wp (mb ρ) s Q else Q (.bl false) s) := by simp [xAnd, wp_ite]
@[simp] theorem wp_xOr {ma mb : Ev → Mo D} : wp (xOr ma mb ρ) st Q ↔ wp (ma ρ) st (isB fun b s => if b = true then Q (.bl true) s else wp (mb ρ) s Q) := by simp [xOr, wp_ite]
@[simp] theorem wp_xNot {ma : Ev → Mo D} : wp (xNot ma ρ) st Q ↔ wp (ma ρ) st (isB fun b s => Q (.bl (!b)) s) := by simp [xNot]
@[simp] theorem wp_xIf {mc : Ev → Mo Bool} {ma mb : Ev → Mo D} : wp (xIf mc ma mb ρ) st Q ↔ wp (mc ρ) st fun b s => if b = true then wp (ma ρ) s Q else wp (mb ρ) s Q := by simp [xIf, wp_ite]
@[simp] theorem wp_xNil : wp (xNil ρ) st QL ↔ QL [] st := wp_pure
@[simp] theorem wp_xCons {ma : Ev → Mo D} {mr : Ev → Mo (List D)} : wp (xCons ma mr ρ) st QL ↔ wp (ma ρ) st fun x s => wp (mr ρ) s fun xs s' => QL (x :: xs) s' := by simp [xCons]
@[simp] theorem wp_xTup {m : Ev → Mo (List D)} : wp (xTup m ρ) st Q ↔ wp (m ρ) st fun xs s => xs.length ≤ 1000000 ∧ Q (.tup xs) s := by
  simp only [xTup, wp_bind, wp_ite, wp_pure, wp_fail]
  constructor <;> (intro h; refine wp_mono h fun a s q => ?_)
  · split at q
    · exact ⟨by assumption, q⟩
    · exact q.elim
  · rw [if_pos q.1]; exact q.2
@[simp] theorem wp_xLst {m : Ev → Mo (List D)} : wp (xLst m ρ) st Q ↔ wp (m ρ) st fun xs s => xs.length ≤ 1000000 ∧ Q (.lst xs) s := by
  simp only [xLst, wp_bind, wp_ite, wp_pure, wp_fail]
  constructor <;> (intro h; refine wp_mono h fun a s q => ?_)
  · split at q
    · exact ⟨by assumption, q⟩
    · exact q.elim
  · rw [if_pos q.1]; exact q.2
@[simp] theorem wp_xLstM {m : Ev → Mo (List D)} : wp (xLstM m ρ) st Q ↔ wp (m ρ) st fun xs s => xs.length ≤ 1000000 ∧ Q (.loc s.length) (s ++ [.lst xs]) := by
  simp only [xLstM, wp_bind]
  constructor <;> (intro h; refine wp_mono h fun a s q => ?_)
  · rw [wp_def] at q
    split at q
    · rename_i h1
      split at h1
      · rename_i hl
        cases h1
        exact ⟨hl, q⟩
      · cases h1
    · exact q.elim
  · rw [wp_def]
    simp [q.1, q.2]
@[simp] theorem wp_xStar {m : Ev → Mo D} {mr : Ev → Mo (List D)} : wp (xStar m mr ρ) st QL ↔ wp (m ρ) st fun x s => match seqItems s x with | some ds => wp (mr ρ) s fun xs s' => QL (ds ++ xs) s' | none => False := by
  simp only [xStar, wp_bind]
  constructor <;> (intro h; refine wp_mono h fun a s q => ?_)
  · cases e : seqItems s a with
    | none => rw [wp_def] at q; simp [e] at q
    | some ds =>
      have q2 : wp ((mr ρ).bind fun xs => Mo.pure (ds ++ xs)) s QL := by
        rw [wp_def] at q ⊢
        simpa [e] using q
      simpa using q2
  · cases e : seqItems s a with
    | none => rw [e] at q; exact q.elim
    | some ds =>
      rw [e] at q
      have q2 : wp ((mr ρ).bind fun xs => Mo.pure (ds ++ xs)) s QL := by simpa using q
      rw [wp_def] at q2 ⊢
      simpa [e] using q2
@[simp] theorem wp_xChain {m1 m2 : D → D → Mo D} {ma mb mc : Ev → Mo D} : wp (xChain m1 m2 ma mb mc ρ) st Q ↔ wp (ma ρ) st fun x s => wp (mb ρ) s fun y s' => wp (m1 x y) s' (isB fun k s2 => if k = true then wp (mc ρ) s2 fun z s3 => wp (m2 y z) s3 Q else Q (.bl false) s2) := by
  simp only [xChain, wp_bind]
  have : ∀ y : D, (fun (a : D) s => wp (match a with | .bl k => if k = true then (mc ρ).bind fun z => m2 y z else Mo.pure (.bl false) | _ => Mo.fail) s Q) = isB fun k s2 => if k = true then wp (mc ρ) s2 fun z s3 => wp (m2 y z) s3 Q else Q (.bl false) s2 := fun y => by
    funext a s
    cases a <;> simp [isB, wp_ite]
  constructor <;> (intro h; refine wp_mono h fun x s q => ?_) <;> refine wp_mono q fun y s q => ?_ <;> refine wp_mono q fun z s q => ?_ <;> (cases z <;> simp_all [isB, wp_ite])
@[simp] theorem wp_xCall {md : List D → Mo D} {ml : Ev → Mo (List D)} : wp (xCall md ml ρ) st Q ↔ wp (ml ρ) st fun ds s => wp (md ds) s Q := by simp [xCall]
@[simp] theorem wp_liftL {f : List Ob → List D → Option D} {ds : List D} : wp (liftL f ds) st Q ↔ match f st ds with | some d => Q d st | none => False := by
  rw [wp_def]
  unfold liftL
  cases f st ds <;> rfl
@[simp] theorem wp_xFn {n : Nat} {md : List A → Mo D} {ml : Ev → Mo (List D)} : wp (xFn n md ml ρ) st Q ↔ wp (ml ρ) st fun ds s => ds.length = n ∧ wp (md (ds.map .d)) s Q := by
  simp only [xFn, wp_bind, wp_ite, wp_fail]
  constructor <;> (intro h; refine wp_mono h fun a s q => ?_)
  · split at q
    · exact ⟨by assumption, q⟩
    · exact q.elim
  · rw [if_pos q.1]; exact q.2
@[simp] theorem wp_mIx {x y : D} : wp (mIx x y) st Q ↔ match dIx st x y with | some d => Q d st | none => False := by
  rw [wp_def]
  unfold mIx
  cases dIx st x y <;> rfl
@[simp] theorem wp_mGetD {x y : D} : wp (mGetD x y) st Q ↔ match dGetD st x y with | some d => Q d st | none => False := by
  rw [wp_def]
  unfold mGetD
  cases dGetD st x y <;> rfl
@[simp] theorem wp_mIn {x y : D} : wp (mIn x y) st Q ↔ match inB st x y with | some b => Q (.bl b) st | none => False := by
  rw [wp_def]
  unfold mIn
  cases inB st x y <;> rfl
@[simp] theorem wp_mNotIn {x y : D} : wp (mNotIn x y) st Q ↔ match inB st x y with | some b => Q (.bl (!b)) st | none => False := by
  rw [wp_def]
  unfold mNotIn
  cases inB st x y <;> rfl
@[simp] theorem wp_mEq {x y : D} : wp (mEq x y) st Q ↔ (okD (res st x) = true ∧ okD (res st y) = true) ∧ Q (.bl (PyData.eqv (toPy (res st x)) (toPy (res st y)))) st := by
  rw [wp_def]
  unfold mEq
  by_cases h : okD (res st x) = true ∧ okD (res st y) = true
  · simp [h]
  · simp [h]
@[simp] theorem wp_mNe {x y : D} : wp (mNe x y) st Q ↔ (okD (res st x) = true ∧ okD (res st y) = true) ∧ Q (.bl (!PyData.eqv (toPy (res st x)) (toPy (res st y)))) st := by
  rw [wp_def]
  unfold mNe
  by_cases h : okD (res st x) = true ∧ okD (res st y) = true
  · simp [h]
  · simp [h]
@[simp] theorem wp_xNeg {m : Ev → Mo D} : wp (xNeg m ρ) st Q ↔ wp (m ρ) st fun x s => match dNeg x with | some d => Q d s | none => False := by
  simp only [xNeg, wp_bind]
  constructor <;> (intro h; refine wp_mono h fun x s q => ?_) <;> (rw [wp_def] at *; cases e : dNeg x <;> simp_all)
@[simp] theorem wp_oNone {R : Option Int → List Ob → Prop} : wp (oNone ρ) st R ↔ R none st := wp_pure
@[simp] theorem wp_oSome {m : Ev → Mo D} {R : Option Int → List Ob → Prop} : wp (oSome m ρ) st R ↔ wp (m ρ) st fun d s => match d with | .int i => R (some i) s | _ => False := by
  simp only [oSome, wp_bind]
  constructor <;> (intro h; refine wp_mono h fun x s q => ?_) <;> (cases x <;> simp_all)
@[simp] theorem wp_xSlice {m : Ev → Mo D} {ml mh : Ev → Mo (Option Int)} : wp (xSlice m ml mh ρ) st Q ↔ wp (m ρ) st fun x s => wp (ml ρ) s fun lo s1 => wp (mh ρ) s1 fun hi s2 => match dSlice s2 x lo hi with | some d => Q d s2 | none => False := by
  simp only [xSlice, wp_bind]
  constructor <;> (intro h; refine wp_mono h fun x s q => ?_) <;> refine wp_mono q fun y s q => ?_ <;> refine wp_mono q fun z s q => ?_ <;> (rw [wp_def] at *; cases e : dSlice s x y z <;> simp_all)
/-! statements -/
@[simp] theorem wp_yNil : wp (yNil ρ) st QO ↔ QO (.nx ρ) st := wp_pure
def onNx (f : Ev → List Ob → Prop) (QO : Out → List Ob → Prop) : Out → List Ob → Prop := fun o s => match o with
  | .nx ρ => f ρ s
  | o => QO o s
@[simp] theorem onNx_nx {f : Ev → List Ob → Prop} : onNx f QO (.nx ρ) st ↔ f ρ st := Iff.rfl
@[simp] theorem onNx_rt {f : Ev → List Ob → Prop} {d : D} : onNx f QO (.rt d) st ↔ QO (.rt d) st := Iff.rfl
@[simp] theorem onNx_bk {f : Ev → List Ob → Prop} : onNx f QO (.bk ρ) st ↔ QO (.bk ρ) st := Iff.rfl
@[simp] theorem onNx_ct {f : Ev → List Ob → Prop} : onNx f QO (.ct ρ) st ↔ QO (.ct ρ) st := Iff.rfl
@[simp] theorem wp_ySeq {m n : Ev → Mo Out} : wp (ySeq m n ρ) st QO ↔ wp (m ρ) st (onNx (fun ρ' s => wp (n ρ') s QO) QO) := by
  simp only [ySeq, wp_bind]
  have : (fun (o : Out) s => wp (match o with | .nx ρ' => n ρ' | o => Mo.pure o) s QO) = onNx (fun ρ' s => wp (n ρ') s QO) QO := by
    funext o s
    cases o <;> simp [onNx]
  exact Iff.of_eq (congrArg (wp (m ρ) st) this)
@[simp] theorem wp_yRet {m : Ev → Mo D} : wp (yRet m ρ) st QO ↔ wp (m ρ) st fun d s => QO (.rt d) s := by simp [yRet]
@[simp] theorem wp_yDrop {m : Ev → Mo D} : wp (yDrop m ρ) st QO ↔ wp (m ρ) st fun _ s => QO (.nx ρ) s := by simp [yDrop]
@[simp] theorem wp_yIf {c : Ev → Mo Bool} {m n : Ev → Mo Out} : wp (yIf c m n ρ) st QO ↔ wp (c ρ) st fun b s => if b = true then wp (m ρ) s QO else wp (n ρ) s QO := by simp [yIf, wp_ite]
@[simp] theorem wp_yNever : wp (yNever ρ) st QO ↔ False := wp_fail
@[simp] theorem wp_ySet {i : Nat} {m : Ev → Mo D} : wp (ySet i m ρ) st QO ↔ wp (m ρ) st fun d s => QO (.nx (ρ.set i (some (.d d)))) s := by simp [ySet]
@[simp] theorem wp_yAsg {m : Ev → Mo D} {gm : Ev → D → Mo Ev} : wp (yAsg m gm ρ) st QO ↔ wp (m ρ) st fun d s => wp (gm ρ d) s fun ρ' s' => QO (.nx ρ') s' := by simp [yAsg]
@[simp] theorem wp_zName {i : Nat} {d : D} : wp (zName i ρ d) st QE ↔ QE (ρ.set i (some (.d d))) st := wp_pure
@[simp] theorem wp_zNil : wp (zNil ρ []) st QE ↔ QE ρ st := wp_pure
@[simp] theorem wp_zCons {a : Ev → D → Mo Ev} {b : Ev → List D → Mo Ev} {d : D} {r : List D} : wp (zCons a b ρ (d :: r)) st QE ↔ wp (a ρ d) st fun ρ1 s => wp (b ρ1 r) s QE := by simp [zCons]
@[simp] theorem wp_zTup {b : Ev → List D → Mo Ev} {ds : List D} : wp (zTup b ρ (.tup ds)) st QE ↔ wp (b ρ ds) st QE := by simp [zTup]
@[simp] theorem wp_zSub {mo mi : Ev → Mo D} {v : D} : wp (zSub mo mi ρ v) st QE ↔ wp (mo ρ) st fun o s => wp (mi ρ) s fun i s1 => wp (setLoc o i v) s1 fun _ s2 => QE ρ s2 := by simp [zSub]
@[simp] theorem wp_setLoc {n : Nat} {k : Int} {v : D} {R : Unit → List Ob → Prop} : wp (setLoc (.loc n) (.int k) v) st R ↔ match st[n]? with | some (.lst ds) => (match ixN ds.length k with | some j => R () (st.set n (.lst (ds.set j v))) | none => False) | _ => False := by
  rw [wp_def]
  have h : setLoc (.loc n) (.int k) v st = match st[n]? with | some (.lst ds) => (ixN ds.length k).map fun j => ((), st.set n (.lst (ds.set j v))) | _ => none := rfl
  rw [h]
  rcases st[n]? with _ | (ds | _ | _)
  · exact Iff.rfl
  · dsimp only
    generalize ixN ds.length k = z
    cases z <;> simp
  · exact Iff.rfl
  · exact Iff.rfl
@[simp] theorem wp_yPar {i j : Nat} {m : Ev → Mo (List D)} : wp (yPar i j m ρ) st QO ↔ wp (m ρ) st fun ds s => match ds with | [a, b] => QO (.nx ((ρ.set i (some (.d a))).set j (some (.d b)))) s | _ => False := by
  simp only [yPar, wp_bind]
  constructor <;> (intro h; refine wp_mono h fun a s q => ?_) <;> (split at q <;> simp_all)
@[simp] theorem wp_yPar3 {i j l : Nat} {m : Ev → Mo (List D)} : wp (yPar3 i j l m ρ) st QO ↔ wp (m ρ) st fun ds s => match ds with | [a, b, c] => QO (.nx (((ρ.set i (some (.d a))).set j (some (.d b))).set l (some (.d c)))) s | _ => False := by
  simp only [yPar3, wp_bind]
  constructor <;> (intro h; refine wp_mono h fun a s q => ?_) <;> (split at q <;> simp_all)
@[simp] theorem wp_runF {n : Nat} {m : Ev → Mo Out} {as : List A} : wp (runF n m as) st Q ↔ wp (m (startE n as)) st fun o s => match o with | .rt d => Q d s | .nx _ => Q .non s | _ => False := by
  simp only [runF, wp_bind]
  constructor <;> (intro h; refine wp_mono h fun o s q => ?_) <;> (cases o <;> simp_all [endD])
end
end MM
set_option autoImplicit false
set_option maxRecDepth 100000
set_option maxHeartbeats 4000000
/-! MW2: loops, comprehensions, freezing, methods, instances. -/
namespace MM
open PySem PySem.Spec L2
section
variable {st : List Ob} {ρ : Ev}
variable {Q : D → List Ob → Prop} {QL : List D → List Ob → Prop} {QB : Bool → List Ob → Prop} {QO : Out → List Ob → Prop} {QE : Ev → List Ob → Prop}
/-! walks -/
@[simp] theorem wp_itemsT {m : Ev → Mo D} : wp (itemsT m ρ) st QL ↔ wp (m ρ) st fun d s => match d with | .tup ds => QL ds s | _ => False := by
  simp only [itemsT, wp_bind]
  constructor <;> (intro h; refine wp_mono h fun d s q => ?_) <;> (cases d <;> simp_all)
@[simp] theorem wp_itemsL {m : Ev → Mo D} : wp (itemsL m ρ) st QL ↔ wp (m ρ) st fun d s => match d with | .lst ds => QL ds s | .ro ds => QL ds s | _ => False := by
  simp only [itemsL, wp_bind]
  constructor <;> (intro h; refine wp_mono h fun d s q => ?_) <;> (cases d <;> simp_all)
@[simp] theorem wp_itemsS {m : Ev → Mo D} : wp (itemsS m ρ) st QL ↔ wp (m ρ) st fun d s => match d with | .str x => QL (x.cps.toList.map fun c => .str ⟨#[c]⟩) s | _ => False := by
  simp only [itemsS, wp_bind]
  constructor <;> (intro h; refine wp_mono h fun d s q => ?_) <;> (cases d <;> simp_all)
@[simp] theorem wp_itemsET {m : Ev → Mo D} : wp (itemsET m ρ) st QL ↔ wp (m ρ) st fun d s => match d with | .tup ds => QL (enumD 0 ds) s | _ => False := by
  simp only [itemsET, wp_bind]
  constructor <;> (intro h; refine wp_mono h fun d s q => ?_) <;> (cases d <;> simp_all)
theorem wp_itemsR1 {m : Ev → Mo (List D)} : wp (itemsR1 m ρ) st QL ↔ wp (m ρ) st fun ds s => match ds with | [.int j] => (-(2 ^ 62) ≤ j ∧ j < 2 ^ 62) ∧ QL (rangeD 0 j.toNat) s | _ => False := by
  simp only [itemsR1, wp_bind]
  constructor <;> (intro h; refine wp_mono h fun ds s q => ?_)
  · split at q
    · rw [wp_ite] at q
      split at q
      · rename_i hj
        exact ⟨hj, wp_pure.mp q⟩
      · exact (wp_fail.mp q).elim
    · exact (wp_fail.mp q).elim
  · split at q
    · rw [wp_ite, if_pos q.1]
      exact wp_pure.mpr q.2
    · exact q.elim
theorem wp_forM {gm : Ev → D → Mo Ev} {mb : Ev → Mo Out} {items : List D} (I : Nat → Ev → List Ob → Prop) (h0 : I 0 ρ st)
    (hs : ∀ (i : Nat) (h : i < items.length) (ρ : Ev) (st : List Ob), I i ρ st → wp (gm ρ items[i]) st fun ρ1 s1 => wp (mb ρ1) s1 fun o s2 => match o with
      | .nx ρ2 => I (i + 1) ρ2 s2
      | .ct ρ2 => I (i + 1) ρ2 s2
      | .bk ρ2 => QO (.nx ρ2) s2
      | .rt d => QO (.rt d) s2)
    (he : ∀ (ρ : Ev) (st : List Ob), I items.length ρ st → QO (.nx ρ) st) : wp (forM gm mb items ρ) st QO := by
  have core : ∀ (k i : Nat) (ρ : Ev) (st : List Ob), items.length - i = k → i ≤ items.length → I i ρ st → wp (forM gm mb (items.drop i) ρ) st QO := by
    intro k
    induction k with
    | zero =>
      intro i ρ st hk hi hI
      have e : i = items.length := by omega
      subst e
      rw [List.drop_length]
      exact wp_pure.mpr (he ρ st hI)
    | succ k ih =>
      intro i ρ st hk hi hI
      have hlt : i < items.length := by omega
      rw [List.drop_eq_getElem_cons hlt]
      unfold forM
      rw [wp_bind]
      refine wp_mono (hs i hlt ρ st hI) fun ρ1 s1 q => ?_
      rw [wp_bind]
      refine wp_mono q fun o s2 q => ?_
      cases o with
      | nx ρ2 => exact ih (i + 1) ρ2 s2 (by omega) (by omega) q
      | ct ρ2 => exact ih (i + 1) ρ2 s2 (by omega) (by omega) q
      | bk ρ2 => exact wp_pure.mpr q
      | rt d => exact wp_pure.mpr q
  have := core items.length 0 ρ st (by omega) (by omega) h0
  rwa [List.drop_zero] at this
@[simp] theorem wp_yFor {mi : Ev → Mo (List D)} {gm : Ev → D → Mo Ev} {mb : Ev → Mo Out} : wp (yFor mi gm mb ρ) st QO ↔ wp (mi ρ) st fun items s => wp (forM gm mb items ρ) s QO := by simp [yFor]
theorem wp_compM {gm : Ev → D → Mo Ev} {mt : Ev → Mo Bool} {me : Ev → Mo D} {items : List D} (I : Nat → List D → List Ob → Prop) (h0 : I 0 [] st)
    (hs : ∀ (i : Nat) (h : i < items.length) (acc : List D) (st : List Ob), I i acc st → wp (gm ρ items[i]) st fun ρ1 s1 => wp (mt ρ1) s1 fun b s2 => if b = true then wp (me ρ1) s2 fun y s3 => I (i + 1) (acc ++ [y]) s3 else I (i + 1) acc s2)
    (he : ∀ (acc : List D) (st : List Ob), I items.length acc st → QL acc st) : wp (compM gm mt me items ρ) st QL := by
  have core : ∀ (k i : Nat) (acc : List D) (st : List Ob), items.length - i = k → i ≤ items.length → I i acc st → wp (compM gm mt me (items.drop i) ρ) st fun ds s => QL (acc ++ ds) s := by
    intro k
    induction k with
    | zero =>
      intro i acc st hk hi hI
      have e : i = items.length := by omega
      subst e
      rw [List.drop_length]
      refine wp_pure.mpr ?_
      rw [List.append_nil]
      exact he acc st hI
    | succ k ih =>
      intro i acc st hk hi hI
      have hlt : i < items.length := by omega
      rw [List.drop_eq_getElem_cons hlt]
      unfold compM
      rw [wp_bind]
      refine wp_mono (hs i hlt acc st hI) fun ρ1 s1 q => ?_
      rw [wp_bind]
      refine wp_mono q fun b s2 q => ?_
      rw [wp_ite]
      by_cases hb : b = true
      · rw [if_pos hb] at q ⊢
        rw [wp_bind]
        refine wp_mono q fun y s3 q => ?_
        rw [wp_bind]
        refine wp_mono (ih (i + 1) _ s3 (by omega) (by omega) q) fun ds s4 q => ?_
        refine wp_pure.mpr ?_
        rwa [List.append_assoc] at q
      · rw [if_neg hb] at q ⊢
        exact ih (i + 1) acc s2 (by omega) (by omega) q
  have := core items.length 0 [] st (by omega) (by omega) h0
  rw [List.drop_zero] at this
  exact wp_mono this fun ds s q => q
/-- a comprehension whose parts change nothing -/
theorem wp_compP {gm : Ev → D → Mo Ev} {mt : Ev → Mo Bool} {me : Ev → Mo D} {items : List D} {p : D → Bool} {f : D → D}
    (h : ∀ d ∈ items, wp (gm ρ d) st fun ρ1 s1 => s1 = st ∧ wp (mt ρ1) st fun b s2 => s2 = st ∧ b = p d ∧ (p d = true → wp (me ρ1) st fun y s3 => s3 = st ∧ y = f d)) (hq : QL ((items.filter p).map f) st) : wp (compM gm mt me items ρ) st QL := by
  refine wp_compM (fun i acc s => s = st ∧ acc = ((items.take i).filter p).map f) ⟨rfl, by simp⟩ (fun i hi acc s ⟨e1, e2⟩ => ?_) (fun acc s ⟨e1, e2⟩ => ?_)
  · subst e1
    refine wp_mono (h items[i] (List.getElem_mem hi)) fun ρ1 s1 ⟨e3, q⟩ => ?_
    subst e3
    refine wp_mono q fun b s2 ⟨e4, e5, q⟩ => ?_
    subst e4
    have et : items.take (i + 1) = items.take i ++ [items[i]] := by rw [List.take_succ_eq_append_getElem hi]
    cases hp : p items[i] with
    | true =>
      rw [e5, hp, if_pos rfl]
      refine wp_mono (q hp) fun y s3 ⟨e6, e7⟩ => ⟨e6, ?_⟩
      rw [et, List.filter_append, List.map_append, e2, e7]
      simp [hp]
    | false =>
      rw [e5, hp, if_neg (by decide)]
      refine ⟨rfl, ?_⟩
      rw [et, List.filter_append, e2]
      simp [hp]
  · subst e1
    rw [List.take_length] at e2
    rw [e2]
    exact hq
@[simp] theorem wp_xComp {mi : Ev → Mo (List D)} {vs : List Nat} {gm : Ev → D → Mo Ev} {mt : Ev → Mo Bool} {me : Ev → Mo D} : wp (xComp mi vs gm mt me ρ) st Q ↔ wp (mi ρ) st fun items s => items.length ≤ 1000000 ∧ wp (compM gm mt me items (wipeE ρ vs)) s fun ds s' => Q (.lst ds) s' := by
  simp only [xComp, wp_bind]
  constructor <;> (intro h; refine wp_mono h fun items s q => ?_)
  · rw [wp_ite] at q
    split at q
    · rename_i hl
      refine ⟨hl, ?_⟩
      rw [wp_bind] at q
      exact wp_mono q fun ds s' q => wp_pure.mp q
    · exact (wp_fail.mp q).elim
  · rw [wp_ite, if_pos q.1, wp_bind]
    exact wp_mono q.2 fun ds s' q => wp_pure.mpr q
@[simp] theorem wp_tYes : wp (tYesM ρ) st QB ↔ QB true st := wp_pure
theorem wp_whileM {c : Ev → Mo Bool} {mb : Ev → Mo Out} (I : Nat → Ev → List Ob → Prop)
    (hs : ∀ (k : Nat) (ρ : Ev) (st : List Ob), I k ρ st → wp (c ρ) st fun b s => if b = true then wp (mb ρ) s fun o s2 => match o with
      | .nx ρ2 => ∃ j, j < k ∧ I j ρ2 s2
      | .ct ρ2 => ∃ j, j < k ∧ I j ρ2 s2
      | .bk ρ2 => QO (.nx ρ2) s2
      | .rt d => QO (.rt d) s2
      else QO (.nx ρ) s) : ∀ (n k : Nat) (ρ : Ev) (st : List Ob), k < n → I k ρ st → wp (whileM c mb n ρ) st QO
  | 0, _, _, _, h, _ => absurd h (Nat.not_lt_zero _)
  | n + 1, k, ρ, st, h, hI => by
    unfold whileM
    rw [wp_bind]
    refine wp_mono (hs k ρ st hI) fun b s q => ?_
    rw [wp_ite]
    by_cases hb : b = true
    · rw [if_pos hb] at q ⊢
      rw [wp_bind]
      refine wp_mono q fun o s2 q => ?_
      cases o with
      | nx ρ2 => obtain ⟨j, hj, q⟩ := q; exact wp_whileM I hs n j ρ2 s2 (by omega) q
      | ct ρ2 => obtain ⟨j, hj, q⟩ := q; exact wp_whileM I hs n j ρ2 s2 (by omega) q
      | bk ρ2 => exact wp_pure.mpr q
      | rt d => exact wp_pure.mpr q
    · rw [if_neg hb] at q ⊢
      exact wp_pure.mpr q
@[simp] theorem wp_yWhile {n : Nat} {c : Ev → Mo Bool} {mb : Ev → Mo Out} : wp (yWhile n c mb ρ) st QO ↔ wp (whileM c mb n ρ) st QO := Iff.rfl
/-! freezing -/
theorem wp_frz {k : Nat} {m : Mo D} : wp (frzM k m) st Q ↔ wp m st fun d s => (s.take st.length).all (Ob.lo st.length) = true ∧ match frzD s st.length k d with | some e => Q e (s.take st.length) | none => False := by
  constructor
  · rintro ⟨e, s2, h, q⟩
    obtain ⟨d, s, h1, h2, h3, rfl⟩ := frzM_some h
    exact ⟨d, s, h1, h2, by rw [h3]; exact q⟩
  · rintro ⟨d, s, h1, h2, q⟩
    cases h3 : frzD s st.length k d with
    | none => rw [h3] at q; exact q.elim
    | some e =>
      rw [h3] at q
      refine ⟨e, _, ?_, q⟩
      unfold frzM
      rw [h1]
      simp [h2, h3]
/-! methods -/
@[simp] theorem wp_xMt {T : String} {md : D → List D → Mo D} {mo : Ev → Mo D} {ml : Ev → Mo (List D)} : wp (xMt T md mo ml ρ) st Q ↔ wp (mo ρ) st fun x s => tyD T s x = true ∧ wp (ml ρ) s fun ds s' => wp (md x ds) s' Q := by
  simp only [xMt, wp_bind]
  constructor <;> (intro h; refine wp_mono h fun x s q => ?_)
  · by_cases ht : tyD T s x = true
    · refine ⟨ht, ?_⟩
      rw [← wp_bind]
      rw [wp_def] at q ⊢
      simpa [ht] using q
    · rw [wp_def] at q
      simp [ht] at q
  · obtain ⟨ht, q⟩ := q
    rw [← wp_bind] at q
    rw [wp_def] at q ⊢
    simpa [ht] using q
theorem wp_append {n : Nat} {y : D} {es : List D} (h : st[n]? = some (.lst es)) (hl : es.length ≤ 1000000) (q : Q .non (st.set n (.lst (es ++ [y])))) : wp (mAppend (.loc n) [y]) st Q := by
  rw [wp_def]
  simp [mAppend, h, hl, q]
theorem wp_popAt {n : Nat} {i : Int} {es : List D} {y : D} (h : st[n]? = some (.lst es)) (h0 : 0 ≤ i) (h1 : i < 1000000) (hy : es[i.toNat]? = some y) (q : Q y (st.set n (.lst (es.eraseIdx i.toNat)))) : wp (mPopAt (.loc n) [.int i]) st Q := by
  rw [wp_def]
  simp [mPopAt, h, h0, h1, hy, q]
theorem wp_pop0 {n : Nat} {es : List D} {y : D} (h : st[n]? = some (.lst es)) (hy : es[es.length - 1]? = some y) (q : Q y (st.set n (.lst es.dropLast))) : wp (mPop0 (.loc n) []) st Q := by
  rw [wp_def]
  simp [mPop0, h, hy, q]
/-! instances -/
@[simp] theorem wp_xProp {c : Str} {md : List A → Mo D} {m : Ev → Mo D} : wp (xProp c md m ρ) st Q ↔ wp (m ρ) st fun x s => match insOf s x with | some (c', _, _) => c' = c ∧ wp (md [.d x]) s Q | none => False := by
  simp only [xProp, wp_bind]
  constructor <;> (intro h; refine wp_mono h fun x s q => ?_)
  · rw [wp_def] at q
    rcases e : insOf s x with _ | ⟨c', ns, ds⟩
    · simp [e] at q
    · by_cases hc : c' = c
      · refine ⟨hc, ?_⟩
        rw [wp_def]
        simpa [e, hc] using q
      · simp [e, hc] at q
  · rcases e : insOf s x with _ | ⟨c', ns, ds⟩
    · rw [e] at q; exact q.elim
    · rw [e] at q
      obtain ⟨hc, q⟩ := q
      rw [wp_def] at q ⊢
      simpa [e, hc] using q
@[simp] theorem wp_xFld {c f : Str} {m : Ev → Mo D} : wp (xFld c f m ρ) st Q ↔ wp (m ρ) st fun x s => match dFld c f s x with | some d => Q d s | none => False := by
  simp only [xFld, wp_bind]
  constructor <;> (intro h; refine wp_mono h fun x s q => ?_) <;> (rw [wp_def] at *; cases e : dFld c f s x <;> simp_all)
theorem wp_setF {c f : Str} {mo mv : Ev → Mo D} : wp (ySetF c f mo mv ρ) st QO ↔ wp (mv ρ) st fun v s => wp (mo ρ) s fun o s1 => match o with
    | .loc n => (match s1[n]? with
      | some (.ins c' ns ds) => (c' = c ∧ ns.length < 1000) ∧ QO (.nx ρ) (s1.set n (.ins c (putN f ns) (put1 f v ns ds)))
      | _ => False)
    | _ => False := by
  simp only [ySetF, wp_bind]
  constructor <;> (intro h; refine wp_mono h fun v s q => ?_) <;> refine wp_mono q fun o s1 q => ?_
  · rw [wp_def] at q
    cases o with
    | loc n =>
      rcases e : s1[n]? with _ | (_ | ⟨c', ns, ds⟩ | _) <;> simp [e] at q ⊢
      by_cases hc : c' = c ∧ ns.length < 1000
      · simp [hc] at q
        exact ⟨hc, q⟩
      · simp [hc] at q
    | _ => simp at q
  · cases o with
    | loc n =>
      rcases e : s1[n]? with _ | (_ | ⟨c', ns, ds⟩ | _) <;> simp [e] at q ⊢
      rw [wp_def]
      simp [e, q]
    | _ => exact q.elim
theorem wp_make {c : Str} {n : Nat} {md : List A → Mo D} {ds : List D} : wp (mkM c n md ds) st Q ↔ ds.length = n ∧ wp (md (.d (.loc st.length) :: ds.map .d)) (st ++ [.ins c [] []]) fun d s => match d with | .non => Q (.loc st.length) s | _ => False := by
  rw [wp_def, wp_def]
  unfold mkM
  by_cases hn : ds.length = n
  · simp only [hn, if_true, true_and]
    generalize md (A.d (D.loc st.length) :: List.map A.d ds) (st ++ [Ob.ins c [] []]) = z
    rcases z with _ | ⟨d, s⟩
    · exact Iff.rfl
    · cases d <;> exact Iff.rfl
  · simp [hn]
@[simp] theorem wp_xMake {c : Str} {n : Nat} {md : List A → Mo D} {ml : Ev → Mo (List D)} : wp (xMake c n md ml ρ) st Q ↔ wp (ml ρ) st fun ds s => wp (mkM c n md ds) s Q := by simp [xMake]
@[simp] theorem wp_xMakeK {c : Str} {n m : Nat} {is : List Nat} {md : List A → Mo D} {ml : Ev → Mo (List D)} : wp (xMakeK c n m is md ml ρ) st Q ↔ wp (ml ρ) st fun ds s => ds.length = m ∧ wp (mkM c n md (pick is ds)) s Q := by
  simp only [xMakeK, wp_bind, wp_ite, wp_fail]
  constructor <;> (intro h; refine wp_mono h fun a s q => ?_)
  · split at q
    · exact ⟨by assumption, q⟩
    · exact q.elim
  · rw [if_pos q.1]; exact q.2
theorem wp_eqOwn {c : Str} {md : List A → Mo D} {x y : D} {ns1 ns2 : List Str} {ds1 ds2 : List D} (h1 : insOf st x = some (c, ns1, ds1)) (h2 : insOf st y = some (c, ns2, ds2)) (h : wp (md [.d x, .d y]) st (isB fun b s => Q (.bl b) s)) : wp (mEqOwn c md x y) st Q := by
  obtain ⟨d, s, e, q⟩ := h
  cases d with
  | bl b =>
    rw [wp_def]
    simp [mEqOwn, h1, h2, e]
    exact q
  | _ => exact q.elim
theorem wp_neOwn {c : Str} {md : List A → Mo D} {x y : D} {ns1 ns2 : List Str} {ds1 ds2 : List D} (h1 : insOf st x = some (c, ns1, ds1)) (h2 : insOf st y = some (c, ns2, ds2)) (h : wp (md [.d x, .d y]) st (isB fun b s => Q (.bl (!b)) s)) : wp (mNeOwn c md x y) st Q := by
  obtain ⟨d, s, e, q⟩ := h
  cases d with
  | bl b =>
    rw [wp_def]
    simp [mNeOwn, mEqOwn, h1, h2, e]
    exact q
  | _ => exact q.elim
theorem wp_asIns {c : Str} {m : Ev → Mo D} : wp (asIns c m ρ) st QB ↔ wp (m ρ) st fun x s => match insOf s x with | some (c', _, _) => c' = c ∧ QB true s | none => False := by
  simp only [asIns, wp_bind]
  constructor <;> (intro h; refine wp_mono h fun x s q => ?_)
  · rw [wp_def] at q
    rcases e : insOf s x with _ | ⟨c', ns, ds⟩
    · simp [e] at q
    · by_cases hc : c' = c
      · simp [e, hc] at q
        exact ⟨hc, q⟩
      · simp [e, hc] at q
  · rcases e : insOf s x with _ | ⟨c', ns, ds⟩
    · rw [e] at q; exact q.elim
    · rw [e] at q
      rw [wp_def]
      simp [e, q.1, q.2]
end
end MM
set_option autoImplicit false
set_option maxRecDepth 100000
set_option maxHeartbeats 8000000
namespace K85
open PySem PySem.Spec L2 MM
def S_law_well : List A → Mo D := fun as => runF 5 (m_law_well) as
def S_law_draw : List A → Mo D := fun as => frzM 100 (runF 4 (m_law_draw) as)
def S_law_of : List A → Mo D := fun as => frzM 100 (runF 2 (m_law_of S_law_draw) as)
def S_law_words : List A → Mo D := fun as => frzM 100 (runF 1 (m_law_words) as)
def S_law_own : List A → Mo D := fun as => frzM 100 (runF 0 (m_law_own) as)
def S_law_names : List A → Mo D := fun as => frzM 100 (runF 9 (m_law_names S_law_of S_law_draw S_law_words S_law_own) as)
def S_law_shuffled : List A → Mo D := fun as => frzM 100 (runF 5 (m_law_shuffled S_law_draw) as)
def S_law_web : List A → Mo D := fun as => frzM 100 (runF 8 (m_law_web S_law_names S_law_of S_law_draw S_law_shuffled) as)
def S_law_kinds : List A → Mo D := fun as => frzM 100 (runF 0 (m_law_kinds) as)
def S_law_some : List A → Mo D := fun as => frzM 100 (runF 4 (m_law_some S_law_of S_law_draw) as)
def S_law_near : List A → Mo D := fun as => frzM 100 (runF 5 (m_law_near) as)
def S_law_all_sets : List A → Mo D := fun as => frzM 100 (runF 5 (m_law_all_sets) as)
def S_law_sees : List A → Mo D := fun as => frzM 100 (runF 2 (m_law_sees) as)
def S_law_ill_watched : List A → Mo D := fun as => frzM 100 (runF 9 (m_law_ill_watched S_law_sees) as)
def S_law_tied_posts : List A → Mo D := fun as => frzM 100 (runF 4 (m_law_tied_posts) as)
def S_law_parts_of : List A → Mo D := fun as => frzM 100 (runF 8 (m_law_parts_of) as)
def S_law_is_of_kind : List A → Mo D := fun as => frzM 100 (runF 3 (m_law_is_of_kind S_law_ill_watched S_law_tied_posts S_law_parts_of) as)
def S_law_of_kind : List A → Mo D := fun as => frzM 100 (runF 4 (m_law_of_kind S_law_near S_law_all_sets S_law_is_of_kind) as)
def S_law_case : List A → Mo D := fun as => frzM 100 (runF 6 (m_law_case S_law_web S_law_of S_law_kinds S_law_some S_law_of_kind S_law_draw) as)
def S_check_web : List A → Mo D := fun as => frzM 100 (runF 1 (m_check_web) as)
def S_is_one_of : List A → Mo D := fun as => frzM 100 (runF 2 (m_is_one_of) as)
def S_are_below : List A → Mo D := fun as => frzM 100 (runF 2 (m_are_below) as)
def S_is_set_of_names : List A → Mo D := fun as => frzM 100 (runF 2 (m_is_set_of_names S_is_one_of S_are_below) as)
def S_Web_places : List A → Mo D := fun as => frzM 100 (runF 1 (m_Web_places) as)
def S_check_set : List A → Mo D := fun as => frzM 100 (runF 2 (m_check_set S_is_set_of_names S_Web_places) as)
def S_check_posts : List A → Mo D := fun as => frzM 100 (runF 2 (m_check_posts S_check_web S_check_set) as)
def S_check_kind : List A → Mo D := fun as => frzM 100 (runF 1 (m_check_kind S_is_one_of) as)
def S_is_whole : List A → Mo D := fun as => frzM 100 (runF 1 (m_is_whole) as)
def S_is_between : List A → Mo D := fun as => frzM 100 (runF 3 (m_is_between S_is_whole) as)
def S_check_number : List A → Mo D := fun as => frzM 100 (runF 3 (m_check_number S_is_between) as)
def S_check_place : List A → Mo D := fun as => frzM 100 (runF 2 (m_check_place S_is_one_of S_Web_places) as)
def S_Case_ddinitdd : List A → Mo D := fun as => frzM 100 (runF 7 (m_Case_ddinitdd S_check_posts S_check_kind S_check_number S_check_place) as)
def S_is_word : List A → Mo D := fun as => frzM 100 (runF 2 (m_is_word) as)
def S_is_name : List A → Mo D := fun as => frzM 100 (runF 1 (m_is_name S_is_word) as)
def S_wrong_in_places : List A → Mo D := fun as => frzM 100 (runF 1 (m_wrong_in_places S_is_name S_are_below) as)
def S_is_tuple_of : List A → Mo D := fun as => frzM 100 (runF 2 (m_is_tuple_of) as)
def S_is_pair : List A → Mo D := fun as => frzM 100 (runF 1 (m_is_pair S_is_tuple_of) as)
def S_is_tie : List A → Mo D := fun as => frzM 100 (runF 2 (m_is_tie S_is_pair S_is_one_of) as)
def S_wrong_in_ties : List A → Mo D := fun as => frzM 100 (runF 2 (m_wrong_in_ties S_is_tie S_are_below) as)
def S_Web_ddinitdd : List A → Mo D := fun as => frzM 100 (runF 4 (m_Web_ddinitdd S_wrong_in_places S_wrong_in_ties) as)
def S_law_cased : List A → Mo D := fun as => frzM 100 (runF 1 (m_law_cased S_Case_ddinitdd S_Web_ddinitdd) as)
def S_Web_parts : List A → Mo D := fun as => frzM 100 (runF 1 (m_Web_parts) as)
def S_Web_ddeqdd : List A → Mo D := fun as => frzM 100 (runF 2 (m_Web_ddeqdd S_Web_parts) as)
def S_Case_web : List A → Mo D := fun as => frzM 100 (runF 1 (m_Case_web) as)
def S_law_same : Nat → List A → Mo D
  | 0 => fun _ _ => none
  | n + 1 => fun as => frzM 100 (runF 4 (m_law_same (S_law_same n)) as)
def S_Case_posts : List A → Mo D := fun as => frzM 100 (runF 1 (m_Case_posts) as)
def S_Case_kind : List A → Mo D := fun as => frzM 100 (runF 1 (m_Case_kind) as)
def S_Case_many : List A → Mo D := fun as => frzM 100 (runF 1 (m_Case_many) as)
def S_Case_place : List A → Mo D := fun as => frzM 100 (runF 1 (m_Case_place) as)
def S_Case_beats : List A → Mo D := fun as => frzM 100 (runF 1 (m_Case_beats) as)
def S_Case_parts : List A → Mo D := fun as => frzM 100 (runF 1 (m_Case_parts S_Web_parts) as)
def S_Case_ddeqdd : List A → Mo D := fun as => frzM 100 (runF 2 (m_Case_ddeqdd S_Case_parts) as)
def S_law_right : List A → Mo D := fun as => frzM 100 (runF 8 (m_law_right S_law_case S_law_draw S_law_cased S_Web_ddinitdd S_Case_ddinitdd S_Web_ddeqdd S_Case_web (S_law_same 8) S_Case_posts S_Case_kind S_Case_many S_Case_place S_Case_beats S_Case_parts S_Case_ddeqdd) as)
def S_law : List A → Mo D := fun as => frzM 100 (runF 3 (m_law S_law_well S_law_right) as)
end K85
set_option autoImplicit false
set_option maxRecDepth 100000
set_option maxHeartbeats 8000000
namespace K85
open PySem PySem.Spec PyProof.Rows L2 LamX NdefX MM
def gOf (K : PySem.W.Frag) : G := ⟨He.ga K, [((He.cT K ("is_set_of_names", none)).2, fun _ _ => "is_set_of_names.<locals>.<lambda>"), ((He.cT K ("wrong_in_places", none)).2, fun _ _ => "wrong_in_places.<locals>.<lambda>"), ((He.cT K ("wrong_in_ties", none)).2, fun _ _ => "wrong_in_ties.<locals>.<lambda>")], fun _ _ _ _ => False, fun _ _ _ _ _ h _ => h⟩
structure Hx (K : PySem.W.Frag) (mg : Str → Option Value) (base : Heap) (g : G) : Prop where
  fx : Fx K mg g.ca
  fd_is_whole : ∃ fd, FunD K "is_whole" "is_whole" (defArgs (top 4)) (defBody (top 4)) (defScope (top 4)) [] [] (He.fAd K ("is_whole", none)) fd
  gm_is_whole : mg "is_whole" = some (.ref (He.fAd K ("is_whole", none)))
  fd_is_between : ∃ fd, FunD K "is_between" "is_between" (defArgs (top 5)) (defBody (top 5)) (defScope (top 5)) [] [] (He.fAd K ("is_between", none)) fd
  gm_is_between : mg "is_between" = some (.ref (He.fAd K ("is_between", none)))
  fd_is_one_of : ∃ fd, FunD K "is_one_of" "is_one_of" (defArgs (top 6)) (defBody (top 6)) (defScope (top 6)) [] [] (He.fAd K ("is_one_of", none)) fd
  gm_is_one_of : mg "is_one_of" = some (.ref (He.fAd K ("is_one_of", none)))
  fd_is_word : ∃ fd, FunD K "is_word" "is_word" (defArgs (top 7)) (defBody (top 7)) (defScope (top 7)) [] [] (He.fAd K ("is_word", none)) fd
  gm_is_word : mg "is_word" = some (.ref (He.fAd K ("is_word", none)))
  fd_is_name : ∃ fd, FunD K "is_name" "is_name" (defArgs (top 8)) (defBody (top 8)) (defScope (top 8)) [] [] (He.fAd K ("is_name", none)) fd
  gm_is_name : mg "is_name" = some (.ref (He.fAd K ("is_name", none)))
  fd_is_tuple_of : ∃ fd, FunD K "is_tuple_of" "is_tuple_of" (defArgs (top 9)) (defBody (top 9)) (defScope (top 9)) [] [] (He.fAd K ("is_tuple_of", none)) fd
  gm_is_tuple_of : mg "is_tuple_of" = some (.ref (He.fAd K ("is_tuple_of", none)))
  fd_is_pair : ∃ fd, FunD K "is_pair" "is_pair" (defArgs (top 10)) (defBody (top 10)) (defScope (top 10)) [] [] (He.fAd K ("is_pair", none)) fd
  gm_is_pair : mg "is_pair" = some (.ref (He.fAd K ("is_pair", none)))
  fd_wrong_in : ∃ fd, FunD K "wrong_in" "wrong_in" (defArgs (top 11)) (defBody (top 11)) (defScope (top 11)) [] [] (He.fAd K ("wrong_in", none)) fd
  gm_wrong_in : mg "wrong_in" = some (.ref (He.fAd K ("wrong_in", none)))
  fd_are_below : ∃ fd, FunD K "are_below" "are_below" (defArgs (top 12)) (defBody (top 12)) (defScope (top 12)) [] [] (He.fAd K ("are_below", none)) fd
  gm_are_below : mg "are_below" = some (.ref (He.fAd K ("are_below", none)))
  fd_is_set_of_names : ∃ fd, FunD K "is_set_of_names" "is_set_of_names" (defArgs (top 13)) (defBody (top 13)) (defScope (top 13)) [] [] (He.fAd K ("is_set_of_names", none)) fd
  gm_is_set_of_names : mg "is_set_of_names" = some (.ref (He.fAd K ("is_set_of_names", none)))
  fd_wrong_in_places : ∃ fd, FunD K "wrong_in_places" "wrong_in_places" (defArgs (top 16)) (defBody (top 16)) (defScope (top 16)) [] [] (He.fAd K ("wrong_in_places", none)) fd
  gm_wrong_in_places : mg "wrong_in_places" = some (.ref (He.fAd K ("wrong_in_places", none)))
  fd_is_tie : ∃ fd, FunD K "is_tie" "is_tie" (defArgs (top 17)) (defBody (top 17)) (defScope (top 17)) [] [] (He.fAd K ("is_tie", none)) fd
  gm_is_tie : mg "is_tie" = some (.ref (He.fAd K ("is_tie", none)))
  fd_wrong_in_ties : ∃ fd, FunD K "wrong_in_ties" "wrong_in_ties" (defArgs (top 18)) (defBody (top 18)) (defScope (top 18)) [] [] (He.fAd K ("wrong_in_ties", none)) fd
  gm_wrong_in_ties : mg "wrong_in_ties" = some (.ref (He.fAd K ("wrong_in_ties", none)))
  fd_Web_ddinitdd : ∃ fd, FunD K "__init__" "Web.__init__" (defArgs (inClass (top 36) 0)) (defBody (inClass (top 36) 0)) (defScope (inClass (top 36) 0)) [] [] (He.fAd K ("Web", some "__init__")) fd
  fd_Web_places : ∃ fd, FunD K "places" "Web.places" (defArgs (inClass (top 36) 1)) (defBody (inClass (top 36) 1)) (defScope (inClass (top 36) 1)) [] [] (gAd K "Web" "places") fd
  pp_Web_places : PropOf K (g.ca "Web") "places" (He.ma K (He.ga K "Web") "places") (gAd K "Web" "places")
  fd_Web_ties : ∃ fd, FunD K "ties" "Web.ties" (defArgs (inClass (top 36) 2)) (defBody (inClass (top 36) 2)) (defScope (inClass (top 36) 2)) [] [] (gAd K "Web" "ties") fd
  pp_Web_ties : PropOf K (g.ca "Web") "ties" (He.ma K (He.ga K "Web") "ties") (gAd K "Web" "ties")
  fd_Web_parts : ∃ fd, FunD K "parts" "Web.parts" (defArgs (inClass (top 36) 3)) (defBody (inClass (top 36) 3)) (defScope (inClass (top 36) 3)) [] [] (gAd K "Web" "parts") fd
  pp_Web_parts : PropOf K (g.ca "Web") "parts" (He.ma K (He.ga K "Web") "parts") (gAd K "Web" "parts")
  fd_Web_ddeqdd : ∃ fd, FunD K "__eq__" "Web.__eq__" (defArgs (inClass (top 36) 4)) (defBody (inClass (top 36) 4)) (defScope (inClass (top 36) 4)) [] [] (He.fAd K ("Web", some "__eq__")) fd
  fd_check_web : ∃ fd, FunD K "check_web" "check_web" (defArgs (top 37)) (defBody (top 37)) (defScope (top 37)) [] [] (He.fAd K ("check_web", none)) fd
  gm_check_web : mg "check_web" = some (.ref (He.fAd K ("check_web", none)))
  fd_check_set : ∃ fd, FunD K "check_set" "check_set" (defArgs (top 38)) (defBody (top 38)) (defScope (top 38)) [] [] (He.fAd K ("check_set", none)) fd
  gm_check_set : mg "check_set" = some (.ref (He.fAd K ("check_set", none)))
  fd_check_posts : ∃ fd, FunD K "check_posts" "check_posts" (defArgs (top 39)) (defBody (top 39)) (defScope (top 39)) [] [] (He.fAd K ("check_posts", none)) fd
  gm_check_posts : mg "check_posts" = some (.ref (He.fAd K ("check_posts", none)))
  fd_check_kind : ∃ fd, FunD K "check_kind" "check_kind" (defArgs (top 40)) (defBody (top 40)) (defScope (top 40)) [] [] (He.fAd K ("check_kind", none)) fd
  gm_check_kind : mg "check_kind" = some (.ref (He.fAd K ("check_kind", none)))
  fd_check_place : ∃ fd, FunD K "check_place" "check_place" (defArgs (top 41)) (defBody (top 41)) (defScope (top 41)) [] [] (He.fAd K ("check_place", none)) fd
  gm_check_place : mg "check_place" = some (.ref (He.fAd K ("check_place", none)))
  fd_check_number : ∃ fd, FunD K "check_number" "check_number" (defArgs (top 42)) (defBody (top 42)) (defScope (top 42)) [] [] (He.fAd K ("check_number", none)) fd
  gm_check_number : mg "check_number" = some (.ref (He.fAd K ("check_number", none)))
  fd_Case_ddinitdd : ∃ fd, FunD K "__init__" "Case.__init__" (defArgs (inClass (top 45) 0)) (defBody (inClass (top 45) 0)) (defScope (inClass (top 45) 0)) [] [] (He.fAd K ("Case", some "__init__")) fd
  fd_Case_web : ∃ fd, FunD K "web" "Case.web" (defArgs (inClass (top 45) 1)) (defBody (inClass (top 45) 1)) (defScope (inClass (top 45) 1)) [] [] (gAd K "Case" "web") fd
  pp_Case_web : PropOf K (g.ca "Case") "web" (He.ma K (He.ga K "Case") "web") (gAd K "Case" "web")
  fd_Case_posts : ∃ fd, FunD K "posts" "Case.posts" (defArgs (inClass (top 45) 2)) (defBody (inClass (top 45) 2)) (defScope (inClass (top 45) 2)) [] [] (gAd K "Case" "posts") fd
  pp_Case_posts : PropOf K (g.ca "Case") "posts" (He.ma K (He.ga K "Case") "posts") (gAd K "Case" "posts")
  fd_Case_kind : ∃ fd, FunD K "kind" "Case.kind" (defArgs (inClass (top 45) 3)) (defBody (inClass (top 45) 3)) (defScope (inClass (top 45) 3)) [] [] (gAd K "Case" "kind") fd
  pp_Case_kind : PropOf K (g.ca "Case") "kind" (He.ma K (He.ga K "Case") "kind") (gAd K "Case" "kind")
  fd_Case_many : ∃ fd, FunD K "many" "Case.many" (defArgs (inClass (top 45) 4)) (defBody (inClass (top 45) 4)) (defScope (inClass (top 45) 4)) [] [] (gAd K "Case" "many") fd
  pp_Case_many : PropOf K (g.ca "Case") "many" (He.ma K (He.ga K "Case") "many") (gAd K "Case" "many")
  fd_Case_place : ∃ fd, FunD K "place" "Case.place" (defArgs (inClass (top 45) 5)) (defBody (inClass (top 45) 5)) (defScope (inClass (top 45) 5)) [] [] (gAd K "Case" "place") fd
  pp_Case_place : PropOf K (g.ca "Case") "place" (He.ma K (He.ga K "Case") "place") (gAd K "Case" "place")
  fd_Case_beats : ∃ fd, FunD K "beats" "Case.beats" (defArgs (inClass (top 45) 6)) (defBody (inClass (top 45) 6)) (defScope (inClass (top 45) 6)) [] [] (gAd K "Case" "beats") fd
  pp_Case_beats : PropOf K (g.ca "Case") "beats" (He.ma K (He.ga K "Case") "beats") (gAd K "Case" "beats")
  fd_Case_parts : ∃ fd, FunD K "parts" "Case.parts" (defArgs (inClass (top 45) 7)) (defBody (inClass (top 45) 7)) (defScope (inClass (top 45) 7)) [] [] (gAd K "Case" "parts") fd
  pp_Case_parts : PropOf K (g.ca "Case") "parts" (He.ma K (He.ga K "Case") "parts") (gAd K "Case" "parts")
  fd_Case_ddeqdd : ∃ fd, FunD K "__eq__" "Case.__eq__" (defArgs (inClass (top 45) 8)) (defBody (inClass (top 45) 8)) (defScope (inClass (top 45) 8)) [] [] (He.fAd K ("Case", some "__eq__")) fd
  fd_law_well : ∃ fd, FunD K "_law_well" "_law_well" (defArgs (top 47)) (defBody (top 47)) (defScope (top 47)) [] [] (He.fAd K ("_law_well", none)) fd
  gm_law_well : mg "_law_well" = some (.ref (He.fAd K ("_law_well", none)))
  fd_law_draw : ∃ fd, FunD K "_law_draw" "_law_draw" (defArgs (top 48)) (defBody (top 48)) (defScope (top 48)) [] [] (He.fAd K ("_law_draw", none)) fd
  gm_law_draw : mg "_law_draw" = some (.ref (He.fAd K ("_law_draw", none)))
  fd_law_of : ∃ fd, FunD K "_law_of" "_law_of" (defArgs (top 49)) (defBody (top 49)) (defScope (top 49)) [] [] (He.fAd K ("_law_of", none)) fd
  gm_law_of : mg "_law_of" = some (.ref (He.fAd K ("_law_of", none)))
  fd_law_shuffled : ∃ fd, FunD K "_law_shuffled" "_law_shuffled" (defArgs (top 50)) (defBody (top 50)) (defScope (top 50)) [] [] (He.fAd K ("_law_shuffled", none)) fd
  gm_law_shuffled : mg "_law_shuffled" = some (.ref (He.fAd K ("_law_shuffled", none)))
  fd_law_same : ∃ fd, FunD K "_law_same" "_law_same" (defArgs (top 51)) (defBody (top 51)) (defScope (top 51)) [] [] (He.fAd K ("_law_same", none)) fd
  gm_law_same : mg "_law_same" = some (.ref (He.fAd K ("_law_same", none)))
  fd_law_words : ∃ fd, FunD K "_law_words" "_law_words" (defArgs (top 52)) (defBody (top 52)) (defScope (top 52)) [] [] (He.fAd K ("_law_words", none)) fd
  gm_law_words : mg "_law_words" = some (.ref (He.fAd K ("_law_words", none)))
  fd_law_own : ∃ fd, FunD K "_law_own" "_law_own" (defArgs (top 53)) (defBody (top 53)) (defScope (top 53)) [] [] (He.fAd K ("_law_own", none)) fd
  gm_law_own : mg "_law_own" = some (.ref (He.fAd K ("_law_own", none)))
  fd_law_names : ∃ fd, FunD K "_law_names" "_law_names" (defArgs (top 54)) (defBody (top 54)) (defScope (top 54)) [] [] (He.fAd K ("_law_names", none)) fd
  gm_law_names : mg "_law_names" = some (.ref (He.fAd K ("_law_names", none)))
  fd_law_web : ∃ fd, FunD K "_law_web" "_law_web" (defArgs (top 55)) (defBody (top 55)) (defScope (top 55)) [] [] (He.fAd K ("_law_web", none)) fd
  gm_law_web : mg "_law_web" = some (.ref (He.fAd K ("_law_web", none)))
  fd_law_near : ∃ fd, FunD K "_law_near" "_law_near" (defArgs (top 56)) (defBody (top 56)) (defScope (top 56)) [] [] (He.fAd K ("_law_near", none)) fd
  gm_law_near : mg "_law_near" = some (.ref (He.fAd K ("_law_near", none)))
  fd_law_all_sets : ∃ fd, FunD K "_law_all_sets" "_law_all_sets" (defArgs (top 57)) (defBody (top 57)) (defScope (top 57)) [] [] (He.fAd K ("_law_all_sets", none)) fd
  gm_law_all_sets : mg "_law_all_sets" = some (.ref (He.fAd K ("_law_all_sets", none)))
  fd_law_some : ∃ fd, FunD K "_law_some" "_law_some" (defArgs (top 58)) (defBody (top 58)) (defScope (top 58)) [] [] (He.fAd K ("_law_some", none)) fd
  gm_law_some : mg "_law_some" = some (.ref (He.fAd K ("_law_some", none)))
  fd_law_parts_of : ∃ fd, FunD K "_law_parts_of" "_law_parts_of" (defArgs (top 59)) (defBody (top 59)) (defScope (top 59)) [] [] (He.fAd K ("_law_parts_of", none)) fd
  gm_law_parts_of : mg "_law_parts_of" = some (.ref (He.fAd K ("_law_parts_of", none)))
  fd_law_sees : ∃ fd, FunD K "_law_sees" "_law_sees" (defArgs (top 60)) (defBody (top 60)) (defScope (top 60)) [] [] (He.fAd K ("_law_sees", none)) fd
  gm_law_sees : mg "_law_sees" = some (.ref (He.fAd K ("_law_sees", none)))
  fd_law_tied_posts : ∃ fd, FunD K "_law_tied_posts" "_law_tied_posts" (defArgs (top 61)) (defBody (top 61)) (defScope (top 61)) [] [] (He.fAd K ("_law_tied_posts", none)) fd
  gm_law_tied_posts : mg "_law_tied_posts" = some (.ref (He.fAd K ("_law_tied_posts", none)))
  fd_law_ill_watched : ∃ fd, FunD K "_law_ill_watched" "_law_ill_watched" (defArgs (top 62)) (defBody (top 62)) (defScope (top 62)) [] [] (He.fAd K ("_law_ill_watched", none)) fd
  gm_law_ill_watched : mg "_law_ill_watched" = some (.ref (He.fAd K ("_law_ill_watched", none)))
  fd_law_is_of_kind : ∃ fd, FunD K "_law_is_of_kind" "_law_is_of_kind" (defArgs (top 63)) (defBody (top 63)) (defScope (top 63)) [] [] (He.fAd K ("_law_is_of_kind", none)) fd
  gm_law_is_of_kind : mg "_law_is_of_kind" = some (.ref (He.fAd K ("_law_is_of_kind", none)))
  fd_law_kinds : ∃ fd, FunD K "_law_kinds" "_law_kinds" (defArgs (top 64)) (defBody (top 64)) (defScope (top 64)) [] [] (He.fAd K ("_law_kinds", none)) fd
  gm_law_kinds : mg "_law_kinds" = some (.ref (He.fAd K ("_law_kinds", none)))
  fd_law_of_kind : ∃ fd, FunD K "_law_of_kind" "_law_of_kind" (defArgs (top 65)) (defBody (top 65)) (defScope (top 65)) [] [] (He.fAd K ("_law_of_kind", none)) fd
  gm_law_of_kind : mg "_law_of_kind" = some (.ref (He.fAd K ("_law_of_kind", none)))
  fd_law_case : ∃ fd, FunD K "_law_case" "_law_case" (defArgs (top 66)) (defBody (top 66)) (defScope (top 66)) [] [] (He.fAd K ("_law_case", none)) fd
  gm_law_case : mg "_law_case" = some (.ref (He.fAd K ("_law_case", none)))
  fd_law_cased : ∃ fd, FunD K "_law_cased" "_law_cased" (defArgs (top 67)) (defBody (top 67)) (defScope (top 67)) [] [] (He.fAd K ("_law_cased", none)) fd
  gm_law_cased : mg "_law_cased" = some (.ref (He.fAd K ("_law_cased", none)))
  fd_law_right : ∃ fd, FunD K "_law_right" "_law_right" (defArgs (top 68)) (defBody (top 68)) (defScope (top 68)) [] [] (He.fAd K ("_law_right", none)) fd
  gm_law_right : mg "_law_right" = some (.ref (He.fAd K ("_law_right", none)))
  fd_law : ∃ fd, FunD K "law" "law" (defArgs (top 69)) (defBody (top 69)) (defScope (top 69)) [] [] (He.fAd K ("law", none)) fd
  gm_law : mg "law" = some (.ref (He.fAd K ("law", none)))
  mk_Case : Mk K (g.ca "Case") (He.fAd K ("Case", some "__init__"))
  mk_Web : Mk K (g.ca "Web") (He.fAd K ("Web", some "__init__"))
  eq_Case : EqF K (g.ca "Case") (He.fAd K ("Case", some "__eq__"))
  eq_Web : EqF K (g.ca "Web") (He.fAd K ("Web", some "__eq__"))
  tb_is_set_of_names : TabB base mg (He.codeOf K ("is_set_of_names", none)) (He.cT K ("is_set_of_names", none)).2
  ht_is_set_of_names : ((He.cT K ("is_set_of_names", none)).2, (fun _ _ => "is_set_of_names.<locals>.<lambda>" : Nat → Nat → Str)) ∈ g.T
  hu_is_set_of_names : ∀ p ∈ g.T, p.1 = (He.cT K ("is_set_of_names", none)).2 → p.2 = (fun _ _ => "is_set_of_names.<locals>.<lambda>" : Nat → Nat → Str)
  tb_wrong_in_places : TabB base mg (He.codeOf K ("wrong_in_places", none)) (He.cT K ("wrong_in_places", none)).2
  ht_wrong_in_places : ((He.cT K ("wrong_in_places", none)).2, (fun _ _ => "wrong_in_places.<locals>.<lambda>" : Nat → Nat → Str)) ∈ g.T
  hu_wrong_in_places : ∀ p ∈ g.T, p.1 = (He.cT K ("wrong_in_places", none)).2 → p.2 = (fun _ _ => "wrong_in_places.<locals>.<lambda>" : Nat → Nat → Str)
  tb_wrong_in_ties : TabB base mg (He.codeOf K ("wrong_in_ties", none)) (He.cT K ("wrong_in_ties", none)).2
  ht_wrong_in_ties : ((He.cT K ("wrong_in_ties", none)).2, (fun _ _ => "wrong_in_ties.<locals>.<lambda>" : Nat → Nat → Str)) ∈ g.T
  hu_wrong_in_ties : ∀ p ∈ g.T, p.1 = (He.cT K ("wrong_in_ties", none)).2 → p.2 = (fun _ _ => "wrong_in_ties.<locals>.<lambda>" : Nat → Nat → Str)
section
variable {P : Program} {w : World} {K : PySem.W.Frag} {mg : Str → Option Value} {base : Heap} {g : G}
theorem c_law_well (h : Hx K mg base g) : Cal P w K mg base g 3 "_law_well" 2 S_law_well := by
  obtain ⟨fd, F⟩ := h.fd_law_well
  exact (cal_of (N := ["script", "lap", "stirred", "cell", "own"]) (ps := ["script", "lap"]) F h.gm_law_well (by kernel_rfl) rfl (fun kV doc pm an cdv ct => len2 fun _ _ => rfl) (fun cdv A outer s H E hr => d_law_well (k := 0) h.fx  _ _ A outer s H E hr))
theorem c_law_draw (h : Hx K mg base g) : Cal P w K mg base g 3 "_law_draw" 2 S_law_draw := by
  obtain ⟨fd, F⟩ := h.fd_law_draw
  exact (cal_of (N := ["well", "limit", "figure", "mixed"]) (ps := ["well", "limit"]) F h.gm_law_draw (by kernel_rfl) rfl (fun kV doc pm an cdv ct => len2 fun _ _ => rfl) (fun cdv A outer s H E hr => d_law_draw (k := 0) h.fx  _ _ A outer s H E hr)).frz 100
theorem c_law_of (h : Hx K mg base g) : Cal P w K mg base g 6 "_law_of" 2 S_law_of := by
  obtain ⟨fd, F⟩ := h.fd_law_of
  exact (cal_of (N := ["well", "some"]) (ps := ["well", "some"]) F h.gm_law_of (by kernel_rfl) rfl (fun kV doc pm an cdv ct => len2 fun _ _ => rfl) (fun cdv A outer s H E hr => d_law_of (k := 3) h.fx ((c_law_draw h).mono (by decide)) _ _ A outer s H E hr)).frz 100
theorem c_law_words (h : Hx K mg base g) : Cal P w K mg base g 3 "_law_words" 0 S_law_words := by
  obtain ⟨fd, F⟩ := h.fd_law_words
  exact (cal_of (N := ["words"]) (ps := []) F h.gm_law_words (by kernel_rfl) rfl (fun kV doc pm an cdv ct => len0 rfl) (fun cdv A outer s H E hr => d_law_words (k := 0) h.fx  _ _ A outer s H E hr)).frz 100
theorem c_law_own (h : Hx K mg base g) : Cal P w K mg base g 3 "_law_own" 0 S_law_own := by
  obtain ⟨fd, F⟩ := h.fd_law_own
  exact (cal_of (N := []) (ps := []) F h.gm_law_own (by kernel_rfl) rfl (fun kV doc pm an cdv ct => len0 rfl) (fun cdv A outer s H E hr => d_law_own (k := 0) h.fx  _ _ A outer s H E hr)).frz 100
theorem c_law_names (h : Hx K mg base g) : Cal P w K mg base g 9 "_law_names" 2 S_law_names := by
  obtain ⟨fd, F⟩ := h.fd_law_names
  exact (cal_of (N := ["well", "many", "letters", "found", "turn", "name", "size", "lap", "at"]) (ps := ["well", "many"]) F h.gm_law_names (by kernel_rfl) rfl (fun kV doc pm an cdv ct => len2 fun _ _ => rfl) (fun cdv A outer s H E hr => d_law_names (k := 6) h.fx ((c_law_of h).mono (by decide)) ((c_law_draw h).mono (by decide)) ((c_law_words h).mono (by decide)) ((c_law_own h).mono (by decide)) _ _ A outer s H E hr)).frz 100
theorem c_law_shuffled (h : Hx K mg base g) : Cal P w K mg base g 6 "_law_shuffled" 2 S_law_shuffled := by
  obtain ⟨fd, F⟩ := h.fd_law_shuffled
  exact (cal_of (N := ["well", "some", "left", "found", "k"]) (ps := ["well", "some"]) F h.gm_law_shuffled (by kernel_rfl) rfl (fun kV doc pm an cdv ct => len2 fun _ _ => rfl) (fun cdv A outer s H E hr => d_law_shuffled (k := 3) h.fx ((c_law_draw h).mono (by decide)) _ _ A outer s H E hr)).frz 100
theorem c_law_web (h : Hx K mg base g) : Cal P w K mg base g 12 "_law_web" 2 S_law_web := by
  obtain ⟨fd, F⟩ := h.fd_law_web
  exact (cal_of (N := ["well", "many", "places", "often", "found", "k", "other", "some"]) (ps := ["well", "many"]) F h.gm_law_web (by kernel_rfl) rfl (fun kV doc pm an cdv ct => len2 fun _ _ => rfl) (fun cdv A outer s H E hr => d_law_web (k := 9) h.fx ((c_law_names h).mono (by decide)) ((c_law_of h).mono (by decide)) ((c_law_draw h).mono (by decide)) ((c_law_shuffled h).mono (by decide)) _ _ A outer s H E hr)).frz 100
theorem c_law_kinds (h : Hx K mg base g) : Cal P w K mg base g 3 "_law_kinds" 0 S_law_kinds := by
  obtain ⟨fd, F⟩ := h.fd_law_kinds
  exact (cal_of (N := []) (ps := []) F h.gm_law_kinds (by kernel_rfl) rfl (fun kV doc pm an cdv ct => len0 rfl) (fun cdv A outer s H E hr => d_law_kinds (k := 0) h.fx  _ _ A outer s H E hr)).frz 100
theorem c_law_some (h : Hx K mg base g) : Cal P w K mg base g 9 "_law_some" 2 S_law_some := by
  obtain ⟨fd, F⟩ := h.fd_law_some
  exact (cal_of (N := ["well", "places", "often", "place"]) (ps := ["well", "places"]) F h.gm_law_some (by kernel_rfl) rfl (fun kV doc pm an cdv ct => len2 fun _ _ => rfl) (fun cdv A outer s H E hr => d_law_some (k := 6) h.fx ((c_law_of h).mono (by decide)) ((c_law_draw h).mono (by decide)) _ _ A outer s H E hr)).frz 100
theorem c_law_near (h : Hx K mg base g) : Cal P w K mg base g 3 "_law_near" 1 S_law_near := by
  obtain ⟨fd, F⟩ := h.fd_law_near
  exact (cal_of (N := ["parts", "found", "one", "two", "place"]) (ps := ["parts"]) F h.gm_law_near (by kernel_rfl) rfl (fun kV doc pm an cdv ct => len1 fun _ => rfl) (fun cdv A outer s H E hr => d_law_near (k := 0) h.fx  _ _ A outer s H E hr)).frz 100
theorem c_law_all_sets (h : Hx K mg base g) : Cal P w K mg base g 3 "_law_all_sets" 1 S_law_all_sets := by
  obtain ⟨fd, F⟩ := h.fd_law_all_sets
  exact (cal_of (N := ["places", "rows", "place", "row", "size"]) (ps := ["places"]) F h.gm_law_all_sets (by kernel_rfl) rfl (fun kV doc pm an cdv ct => len1 fun _ => rfl) (fun cdv A outer s H E hr => d_law_all_sets (k := 0) h.fx  _ _ A outer s H E hr)).frz 100
theorem c_law_sees (h : Hx K mg base g) : Cal P w K mg base g 3 "_law_sees" 2 S_law_sees := by
  obtain ⟨fd, F⟩ := h.fd_law_sees
  exact (cal_of (N := ["near", "place"]) (ps := ["near", "place"]) F h.gm_law_sees (by kernel_rfl) rfl (fun kV doc pm an cdv ct => len2 fun _ _ => rfl) (fun cdv A outer s H E hr => d_law_sees (k := 0) h.fx  _ _ A outer s H E hr)).frz 100
theorem c_law_ill_watched (h : Hx K mg base g) : Cal P w K mg base g 6 "_law_ill_watched" 3 S_law_ill_watched := by
  obtain ⟨fd, F⟩ := h.fd_law_ill_watched
  exact (cal_of (N := ["near", "kind", "posts", "found", "place", "many", "beside", "fine", "post"]) (ps := ["near", "kind", "posts"]) F h.gm_law_ill_watched (by kernel_rfl) rfl (fun kV doc pm an cdv ct => len3 fun _ _ _ => rfl) (fun cdv A outer s H E hr => d_law_ill_watched (k := 3) h.fx ((c_law_sees h).mono (by decide)) _ _ A outer s H E hr)).frz 100
theorem c_law_tied_posts (h : Hx K mg base g) : Cal P w K mg base g 3 "_law_tied_posts" 2 S_law_tied_posts := by
  obtain ⟨fd, F⟩ := h.fd_law_tied_posts
  exact (cal_of (N := ["near", "posts", "post", "other"]) (ps := ["near", "posts"]) F h.gm_law_tied_posts (by kernel_rfl) rfl (fun kV doc pm an cdv ct => len2 fun _ _ => rfl) (fun cdv A outer s H E hr => d_law_tied_posts (k := 0) h.fx  _ _ A outer s H E hr)).frz 100
theorem c_law_parts_of (h : Hx K mg base g) : Cal P w K mg base g 3 "_law_parts_of" 2 S_law_parts_of := by
  obtain ⟨fd, F⟩ := h.fd_law_parts_of
  exact (cal_of (N := ["near", "some", "left", "rows", "row", "edge", "other", "place"]) (ps := ["near", "some"]) F h.gm_law_parts_of (by kernel_rfl) rfl (fun kV doc pm an cdv ct => len2 fun _ _ => rfl) (fun cdv A outer s H E hr => d_law_parts_of (k := 0) h.fx  _ _ A outer s H E hr)).frz 100
theorem c_law_is_of_kind (h : Hx K mg base g) : Cal P w K mg base g 9 "_law_is_of_kind" 3 S_law_is_of_kind := by
  obtain ⟨fd, F⟩ := h.fd_law_is_of_kind
  exact (cal_of (N := ["near", "kind", "posts"]) (ps := ["near", "kind", "posts"]) F h.gm_law_is_of_kind (by kernel_rfl) rfl (fun kV doc pm an cdv ct => len3 fun _ _ _ => rfl) (fun cdv A outer s H E hr => d_law_is_of_kind (k := 6) h.fx ((c_law_ill_watched h).mono (by decide)) ((c_law_tied_posts h).mono (by decide)) ((c_law_parts_of h).mono (by decide)) _ _ A outer s H E hr)).frz 100
theorem c_law_of_kind (h : Hx K mg base g) : Cal P w K mg base g 12 "_law_of_kind" 2 S_law_of_kind := by
  obtain ⟨fd, F⟩ := h.fd_law_of_kind
  exact (cal_of (N := ["parts", "kind", "near", "some"]) (ps := ["parts", "kind"]) F h.gm_law_of_kind (by kernel_rfl) rfl (fun kV doc pm an cdv ct => len2 fun _ _ => rfl) (fun cdv A outer s H E hr => d_law_of_kind (k := 9) h.fx ((c_law_near h).mono (by decide)) ((c_law_all_sets h).mono (by decide)) ((c_law_is_of_kind h).mono (by decide)) _ _ A outer s H E hr)).frz 100
theorem c_law_case (h : Hx K mg base g) : Cal P w K mg base g 15 "_law_case" 2 S_law_case := by
  obtain ⟨fd, F⟩ := h.fd_law_case
  exact (cal_of (N := ["well", "many", "parts", "kind", "posts", "fine"]) (ps := ["well", "many"]) F h.gm_law_case (by kernel_rfl) rfl (fun kV doc pm an cdv ct => len2 fun _ _ => rfl) (fun cdv A outer s H E hr => d_law_case (k := 12) h.fx ((c_law_web h).mono (by decide)) ((c_law_of h).mono (by decide)) ((c_law_kinds h).mono (by decide)) ((c_law_some h).mono (by decide)) ((c_law_of_kind h).mono (by decide)) ((c_law_draw h).mono (by decide)) _ _ A outer s H E hr)).frz 100
theorem c_check_web (h : Hx K mg base g) : Cal P w K mg base g 3 "check_web" 1 S_check_web := by
  obtain ⟨fd, F⟩ := h.fd_check_web
  exact (cal_of (N := ["web"]) (ps := ["web"]) F h.gm_check_web (by kernel_rfl) rfl (fun kV doc pm an cdv ct => len1 fun _ => rfl) (fun cdv A outer s H E hr => d_check_web (k := 0) h.fx  _ _ A outer s H E hr)).frz 100
theorem c_is_one_of (h : Hx K mg base g) : Cal P w K mg base g 3 "is_one_of" 2 S_is_one_of := by
  obtain ⟨fd, F⟩ := h.fd_is_one_of
  exact (cal_of (N := ["value", "words"]) (ps := ["value", "words"]) F h.gm_is_one_of (by kernel_rfl) rfl (fun kV doc pm an cdv ct => len2 fun _ _ => rfl) (fun cdv A outer s H E hr => d_is_one_of (k := 0) h.fx  _ _ A outer s H E hr)).frz 100
theorem c_are_below (h : Hx K mg base g) : Cal P w K mg base g 3 "are_below" 2 S_are_below := by
  obtain ⟨fd, F⟩ := h.fd_are_below
  exact (cal_of (N := ["ahead", "value"]) (ps := ["ahead", "value"]) F h.gm_are_below (by kernel_rfl) rfl (fun kV doc pm an cdv ct => len2 fun _ _ => rfl) (fun cdv A outer s H E hr => d_are_below (k := 0) h.fx  _ _ A outer s H E hr)).frz 100
theorem c_is_set_of_names (h : Hx K mg base g) : Cal P w K mg base g 6 "is_set_of_names" 2 S_is_set_of_names := by
  obtain ⟨fd, F⟩ := h.fd_is_set_of_names
  obtain ⟨fdg, Fg⟩ := h.fd_wrong_in
  exact (cal_ofC (N := ["value", "names"]) (ps := ["value", "names"]) F h.gm_is_set_of_names (by kernel_rfl) rfl (fun kV doc pm an cdv ct => len2 fun _ _ => rfl) fun A outer s H E hr => d_is_set_of_names (k := 3) h.fx ((c_is_one_of h).mono (by decide)) ((c_are_below h).mono (by decide)) Fg h.gm_wrong_in h.tb_is_set_of_names h.ht_is_set_of_names (fun _ => rfl) h.hu_is_set_of_names _ A outer s H E hr).frz 100
theorem p_Web_places (h : Hx K mg base g) : PropC P w K mg base g 3 "Web" "places" S_Web_places := by
  obtain ⟨fd, F⟩ := h.fd_Web_places
  exact (prop_of (N := ["self"]) (ps := ["self"]) F h.pp_Web_places h.fx.cl_Web (by kernel_rfl) rfl (fun kV doc pm an cdv ct => len1 fun _ => rfl) (fun cdv A outer s H E hr => d_Web_places (k := 0) h.fx  _ _ A outer s H E hr)).frz 100
theorem c_check_set (h : Hx K mg base g) : Cal P w K mg base g 9 "check_set" 2 S_check_set := by
  obtain ⟨fd, F⟩ := h.fd_check_set
  exact (cal_of (N := ["web", "some"]) (ps := ["web", "some"]) F h.gm_check_set (by kernel_rfl) rfl (fun kV doc pm an cdv ct => len2 fun _ _ => rfl) (fun cdv A outer s H E hr => d_check_set (k := 6) h.fx ((c_is_set_of_names h).mono (by decide)) ((p_Web_places h).mono (by decide)) _ _ A outer s H E hr)).frz 100
theorem c_check_posts (h : Hx K mg base g) : Cal P w K mg base g 12 "check_posts" 2 S_check_posts := by
  obtain ⟨fd, F⟩ := h.fd_check_posts
  exact (cal_of (N := ["web", "posts"]) (ps := ["web", "posts"]) F h.gm_check_posts (by kernel_rfl) rfl (fun kV doc pm an cdv ct => len2 fun _ _ => rfl) (fun cdv A outer s H E hr => d_check_posts (k := 9) h.fx ((c_check_web h).mono (by decide)) ((c_check_set h).mono (by decide)) _ _ A outer s H E hr)).frz 100
theorem c_check_kind (h : Hx K mg base g) : Cal P w K mg base g 6 "check_kind" 1 S_check_kind := by
  obtain ⟨fd, F⟩ := h.fd_check_kind
  exact (cal_of (N := ["kind"]) (ps := ["kind"]) F h.gm_check_kind (by kernel_rfl) rfl (fun kV doc pm an cdv ct => len1 fun _ => rfl) (fun cdv A outer s H E hr => d_check_kind (k := 3) h.fx ((c_is_one_of h).mono (by decide)) _ _ A outer s H E hr)).frz 100
theorem c_is_whole (h : Hx K mg base g) : Cal P w K mg base g 3 "is_whole" 1 S_is_whole := by
  obtain ⟨fd, F⟩ := h.fd_is_whole
  exact (cal_of (N := ["value"]) (ps := ["value"]) F h.gm_is_whole (by kernel_rfl) rfl (fun kV doc pm an cdv ct => len1 fun _ => rfl) (fun cdv A outer s H E hr => d_is_whole (k := 0) h.fx  _ _ A outer s H E hr)).frz 100
theorem c_is_between (h : Hx K mg base g) : Cal P w K mg base g 6 "is_between" 3 S_is_between := by
  obtain ⟨fd, F⟩ := h.fd_is_between
  exact (cal_of (N := ["value", "least", "most"]) (ps := ["value", "least", "most"]) F h.gm_is_between (by kernel_rfl) rfl (fun kV doc pm an cdv ct => len3 fun _ _ _ => rfl) (fun cdv A outer s H E hr => d_is_between (k := 3) h.fx ((c_is_whole h).mono (by decide)) _ _ A outer s H E hr)).frz 100
theorem c_check_number (h : Hx K mg base g) : Cal P w K mg base g 9 "check_number" 3 S_check_number := by
  obtain ⟨fd, F⟩ := h.fd_check_number
  exact (cal_of (N := ["number", "least", "most"]) (ps := ["number", "least", "most"]) F h.gm_check_number (by kernel_rfl) rfl (fun kV doc pm an cdv ct => len3 fun _ _ _ => rfl) (fun cdv A outer s H E hr => d_check_number (k := 6) h.fx ((c_is_between h).mono (by decide)) _ _ A outer s H E hr)).frz 100
theorem c_check_place (h : Hx K mg base g) : Cal P w K mg base g 6 "check_place" 2 S_check_place := by
  obtain ⟨fd, F⟩ := h.fd_check_place
  exact (cal_of (N := ["web", "place"]) (ps := ["web", "place"]) F h.gm_check_place (by kernel_rfl) rfl (fun kV doc pm an cdv ct => len2 fun _ _ => rfl) (fun cdv A outer s H E hr => d_check_place (k := 3) h.fx ((c_is_one_of h).mono (by decide)) ((p_Web_places h).mono (by decide)) _ _ A outer s H E hr)).frz 100
theorem k_Case (h : Hx K mg base g) : MakC P w K mg base g 15 "Case" "Case" 6 S_Case_ddinitdd := by
  obtain ⟨fd, F⟩ := h.fd_Case_ddinitdd
  exact (mak_of (N := ["self", "web", "posts", "kind", "many", "place", "beats"]) (ps := ["self", "web", "posts", "kind", "many", "place", "beats"]) F h.mk_Case h.fx.g_Case (by kernel_rfl) rfl (fun kV doc pm an cdv ct => len7 fun _ _ _ _ _ _ _ => rfl) (fun cdv A outer s H E hr => d_Case_ddinitdd (k := 12) h.fx ((c_check_posts h).mono (by decide)) ((c_check_kind h).mono (by decide)) ((c_check_number h).mono (by decide)) ((c_check_place h).mono (by decide)) _ _ A outer s H E hr)).frz 100
theorem mk_Case (h : Hx K mg base g) : MakK P w K mg base g 15 "Case" "Case" 6 ["beats", "place", "many", "kind", "posts", "web"] [5, 4, 3, 2, 1, 0] S_Case_ddinitdd := by
  obtain ⟨fd, F⟩ := h.fd_Case_ddinitdd
  exact (makK_of (ks := ["beats", "place", "many", "kind", "posts", "web"]) (is := [5, 4, 3, 2, 1, 0]) (N := ["self", "web", "posts", "kind", "many", "place", "beats"]) (ps := ["self", "web", "posts", "kind", "many", "place", "beats"]) F h.mk_Case h.fx.g_Case (by kernel_rfl) rfl (fun kV doc pm an cdv ct us ws h1 h2 => len1 (P := fun us => ∀ ws : List Value, ws.length = 6 → bindArgs _ ⟨us, (["beats", "place", "many", "kind", "posts", "web"] : List Str).zip ws⟩ = pure ((["self", "web", "posts", "kind", "many", "place", "beats"] : List Str).zip (us ++ pick [5, 4, 3, 2, 1, 0] ws))) (fun _ => len6 fun _ _ _ _ _ _ => rfl) us h1 ws h2) (fun cdv A outer s H E hr => d_Case_ddinitdd (k := 12) h.fx ((c_check_posts h).mono (by decide)) ((c_check_kind h).mono (by decide)) ((c_check_number h).mono (by decide)) ((c_check_place h).mono (by decide)) _ _ A outer s H E hr)).frz 100
theorem c_is_word (h : Hx K mg base g) : Cal P w K mg base g 3 "is_word" 1 S_is_word := by
  obtain ⟨fd, F⟩ := h.fd_is_word
  exact (cal_of (N := ["value", "sign"]) (ps := ["value"]) F h.gm_is_word (by kernel_rfl) rfl (fun kV doc pm an cdv ct => len1 fun _ => rfl) (fun cdv A outer s H E hr => d_is_word (k := 0) h.fx  _ _ A outer s H E hr)).frz 100
theorem c_is_name (h : Hx K mg base g) : Cal P w K mg base g 6 "is_name" 1 S_is_name := by
  obtain ⟨fd, F⟩ := h.fd_is_name
  exact (cal_of (N := ["value"]) (ps := ["value"]) F h.gm_is_name (by kernel_rfl) rfl (fun kV doc pm an cdv ct => len1 fun _ => rfl) (fun cdv A outer s H E hr => d_is_name (k := 3) h.fx ((c_is_word h).mono (by decide)) _ _ A outer s H E hr)).frz 100
theorem c_wrong_in_places (h : Hx K mg base g) : Cal P w K mg base g 9 "wrong_in_places" 1 S_wrong_in_places := by
  obtain ⟨fd, F⟩ := h.fd_wrong_in_places
  obtain ⟨fdg, Fg⟩ := h.fd_wrong_in
  exact (cal_ofC (N := ["value"]) (ps := ["value"]) F h.gm_wrong_in_places (by kernel_rfl) rfl (fun kV doc pm an cdv ct => len1 fun _ => rfl) fun A outer s H E hr => d_wrong_in_places (k := 6) h.fx ((c_is_name h).mono (by decide)) ((c_are_below h).mono (by decide)) Fg h.gm_wrong_in h.tb_wrong_in_places h.ht_wrong_in_places (fun _ => rfl) h.hu_wrong_in_places _ A outer s H E hr).frz 100
theorem c_is_tuple_of (h : Hx K mg base g) : Cal P w K mg base g 3 "is_tuple_of" 2 S_is_tuple_of := by
  obtain ⟨fd, F⟩ := h.fd_is_tuple_of
  exact (cal_of (N := ["value", "many"]) (ps := ["value", "many"]) F h.gm_is_tuple_of (by kernel_rfl) rfl (fun kV doc pm an cdv ct => len2 fun _ _ => rfl) (fun cdv A outer s H E hr => d_is_tuple_of (k := 0) h.fx  _ _ A outer s H E hr)).frz 100
theorem c_is_pair (h : Hx K mg base g) : Cal P w K mg base g 6 "is_pair" 1 S_is_pair := by
  obtain ⟨fd, F⟩ := h.fd_is_pair
  exact (cal_of (N := ["value"]) (ps := ["value"]) F h.gm_is_pair (by kernel_rfl) rfl (fun kV doc pm an cdv ct => len1 fun _ => rfl) (fun cdv A outer s H E hr => d_is_pair (k := 3) h.fx ((c_is_tuple_of h).mono (by decide)) _ _ A outer s H E hr)).frz 100
theorem c_is_tie (h : Hx K mg base g) : Cal P w K mg base g 9 "is_tie" 2 S_is_tie := by
  obtain ⟨fd, F⟩ := h.fd_is_tie
  exact (cal_of (N := ["places", "value"]) (ps := ["places", "value"]) F h.gm_is_tie (by kernel_rfl) rfl (fun kV doc pm an cdv ct => len2 fun _ _ => rfl) (fun cdv A outer s H E hr => d_is_tie (k := 6) h.fx ((c_is_pair h).mono (by decide)) ((c_is_one_of h).mono (by decide)) _ _ A outer s H E hr)).frz 100
theorem c_wrong_in_ties (h : Hx K mg base g) : Cal P w K mg base g 12 "wrong_in_ties" 2 S_wrong_in_ties := by
  obtain ⟨fd, F⟩ := h.fd_wrong_in_ties
  obtain ⟨fdg, Fg⟩ := h.fd_wrong_in
  exact (cal_ofC (N := ["places", "value"]) (ps := ["places", "value"]) F h.gm_wrong_in_ties (by kernel_rfl) rfl (fun kV doc pm an cdv ct => len2 fun _ _ => rfl) fun A outer s H E hr => d_wrong_in_ties (k := 9) h.fx ((c_is_tie h).mono (by decide)) ((c_are_below h).mono (by decide)) Fg h.gm_wrong_in h.tb_wrong_in_ties h.ht_wrong_in_ties (fun _ => rfl) h.hu_wrong_in_ties _ A outer s H E hr).frz 100
theorem k_Web (h : Hx K mg base g) : MakC P w K mg base g 15 "Web" "Web" 2 S_Web_ddinitdd := by
  obtain ⟨fd, F⟩ := h.fd_Web_ddinitdd
  exact (mak_of (N := ["self", "places", "ties", "index"]) (ps := ["self", "places", "ties"]) F h.mk_Web h.fx.g_Web (by kernel_rfl) rfl (fun kV doc pm an cdv ct => len3 fun _ _ _ => rfl) (fun cdv A outer s H E hr => d_Web_ddinitdd (k := 12) h.fx ((c_wrong_in_places h).mono (by decide)) ((c_wrong_in_ties h).mono (by decide)) _ _ A outer s H E hr)).frz 100
theorem c_law_cased (h : Hx K mg base g) : Cal P w K mg base g 18 "_law_cased" 1 S_law_cased := by
  obtain ⟨fd, F⟩ := h.fd_law_cased
  exact (cal_of (N := ["case"]) (ps := ["case"]) F h.gm_law_cased (by kernel_rfl) rfl (fun kV doc pm an cdv ct => len1 fun _ => rfl) (fun cdv A outer s H E hr => d_law_cased (k := 15) h.fx ((k_Case h).mono (by decide)) ((k_Web h).mono (by decide)) _ _ A outer s H E hr)).frz 100
theorem p_Web_parts (h : Hx K mg base g) : PropC P w K mg base g 3 "Web" "parts" S_Web_parts := by
  obtain ⟨fd, F⟩ := h.fd_Web_parts
  exact (prop_of (N := ["self"]) (ps := ["self"]) F h.pp_Web_parts h.fx.cl_Web (by kernel_rfl) rfl (fun kV doc pm an cdv ct => len1 fun _ => rfl) (fun cdv A outer s H E hr => d_Web_parts (k := 0) h.fx  _ _ A outer s H E hr)).frz 100
theorem e_Web (h : Hx K mg base g) : EqC P w K mg base g 6 "Web" S_Web_ddeqdd := by
  obtain ⟨fd, F⟩ := h.fd_Web_ddeqdd
  exact (eq_of (N := ["self", "other"]) (ps := ["self", "other"]) F h.eq_Web (by kernel_rfl) rfl (fun kV doc pm an cdv ct => len2 fun _ _ => rfl) (fun cdv A outer s H E hr => d_Web_ddeqdd (k := 3) h.fx ((p_Web_parts h).mono (by decide)) _ _ A outer s H E hr)).frz 100
theorem p_Case_web (h : Hx K mg base g) : PropC P w K mg base g 3 "Case" "web" S_Case_web := by
  obtain ⟨fd, F⟩ := h.fd_Case_web
  exact (prop_of (N := ["self"]) (ps := ["self"]) F h.pp_Case_web h.fx.cl_Case (by kernel_rfl) rfl (fun kV doc pm an cdv ct => len1 fun _ => rfl) (fun cdv A outer s H E hr => d_Case_web (k := 0) h.fx  _ _ A outer s H E hr)).frz 100
theorem c_law_same_n (h : Hx K mg base g) : ∀ n : Nat, Cal P w K mg base g (3 * n) "_law_same" 2 (S_law_same n)
  | 0 => by
    obtain ⟨fd, F⟩ := h.fd_law_same
    exact cal_none (ps := ["one", "two"]) F h.gm_law_same rfl (fun kV doc pm an cdv ct => len2 fun _ _ => rfl)
  | n + 1 => by
    obtain ⟨fd, F⟩ := h.fd_law_same
    have ih := c_law_same_n h n
    exact (cal_of (N := ["one", "two", "alike", "k"]) (ps := ["one", "two"]) F h.gm_law_same (by kernel_rfl) rfl (fun kV doc pm an cdv ct => len2 fun _ _ => rfl) fun cdv A outer s H E hr => d_law_same (k := 3 * n) h.fx ih _ _ A outer s H E hr).frz 100
theorem c_law_same (h : Hx K mg base g) : Cal P w K mg base g 24 "_law_same" 2 (S_law_same 8) := c_law_same_n h 8
theorem p_Case_posts (h : Hx K mg base g) : PropC P w K mg base g 3 "Case" "posts" S_Case_posts := by
  obtain ⟨fd, F⟩ := h.fd_Case_posts
  exact (prop_of (N := ["self"]) (ps := ["self"]) F h.pp_Case_posts h.fx.cl_Case (by kernel_rfl) rfl (fun kV doc pm an cdv ct => len1 fun _ => rfl) (fun cdv A outer s H E hr => d_Case_posts (k := 0) h.fx  _ _ A outer s H E hr)).frz 100
theorem p_Case_kind (h : Hx K mg base g) : PropC P w K mg base g 3 "Case" "kind" S_Case_kind := by
  obtain ⟨fd, F⟩ := h.fd_Case_kind
  exact (prop_of (N := ["self"]) (ps := ["self"]) F h.pp_Case_kind h.fx.cl_Case (by kernel_rfl) rfl (fun kV doc pm an cdv ct => len1 fun _ => rfl) (fun cdv A outer s H E hr => d_Case_kind (k := 0) h.fx  _ _ A outer s H E hr)).frz 100
theorem p_Case_many (h : Hx K mg base g) : PropC P w K mg base g 3 "Case" "many" S_Case_many := by
  obtain ⟨fd, F⟩ := h.fd_Case_many
  exact (prop_of (N := ["self"]) (ps := ["self"]) F h.pp_Case_many h.fx.cl_Case (by kernel_rfl) rfl (fun kV doc pm an cdv ct => len1 fun _ => rfl) (fun cdv A outer s H E hr => d_Case_many (k := 0) h.fx  _ _ A outer s H E hr)).frz 100
theorem p_Case_place (h : Hx K mg base g) : PropC P w K mg base g 3 "Case" "place" S_Case_place := by
  obtain ⟨fd, F⟩ := h.fd_Case_place
  exact (prop_of (N := ["self"]) (ps := ["self"]) F h.pp_Case_place h.fx.cl_Case (by kernel_rfl) rfl (fun kV doc pm an cdv ct => len1 fun _ => rfl) (fun cdv A outer s H E hr => d_Case_place (k := 0) h.fx  _ _ A outer s H E hr)).frz 100
theorem p_Case_beats (h : Hx K mg base g) : PropC P w K mg base g 3 "Case" "beats" S_Case_beats := by
  obtain ⟨fd, F⟩ := h.fd_Case_beats
  exact (prop_of (N := ["self"]) (ps := ["self"]) F h.pp_Case_beats h.fx.cl_Case (by kernel_rfl) rfl (fun kV doc pm an cdv ct => len1 fun _ => rfl) (fun cdv A outer s H E hr => d_Case_beats (k := 0) h.fx  _ _ A outer s H E hr)).frz 100
theorem p_Case_parts (h : Hx K mg base g) : PropC P w K mg base g 6 "Case" "parts" S_Case_parts := by
  obtain ⟨fd, F⟩ := h.fd_Case_parts
  exact (prop_of (N := ["self"]) (ps := ["self"]) F h.pp_Case_parts h.fx.cl_Case (by kernel_rfl) rfl (fun kV doc pm an cdv ct => len1 fun _ => rfl) (fun cdv A outer s H E hr => d_Case_parts (k := 3) h.fx ((p_Web_parts h).mono (by decide)) _ _ A outer s H E hr)).frz 100
theorem e_Case (h : Hx K mg base g) : EqC P w K mg base g 9 "Case" S_Case_ddeqdd := by
  obtain ⟨fd, F⟩ := h.fd_Case_ddeqdd
  exact (eq_of (N := ["self", "other"]) (ps := ["self", "other"]) F h.eq_Case (by kernel_rfl) rfl (fun kV doc pm an cdv ct => len2 fun _ _ => rfl) (fun cdv A outer s H E hr => d_Case_ddeqdd (k := 6) h.fx ((p_Case_parts h).mono (by decide)) _ _ A outer s H E hr)).frz 100
theorem c_law_right (h : Hx K mg base g) : Cal P w K mg base g 27 "_law_right" 1 S_law_right := by
  obtain ⟨fd, F⟩ := h.fd_law_right
  exact (cal_of (N := ["well", "told", "one", "web", "two", "others", "other", "made"]) (ps := ["well"]) F h.gm_law_right (by kernel_rfl) rfl (fun kV doc pm an cdv ct => len1 fun _ => rfl) (fun cdv A outer s H E hr => d_law_right (k := 24) h.fx ((c_law_case h).mono (by decide)) ((c_law_draw h).mono (by decide)) ((c_law_cased h).mono (by decide)) ((c_law_same h).mono (by decide)) ((k_Web h).mono (by decide)) ((k_Case h).mono (by decide)) ((mk_Case h).mono (by decide)) ((e_Web h).mono (by decide)) ((p_Case_web h).mono (by decide)) ((p_Case_posts h).mono (by decide)) ((p_Case_kind h).mono (by decide)) ((p_Case_many h).mono (by decide)) ((p_Case_place h).mono (by decide)) ((p_Case_beats h).mono (by decide)) ((p_Case_parts h).mono (by decide)) ((e_Case h).mono (by decide)) _ _ A outer s H E hr)).frz 100
theorem fn_law (h : Hx K mg base g) {fd : FuncData} (F : FunD K "law" "law" (defArgs (top 69)) (defBody (top 69)) (defScope (top 69)) [] [] (He.fAd K ("law", none)) fd) : FnOk P w K mg base C8.CX0 30 (He.fAd K ("law", none)) fd ["script"] (SpG K g 1 S_law) :=
  (fn_ok (N := ["script", "wells", "lap"]) (ps := ["script"]) F (C8.fnScope_by (by kernel_rfl)) (fun cdv A outer s H E hr => d_law (k := 27) h.fx ((c_law_well h).mono (by decide)) ((c_law_right h).mono (by decide)) _ _ A outer s H E hr)).imp (spG_frz 100)
theorem c_law (h : Hx K mg base g) : Cal P w K mg base g 30 "law" 1 S_law := by
  obtain ⟨fd, F⟩ := h.fd_law
  exact (cal_of (N := ["script", "wells", "lap"]) (ps := ["script"]) F h.gm_law (by kernel_rfl) rfl (fun kV doc pm an cdv ct => len1 fun _ => rfl) (fun cdv A outer s H E hr => d_law (k := 27) h.fx ((c_law_well h).mono (by decide)) ((c_law_right h).mono (by decide)) _ _ A outer s H E hr)).frz 100
end
theorem hx_of {w : World} {h : Heap} {K : PySem.W.Frag} {mg : Str → Option Value} {base : Heap} (KX : K.In h) (hg : h.Ns mainGlobals mg) (c : SaysP fa fn tf gs ex w h K) (hb : ∀ p ∈ tf.map (He.cT K), TabB base mg p.1 p.2) : Hx K mg base (gOf K) := by
  have he : ∀ f, f ∈ exs → f K = true := fun f hf => List.all_eq_true.mp c.x.more f hf
  have isi : ∀ g : G, g.ca = He.ga K → IsiT K g isiTb isiNb := fun g hg => by
    have sp : ∀ k d b, isiTb k d = some b → b = true ∧ ∃ c, d = .cls c ∧ ((k = "Web" ∧ c = "Web") ∨ (k = "Case" ∧ c = "Case")) := fun k d b e => by
      unfold isiTb at e
      split at e
      · split at e
        · cases e
          exact ⟨rfl, _, rfl, by assumption⟩
        · cases e
      · cases e
    refine ⟨fun k d b e => ?_, fun k t b e => ?_, fun k c b e => ?_, fun n c e => by simp [isiNb] at e, fun k d b e => ?_⟩
    · obtain ⟨_, c, _, h⟩ := sp _ _ _ e
      rw [hg]
      rcases h with ⟨rfl, rfl⟩ | ⟨rfl, rfl⟩
      · exact ⟨He.cls_ok (c.fact (List.mem_of_getElem? (i := 67) rfl)), He.eqO_ok (he ex14 (List.mem_of_getElem? (i := 14) rfl)), He.eqO_ok (he ex16 (List.mem_of_getElem? (i := 16) rfl)), of_decide_eq_true (he ex17 (List.mem_of_getElem? (i := 17) rfl)), of_decide_eq_true (he ex15 (List.mem_of_getElem? (i := 15) rfl))⟩
      · exact ⟨He.cls_ok (c.fact (List.mem_of_getElem? (i := 66) rfl)), He.eqO_ok (he ex12 (List.mem_of_getElem? (i := 12) rfl)), He.eqO_ok (he ex16 (List.mem_of_getElem? (i := 16) rfl)), of_decide_eq_true (he ex17 (List.mem_of_getElem? (i := 17) rfl)), of_decide_eq_true (he ex13 (List.mem_of_getElem? (i := 13) rfl))⟩
    · obtain ⟨_, c, h, _⟩ := sp _ _ _ e
      cases h
    · obtain ⟨hb, c2, h, h2⟩ := sp _ _ _ e
      cases h
      subst hb
      rw [hg]
      rcases h2 with ⟨rfl, rfl⟩ | ⟨rfl, rfl⟩
      · exact of_decide_eq_true (he ex18 (List.mem_of_getElem? (i := 18) rfl))
      · exact of_decide_eq_true (he ex19 (List.mem_of_getElem? (i := 19) rfl))
    · obtain ⟨_, c, h, _⟩ := sp _ _ _ e
      exact .inr ⟨c, h⟩
  have fx : Fx K mg (He.ga K) := {
    isi := isi
    f_abs := He.free_ok KX hg (c.fact (List.mem_of_getElem? (i := 42) rfl))
    f_all := He.free_ok KX hg (c.fact (List.mem_of_getElem? (i := 43) rfl))
    f_bool := He.free_ok KX hg (c.fact (List.mem_of_getElem? (i := 44) rfl))
    f_dict := He.free_ok KX hg (c.fact (List.mem_of_getElem? (i := 45) rfl))
    f_divmod := He.free_ok KX hg (c.fact (List.mem_of_getElem? (i := 46) rfl))
    f_enumerate := He.free_ok KX hg (c.fact (List.mem_of_getElem? (i := 47) rfl))
    f_int := He.free_ok KX hg (c.fact (List.mem_of_getElem? (i := 48) rfl))
    f_isinstance := He.free_ok KX hg (c.fact (List.mem_of_getElem? (i := 49) rfl))
    f_len := He.free_ok KX hg (c.fact (List.mem_of_getElem? (i := 50) rfl))
    f_list := He.free_ok KX hg (c.fact (List.mem_of_getElem? (i := 51) rfl))
    f_max := He.free_ok KX hg (c.fact (List.mem_of_getElem? (i := 52) rfl))
    f_min := He.free_ok KX hg (c.fact (List.mem_of_getElem? (i := 53) rfl))
    f_range := He.free_ok KX hg (c.fact (List.mem_of_getElem? (i := 54) rfl))
    f_sorted := He.free_ok KX hg (c.fact (List.mem_of_getElem? (i := 55) rfl))
    f_str := He.free_ok KX hg (c.fact (List.mem_of_getElem? (i := 56) rfl))
    f_tuple := He.free_ok KX hg (c.fact (List.mem_of_getElem? (i := 57) rfl))
    c_KINDS := ⟨_, He.glo_ok KX hg (c.fact (List.mem_of_getElem? (i := 64) rfl)), fun H => He.tupB_ok (he ex0 (List.mem_of_getElem? (i := 0) rfl)) H⟩
    c_LETTERS := He.str_ok KX hg (c.fact (List.mem_of_getElem? (i := 63) rfl))
    c_MOST_LETTERS := He.int_ok KX hg (c.fact (List.mem_of_getElem? (i := 60) rfl))
    c_MOST_NUMBER := He.int_ok KX hg (c.fact (List.mem_of_getElem? (i := 61) rfl))
    c_MOST_PLACES := He.int_ok KX hg (c.fact (List.mem_of_getElem? (i := 62) rfl))
    c_WORDS := ⟨_, He.glo_ok KX hg (c.fact (List.mem_of_getElem? (i := 65) rfl)), fun H => He.tupB_ok (he ex1 (List.mem_of_getElem? (i := 1) rfl)) H⟩
    g_Case := He.glo_ok KX hg (c.fact (List.mem_of_getElem? (i := 58) rfl))
    g_Web := He.glo_ok KX hg (c.fact (List.mem_of_getElem? (i := 59) rfl))
    cl_Case := He.cls_ok (c.fact (List.mem_of_getElem? (i := 66) rfl))
    na_Case_all_of_it := He.noat_ok (c.fact (List.mem_of_getElem? (i := 70) rfl))
    cl_Web := He.cls_ok (c.fact (List.mem_of_getElem? (i := 67) rfl))
    na_Web_all_told := He.noat_ok (c.fact (List.mem_of_getElem? (i := 71) rfl))
    ne_Web := ⟨He.eqO_ok (he ex6 (List.mem_of_getElem? (i := 6) rfl)), of_decide_eq_true (he ex7 (List.mem_of_getElem? (i := 7) rfl))⟩
    ne_Case := ⟨He.eqO_ok (he ex8 (List.mem_of_getElem? (i := 8) rfl)), of_decide_eq_true (he ex9 (List.mem_of_getElem? (i := 9) rfl))⟩
    tru_Case := ⟨He.eqO_ok (he ex10 (List.mem_of_getElem? (i := 10) rfl)), He.eqO_ok (he ex11 (List.mem_of_getElem? (i := 11) rfl))⟩ }
  have nd : (tf.map fun p => (He.cT K p).2).Nodup := of_decide_eq_true (he ex20 (List.mem_of_getElem? (i := 20) rfl))
  have hu : ∀ (i j : Nat) (a b : NTab), (gOf K).T[i]? = some a → (gOf K).T[j]? = some b → a.1 = b.1 → a = b := fun i j a b h1 h2 e => by
    have el : (gOf K).T.map (·.1) = tf.map fun p => (He.cT K p).2 := rfl
    rw [← el] at nd
    have e1 : ((gOf K).T.map (·.1))[i]? = some a.1 := by rw [List.getElem?_map, h1]; rfl
    have e2 : ((gOf K).T.map (·.1))[j]? = some a.1 := by rw [List.getElem?_map, h2, e]; rfl
    obtain ⟨l1, g1⟩ := List.getElem?_eq_some_iff.mp e1
    obtain ⟨l2, g2⟩ := List.getElem?_eq_some_iff.mp e2
    have hij : i = j := (List.getElem_inj nd).mp (g1.trans g2.symm)
    subst hij
    rw [h1] at h2
    exact Option.some.inj h2
  exact {
    fx := fx
    fd_is_whole := c.def_ (d := dd_is_whole) (List.mem_of_getElem? (i := 0) rfl)
    gm_is_whole := He.glo_ok KX hg (c.fact (List.mem_of_getElem? (i := 0) rfl))
    fd_is_between := c.def_ (d := dd_is_between) (List.mem_of_getElem? (i := 1) rfl)
    gm_is_between := He.glo_ok KX hg (c.fact (List.mem_of_getElem? (i := 1) rfl))
    fd_is_one_of := c.def_ (d := dd_is_one_of) (List.mem_of_getElem? (i := 2) rfl)
    gm_is_one_of := He.glo_ok KX hg (c.fact (List.mem_of_getElem? (i := 2) rfl))
    fd_is_word := c.def_ (d := dd_is_word) (List.mem_of_getElem? (i := 3) rfl)
    gm_is_word := He.glo_ok KX hg (c.fact (List.mem_of_getElem? (i := 3) rfl))
    fd_is_name := c.def_ (d := dd_is_name) (List.mem_of_getElem? (i := 4) rfl)
    gm_is_name := He.glo_ok KX hg (c.fact (List.mem_of_getElem? (i := 4) rfl))
    fd_is_tuple_of := c.def_ (d := dd_is_tuple_of) (List.mem_of_getElem? (i := 5) rfl)
    gm_is_tuple_of := He.glo_ok KX hg (c.fact (List.mem_of_getElem? (i := 5) rfl))
    fd_is_pair := c.def_ (d := dd_is_pair) (List.mem_of_getElem? (i := 6) rfl)
    gm_is_pair := He.glo_ok KX hg (c.fact (List.mem_of_getElem? (i := 6) rfl))
    fd_wrong_in := c.def_ (d := dd_wrong_in) (List.mem_of_getElem? (i := 7) rfl)
    gm_wrong_in := He.glo_ok KX hg (c.fact (List.mem_of_getElem? (i := 7) rfl))
    fd_are_below := c.def_ (d := dd_are_below) (List.mem_of_getElem? (i := 8) rfl)
    gm_are_below := He.glo_ok KX hg (c.fact (List.mem_of_getElem? (i := 8) rfl))
    fd_is_set_of_names := c.def_ (d := dd_is_set_of_names) (List.mem_of_getElem? (i := 9) rfl)
    gm_is_set_of_names := He.glo_ok KX hg (c.fact (List.mem_of_getElem? (i := 9) rfl))
    fd_wrong_in_places := c.def_ (d := dd_wrong_in_places) (List.mem_of_getElem? (i := 10) rfl)
    gm_wrong_in_places := He.glo_ok KX hg (c.fact (List.mem_of_getElem? (i := 10) rfl))
    fd_is_tie := c.def_ (d := dd_is_tie) (List.mem_of_getElem? (i := 11) rfl)
    gm_is_tie := He.glo_ok KX hg (c.fact (List.mem_of_getElem? (i := 11) rfl))
    fd_wrong_in_ties := c.def_ (d := dd_wrong_in_ties) (List.mem_of_getElem? (i := 12) rfl)
    gm_wrong_in_ties := He.glo_ok KX hg (c.fact (List.mem_of_getElem? (i := 12) rfl))
    fd_Web_ddinitdd := c.def_ (d := dd_Web_ddinitdd) (List.mem_of_getElem? (i := 13) rfl)
    fd_Web_places := (c.getter (d := gd_Web_places) (List.mem_of_getElem? (i := 0) rfl)).1
    pp_Web_places := (c.getter (d := gd_Web_places) (List.mem_of_getElem? (i := 0) rfl)).2
    fd_Web_ties := (c.getter (d := gd_Web_ties) (List.mem_of_getElem? (i := 1) rfl)).1
    pp_Web_ties := (c.getter (d := gd_Web_ties) (List.mem_of_getElem? (i := 1) rfl)).2
    fd_Web_parts := (c.getter (d := gd_Web_parts) (List.mem_of_getElem? (i := 2) rfl)).1
    pp_Web_parts := (c.getter (d := gd_Web_parts) (List.mem_of_getElem? (i := 2) rfl)).2
    fd_Web_ddeqdd := c.def_ (d := dd_Web_ddeqdd) (List.mem_of_getElem? (i := 14) rfl)
    fd_check_web := c.def_ (d := dd_check_web) (List.mem_of_getElem? (i := 15) rfl)
    gm_check_web := He.glo_ok KX hg (c.fact (List.mem_of_getElem? (i := 13) rfl))
    fd_check_set := c.def_ (d := dd_check_set) (List.mem_of_getElem? (i := 16) rfl)
    gm_check_set := He.glo_ok KX hg (c.fact (List.mem_of_getElem? (i := 14) rfl))
    fd_check_posts := c.def_ (d := dd_check_posts) (List.mem_of_getElem? (i := 17) rfl)
    gm_check_posts := He.glo_ok KX hg (c.fact (List.mem_of_getElem? (i := 15) rfl))
    fd_check_kind := c.def_ (d := dd_check_kind) (List.mem_of_getElem? (i := 18) rfl)
    gm_check_kind := He.glo_ok KX hg (c.fact (List.mem_of_getElem? (i := 16) rfl))
    fd_check_place := c.def_ (d := dd_check_place) (List.mem_of_getElem? (i := 19) rfl)
    gm_check_place := He.glo_ok KX hg (c.fact (List.mem_of_getElem? (i := 17) rfl))
    fd_check_number := c.def_ (d := dd_check_number) (List.mem_of_getElem? (i := 20) rfl)
    gm_check_number := He.glo_ok KX hg (c.fact (List.mem_of_getElem? (i := 18) rfl))
    fd_Case_ddinitdd := c.def_ (d := dd_Case_ddinitdd) (List.mem_of_getElem? (i := 21) rfl)
    fd_Case_web := (c.getter (d := gd_Case_web) (List.mem_of_getElem? (i := 3) rfl)).1
    pp_Case_web := (c.getter (d := gd_Case_web) (List.mem_of_getElem? (i := 3) rfl)).2
    fd_Case_posts := (c.getter (d := gd_Case_posts) (List.mem_of_getElem? (i := 4) rfl)).1
    pp_Case_posts := (c.getter (d := gd_Case_posts) (List.mem_of_getElem? (i := 4) rfl)).2
    fd_Case_kind := (c.getter (d := gd_Case_kind) (List.mem_of_getElem? (i := 5) rfl)).1
    pp_Case_kind := (c.getter (d := gd_Case_kind) (List.mem_of_getElem? (i := 5) rfl)).2
    fd_Case_many := (c.getter (d := gd_Case_many) (List.mem_of_getElem? (i := 6) rfl)).1
    pp_Case_many := (c.getter (d := gd_Case_many) (List.mem_of_getElem? (i := 6) rfl)).2
    fd_Case_place := (c.getter (d := gd_Case_place) (List.mem_of_getElem? (i := 7) rfl)).1
    pp_Case_place := (c.getter (d := gd_Case_place) (List.mem_of_getElem? (i := 7) rfl)).2
    fd_Case_beats := (c.getter (d := gd_Case_beats) (List.mem_of_getElem? (i := 8) rfl)).1
    pp_Case_beats := (c.getter (d := gd_Case_beats) (List.mem_of_getElem? (i := 8) rfl)).2
    fd_Case_parts := (c.getter (d := gd_Case_parts) (List.mem_of_getElem? (i := 9) rfl)).1
    pp_Case_parts := (c.getter (d := gd_Case_parts) (List.mem_of_getElem? (i := 9) rfl)).2
    fd_Case_ddeqdd := c.def_ (d := dd_Case_ddeqdd) (List.mem_of_getElem? (i := 22) rfl)
    fd_law_well := c.def_ (d := dd_law_well) (List.mem_of_getElem? (i := 23) rfl)
    gm_law_well := He.glo_ok KX hg (c.fact (List.mem_of_getElem? (i := 19) rfl))
    fd_law_draw := c.def_ (d := dd_law_draw) (List.mem_of_getElem? (i := 24) rfl)
    gm_law_draw := He.glo_ok KX hg (c.fact (List.mem_of_getElem? (i := 20) rfl))
    fd_law_of := c.def_ (d := dd_law_of) (List.mem_of_getElem? (i := 25) rfl)
    gm_law_of := He.glo_ok KX hg (c.fact (List.mem_of_getElem? (i := 21) rfl))
    fd_law_shuffled := c.def_ (d := dd_law_shuffled) (List.mem_of_getElem? (i := 26) rfl)
    gm_law_shuffled := He.glo_ok KX hg (c.fact (List.mem_of_getElem? (i := 22) rfl))
    fd_law_same := c.def_ (d := dd_law_same) (List.mem_of_getElem? (i := 27) rfl)
    gm_law_same := He.glo_ok KX hg (c.fact (List.mem_of_getElem? (i := 23) rfl))
    fd_law_words := c.def_ (d := dd_law_words) (List.mem_of_getElem? (i := 28) rfl)
    gm_law_words := He.glo_ok KX hg (c.fact (List.mem_of_getElem? (i := 24) rfl))
    fd_law_own := c.def_ (d := dd_law_own) (List.mem_of_getElem? (i := 29) rfl)
    gm_law_own := He.glo_ok KX hg (c.fact (List.mem_of_getElem? (i := 25) rfl))
    fd_law_names := c.def_ (d := dd_law_names) (List.mem_of_getElem? (i := 30) rfl)
    gm_law_names := He.glo_ok KX hg (c.fact (List.mem_of_getElem? (i := 26) rfl))
    fd_law_web := c.def_ (d := dd_law_web) (List.mem_of_getElem? (i := 31) rfl)
    gm_law_web := He.glo_ok KX hg (c.fact (List.mem_of_getElem? (i := 27) rfl))
    fd_law_near := c.def_ (d := dd_law_near) (List.mem_of_getElem? (i := 32) rfl)
    gm_law_near := He.glo_ok KX hg (c.fact (List.mem_of_getElem? (i := 28) rfl))
    fd_law_all_sets := c.def_ (d := dd_law_all_sets) (List.mem_of_getElem? (i := 33) rfl)
    gm_law_all_sets := He.glo_ok KX hg (c.fact (List.mem_of_getElem? (i := 29) rfl))
    fd_law_some := c.def_ (d := dd_law_some) (List.mem_of_getElem? (i := 34) rfl)
    gm_law_some := He.glo_ok KX hg (c.fact (List.mem_of_getElem? (i := 30) rfl))
    fd_law_parts_of := c.def_ (d := dd_law_parts_of) (List.mem_of_getElem? (i := 35) rfl)
    gm_law_parts_of := He.glo_ok KX hg (c.fact (List.mem_of_getElem? (i := 31) rfl))
    fd_law_sees := c.def_ (d := dd_law_sees) (List.mem_of_getElem? (i := 36) rfl)
    gm_law_sees := He.glo_ok KX hg (c.fact (List.mem_of_getElem? (i := 32) rfl))
    fd_law_tied_posts := c.def_ (d := dd_law_tied_posts) (List.mem_of_getElem? (i := 37) rfl)
    gm_law_tied_posts := He.glo_ok KX hg (c.fact (List.mem_of_getElem? (i := 33) rfl))
    fd_law_ill_watched := c.def_ (d := dd_law_ill_watched) (List.mem_of_getElem? (i := 38) rfl)
    gm_law_ill_watched := He.glo_ok KX hg (c.fact (List.mem_of_getElem? (i := 34) rfl))
    fd_law_is_of_kind := c.def_ (d := dd_law_is_of_kind) (List.mem_of_getElem? (i := 39) rfl)
    gm_law_is_of_kind := He.glo_ok KX hg (c.fact (List.mem_of_getElem? (i := 35) rfl))
    fd_law_kinds := c.def_ (d := dd_law_kinds) (List.mem_of_getElem? (i := 40) rfl)
    gm_law_kinds := He.glo_ok KX hg (c.fact (List.mem_of_getElem? (i := 36) rfl))
    fd_law_of_kind := c.def_ (d := dd_law_of_kind) (List.mem_of_getElem? (i := 41) rfl)
    gm_law_of_kind := He.glo_ok KX hg (c.fact (List.mem_of_getElem? (i := 37) rfl))
    fd_law_case := c.def_ (d := dd_law_case) (List.mem_of_getElem? (i := 42) rfl)
    gm_law_case := He.glo_ok KX hg (c.fact (List.mem_of_getElem? (i := 38) rfl))
    fd_law_cased := c.def_ (d := dd_law_cased) (List.mem_of_getElem? (i := 43) rfl)
    gm_law_cased := He.glo_ok KX hg (c.fact (List.mem_of_getElem? (i := 39) rfl))
    fd_law_right := c.def_ (d := dd_law_right) (List.mem_of_getElem? (i := 44) rfl)
    gm_law_right := He.glo_ok KX hg (c.fact (List.mem_of_getElem? (i := 40) rfl))
    fd_law := c.def_ (d := dd_law) (List.mem_of_getElem? (i := 45) rfl)
    gm_law := He.glo_ok KX hg (c.fact (List.mem_of_getElem? (i := 41) rfl))
    mk_Case := He.mkr_ok (c.fact (List.mem_of_getElem? (i := 68) rfl))
    mk_Web := He.mkr_ok (c.fact (List.mem_of_getElem? (i := 69) rfl))
    eq_Case := ⟨He.eqO_ok (he ex2 (List.mem_of_getElem? (i := 2) rfl)), (he ex3 (List.mem_of_getElem? (i := 3) rfl))⟩
    eq_Web := ⟨He.eqO_ok (he ex4 (List.mem_of_getElem? (i := 4) rfl)), (he ex5 (List.mem_of_getElem? (i := 5) rfl))⟩
    tb_is_set_of_names := hb (He.cT K ("is_set_of_names", none)) (List.mem_of_getElem? (i := 0) rfl)
    ht_is_set_of_names := List.mem_of_getElem? (i := 0) rfl
    hu_is_set_of_names := fun p hp e => by
      obtain ⟨j, hj⟩ := List.mem_iff_getElem?.mp hp
      rw [hu j 0 p _ hj rfl e]
    tb_wrong_in_places := hb (He.cT K ("wrong_in_places", none)) (List.mem_of_getElem? (i := 1) rfl)
    ht_wrong_in_places := List.mem_of_getElem? (i := 1) rfl
    hu_wrong_in_places := fun p hp e => by
      obtain ⟨j, hj⟩ := List.mem_iff_getElem?.mp hp
      rw [hu j 1 p _ hj rfl e]
    tb_wrong_in_ties := hb (He.cT K ("wrong_in_ties", none)) (List.mem_of_getElem? (i := 2) rfl)
    ht_wrong_in_ties := List.mem_of_getElem? (i := 2) rfl
    hu_wrong_in_ties := fun p hp e => by
      obtain ⟨j, hj⟩ := List.mem_iff_getElem?.mp hp
      rw [hu j 2 p _ hj rfl e] }
theorem law_at {w : World} {h : Heap} {K : PySem.W.Frag} {mg : Str → Option Value} {f : Addr} (KX : K.In h) (hg : h.Ns mainGlobals mg) (hf : mg "law" = some (.ref f)) (c : SaysP fa fn tf gs ex w h K)
    (hm : ∀ ns : List Int, ns.length ≤ 63 → (∀ z ∈ ns, Builtin.Int.intBits z ≤ 1048576) → ∀ d : D, d = .ro (ns.map D.int) ∨ d = .lst (ns.map D.int) → ∃ st, S_law [.d d] [] = some (.bl true, st)) :
    LawAtS PySem.Challenge.rw_watchposts_k85_whole_cases_made w K C8.CX0 30 63 "script" mg f h := by
  obtain ⟨fd, F⟩ := c.def_ (d := dd_law) (List.mem_of_getElem? (i := 45) rfl)
  have e := hf.symm.trans (He.glo_ok KX hg (c.fact (List.mem_of_getElem? (i := 41) rfl)))
  cases e
  have b := FunD.bindsA (ps := ["script"]) F (fun kV doc pm an cdv ct => len1 fun _ => rfl)
  refine ⟨fd, tf.map (He.cT K), SpG K (gOf K) 1 S_law, fun p hp => ?_, fun p hp => ?_, fun p hp => ?_, fun s u => b s [u] rfl, fun H a ns hl hbits hT hS => ?_, fun base hK hN hTB => ?_⟩
  · obtain ⟨q, hq, e⟩ := List.mem_map.mp hp
    rw [← e]
    exact c.x.empty q hq
  · obtain ⟨q, hq, e⟩ := List.mem_map.mp hp
    rw [← e]
    exact c.x.out q hq
  · obtain ⟨q, hq, e⟩ := List.mem_map.mp hp
    rw [← e]
    exact PySem.W.codeHd_of_K KX (c.x.hd q hq)
  · refine law_sp (fun p hp => ?_) hS (hm ns hl hbits)
    have : p.1 ∈ tf.map fun q => (He.cT K q).2 := by
      have e : ((gOf K).T.map (·.1)) = tf.map fun q => (He.cT K q).2 := rfl
      rw [← e]
      exact List.mem_map_of_mem hp
    obtain ⟨q, hq, e⟩ := List.mem_map.mp this
    exact TabN.nil (by rw [← e]; exact hT _ (List.mem_map_of_mem hq))
  · exact fn_law (hx_of KX hg c hTB) F
end K85
set_option autoImplicit false
set_option maxRecDepth 100000
set_option maxHeartbeats 4000000
namespace K85
open PySem PySem.Spec L2 MM
/-- every object of the store names places that are there -/
def Wf (st : List Ob) : Prop := st.all (Ob.lo st.length) = true
def W3 (a b c : Int) : Ob := .lst [.int a, .int b, .int c]
theorem w3_lo {n : Nat} {a b c : Int} : Ob.lo n (W3 a b c) = true := by simp [W3, Ob.lo, D.loL, D.lo]
theorem Wf.set {st : List Ob} {n : Nat} {o : Ob} (h : Wf st) (ho : Ob.lo st.length o = true) : Wf (st.set n o) := by
  unfold Wf at h ⊢
  rw [List.length_set, List.all_eq_true]
  intro x hx
  rcases List.mem_or_eq_of_mem_set hx with hx | hx
  · exact List.all_eq_true.mp h x hx
  · rw [hx]; exact ho
theorem wp_frzS {k : Nat} {m : Mo D} {st : List Ob} {Q : D → List Ob → Prop} (h : wp m st fun d s => ∃ s0 g, s = s0 ++ g ∧ s0.length = st.length ∧ Wf s0 ∧ ∃ e, frzD s st.length k d = some e ∧ Q e s0) : wp (frzM k m) st Q := by
  rw [wp_frz]
  refine wp_mono h fun d s ⟨s0, g, e1, e2, e3, e, e4, q⟩ => ?_
  subst e1
  have ht : (s0 ++ g).take st.length = s0 := by rw [← e2, List.take_left]
  rw [ht, e4]
  exact ⟨by rw [← e2]; exact e3, q⟩
theorem wp_frz0 {k : Nat} {m : Mo D} {st : List Ob} {Q : D → List Ob → Prop} (h : wp m st fun d s => s.length = st.length ∧ Wf s ∧ ∃ e, frzD s st.length k d = some e ∧ Q e s) : wp (frzM k m) st Q :=
  wp_frzS (wp_mono h fun d s ⟨h1, h2, h3⟩ => ⟨s, [], by simp, h1, h2, h3⟩)
theorem dIx_loc {st : List Ob} {n : Nat} {ds : List D} {i : Int} (h : st[n]? = some (.lst ds)) : dIx st (.loc n) (.int i) = atI ds i := by
  simp [dIx, seqItems, res, h]
theorem dIx_tup {st : List Ob} {ds : List D} {i : Int} : dIx st (.tup ds) (.int i) = atI ds i := by
  simp [dIx, seqItems, res]
theorem dIx_lst {st : List Ob} {ds : List D} {i : Int} : dIx st (.lst ds) (.int i) = atI ds i := by
  simp [dIx, seqItems, res]
theorem dIB_int {f : Int → Int → Bool} {i j : Int} : dIB f (.int i) (.int j) = some (.bl (f i j)) := rfl
theorem dI_int {c : Int → Int → Prop} [∀ i j, Decidable (c i j)] {f : Int → Int → Int} {i j : Int} : dI c f (.int i) (.int j) = if c i j then some (.int (f i j)) else none := rfl
theorem dAdd_int {i j : Int} : dAdd (.int i) (.int j) = some (.int (i + j)) := rfl
theorem dInt_int {st : List Ob} {i : Int} : dInt st [.int i] = some (.int i) := rfl
theorem dDivmod_int {st : List Ob} {i j : Int} : dDivmod st [.int i, .int j] = if cDiv i j then some (.tup [.int (i / j), .int (i % j)]) else none := rfl
theorem frz_int {st : List Ob} {n k : Nat} {i : Int} : frzD st n (k + 1) (.int i) = some (.int i) := by simp [frzD, D.lo]
theorem cMul_r {i j : Int} (h : -(2 ^ 64) < j ∧ j < 2 ^ 64) : cMul i j := .inr h
theorem cMul_l {i j : Int} (h : -(2 ^ 64) < i ∧ i < 2 ^ 64) : cMul i j := .inl h
theorem draw_ok0 {st : List Ob} {n : Nat} {a b c l : Int} (hw : Wf st) (h : st[n]? = some (W3 a b c)) (h1 : 1 ≤ l) (h2 : l < 1073741824) {Q : D → List Ob → Prop}
    (q : ∀ (r : Int) (a' b' c' : Int), 0 ≤ r → r < l → Q (.int r) (st.set n (W3 a' b' c'))) : wp (S_law_draw [.d (.loc n), .d (.int l)]) st Q := by
  have hn : n < st.length := (List.getElem?_eq_some_iff.mp h).1
  have gs : ∀ o : Ob, (st.set n o)[n]? = some o := fun o => List.getElem?_set_self hn
  have fin : ∀ (r : Int) (a' b' c' : Int), 0 ≤ r → r < l → ((st.set n (W3 a' b' c')).length = st.length ∧ Wf (st.set n (W3 a' b' c')) ∧ ∃ e, frzD (st.set n (W3 a' b' c')) st.length 12 (.int r) = some e ∧ Q e (st.set n (W3 a' b' c'))) := fun r a' b' c' hr hl => ⟨List.length_set, hw.set w3_lo, _, frz_int, q r a' b' c' hr hl⟩
  unfold S_law_draw
  refine wp_frz0 ?_
  rw [wp_runF]
  unfold m_law_draw
  unfold W3 at h
  have i0 : ∀ x y z : Int, atI [D.int x, D.int y, D.int z] 0 = some (.int x) := fun _ _ _ => rfl
  have i1 : ∀ x y z : Int, atI [D.int x, D.int y, D.int z] 1 = some (.int y) := fun _ _ _ => rfl
  have i2 : ∀ x y z : Int, atI [D.int x, D.int y, D.int z] 2 = some (.int z) := fun _ _ _ => rfl
  have j0 : ixN 3 0 = some 0 := rfl
  have j1 : ixN 3 1 = some 1 := rfl
  have j2 : ixN 3 2 = some 2 := rfl
  have cd : cDiv a l := ⟨by omega, h2⟩
  have c1 : ∀ x : Int, cMul x 40009 := fun x => cMul_r (by decide)
  have c2 : ∀ x : Int, cMul 15013 x := fun x => cMul_l (by decide)
  have c3 : ∀ x y : Int, cMul x (y % 5003 + 20011) := fun x y => cMul_r (by omega)
  have c4 : ∀ x : Int, cDiv x 1031 := fun x => ⟨by decide, by decide⟩
  have p1 : (0 : Int) < 2147483587 := by decide
  have p2 : (0 : Int) < 5003 := by decide
  have p3 : 0 < l := by omega
  by_cases ha : 0 < a
  · simp only [startE, List.map_cons, List.map_nil, List.length_cons, List.length_nil, List.replicate, List.cons_append, List.nil_append, wp_ySeq, wp_yIf, wp_asB, wp_xBin, wp_var, wp_c, wp_mIx, List.getElem?_cons_zero, List.getElem?_cons_succ, dIx_loc h, i0, wp_lift2, dIB_int, isB_bl, decide_eq_true ha, if_true,
      wp_yAsg, wp_xCall, wp_xCons, wp_xNil, wp_liftL, dDivmod_int, if_pos cd, wp_zTup, wp_zCons, wp_zSub, wp_setLoc, h, j0, List.set_cons_zero, wp_zName, List.set_cons_succ, wp_zNil, onNx_nx, wp_yRet, onNx_rt]
    exact fin _ _ _ _ (Int.emod_nonneg _ (by omega)) (Int.emod_lt_of_pos _ (by omega))
  · simp only [startE, List.map_cons, List.map_nil, List.length_cons, List.length_nil, List.replicate, List.cons_append, List.nil_append, wp_ySeq, wp_yIf, wp_asB, wp_xBin, wp_var, wp_c, wp_mIx, List.getElem?_cons_zero, List.getElem?_cons_succ, dIx_loc h, i0, wp_lift2, dIB_int, isB_bl, decide_eq_false ha, if_false, Bool.false_eq_true, wp_yNil,
      wp_yAsg, wp_xCall, wp_xCons, wp_xNil, wp_liftL, wp_zSub, wp_setLoc, h, j0, List.set_cons_zero, wp_zName, List.set_cons_succ, wp_zNil, onNx_nx, wp_yRet, onNx_rt, wp_ySet, i1, i2, j1, j2, dAdd_int, dI_int, dInt_int, dIx_loc (gs _), gs, List.set_set, c1, c2, c3, c4, p1, p2, p3, if_true]
    exact fin _ _ _ _ (Int.emod_nonneg _ (by omega)) (Int.emod_lt_of_pos _ (by omega))
end K85
set_option autoImplicit false
set_option maxRecDepth 100000
set_option maxHeartbeats 4000000
namespace K85
open PySem PySem.Spec L2 MM
mutual
theorem lo_mono {n m : Nat} (h : n ≤ m) : ∀ d : D, D.lo n d = true → D.lo m d = true
  | .tup ds, e => by simp only [D.lo] at e ⊢; exact loL_mono h ds e
  | .lst ds, e => by simp only [D.lo] at e ⊢; exact loL_mono h ds e
  | .ro ds, e => by simp only [D.lo] at e ⊢; exact loL_mono h ds e
  | .ins _ _ ds, e => by simp only [D.lo] at e ⊢; exact loL_mono h ds e
  | .dct _ ds, e => by simp only [D.lo] at e ⊢; exact loL_mono h ds e
  | .loc k, e => by
    simp only [D.lo] at e ⊢
    exact decide_eq_true (Nat.lt_of_lt_of_le (of_decide_eq_true e) h)
  | .non, _ => by simp only [D.lo]
  | .bl _, _ => by simp only [D.lo]
  | .int _, _ => by simp only [D.lo]
  | .str _, _ => by simp only [D.lo]
  | .ty _, _ => by simp only [D.lo]
  | .cls _, _ => by simp only [D.lo]
theorem loL_mono {n m : Nat} (h : n ≤ m) : ∀ ds : List D, D.loL n ds = true → D.loL m ds = true
  | [], _ => by simp only [D.loL]
  | d :: ds, e => by
    simp only [D.loL, Bool.and_eq_true] at e ⊢
    exact ⟨lo_mono h d e.1, loL_mono h ds e.2⟩
end
theorem obLo_mono {n m : Nat} (h : n ≤ m) {o : Ob} (e : Ob.lo n o = true) : Ob.lo m o = true := by
  cases o <;> exact loL_mono h _ e
theorem Wf.push {st : List Ob} {o : Ob} (h : Wf st) (ho : Ob.lo (st.length + 1) o = true) : Wf (st ++ [o]) := by
  unfold Wf at h ⊢
  rw [List.all_eq_true] at h ⊢
  intro x hx
  rw [List.length_append]
  rcases List.mem_append.mp hx with hx | hx
  · exact obLo_mono (Nat.le_succ _) (h x hx)
  · rw [List.mem_singleton.mp hx]; exact ho
def WAt (st : List Ob) (n : Nat) : Prop := ∃ a b c : Int, st[n]? = some (W3 a b c)
theorem WAt.lt {st : List Ob} {n : Nat} (h : WAt st n) : n < st.length := let ⟨_, _, _, e⟩ := h; (List.getElem?_eq_some_iff.mp e).1
/-- the store has gone on: new objects, the well moved -/
structure Go (n : Nat) (st s : List Ob) : Prop where
  le : st.length ≤ s.length
  old : ∀ m, m < st.length → m ≠ n → s[m]? = st[m]?
  wat : WAt s n
  wf : Wf s
section
variable {n : Nat} {st s s2 : List Ob}
theorem Go.refl (hw : Wf st) (hn : WAt st n) : Go n st st := ⟨Nat.le_refl _, fun _ _ _ => rfl, hn, hw⟩
theorem Go.trans (a : Go n st s) (b : Go n s s2) : Go n st s2 := ⟨Nat.le_trans a.le b.le, fun m h1 h2 => (b.old m (Nat.lt_of_lt_of_le h1 a.le) h2).trans (a.old m h1 h2), b.wat, b.wf⟩
theorem Go.push {o : Ob} (a : Go n st s) (ho : Ob.lo (s.length + 1) o = true) : Go n st (s ++ [o]) :=
  ⟨by rw [List.length_append]; exact Nat.le_succ_of_le a.le, fun m h1 h2 => by rw [List.getElem?_append_left (Nat.lt_of_lt_of_le h1 a.le)]; exact a.old m h1 h2,
    by obtain ⟨x, y, z, e⟩ := a.wat; exact ⟨x, y, z, by rw [List.getElem?_append_left (List.getElem?_eq_some_iff.mp e).1]; exact e⟩, a.wf.push ho⟩
theorem Go.setL {o : Ob} {m : Nat} (a : Go n st s) (hm : st.length ≤ m) (hn : n < st.length) (ho : Ob.lo s.length o = true) : Go n st (s.set m o) :=
  ⟨by rw [List.length_set]; exact a.le, fun j h1 h2 => by rw [List.getElem?_set_ne (by omega)]; exact a.old j h1 h2,
    by obtain ⟨x, y, z, e⟩ := a.wat; exact ⟨x, y, z, by rw [List.getElem?_set_ne (by omega)]; exact e⟩, a.wf.set ho⟩
theorem Go.take (a : Go n st s) (hn : n < st.length) (hw : Wf st) : Go n st (s.take st.length) := by
  have hl : (s.take st.length).length = st.length := by rw [List.length_take]; exact Nat.min_eq_left a.le
  have hg : ∀ m, m < st.length → (s.take st.length)[m]? = s[m]? := fun m h => by rw [List.getElem?_take_of_lt h]
  obtain ⟨x, y, z, e⟩ := a.wat
  refine ⟨Nat.le_of_eq hl.symm, fun m h1 h2 => (hg m h1).trans (a.old m h1 h2), ⟨x, y, z, (hg n hn).trans e⟩, ?_⟩
  unfold Wf
  rw [List.all_eq_true]
  intro o ho
  obtain ⟨m, hm⟩ := List.mem_iff_getElem?.mp ho
  have hml : m < st.length := by have := (List.getElem?_eq_some_iff.mp hm).1; omega
  rw [hl]
  rw [hg m hml] at hm
  by_cases hmn : m = n
  · subst hmn
    rw [e] at hm
    cases hm
    exact w3_lo
  · rw [a.old m hml hmn] at hm
    exact List.all_eq_true.mp hw o (List.mem_of_getElem? hm)
end
theorem wp_frzW {n k : Nat} {m : Mo D} {st : List Ob} {Q : D → List Ob → Prop} (hn : WAt st n) (hw : Wf st)
    (h : wp m st fun d s => Go n st s ∧ ∃ e, frzD s st.length k d = some e ∧ ∀ s', Go n st s' → s'.length = st.length → Q e s') : wp (frzM k m) st Q := by
  rw [wp_frz]
  refine wp_mono h fun d s ⟨g, e, h1, h2⟩ => ?_
  have gt := g.take hn.lt hw
  have hl : (s.take st.length).length = st.length := by rw [List.length_take]; exact Nat.min_eq_left g.le
  refine ⟨?_, ?_⟩
  · have := gt.wf
    unfold Wf at this
    rw [hl] at this
    exact this
  · rw [h1]
    exact h2 _ gt hl
theorem Go.wset {n : Nat} {st : List Ob} {a b c : Int} (hw : Wf st) (hn : n < st.length) : Go n st (st.set n (W3 a b c)) :=
  ⟨by rw [List.length_set]; exact Nat.le_refl _, fun m h1 h2 => List.getElem?_set_ne (Ne.symm h2), ⟨a, b, c, List.getElem?_set_self hn⟩, hw.set w3_lo⟩
theorem draw_ok {st : List Ob} {n : Nat} {l : Int} (hw : Wf st) (h : WAt st n) (h1 : 1 ≤ l) (h2 : l < 1073741824) {Q : D → List Ob → Prop}
    (q : ∀ (r : Int) (s : List Ob), 0 ≤ r → r < l → Go n st s → s.length = st.length → Q (.int r) s) : wp (S_law_draw [.d (.loc n), .d (.int l)]) st Q := by
  obtain ⟨a, b, c, e⟩ := h
  exact draw_ok0 hw e h1 h2 fun r a' b' c' hr hl => q r _ hr hl (Go.wset hw (List.getElem?_eq_some_iff.mp e).1) List.length_set
/-- an element drawn -/
theorem of_ok {st : List Ob} {n : Nat} {ds : List D} (hw : Wf st) (h : WAt st n) (h1 : 0 < ds.length) (h2 : ds.length < 1073741824) (hlo : D.loL 0 ds = true) {Q : D → List Ob → Prop}
    (q : ∀ (d : D) (s : List Ob), d ∈ ds → Go n st s → s.length = st.length → Q d s) {x : D} (hx : x = .tup ds ∨ x = .lst ds) : wp (S_law_of [.d (.loc n), .d x]) st Q := by
  unfold S_law_of
  refine wp_frzW h hw ?_
  rw [wp_runF]
  unfold m_law_of
  have hlen : ∀ s, dLen s [x] = some (.int ds.length) := fun s => by rcases hx with rfl | rfl <;> rfl
  simp only [startE, List.map_cons, List.map_nil, List.length_cons, List.length_nil, List.replicate, List.cons_append, List.nil_append, wp_yRet, wp_xBin, wp_var, List.getElem?_cons_zero, List.getElem?_cons_succ, wp_xFn, wp_xCons, wp_xCall, wp_xNil, wp_liftL, hlen, wp_mIx]
  refine ⟨trivial, draw_ok hw h (by omega) (by omega) fun r s hr hl g hs => ?_⟩
  have hi : r.toNat < ds.length := by omega
  have hat : dIx s x (.int r) = some ds[r.toNat] := by
    have : atI ds r = some ds[r.toNat] := by
      unfold atI ixN
      rw [if_pos hr, if_pos (by omega)]
      exact List.getElem?_eq_getElem hi
    rcases hx with rfl | rfl
    · rw [dIx_tup]; exact this
    · rw [dIx_lst]; exact this
  rw [hat]
  have hm : ds[r.toNat] ∈ ds := List.getElem_mem hi
  have hlo2 : D.lo st.length ds[r.toNat] = true := by
    have gen : ∀ (l : List D), D.loL 0 l = true → ∀ d ∈ l, D.lo 0 d = true := by
      intro l
      induction l with
      | nil => intro _ d hd; cases hd
      | cons a l ih =>
        intro e d hd
        simp only [D.loL, Bool.and_eq_true] at e
        rcases List.mem_cons.mp hd with rfl | hd
        · exact e.1
        · exact ih e.2 d hd
    exact lo_mono (Nat.zero_le _) _ (gen ds hlo _ hm)
  exact ⟨g, _, frz_lo hlo2, fun s' g' hs' => q _ s' hm g' hs'⟩
end K85
set_option autoImplicit false
set_option maxRecDepth 100000
set_option maxHeartbeats 4000000
/-! MS: sorted rows. -/
namespace MM
open PySem PySem.Spec L2
theorem sortD_map {α : Type} (f : α → D) (xs : List α) : sortD (xs.map f) = (xs.mergeSort fun a b => PySem.W.dataLe false toPy (f a) (f b)).map f := by
  unfold sortD
  exact (List.map_mergeSort (r := fun a b => PySem.W.dataLe false toPy (f a) (f b)) (s := PySem.W.dataLe false toPy) (f := f) (fun a _ b _ => rfl)).symm
theorem sortD_perm {α : Type} (f : α → D) (xs : List α) : (xs.mergeSort fun a b => PySem.W.dataLe false toPy (f a) (f b)).Perm xs := List.mergeSort_perm _ _
theorem sortD_pw {α : Type} (f : α → D) (xs : List α) : (xs.mergeSort fun a b => PySem.W.dataLe false toPy (f a) (f b)).Pairwise fun a b => PySem.W.dataLe false toPy (f a) (f b) = true :=
  List.pairwise_mergeSort (le := fun a b => PySem.W.dataLe false toPy (f a) (f b)) (fun a b c h1 h2 => (PySem.W.sortLe_total _ _ _).trans (f a) (f b) (f c) h1 h2) (fun a b => Bool.or_eq_true_iff.mpr ((PySem.W.sortLe_total _ _ _).total (f a) (f b))) xs
theorem le_str {a b : Str} (h : PySem.W.dataLe false toPy (.str a) (.str b) = true) : ¬ b.cps.toList < a.cps.toList := by
  unfold PySem.W.dataLe PySem.W.sortLe at h
  have h2 : (!PyProof.Rows.lexLt PyProof.Rows.itemOrd [.inr b.cps.toList] [.inr a.cps.toList]) = true := h
  rw [Bool.not_eq_true', PyProof.Rows.lex_cons] at h2
  intro hlt
  have h3 : PyProof.Rows.itemOrd.blt (.inr b.cps.toList) (.inr a.cps.toList) = true := decide_eq_true hlt
  rw [h3] at h2
  cases h2
theorem str_ext {a b : Str} (h : a.cps.toList = b.cps.toList) : a = b := by
  cases a
  cases b
  congr 1
  exact Array.toList_inj.mp h
theorem lt_of_le_ne {a b : Str} (h : ¬ b.cps.toList < a.cps.toList) (hne : a ≠ b) : a.cps.toList < b.cps.toList := by
  by_cases hab : a.cps.toList < b.cps.toList
  · exact hab
  · exact absurd (str_ext (List.le_antisymm (List.not_lt.mp h) (List.not_lt.mp hab))) hne
/-- texts sorted -/
theorem sort_strs (xs : List Str) (hnd : xs.Nodup) : ∃ ys : List Str, sortD (xs.map .str) = ys.map .str ∧ ys.Perm xs ∧ ys.Pairwise fun a b => a.cps.toList < b.cps.toList := by
  refine ⟨_, sortD_map _ xs, sortD_perm _ xs, ?_⟩
  have h1 := sortD_pw D.str xs
  have h2 : (xs.mergeSort fun a b => PySem.W.dataLe false toPy (D.str a) (D.str b)).Nodup := (sortD_perm D.str xs).nodup_iff.mpr hnd
  exact (h1.and h2).imp fun ⟨a, b⟩ => lt_of_le_ne (le_str a) b
theorem sortOk_strs (xs : List Str) (h : xs.length ≤ 1000000) (ho : ∀ x ∈ xs, PyData.strOk x = true) : sortOk (xs.map .str) = true := by
  have h1 : pyOks (xs.map D.str) = true := by
    induction xs with
    | nil => rfl
    | cons x xs ih => simp only [List.map_cons, pyOks, Bool.and_eq_true]; exact ⟨by simp only [pyOk]; exact ho x (by simp), ih (by simp at h; omega) fun y hy => ho y (by simp [hy])⟩
  unfold sortOk
  rw [h1]
  simp only [Bool.true_and, Bool.and_eq_true, List.map_map]
  refine ⟨?_, ?_, ?_, ?_⟩
  · unfold alikeAllB
    rw [List.all_eq_true]
    intro a ha
    rw [List.all_eq_true]
    intro b hb
    obtain ⟨x, _, rfl⟩ := List.mem_map.mp ha
    obtain ⟨y, _, rfl⟩ := List.mem_map.mp hb
    rfl
  · unfold sortableB
    rw [Bool.or_eq_true]
    refine .inr ?_
    rw [List.all_eq_true]
    intro a ha
    obtain ⟨x, _, rfl⟩ := List.mem_map.mp ha
    rfl
  · rw [List.length_map]; exact decide_eq_true h
  · rw [List.all_eq_true]
    intro a ha
    obtain ⟨x, _, rfl⟩ := List.mem_map.mp ha
    rfl
/-! pairs of texts -/
abbrev tieD (p : Str × Str) : D := .tup [.str p.1, .str p.2]
theorem le_pair {p q : Str × Str} (h : PySem.W.dataLe false toPy (tieD p) (tieD q) = true) (hne : p ≠ q) : lexLtS [p.1, p.2] [q.1, q.2] = true := by
  obtain ⟨a, b⟩ := p
  obtain ⟨c, d⟩ := q
  unfold PySem.W.dataLe PySem.W.sortLe at h
  have h2 : (!PyProof.Rows.lexLt PyProof.Rows.itemOrd [.inl 1, .inr c.cps.toList, .inl 1, .inr d.cps.toList, .inl 0] [.inl 1, .inr a.cps.toList, .inl 1, .inr b.cps.toList, .inl 0]) = true := h
  rw [Bool.not_eq_true'] at h2
  have e11 : PyProof.Rows.itemOrd.blt (.inl 1) (.inl 1) = false := PyProof.Rows.itemOrd.irrefl _
  rw [PyProof.Rows.lex_cons, e11, PyProof.Rows.lex_cons] at h2
  simp only [Bool.false_or, Bool.not_false, Bool.true_and, Bool.or_eq_false_iff] at h2
  obtain ⟨h3, h4⟩ := h2
  have h3' : ¬ c.cps.toList < a.cps.toList := of_decide_eq_false h3
  show (if a = c then lexLtS [b] [d] else decide (a.cps.toList < c.cps.toList)) = true
  by_cases hac : a = c
  · subst hac
    rw [if_pos rfl]
    have e2 : PyProof.Rows.itemOrd.blt (.inr a.cps.toList) (.inr a.cps.toList) = false := PyProof.Rows.itemOrd.irrefl _
    have e3 : PyProof.Rows.itemLt (.inr a.cps.toList) (.inr a.cps.toList) = false := e2
    rw [e3, Bool.not_false, Bool.true_and, PyProof.Rows.lex_cons, e11, PyProof.Rows.lex_cons] at h4
    simp only [Bool.false_or, Bool.not_false, Bool.true_and, Bool.or_eq_false_iff] at h4
    have h5 : ¬ d.cps.toList < b.cps.toList := of_decide_eq_false h4.1
    have hbd : b ≠ d := fun e => hne (by rw [e])
    show (if b = d then lexLtS [] [] else decide (b.cps.toList < d.cps.toList)) = true
    rw [if_neg hbd]
    exact decide_eq_true (lt_of_le_ne h5 hbd)
  · rw [if_neg hac]
    exact decide_eq_true (lt_of_le_ne h3' hac)
theorem sort_pairs (xs : List (Str × Str)) (hnd : xs.Nodup) : ∃ ys : List (Str × Str), sortD (xs.map tieD) = ys.map tieD ∧ ys.Perm xs ∧ ys.Pairwise fun p q => lexLtS [p.1, p.2] [q.1, q.2] = true := by
  refine ⟨_, sortD_map _ xs, sortD_perm _ xs, ?_⟩
  have h1 := sortD_pw tieD xs
  have h2 : (xs.mergeSort fun a b => PySem.W.dataLe false toPy (tieD a) (tieD b)).Nodup := (sortD_perm tieD xs).nodup_iff.mpr hnd
  exact (h1.and h2).imp fun ⟨a, b⟩ => le_pair a b
theorem sortOk_gen {α : Type} (f : α → D) (xs : List α) (h : xs.length ≤ 1000000) (h1 : ∀ a ∈ xs, pyOk (f a) = true) (h2 : ∀ a b, PySem.W.alike (toPy (f a)) (toPy (f b)) = true) (h3 : ∀ a, isTupB (toPy (f a)) = true) (h4 : ∀ a ∈ xs, (toPy (f a)).depth ≤ 60) : sortOk (xs.map f) = true := by
  have h0 : pyOks (xs.map f) = true := by
    clear h h4
    induction xs with
    | nil => rfl
    | cons x xs ih => simp only [List.map_cons, pyOks, Bool.and_eq_true]; exact ⟨h1 x (by simp), ih fun y hy => h1 y (by simp [hy])⟩
  unfold sortOk
  rw [h0]
  simp only [Bool.true_and, Bool.and_eq_true, List.map_map]
  refine ⟨?_, ?_, ?_, ?_⟩
  · unfold alikeAllB
    rw [List.all_eq_true]
    intro a ha
    rw [List.all_eq_true]
    intro b hb
    obtain ⟨x, _, rfl⟩ := List.mem_map.mp ha
    obtain ⟨y, _, rfl⟩ := List.mem_map.mp hb
    exact h2 x y
  · unfold sortableB
    rw [Bool.or_eq_true]
    refine .inl ?_
    rw [List.all_eq_true]
    intro a ha
    obtain ⟨x, _, rfl⟩ := List.mem_map.mp ha
    exact h3 x
  · rw [List.length_map]; exact decide_eq_true h
  · rw [List.all_eq_true]
    intro a ha
    obtain ⟨x, hx, rfl⟩ := List.mem_map.mp ha
    exact decide_eq_true (h4 x hx)
end MM
set_option autoImplicit false
set_option maxRecDepth 100000
set_option maxHeartbeats 8000000
namespace K85
open PySem PySem.Spec L2 MM
def TA : Str := "all alone apart beside burn case cut double fire game guard in joined lost near next no none of once open"
def TB : Str := " out place post posts quit rule safe set sets step take tie undo watch watched web yes"
def TO : Str := "apart double joined near once open"
def SPC : Str := " "
def WS : List Str := Txt.split (TA ++ TB) SPC
def WO : List Str := Txt.split TO SPC
theorem words_ok {st : List Ob} (hw : Wf st) {Q : D → List Ob → Prop} (q : Q (.lst (WS.map .str)) st) : wp (S_law_words []) st Q := by
  unfold S_law_words
  refine wp_frz0 ?_
  rw [wp_runF]
  unfold m_law_words
  have e1 : dAdd (.str TA) (.str TB) = some (.str (TA ++ TB)) := by
    show (if TA.length + TB.length ≤ 1000000 then some (D.str (TA ++ TB)) else none) = _
    rw [if_pos (by decide +kernel)]
  have e2 : mSplit (.str (TA ++ TB)) [.str SPC] st = some (.lst (WS.map .str), st) := by
    show (if (SPC.length == 0) = false ∧ (TA ++ TB).length ≤ 1000000 then some (D.lst ((Txt.split (TA ++ TB) SPC).map .str), st) else none) = _
    rw [if_pos (by decide +kernel)]
    rfl
  have lo : D.lo st.length (.lst (WS.map .str)) = true := by
    simp only [D.lo]
    generalize WS = l
    induction l with
    | nil => rfl
    | cons x l ih => simp only [List.map_cons, D.loL, D.lo, Bool.true_and]; exact ih
  simp only [startE, List.map_cons, List.map_nil, List.length_cons, List.length_nil, List.replicate, List.cons_append, List.nil_append, wp_ySeq, wp_ySet, wp_c, onNx_nx, List.set_cons_zero, wp_xBin, wp_var, List.getElem?_cons_zero, wp_lift2, wp_yRet, wp_xMt, onNx_rt, wp_xCons, wp_xNil]
  rw [show dAdd (.str "all alone apart beside burn case cut double fire game guard in joined lost near next no none of once open") (.str " out place post posts quit rule safe set sets step take tie undo watch watched web yes") = some (.str (TA ++ TB)) from e1]
  refine ⟨rfl, ?_⟩
  rw [wp_def]
  rw [show mSplit (.str (TA ++ TB)) [.str " "] st = some (.lst (WS.map .str), st) from e2]
  exact ⟨rfl, hw, _, frz_lo lo, q⟩
theorem own_ok {st : List Ob} (hw : Wf st) {Q : D → List Ob → Prop} (q : Q (.lst (WO.map .str)) st) : wp (S_law_own []) st Q := by
  unfold S_law_own
  refine wp_frz0 ?_
  rw [wp_runF]
  unfold m_law_own
  have e2 : mSplit (.str TO) [.str SPC] st = some (.lst (WO.map .str), st) := by
    show (if (SPC.length == 0) = false ∧ TO.length ≤ 1000000 then some (D.lst ((Txt.split TO SPC).map .str), st) else none) = _
    rw [if_pos (by decide +kernel)]
    rfl
  have lo : D.lo st.length (.lst (WO.map .str)) = true := by
    simp only [D.lo]
    generalize WO = l
    induction l with
    | nil => rfl
    | cons x l ih => simp only [List.map_cons, D.loL, D.lo, Bool.true_and]; exact ih
  simp only [startE, List.map_nil, List.length_nil, List.replicate, List.nil_append, wp_c, wp_yRet, wp_xMt, wp_xCons, wp_xNil]
  refine ⟨rfl, ?_⟩
  rw [wp_def]
  rw [show mSplit (.str "apart double joined near once open") [.str " "] st = some (.lst (WO.map .str), st) from e2]
  exact ⟨rfl, hw, _, frz_lo lo, q⟩
def WL : List Str := [("all" : Str), ("alone" : Str), ("apart" : Str), ("beside" : Str), ("burn" : Str), ("case" : Str), ("cut" : Str), ("double" : Str), ("fire" : Str), ("game" : Str), ("guard" : Str), ("in" : Str), ("joined" : Str), ("lost" : Str), ("near" : Str), ("next" : Str), ("no" : Str), ("none" : Str), ("of" : Str), ("once" : Str), ("open" : Str), ("out" : Str), ("place" : Str), ("post" : Str), ("posts" : Str), ("quit" : Str), ("rule" : Str), ("safe" : Str), ("set" : Str), ("sets" : Str), ("step" : Str), ("take" : Str), ("tie" : Str), ("undo" : Str), ("watch" : Str), ("watched" : Str), ("web" : Str), ("yes" : Str)]
theorem c_WORDS_eq : c_WORDS = .tup (WL.map .str) := rfl
theorem wl_ws : ∀ w ∈ WL, w ∈ WS := by
  have h : (WL.all fun w => decide (w ∈ WS)) = true := by decide +kernel
  exact fun w hw => of_decide_eq_true (List.all_eq_true.mp h w hw)
/-! ### membership of texts -/
theorem eqFl_str {a b : Str} : eqFl (.str a) (.str b) = decide (a = b) := by
  simp only [eqFl]
  by_cases h : a = b <;> simp [h]
theorem in_strs {st : List Ob} {y : D} {x : Str} {l : List Str} (h : seqItems st y = some (l.map .str)) : inB st (.str x) y = some (decide (x ∈ l)) := by
  unfold inB
  rw [h]
  have hf : (l.map D.str).all flatD = true := by
    rw [List.all_eq_true]
    intro d hd
    obtain ⟨z, _, rfl⟩ := List.mem_map.mp hd
    rfl
  have e : ((l.map D.str).any fun z => eqFl z (.str x)) = decide (x ∈ l) := by
    rw [List.any_map]
    by_cases hx : x ∈ l
    · rw [decide_eq_true hx, List.any_eq_true]
      exact ⟨x, hx, by simp only [Function.comp, eqFl_str, decide_true]⟩
    · rw [decide_eq_false hx, List.any_eq_false]
      intro z hz
      simp only [Function.comp, eqFl_str]
      intro h2
      exact hx (by rw [← of_decide_eq_true h2]; exact hz)
  simp only [hf, e]
  rfl
end K85
set_option autoImplicit false
set_option maxRecDepth 100000
set_option maxHeartbeats 8000000
namespace K85
open PySem PySem.Spec L2 MM
def LS : Str := "abcdefghijklmnopqrstuvwxyz"
theorem ls_eq : LS.cps.toList = (List.range 26).map (97 + ·) := by decide +kernel
theorem ls_len : LS.length = 26 := by decide +kernel
theorem ls_at {i : Nat} (h : i < 26) (st : List Ob) : dIx st (.str LS) (.int (i : Int)) = some (.str ⟨#[97 + i]⟩) := by
  show (if LS.length ≤ 1000000 then (atI LS.cps.toList (i : Int)).map (fun c => D.str ⟨#[c]⟩) else none) = _
  rw [if_pos (by rw [ls_len]; decide)]
  have : atI LS.cps.toList (i : Int) = some (97 + i) := by
    unfold atI ixN
    rw [ls_eq, if_pos (by omega), List.length_map, List.length_range, if_pos (by omega)]
    simp [h]
  rw [this]
  rfl
theorem of_str_ok {st : List Ob} {n : Nat} (hw : Wf st) (h : WAt st n) {Q : D → List Ob → Prop}
    (q : ∀ (c : Nat) (s : List Ob), 97 ≤ c → c ≤ 122 → Go n st s → s.length = st.length → Q (.str ⟨#[c]⟩) s) : wp (S_law_of [.d (.loc n), .d (.str LS)]) st Q := by
  unfold S_law_of
  refine wp_frzW h hw ?_
  rw [wp_runF]
  unfold m_law_of
  have hlen : ∀ s, dLen s [.str LS] = some (.int 26) := fun s => by
    show (if LS.length ≤ 1000000 then some (D.int LS.length) else none) = _
    rw [ls_len]; rfl
  simp only [startE, List.map_cons, List.map_nil, List.length_cons, List.length_nil, List.replicate, List.cons_append, List.nil_append, wp_yRet, wp_xBin, wp_var, List.getElem?_cons_zero, List.getElem?_cons_succ, wp_xFn, wp_xCons, wp_xCall, wp_xNil, wp_liftL, hlen, wp_mIx]
  refine ⟨trivial, draw_ok hw h (by omega) (by omega) fun r s hr hl g hs => ?_⟩
  obtain ⟨k, rfl⟩ : ∃ k : Nat, r = (k : Int) := ⟨r.toNat, by omega⟩
  rw [ls_at (by omega)]
  exact ⟨g, _, frz_lo (by simp only [D.lo]), fun s' g' hs' => q _ s' (by omega) (by omega) g' hs'⟩
structure GN (s : Str) : Prop where
  ne : s.cps.toList ≠ []
  lt : ∀ c ∈ s.cps.toList, 97 ≤ c ∧ c ≤ 122
  len : s.length ≤ 8
  nw : s ∉ WL
theorem GN.ok {s : Str} (h : GN s) : PyData.strOk s = true := by
  unfold PyData.strOk
  rw [Array.all_eq_true]
  intro i hi
  have := h.lt (s.cps[i]) (by simp)
  exact decide_eq_true (by omega)
structure Names (ns : List Str) : Prop where
  g : ∀ x ∈ ns, GN x
  pw : ns.Pairwise fun a b => a.cps.toList < b.cps.toList
/-- the figure's letter eight times -/
theorem rep_toList (c : Nat) : (strRep 8 ⟨#[c]⟩).cps.toList = List.replicate 8 c := by
  simp [strRep, List.replicate]
theorem rep_gn : ∀ i < 6, GN (strRep 8 ⟨#[97 + i]⟩) := fun i hi => by
  refine ⟨by rw [rep_toList]; simp, fun c hc => ?_, ?_, ?_⟩
  · rw [rep_toList] at hc
    have := List.eq_of_mem_replicate hc
    omega
  · have := rep_toList (97 + i)
    have h2 : (strRep 8 ⟨#[97 + i]⟩).length = 8 := by
      unfold Str.length
      rw [← Array.length_toList, this, List.length_replicate]
    omega
  · have h : ((List.range 6).all fun i => decide (strRep 8 ⟨#[97 + i]⟩ ∉ WL)) = true := by decide +kernel
    exact of_decide_eq_true (List.all_eq_true.mp h i (List.mem_range.mpr hi))
end K85
set_option autoImplicit false
set_option maxRecDepth 100000
set_option maxHeartbeats 8000000
namespace K85
open PySem PySem.Spec L2 MM
/-- what a name drawn has: letters, at most eight, the turn's letter -/
structure Nm (i : Nat) (s : Str) : Prop where
  lt : ∀ c ∈ s.cps.toList, 97 ≤ c ∧ c ≤ 122
  len : s.length ≤ 8
  has : 97 + i ∈ s.cps.toList
theorem Nm.gn {i : Nat} {s : Str} (h : Nm i s) (w : s ∉ WL) : GN s := ⟨fun e => (by have := h.has; rw [e] at this; cases this), h.lt, h.len, w⟩
theorem rep_nm {i : Nat} (hi : i < 6) : Nm i (strRep 8 ⟨#[97 + i]⟩) := ⟨(rep_gn i hi).lt, (rep_gn i hi).len, by rw [rep_toList]; simp⟩
/-- the letter is put in -/
theorem put_nm {i k : Nat} {w : Str} (hi : i < 6) (hw : ∀ c ∈ w.cps.toList, 97 ≤ c ∧ c ≤ 122) (hl : w.length ≤ 7) : Nm i (cutS w none (some (k : Int)) ++ ⟨#[97 + i]⟩ ++ cutS w (some (k : Int)) none) := by
  have e : (cutS w none (some (k : Int)) ++ ⟨#[97 + i]⟩ ++ cutS w (some (k : Int)) none).cps.toList = w.cps.toList.take (min k w.length) ++ (97 + i) :: w.cps.toList.drop (min k w.length) := by
    rw [PySem.Str.cps_append, PySem.Str.cps_append]
    unfold cutS
    rw [HT.sIx_none, HT.sIx_none, HT.sIx_nat]
    simp
    rw [List.take_of_length_le (by rw [List.length_drop, Array.length_toList]; exact Nat.le_refl _), HT.sIx_nat]
  refine ⟨fun c hc => ?_, ?_, ?_⟩
  · rw [e] at hc
    rcases List.mem_append.mp hc with hc | hc
    · exact hw c (List.mem_of_mem_take hc)
    · rcases List.mem_cons.mp hc with hc | hc
      · omega
      · exact hw c (List.mem_of_mem_drop hc)
  · have h2 := congrArg List.length e
    rw [List.length_append, List.length_cons, List.length_take, List.length_drop] at h2
    have h3 : w.cps.toList.length = w.length := by simp [Str.length]
    have h4 : (cutS w none (some (k : Int)) ++ ⟨#[97 + i]⟩ ++ cutS w (some (k : Int)) none).cps.toList.length = (cutS w none (some (k : Int)) ++ ⟨#[97 + i]⟩ ++ cutS w (some (k : Int)) none).length := by simp [Str.length]
    omega
  · rw [e]
    simp
/-- the rows of names found so far -/
structure Fnd (l : List Str) : Prop where
  nm : ∀ (j : Nat) (x : Str), l[j]? = some x → Nm j x ∧ x ∉ WL
  nd : l.Nodup
theorem Fnd.add {l : List Str} {x : Str} (h : Fnd l) (hx : Nm l.length x) (hw : x ∉ WL) (hn : x ∉ l) : Fnd (l ++ [x]) := by
  refine ⟨fun j y hy => ?_, ?_⟩
  · by_cases hj : j < l.length
    · rw [List.getElem?_append_left hj] at hy
      exact h.nm j y hy
    · rw [List.getElem?_append_right (by omega)] at hy
      have hj2 : j - l.length = 0 := by
        have := (List.getElem?_eq_some_iff.mp hy).1
        simp at this
        omega
      rw [hj2] at hy
      cases hy
      have : j = l.length := by omega
      rw [this]
      exact ⟨hx, hw⟩
  · exact List.nodup_append.mpr ⟨h.nd, by simp, fun a ha b hb => by rw [List.mem_singleton.mp hb]; rintro rfl; exact hn ha⟩
theorem Fnd.rep {l : List Str} (h : Fnd l) (hl : l.length < 6) : strRep 8 ⟨#[97 + l.length]⟩ ∉ l := fun hm => by
  obtain ⟨j, hj⟩ := List.mem_iff_getElem?.mp hm
  have h1 := (h.nm j _ hj).1.has
  rw [rep_toList] at h1
  have h2 := List.eq_of_mem_replicate h1
  have h3 := (List.getElem?_eq_some_iff.mp hj).1
  omega
theorem cut_len (w : Str) (lo hi : Option Int) : (cutS w lo hi).length ≤ w.length := by
  show (cutS w lo hi).cps.size ≤ w.cps.size
  unfold cutS
  simp only [List.size_toArray, List.length_take, List.length_drop, Array.length_toList]
  omega
theorem dNil (st : List Ob) : D.loL st.length [] = true := rfl
theorem loL_strs {n : Nat} (l : List Str) : D.loL n (l.map .str) = true := by
  induction l with
  | nil => rfl
  | cons x l ih => simp only [List.map_cons, D.loL, D.lo, Bool.true_and]; exact ih
theorem names_ok {st : List Ob} {n m : Nat} (hw : Wf st) (h : WAt st n) (h1 : 1 ≤ m) (h2 : m ≤ 6) {Q : D → List Ob → Prop}
    (q : ∀ (ns : List Str) (s : List Ob), ns.length = m → Names ns → Go n st s → s.length = st.length → Q (.tup (ns.map .str)) s) : wp (S_law_names [.d (.loc n), .d (.int m)]) st Q := by
  unfold S_law_names
  refine wp_frzW h hw ?_
  rw [wp_runF]
  unfold m_law_names
  have hn := h.lt
  simp only [startE, List.map_cons, List.map_nil, List.length_cons, List.length_nil, List.replicate, List.cons_append, List.nil_append, wp_ySeq, wp_yPar, wp_xCons, wp_c, wp_xNil, wp_xLstM, List.set_cons_zero, List.set_cons_succ, onNx_nx, wp_yFor, wp_itemsR1, wp_var, List.getElem?_cons_zero, List.getElem?_cons_succ]
  refine ⟨by decide, ⟨by omega, by omega⟩, ?_⟩
  refine wp_forM (fun i ρ s => ∃ x4 x5 x6 x7 x8, ρ = [some (.d (.loc n)), some (.d (.int m)), some (.d (.str LS)), some (.d (.loc st.length)), x4, x5, x6, x7, x8] ∧ Go n st s ∧ s.length = st.length + 1 ∧ ∃ l : List Str, s[st.length]? = some (.lst (l.map .str)) ∧ l.length = i ∧ Fnd l) ?_ ?_ ?_
  · exact ⟨_, _, _, _, _, rfl, (Go.refl hw h).push rfl, by simp, [], by simp, rfl, ⟨fun j x e => by simp at e, .nil⟩⟩
  · rintro i hi ρ s ⟨x4, x5, x6, x7, x8, rfl, g, hs, l, hl, hli, hf⟩
    have him : i < m := by simpa [rangeD] using hi
    have hit : (rangeD 0 (m : Int).toNat)[i] = .int (i : Int) := by simp [rangeD]
    rw [hit]
    simp only [wp_zName, List.set_cons_zero, List.set_cons_succ, wp_ySeq, wp_yPar, wp_xCons, wp_c, wp_xNil, wp_xFn, wp_var, List.getElem?_cons_zero, List.getElem?_cons_succ, wp_xTup, List.map_cons, List.map_nil, List.length_cons, List.length_nil]
    refine ⟨by decide, trivial, of_ok (ds := [.int 0, .int 0, .int 1, .int 2, .int 3, .int 7]) g.wf g.wat (by decide) (by decide) rfl (fun d s1 hd g1 hs1 => ?_) (.inl rfl)⟩
    obtain ⟨z, hz, hz7⟩ : ∃ z : Nat, d = .int (z : Int) ∧ z ≤ 7 := by
      simp only [List.mem_cons, List.not_mem_nil, or_false] at hd
      rcases hd with rfl | rfl | rfl | rfl | rfl | rfl
      · exact ⟨0, rfl, by omega⟩
      · exact ⟨0, rfl, by omega⟩
      · exact ⟨1, rfl, by omega⟩
      · exact ⟨2, rfl, by omega⟩
      · exact ⟨3, rfl, by omega⟩
      · exact ⟨7, rfl, by omega⟩
    subst hz
    simp only [onNx_nx, wp_yFor, wp_itemsR1, wp_xCons, wp_var, wp_xNil, List.getElem?_cons_zero, List.getElem?_cons_succ]
    refine ⟨⟨by omega, by omega⟩, ?_⟩
    refine wp_forM (fun j ρ s2 => ∃ x7 x8 w, ρ = [some (.d (.loc n)), some (.d (.int m)), some (.d (.str LS)), some (.d (.loc st.length)), some (.d (.int i)), some (.d (.str w)), some (.d (.int z)), x7, x8] ∧ Go n s1 s2 ∧ s2.length = s1.length ∧ w.length = j ∧ ∀ c ∈ w.cps.toList, 97 ≤ c ∧ c ≤ 122) ?_ ?_ ?_
    · exact ⟨_, _, "", rfl, Go.refl g1.wf g1.wat, rfl, rfl, fun c hc => by cases hc⟩
    · rintro j hj ρ s2 ⟨x7, x8, w, rfl, g2, hs2, hwj, hwl⟩
      have hjz : j < z := by simpa [rangeD] using hj
      simp only [wp_zName, List.set_cons_zero, List.set_cons_succ, wp_ySet, wp_xBin, wp_var, List.getElem?_cons_zero, List.getElem?_cons_succ, wp_xFn, wp_xCons, wp_xNil, List.map_cons, List.map_nil, List.length_cons, List.length_nil, wp_lift2]
      refine ⟨trivial, of_str_ok g2.wf g2.wat fun c s3 hc1 hc2 g3 hs3 => ?_⟩
      have ea : dAdd (.str w) (.str ⟨#[c]⟩) = some (.str (w ++ ⟨#[c]⟩)) := by
        show (if w.length + (⟨#[c]⟩ : Str).length ≤ 1000000 then some (D.str (w ++ ⟨#[c]⟩)) else none) = _
        rw [if_pos (by show w.length + 1 ≤ 1000000; omega)]
      rw [ea]
      refine ⟨_, _, w ++ ⟨#[c]⟩, rfl, g2.trans g3, by omega, by rw [PySem.Str.length_append]; show w.length + 1 = _; omega, fun c' hc' => ?_⟩
      rw [PySem.Str.cps_append, Array.toList_append] at hc'
      rcases List.mem_append.mp hc' with hc' | hc'
      · exact hwl c' hc'
      · have : c' = c := by simpa using hc'
        omega
    · rintro ρ s2 ⟨x7, x8, w, rfl, g2, hs2, hwj, hwl⟩
      have hwz : w.length ≤ 7 := by
        have : (rangeD 0 (z : Int).toNat).length = z := by simp [rangeD]
        omega
      simp only [onNx_nx, wp_ySeq, wp_ySet, wp_xFn, wp_xCons, wp_var, List.getElem?_cons_zero, List.getElem?_cons_succ, wp_xBin, wp_c, wp_lift2, dAdd_int, wp_xNil, List.map_cons, List.map_nil, List.length_cons, List.length_nil]
      refine ⟨trivial, draw_ok g2.wf g2.wat (by omega) (by omega) fun r s3 hr hr2 g3 hs3 => ?_⟩
      obtain ⟨k, rfl⟩ : ∃ k : Nat, r = (k : Int) := ⟨r.toNat, by omega⟩
      have hi6 : i < 6 := by omega
      have sl : ∀ (s : List Ob) (lo hi : Option Int), dSlice s (.str w) lo hi = some (.str (cutS w lo hi)) := fun s lo hi => by
        show (if w.length ≤ 1000000 then some (D.str (cutS w lo hi)) else none) = _
        rw [if_pos (by omega)]
      have l1 := cut_len w none (some (k : Int))
      have l2 := cut_len w (some (k : Int)) none
      have ad : ∀ (a b : Str), a.length ≤ 1000 → b.length ≤ 1000 → dAdd (.str a) (.str b) = some (.str (a ++ b)) := fun a b h1 h2 => by
        show (if a.length + b.length ≤ 1000000 then some (D.str (a ++ b)) else none) = _
        rw [if_pos (by omega)]
      have hone : (⟨#[97 + i]⟩ : Str).length = 1 := rfl
      simp only [onNx_nx, List.set_cons_zero, List.set_cons_succ, wp_var, List.getElem?_cons_zero, List.getElem?_cons_succ, wp_xSlice, wp_oNone, wp_oSome, sl, wp_mIx, ls_at (show i < 26 by omega)]
      rw [ad _ _ (by omega) (by omega)]
      simp only []
      rw [ad _ _ (by rw [PySem.Str.length_append]; omega) (by omega)]
      simp only []
      have hx := put_nm (k := k) hi6 hwl hwz
      generalize cutS w none (some (k : Int)) ++ ⟨#[97 + i]⟩ ++ cutS w (some (k : Int)) none = x at hx ⊢
      have gg := (g1.trans g2).trans g3
      have hf3 : s3[st.length]? = some (.lst (l.map .str)) := (gg.old st.length (by omega) (by omega)).trans hl
      have hsq : seqItems s3 (.loc st.length) = some (l.map .str) := by simp [seqItems, res, hf3]
      have hty : tyD "list" s3 (.loc st.length) = true := by simp [tyD, lstItems, res, hf3]
      have key : ∀ y : Str, Nm i y → y ∉ WL → y ∉ l → wp (mAppend (.loc st.length) [.str y]) s3 fun _ s => ∃ y4 y5 y6 y7 y8, [some (A.d (D.loc n)), some (.d (.int m)), some (.d (.str LS)), some (.d (.loc st.length)), some (.d (.int i)), some (.d (.str x)), some (.d (.int z)), x7, some (.d (.int k))] = [some (.d (.loc n)), some (.d (.int m)), some (.d (.str LS)), some (.d (.loc st.length)), y4, y5, y6, y7, y8] ∧ Go n st s ∧ s.length = st.length + 1 ∧ ∃ l : List Str, s[st.length]? = some (.lst (l.map .str)) ∧ l.length = i + 1 ∧ Fnd l := fun y h1 h2 h3 => by
        refine wp_append hf3 (by rw [List.length_map]; omega) ?_
        refine ⟨_, _, _, _, _, rfl, (g.trans gg).setL (Nat.le_refl _) hn ?_, by rw [List.length_set]; omega, l ++ [y], ?_, by simp [hli], hf.add (hli ▸ h1) h2 h3⟩
        · show D.loL _ (l.map D.str ++ [D.str y]) = true
          rw [show l.map D.str ++ [D.str y] = (l ++ [y]).map D.str by simp]
          exact loL_strs _
        · rw [List.getElem?_set_self (by omega)]
          simp
      have hw3 : Wf s3 := gg.wf
      have rp : lift2 dRepS (.str ⟨#[97 + i]⟩) (.int 8) s3 = some (.str (strRep 8 ⟨#[97 + i]⟩), s3) := rfl
      have krep := key _ (rep_nm hi6) (rep_gn i hi6).nw (hli ▸ hf.rep (by omega))
      have rdr : dRepS (.str ⟨#[97 + i]⟩) (.int 8) = some (.str (strRep 8 ⟨#[97 + i]⟩)) := rfl
      have wsq : seqItems s3 (.lst (WS.map .str)) = some (WS.map .str) := rfl
      have woq : seqItems s3 (.lst (WO.map .str)) = some (WO.map .str) := rfl
      simp only [wp_yDrop, wp_xMt, wp_var, List.set_cons_zero, List.set_cons_succ, List.getElem?_cons_zero, List.getElem?_cons_succ, wp_xCons, wp_xIf, wp_xOrB, wp_asB, wp_xBin, wp_mIn, in_strs hsq, isB_bl, wp_xNil]
      refine ⟨hty, ?_⟩
      by_cases hxl : x ∈ l
      · simp only [decide_eq_true hxl, if_true, wp_xBin, wp_mIx, wp_var, List.getElem?_cons_zero, List.getElem?_cons_succ, ls_at (show i < 26 by omega), wp_c, wp_lift2, rdr]
        exact wp_mono krep fun _ s h => h
      · simp only [decide_eq_false hxl, Bool.false_eq_true, if_false, wp_xFn, wp_xNil, List.map_nil, List.length_nil]
        refine ⟨trivial, words_ok hw3 ?_⟩
        simp only [in_strs wsq, isB_bl]
        by_cases hxw : x ∈ WS
        · simp only [decide_eq_true hxw, if_true, wp_xBin, wp_mIx, wp_var, List.getElem?_cons_zero, List.getElem?_cons_succ, ls_at (show i < 26 by omega), wp_c, wp_lift2, rdr]
          exact wp_mono krep fun _ s h => h
        · simp only [decide_eq_false hxw, Bool.false_eq_true, if_false]
          refine ⟨trivial, own_ok hw3 ?_⟩
          simp only [in_strs woq, isB_bl]
          by_cases hxo : x ∈ WO
          · simp only [decide_eq_true hxo, if_true, wp_xBin, wp_mIx, wp_var, List.getElem?_cons_zero, List.getElem?_cons_succ, ls_at (show i < 26 by omega), wp_c, wp_lift2, rdr]
            exact wp_mono krep fun _ s h => h
          · simp only [decide_eq_false hxo, Bool.false_eq_true, if_false, wp_var, List.getElem?_cons_zero, List.getElem?_cons_succ]
            exact wp_mono (key x hx (fun hxl => hxw (wl_ws x hxl)) hxl) fun _ s h => h
  · rintro ρ s ⟨x4, x5, x6, x7, x8, rfl, g, hs, l, hl, hli, hf⟩
    have hlm : l.length = m := by simpa [rangeD] using hli
    have hsq : seqItems s (.loc st.length) = some (l.map .str) := by simp [seqItems, res, hl]
    have gn : ∀ x ∈ l, GN x := fun x hx => by
      obtain ⟨j, hj⟩ := List.mem_iff_getElem?.mp hx
      exact (hf.nm j x hj).1.gn (hf.nm j x hj).2
    obtain ⟨ns, e1, e2, e3⟩ := sort_strs l hf.nd
    have hso : dSorted s [.loc st.length] = some (.lst (ns.map .str)) := by
      show (match seqItems s (.loc st.length) with | some ds => if sortOk ds = true then some (D.lst (sortD ds)) else none | none => none) = _
      rw [hsq]
      simp only []
      rw [if_pos (sortOk_strs l (by omega) fun x hx => (gn x hx).ok), e1]
    have htu : dTuple s [.lst (ns.map .str)] = some (.tup (ns.map .str)) := rfl
    simp only [onNx_nx, wp_yRet, wp_xCall, wp_xCons, wp_var, List.getElem?_cons_zero, List.getElem?_cons_succ, wp_xNil, wp_liftL, hso, htu]
    exact ⟨g, _, frz_lo (by simp only [D.lo]; exact loL_strs ns), fun s' g' hs' => q ns s' (by rw [e2.length_eq, hlm]) ⟨fun x hx => gn x (e2.mem_iff.mp hx), e3⟩ g' hs'⟩
end K85
set_option autoImplicit false
set_option maxRecDepth 100000
set_option maxHeartbeats 8000000
namespace K85
open PySem PySem.Spec L2 MM
theorem wp_listM {st : List Ob} {x : D} {ds : List D} {Q : D → List Ob → Prop} (h : seqItems st x = some ds) (q : Q (.loc st.length) (st ++ [.lst ds])) : wp (mListM [x]) st Q := by
  rw [wp_def]
  simp [mListM, h, q]
theorem nodup_at {l : List Str} (h : l.Nodup) {i j : Nat} {x : Str} (h1 : l[i]? = some x) (h2 : l[j]? = some x) : i = j := by
  obtain ⟨a, e1⟩ := List.getElem?_eq_some_iff.mp h1
  obtain ⟨b, e2⟩ := List.getElem?_eq_some_iff.mp h2
  exact (List.getElem_inj h).mp (e1.trans e2.symm)
theorem er_map {α β : Type} (f : α → β) : ∀ (l : List α) (k : Nat), (l.map f).eraseIdx k = (l.eraseIdx k).map f
  | [], _ => rfl
  | _ :: _, 0 => rfl
  | x :: l, k + 1 => by simp only [List.map_cons, List.eraseIdx_cons_succ, er_map f l k]
theorem er_perm {α : Type} : ∀ (l : List α) (k : Nat) (h : k < l.length), l.Perm (l[k] :: l.eraseIdx k)
  | [], _, h => absurd h (Nat.not_lt_zero _)
  | x :: l, 0, _ => by simp
  | x :: l, k + 1, h => by
    simp only [List.getElem_cons_succ, List.eraseIdx_cons_succ]
    exact ((er_perm l k (by simpa using h)).cons x).trans (List.Perm.swap _ _ _)
theorem frzL_lo {st : List Ob} {n : Nat} : ∀ (k : Nat) (ds : List D), ds.length ≤ k → D.loL n ds = true → frzL st n (k + 1) ds = some ds
  | _, [], _, _ => by simp only [frzL]
  | 0, d :: ds, h, _ => by simp at h
  | k + 1, d :: ds, h, e => by
    simp only [D.loL, Bool.and_eq_true] at e
    simp only [frzL]
    rw [frz_lo e.1, frzL_lo k ds (by simpa using h) e.2]
    rfl
theorem frz_locL {s : List Ob} {n i k : Nat} {ds : List D} (h : s[i]? = some (.lst ds)) (hi : n ≤ i) (hl : ds.length ≤ k) (e : D.loL n ds = true) : frzD s n (k + 2) (.loc i) = some (.lst ds) := by
  simp only [frzD]
  rw [if_neg (by omega), h]
  simp only []
  rw [frzL_lo k ds hl e]
  rfl
theorem shuf_ok {st : List Ob} {n : Nat} {ps : List Str} (hw : Wf st) (h : WAt st n) (hl : ps.length ≤ 90) {Q : D → List Ob → Prop}
    (q : ∀ (qs : List Str) (s : List Ob), qs.Perm ps → Go n st s → s.length = st.length → Q (.lst (qs.map .str)) s) : wp (S_law_shuffled [.d (.loc n), .d (.tup (ps.map .str))]) st Q := by
  unfold S_law_shuffled
  refine wp_frzW h hw ?_
  rw [wp_runF]
  unfold m_law_shuffled
  have hn := h.lt
  simp only [startE, List.map_cons, List.map_nil, List.length_cons, List.length_nil, List.replicate, List.cons_append, List.nil_append, wp_ySeq, wp_yPar, wp_xCons, wp_xCall, wp_var, List.getElem?_cons_zero, List.getElem?_cons_succ, wp_xNil, wp_xLstM]
  refine wp_listM (ds := ps.map .str) rfl ⟨by decide, ?_⟩
  simp only [List.set_cons_zero, List.set_cons_succ, onNx_nx, wp_yFor, wp_itemsR1, wp_xCons, wp_xCall, wp_var, List.getElem?_cons_zero, List.getElem?_cons_succ, wp_xNil, wp_liftL]
  have lenL : (st ++ [Ob.lst (ps.map D.str)]).length = st.length + 1 := by simp
  have s0 : ((st ++ [Ob.lst (ps.map D.str)]) ++ [Ob.lst []])[st.length]? = some (.lst (ps.map .str)) := by
    rw [List.append_assoc, List.getElem?_append_right (Nat.le_refl _), Nat.sub_self]
    rfl
  have dl : ∀ (s : List Ob) (l : List Str), s[st.length]? = some (.lst (l.map .str)) → dLen s [.loc st.length] = some (.int l.length) := fun s l e => by
    show (match seqItems s (.loc st.length) with | some ds => some (D.int ds.length) | none => none) = _
    rw [show seqItems s (.loc st.length) = some (l.map .str) by simp [seqItems, res, e]]
    simp
  rw [dl _ ps s0]
  refine ⟨⟨by omega, by omega⟩, ?_⟩
  refine wp_forM (fun i ρ s => ∃ x4, ρ = [some (.d (.loc n)), some (.d (.tup (ps.map .str))), some (.d (.loc st.length)), some (.d (.loc (st ++ [Ob.lst (ps.map D.str)]).length)), x4] ∧ Go n st s ∧ s.length = st.length + 2 ∧
    ∃ l r : List Str, s[st.length]? = some (.lst (l.map .str)) ∧ s[st.length + 1]? = some (.lst (r.map .str)) ∧ l.length + i = ps.length ∧ r.length = i ∧ (l ++ r).Perm ps) ?_ ?_ ?_
  · refine ⟨_, rfl, ((Go.refl hw h).push (by exact loL_strs ps)).push rfl, by simp, ps, [], s0, ?_, rfl, rfl, by simp⟩
    rw [List.getElem?_append_right (by simp), lenL, Nat.sub_self]
    rfl
  · rintro i hi ρ s ⟨x4, rfl, g, hs, l, r, e1, e2, e3, e4, e5⟩
    have him : i < ps.length := by simpa [rangeD] using hi
    rw [lenL]
    have ty0 : tyD "list" s (.loc (st.length + 1)) = true := by simp [tyD, lstItems, res, e2]
    have ty1 : tyD "list" s (.loc st.length) = true := by simp [tyD, lstItems, res, e1]
    simp only [wp_zName, List.set_cons_zero, List.set_cons_succ, wp_yDrop, wp_xMt, wp_var, List.getElem?_cons_zero, List.getElem?_cons_succ, wp_xCons, wp_xFn, wp_xCall, wp_xNil, wp_liftL, dl _ l e1, List.map_cons, List.map_nil, List.length_cons, List.length_nil]
    refine ⟨ty0, ty1, trivial, draw_ok g.wf g.wat (by omega) (by omega) fun k s1 hk hk2 g1 hs1 => ?_⟩
    have f1 : s1[st.length]? = some (.lst (l.map .str)) := (g1.old _ (by omega) (by omega)).trans e1
    have f2 : s1[st.length + 1]? = some (.lst (r.map .str)) := (g1.old _ (by omega) (by omega)).trans e2
    have hkl : k.toNat < l.length := by omega
    refine wp_popAt f1 hk (by omega) (by rw [List.getElem?_map, List.getElem?_eq_getElem hkl]; rfl) ?_
    have g2 : Go n st (s1.set st.length (.lst ((l.eraseIdx k.toNat).map .str))) := (g.trans g1).setL (Nat.le_refl _) hn (by exact loL_strs _)
    rw [show (l.map D.str).eraseIdx k.toNat = (l.eraseIdx k.toNat).map D.str from er_map _ _ _]
    have f3 : (s1.set st.length (.lst ((l.eraseIdx k.toNat).map .str)))[st.length + 1]? = some (.lst (r.map .str)) := by rw [List.getElem?_set_ne (by omega)]; exact f2
    refine wp_append f3 (by rw [List.length_map]; omega) ?_
    refine ⟨_, rfl, g2.setL (Nat.le_succ _) hn (by
      show D.loL _ (r.map D.str ++ [D.str l[k.toNat]]) = true
      rw [show r.map D.str ++ [D.str l[k.toNat]] = (r ++ [l[k.toNat]]).map D.str by simp]
      exact loL_strs _), by rw [List.length_set, List.length_set]; omega, l.eraseIdx k.toNat, r ++ [l[k.toNat]], ?_, ?_, ?_, by simp [e4], ?_⟩
    · rw [List.getElem?_set_ne (by omega), List.getElem?_set_self (by omega)]
    · rw [List.getElem?_set_self (by rw [List.length_set]; omega)]
      simp
    · rw [List.length_eraseIdx_of_lt hkl]; omega
    · refine List.Perm.trans ?_ e5
      have p1 : l.Perm (l[k.toNat] :: l.eraseIdx k.toNat) := er_perm l k.toNat hkl
      refine List.Perm.trans ?_ (p1.append_right r).symm
      rw [List.cons_append, ← List.append_assoc]
      exact List.perm_append_singleton _ _
  · rintro ρ s ⟨x4, rfl, g, hs, l, r, e1, e2, e3, e4, e5⟩
    have hl0 : l = [] := by
      have : (rangeD 0 ((ps.length : Int)).toNat).length = ps.length := by simp [rangeD]
      rw [this] at e3
      exact List.length_eq_zero_iff.mp (by omega)
    subst hl0
    simp only [onNx_nx, wp_yRet, wp_var, List.getElem?_cons_zero, List.getElem?_cons_succ]
    rw [lenL]
    have hrl : r.length ≤ 90 := by
      have := e5.length_eq
      simp at this
      omega
    exact ⟨g, .lst (r.map .str), frz_locL (k := 98) e2 (Nat.le_succ _) (by rw [List.length_map]; omega) (loL_strs r), fun s' g' hs' => q r s' (by simpa using e5) g' hs'⟩
end K85
set_option autoImplicit false
set_option maxRecDepth 100000
set_option maxHeartbeats 8000000
namespace K85
open PySem PySem.Spec L2 MM
structure Ties (ns : List Str) (ts : List (Str × Str)) : Prop where
  mem : ∀ p ∈ ts, p.1 ∈ ns ∧ p.2 ∈ ns ∧ p.1.cps.toList < p.2.cps.toList
  pw : ts.Pairwise fun p q => lexLtS [p.1, p.2] [q.1, q.2] = true
  len : ts.length ≤ 60
theorem loL_prs {n : Nat} (l : List (Str × Str)) : D.loL n (l.map tieD) = true := by
  induction l with
  | nil => rfl
  | cons x l ih => simp only [List.map_cons, D.loL, D.lo, Bool.true_and, Bool.and_true]; exact ih
theorem tie_alike (a b : Str × Str) : PySem.W.alike (toPy (tieD a)) (toPy (tieD b)) = true := by
  simp [toPy, toPys, PySem.W.alike, PySem.W.alikeAll]
theorem sortOk_ties {l : List (Str × Str)} (hl : l.length ≤ 1000000) (h : ∀ p ∈ l, PyData.strOk p.1 = true ∧ PyData.strOk p.2 = true) : sortOk (l.map tieD) = true := by
  refine sortOk_gen tieD l hl (fun a ha => ?_) tie_alike (fun a => rfl) (fun a ha => ?_)
  · simp [pyOk, pyOks, h a ha]
  · show (toPy (tieD a)).depth ≤ 60
    simp [toPy, toPys, PyData.depth, PyData.depthAll]
/-- the end of _law_web's work -/
theorem dsort_ties {s : List Ob} {l : List (Str × Str)} (hl : l.length ≤ 1000000) (h : ∀ p ∈ l, PyData.strOk p.1 = true ∧ PyData.strOk p.2 = true) : dSorted s [.lst (l.map tieD)] = some (.lst (sortD (l.map tieD))) := by
  show (match seqItems s (.lst (l.map tieD)) with | some ds => if sortOk ds = true then some (D.lst (sortD ds)) else none | none => none) = _
  rw [show seqItems s (.lst (l.map tieD)) = some (l.map tieD) from rfl]
  simp only []
  rw [if_pos (sortOk_ties hl h)]
theorem drop_slice {s : List Ob} {ns : List Str} {i : Nat} : dSlice s (.tup (ns.map .str)) (some ((i : Int) + 1)) none = some (.tup ((ns.drop (i + 1)).map .str)) := by
  show some (D.tup (cutD (ns.map .str) (some ((i : Int) + 1)) none)) = _
  unfold cutD
  rw [HT.sIx_none, show ((i : Int) + 1) = ((i + 1 : Nat) : Int) by omega, HT.sIx_nat, List.length_map]
  congr 2
  rw [List.take_of_length_le (by rw [List.length_drop, List.length_map]; exact Nat.le_refl _), List.map_drop]
  by_cases h : i + 1 ≤ ns.length
  · rw [Nat.min_eq_left h]
  · rw [Nat.min_eq_right (by omega), List.drop_of_length_le (by rw [List.length_map]; omega), List.drop_of_length_le (by rw [List.length_map]; omega)]
structure FP (ns : List Str) (l : List (Str × Str)) (i j : Nat) : Prop where
  nd : l.Nodup
  at_ : ∀ p ∈ l, ∃ a b, ns[a]? = some p.1 ∧ ns[b]? = some p.2 ∧ a < b ∧ (a < i ∨ (a = i ∧ b < i + 1 + j))
theorem names_nd {ns : List Str} (h : Names ns) : ns.Nodup := h.pw.imp fun hab e => by rw [e] at hab; exact List.lt_irrefl _ hab
theorem names_lt {ns : List Str} (h : Names ns) {a b : Nat} {x y : Str} (ha : ns[a]? = some x) (hb : ns[b]? = some y) (hab : a < b) : x.cps.toList < y.cps.toList := by
  obtain ⟨l1, e1⟩ := List.getElem?_eq_some_iff.mp ha
  obtain ⟨l2, e2⟩ := List.getElem?_eq_some_iff.mp hb
  have := List.pairwise_iff_getElem.mp h.pw a b l1 l2 hab
  rwa [e1, e2] at this
theorem at_nat {ds : List D} {i : Nat} : atI ds (i : Int) = ds[i]? := by
  unfold atI ixN
  rw [if_pos (by omega)]
  by_cases h : (i : Int) < ds.length
  · rw [if_pos h]; simp
  · rw [if_neg h]
    simp
    omega
theorem loop1 {st s0 : List Ob} {n m o : Nat} {ns : List Str} {x5 x6 x7 : Option A} (hm : ns.length = m) (h6 : m ≤ 6) (hN : Names ns) (g0 : Go n st s0) (hs0 : s0.length = st.length) {QO : Out → List Ob → Prop}
    (q : ∀ (l : List (Str × Str)) (x5 x6 : Option A) (s : List Ob), l.length ≤ 60 → l.Nodup → (∀ p ∈ l, p.1 ∈ ns ∧ p.2 ∈ ns ∧ p.1.cps.toList < p.2.cps.toList) → Go n st s → s.length = st.length →
      QO (.nx [some (.d (.loc n)), some (.d (.int m)), some (.d (.tup (ns.map .str))), some (.d (.int o)), some (.d (.lst (l.map tieD))), x5, x6, x7]) s) :
    wp (forM (zName 5) (yFor (itemsT (xSlice (xVar 2) (oSome (xBin mAdd (xVar 5) (xC (.int 1)))) oNone)) (zName 6) (ySet 4 (xBin mAdd (xVar 4) (xIf (asB (xBin mLt (xFn 2 S_law_draw (xCons (xVar 0) (xCons (xC (.int 5)) xNil))) (xVar 3))) (xLst (xCons (xTup (xCons (xBin mIx (xVar 2) (xVar 5)) (xCons (xVar 6) xNil))) xNil)) (xLst xNil))))) (rangeD 0 m)
      [some (.d (.loc n)), some (.d (.int m)), some (.d (.tup (ns.map .str))), some (.d (.int o)), some (.d (.lst [])), x5, x6, x7]) s0 QO := by
  refine wp_forM (fun i ρ s => ∃ l x5 x6, ρ = [some (.d (.loc n)), some (.d (.int m)), some (.d (.tup (ns.map .str))), some (.d (.int o)), some (.d (.lst (l.map tieD))), x5, x6, x7] ∧ Go n st s ∧ s.length = st.length ∧ l.length ≤ 10 * i ∧ FP ns l i 0) ?_ ?_ ?_
  · exact ⟨[], _, _, rfl, g0, hs0, Nat.zero_le _, .nil, fun p hp => by cases hp⟩
  · rintro i hi ρ s ⟨l, y5, y6, rfl, g, hs, hll, hf⟩
    have him : i < m := by simpa [rangeD] using hi
    have hit : (rangeD 0 m)[i] = .int (i : Int) := by simp [rangeD]
    rw [hit]
    simp only [wp_zName, List.set_cons_zero, List.set_cons_succ, wp_yFor, wp_itemsT, wp_xSlice, wp_var, List.getElem?_cons_zero, List.getElem?_cons_succ, wp_oSome, wp_xBin, wp_c, wp_lift2, dAdd_int, wp_oNone, drop_slice]
    refine wp_forM (fun j ρ s => ∃ l x6, ρ = [some (.d (.loc n)), some (.d (.int m)), some (.d (.tup (ns.map .str))), some (.d (.int o)), some (.d (.lst (l.map tieD))), some (.d (.int i)), x6, x7] ∧ Go n st s ∧ s.length = st.length ∧ l.length ≤ 10 * i + j ∧ FP ns l i j) ?_ ?_ ?_
    · exact ⟨l, _, rfl, g, hs, hll, hf⟩
    · rintro j hj ρ s ⟨l, y6, rfl, g, hs, hll, hf⟩
      have hjl : i + 1 + j < ns.length := by simp at hj; omega
      have hjt : ((ns.drop (i + 1)).map D.str)[j] = .str ns[i + 1 + j] := by simp
      rw [hjt]
      simp only [wp_zName, List.set_cons_zero, List.set_cons_succ, wp_ySet, wp_xBin, wp_var, List.getElem?_cons_zero, List.getElem?_cons_succ, wp_xIf, wp_asB, wp_xFn, wp_xCons, wp_c, wp_xNil, List.map_cons, List.map_nil, List.length_cons, List.length_nil]
      refine ⟨trivial, draw_ok g.wf g.wat (by decide) (by decide) fun r s1 _ _ g1 hs1 => ?_⟩
      have gg := g.trans g1
      have hlt : dLt (.int r) (.int o) = some (.bl (decide (r < o))) := rfl
      simp only [wp_lift2, hlt, isB_bl]
      have addl : ∀ b : List D, b.length ≤ 1 → dAdd (.lst (l.map tieD)) (.lst b) = some (.lst (l.map tieD ++ b)) := fun b hb => by
        show (if (l.map tieD).length + b.length ≤ 1000000 then some (D.lst (l.map tieD ++ b)) else none) = _
        rw [if_pos (by rw [List.length_map]; omega)]
      by_cases hro : r < (o : Int)
      · rw [decide_eq_true hro, if_pos rfl]
        have hat : dIx s1 (.tup (ns.map .str)) (.int i) = some (.str ns[i]) := by
          rw [dIx_tup, at_nat]
          simp
        simp only [wp_xLst, wp_xCons, wp_xTup, wp_xBin, wp_var, wp_mIx, wp_xNil, List.getElem?_cons_zero, List.getElem?_cons_succ, hat, List.length_cons, List.length_nil]
        refine ⟨by decide, by decide, ?_⟩
        rw [addl _ (by simp)]
        refine ⟨l ++ [(ns[i], ns[i + 1 + j])], some (.d (.str ns[i + 1 + j])), by simp, gg, by omega, by simp; omega, ?_, fun p hp => ?_⟩
        · refine List.nodup_append.mpr ⟨hf.nd, by simp, fun p hp p' hp' => ?_⟩
          rw [List.mem_singleton.mp hp']
          rintro rfl
          obtain ⟨a, b, e1, e2, _, h3⟩ := hf.at_ _ hp
          have ea := nodup_at (names_nd hN) e1 (List.getElem?_eq_getElem (by omega))
          have eb := nodup_at (names_nd hN) e2 (List.getElem?_eq_getElem hjl)
          omega
        · rcases List.mem_append.mp hp with hp | hp
          · obtain ⟨a, b, e1, e2, h3, h4⟩ := hf.at_ p hp
            exact ⟨a, b, e1, e2, h3, by omega⟩
          · rw [List.mem_singleton.mp hp]
            exact ⟨i, i + 1 + j, List.getElem?_eq_getElem (by omega), List.getElem?_eq_getElem hjl, by omega, by omega⟩
      · rw [decide_eq_false hro, if_neg (by decide)]
        simp only [wp_xLst, wp_xNil, List.length_nil]
        refine ⟨by decide, ?_⟩
        rw [addl _ (by simp)]
        exact ⟨l, some (.d (.str ns[i + 1 + j])), by simp, gg, by omega, by omega, hf.nd, fun p hp => by
          obtain ⟨a, b, e1, e2, h3, h4⟩ := hf.at_ p hp
          exact ⟨a, b, e1, e2, h3, by omega⟩⟩
    · rintro ρ s ⟨l, y6, rfl, g, hs, hll, hf⟩
      have : ((ns.drop (i + 1)).map D.str).length ≤ 6 := by simp; omega
      refine ⟨l, _, _, rfl, g, hs, by omega, hf.nd, fun p hp => ?_⟩
      obtain ⟨a, b, e1, e2, h3, h4⟩ := hf.at_ p hp
      exact ⟨a, b, e1, e2, h3, by omega⟩
  · rintro ρ s ⟨l, y5, y6, rfl, g, hs, hll, hf⟩
    have : (rangeD 0 m).length = m := by simp [rangeD]
    refine q l _ _ s (by omega) hf.nd (fun p hp => ?_) g hs
    obtain ⟨a, b, e1, e2, h3, _⟩ := hf.at_ p hp
    exact ⟨List.mem_of_getElem? e1, List.mem_of_getElem? e2, names_lt hN e1 e2 h3⟩
end K85
set_option autoImplicit false
set_option maxRecDepth 100000
set_option maxHeartbeats 8000000
namespace K85
open PySem PySem.Spec L2 MM
theorem wp_itemsR2 {ρ : Ev} {st : List Ob} {m : Ev → Mo (List D)} {QL : List D → List Ob → Prop} : wp (itemsR2 m ρ) st QL ↔ wp (m ρ) st fun ds s => match ds with | [.int i, .int j] => (-(2 ^ 62) ≤ i ∧ i < 2 ^ 62 ∧ -(2 ^ 62) ≤ j ∧ j < 2 ^ 62) ∧ QL (rangeD i (j - i).toNat) s | _ => False := by
  simp only [itemsR2, wp_bind]
  constructor <;> (intro h; refine wp_mono h fun ds s q => ?_)
  · split at q
    · rw [wp_ite] at q
      split at q
      · rename_i hj
        exact ⟨hj, wp_pure.mp q⟩
      · exact (wp_fail.mp q).elim
    · exact (wp_fail.mp q).elim
  · split at q
    · rw [wp_ite, if_pos q.1]
      exact wp_pure.mpr q.2
    · exact q.elim
/-- two texts sorted -/
theorem sort_two {x y : Str} (h : x ≠ y) (hx : PyData.strOk x = true) (hy : PyData.strOk y = true) (s : List Ob) : ∃ u v : Str, dSorted s [.tup [.str x, .str y]] = some (.lst [.str u, .str v]) ∧ u.cps.toList < v.cps.toList ∧ ((u = x ∧ v = y) ∨ (u = y ∧ v = x)) := by
  obtain ⟨ys, e1, e2, e3⟩ := sort_strs [x, y] (by simp [h])
  have hl := e2.length_eq
  match ys, hl with
  | [u, v], _ =>
    refine ⟨u, v, ?_, ?_, ?_⟩
    · show (match seqItems s (.tup [.str x, .str y]) with | some ds => if sortOk ds = true then some (D.lst (sortD ds)) else none | none => none) = _
      rw [show seqItems s (.tup [.str x, .str y]) = some ([x, y].map .str) from rfl]
      simp only []
      rw [if_pos (sortOk_strs [x, y] (by simp) fun z hz => by
        simp only [List.mem_cons, List.not_mem_nil, or_false] at hz
        rcases hz with rfl | rfl
        · exact hx
        · exact hy), e1]
      rfl
    · exact List.rel_of_pairwise_cons e3 (by simp)
    · have hu : u ∈ [x, y] := e2.mem_iff.mp (by simp)
      have hv : v ∈ [x, y] := e2.mem_iff.mp (by simp)
      have huv : u ≠ v := fun e => by
        have := List.rel_of_pairwise_cons e3 (show v ∈ [v] by simp)
        rw [e] at this
        exact List.lt_irrefl _ this
      simp only [List.mem_cons, List.not_mem_nil, or_false] at hu hv
      rcases hu with rfl | rfl <;> rcases hv with rfl | rfl
      · exact absurd rfl huv
      · exact .inl ⟨rfl, rfl⟩
      · exact .inr ⟨rfl, rfl⟩
      · exact absurd rfl huv
theorem loop2 {st s0 : List Ob} {n m : Nat} {qs : List Str} {x1 x2 x3 x4 x6 : Option A} (hm : qs.length = m) (h1 : 1 ≤ m) (h6 : m ≤ 6) (hnd : qs.Nodup) (hok : ∀ x ∈ qs, PyData.strOk x = true) (g0 : Go n st s0) (hs0 : s0.length = st.length) {QL : List D → List Ob → Prop}
    (q : ∀ (l : List (Str × Str)) (s : List Ob), l.length ≤ 60 → l.Nodup → (∀ p ∈ l, p.1 ∈ qs ∧ p.2 ∈ qs ∧ p.1.cps.toList < p.2.cps.toList) → Go n st s → s.length = st.length → QL (l.map tieD) s) :
    wp (compM (zName 5) tYesM (xCall (liftL dTuple) (xCons (xCall (liftL dSorted) (xCons (xTup (xCons (xBin mIx (xVar 7) (xVar 5)) (xCons (xBin mIx (xVar 7) (xFn 2 S_law_draw (xCons (xVar 0) (xCons (xVar 5) xNil)))) xNil))) xNil)) xNil)) (rangeD 1 (m - 1))
      [some (.d (.loc n)), x1, x2, x3, x4, none, x6, some (.d (.lst (qs.map .str)))]) s0 QL := by
  refine wp_compM (fun i acc s => Go n st s ∧ s.length = st.length ∧ ∃ l : List (Str × Str), acc = l.map tieD ∧ l.length = i ∧ l.Nodup ∧ ∀ p ∈ l, p.1.cps.toList < p.2.cps.toList ∧ ∃ a b, a < i + 1 ∧ b < i + 1 ∧ qs[a]? = some p.1 ∧ qs[b]? = some p.2) ?_ ?_ ?_
  · exact ⟨g0, hs0, [], rfl, rfl, .nil, fun p hp => by cases hp⟩
  · rintro i hi acc s ⟨g, hs, l, rfl, hli, hnd2, hp⟩
    have him : i < m - 1 := by simpa [rangeD] using hi
    have hit : (rangeD 1 (m - 1))[i] = .int ((i + 1 : Nat) : Int) := by simp [rangeD]; omega
    rw [hit]
    have hk : i + 1 < qs.length := by omega
    have at1 : ∀ (s : List Ob) (j : Nat) (h : j < qs.length), dIx s (.lst (qs.map .str)) (.int (j : Int)) = some (.str qs[j]) := fun s j h => by
      rw [dIx_lst, at_nat]
      simp [h]
    simp only [wp_zName, List.set_cons_zero, List.set_cons_succ, wp_tYes, if_true, wp_xCall, wp_xCons, wp_xTup, wp_xBin, wp_var, List.getElem?_cons_zero, List.getElem?_cons_succ, wp_mIx, at1 _ _ hk, wp_xFn, wp_xNil, List.map_cons, List.map_nil, List.length_cons, List.length_nil]
    refine ⟨trivial, draw_ok g.wf g.wat (by omega) (by omega) fun r s1 hr hr2 g1 hs1 => ?_⟩
    obtain ⟨j, rfl⟩ : ∃ j : Nat, r = (j : Int) := ⟨r.toNat, by omega⟩
    have hj : j < i + 1 := by omega
    rw [at1 _ _ (show j < qs.length by omega)]
    have hne : qs[i + 1] ≠ qs[j] := fun e => by
      have := nodup_at hnd (List.getElem?_eq_getElem hk) (by rw [List.getElem?_eq_getElem (show j < qs.length by omega), e])
      omega
    obtain ⟨u, v, e1, e2, e3⟩ := sort_two hne (hok _ (List.getElem_mem _)) (hok _ (List.getElem_mem _)) s1
    refine ⟨by decide, ?_⟩
    simp only [wp_liftL, e1]
    refine ⟨g.trans g1, by omega, l ++ [(u, v)], by simp, by simp [hli], ?_, fun p hpm => ?_⟩
    · refine List.nodup_append.mpr ⟨hnd2, by simp, fun p hpm p' hp' => ?_⟩
      rw [List.mem_singleton.mp hp']
      rintro rfl
      obtain ⟨_, a, b, h1, h2, h3, h4⟩ := hp _ hpm
      rcases e3 with ⟨rfl, rfl⟩ | ⟨rfl, rfl⟩
      · have := nodup_at hnd h3 (List.getElem?_eq_getElem hk)
        omega
      · have := nodup_at hnd h4 (List.getElem?_eq_getElem hk)
        omega
    · rcases List.mem_append.mp hpm with hpm | hpm
      · obtain ⟨h0, a, b, h1, h2, h3, h4⟩ := hp p hpm
        exact ⟨h0, a, b, by omega, by omega, h3, h4⟩
      · rw [List.mem_singleton.mp hpm]
        refine ⟨e2, ?_⟩
        rcases e3 with ⟨rfl, rfl⟩ | ⟨rfl, rfl⟩
        · exact ⟨i + 1, j, by omega, by omega, List.getElem?_eq_getElem hk, List.getElem?_eq_getElem (by omega)⟩
        · exact ⟨j, i + 1, by omega, by omega, List.getElem?_eq_getElem (by omega), List.getElem?_eq_getElem hk⟩
  · rintro acc s ⟨g, hs, l, rfl, hli, hnd2, hp⟩
    have : (rangeD 1 (m - 1)).length = m - 1 := by simp [rangeD]
    refine q l s (by omega) hnd2 (fun p hpm => ?_) g hs
    obtain ⟨h0, a, b, _, _, h3, h4⟩ := hp p hpm
    exact ⟨List.mem_of_getElem? h3, List.mem_of_getElem? h4, h0⟩
theorem web_ok {st : List Ob} {n m : Nat} (hw : Wf st) (h : WAt st n) (h1 : 1 ≤ m) (h2 : m ≤ 6) {Q : D → List Ob → Prop}
    (q : ∀ (ns : List Str) (ts : List (Str × Str)) (s : List Ob), ns.length = m → Names ns → Ties ns ts → Go n st s → s.length = st.length → Q (.tup [.tup (ns.map .str), .tup (ts.map tieD)]) s) : wp (S_law_web [.d (.loc n), .d (.int m)]) st Q := by
  unfold S_law_web
  refine wp_frzW h hw ?_
  rw [wp_runF]
  unfold m_law_web
  have hn := h.lt
  simp only [startE, List.map_cons, List.map_nil, List.length_cons, List.length_nil, List.replicate, List.cons_append, List.nil_append, wp_ySeq, wp_yPar3, wp_xCons, wp_xFn, wp_var, List.getElem?_cons_zero, List.getElem?_cons_succ, wp_xNil, wp_xTup, wp_c, wp_xLst]
  refine ⟨trivial, names_ok hw h h1 h2 fun ns s1 hnl hN g1 hs1 => ⟨by decide, trivial, of_ok (ds := [.int 0, .int 1, .int 2, .int 3, .int 4]) g1.wf g1.wat (by decide) (by decide) rfl (fun d s2 hd g2 hs2 => ?_) (.inl rfl)⟩⟩
  obtain ⟨o, rfl⟩ : ∃ o : Nat, d = .int (o : Int) := by
    simp only [List.mem_cons, List.not_mem_nil, or_false] at hd
    rcases hd with rfl | rfl | rfl | rfl | rfl
    · exact ⟨0, rfl⟩
    · exact ⟨1, rfl⟩
    · exact ⟨2, rfl⟩
    · exact ⟨3, rfl⟩
    · exact ⟨4, rfl⟩
  have g12 := g1.trans g2
  simp only [List.set_cons_zero, List.set_cons_succ, onNx_nx, wp_yFor, wp_itemsR1, wp_xCons, wp_var, List.getElem?_cons_zero, List.getElem?_cons_succ, wp_xNil]
  refine ⟨by decide, ⟨by omega, by omega⟩, ?_⟩
  have fin : ∀ (l : List (Str × Str)) (x5 x6 x7 : Option A) (s : List Ob), l.length ≤ 60 → l.Nodup → (∀ p ∈ l, p.1 ∈ ns ∧ p.2 ∈ ns ∧ p.1.cps.toList < p.2.cps.toList) → Go n st s → s.length = st.length →
      wp (yRet (xTup (xCons (xVar 2) (xCons (xCall (liftL dTuple) (xCons (xCall (liftL dSorted) (xCons (xVar 4) xNil)) xNil)) xNil))) [some (.d (.loc n)), some (.d (.int m)), some (.d (.tup (ns.map .str))), some (.d (.int o)), some (.d (.lst (l.map tieD))), x5, x6, x7]) s
        fun o s => match o with
          | .rt d => Go n st s ∧ ∃ e, frzD s st.length 100 d = some e ∧ ∀ s', Go n st s' → s'.length = st.length → Q e s'
          | .nx _ => Go n st s ∧ ∃ e, frzD s st.length 100 .non = some e ∧ ∀ s', Go n st s' → s'.length = st.length → Q e s'
          | _ => False := fun l x5 x6 x7 s hl hnd hp g hs => by
    obtain ⟨ts, e1, e2, e3⟩ := sort_pairs l hnd
    have hso := dsort_ties (s := s) (l := l) (by omega) fun p hpm => ⟨(hN.g _ (hp p hpm).1).ok, (hN.g _ (hp p hpm).2.1).ok⟩
    rw [e1] at hso
    have htu : dTuple s [.lst (ts.map tieD)] = some (.tup (ts.map tieD)) := rfl
    simp only [wp_yRet, wp_xTup, wp_xCons, wp_var, List.getElem?_cons_zero, List.getElem?_cons_succ, wp_xCall, wp_xNil, wp_liftL, hso, htu]
    exact ⟨by simp, g, _, frz_lo (by simp only [D.lo, D.loL, loL_strs, loL_prs, Bool.true_and]), fun s' g' hs' => q ns ts s' hnl hN ⟨fun p hpm => hp p (e2.mem_iff.mp hpm), e3, by rw [e2.length_eq]; exact hl⟩ g' hs'⟩
  refine loop1 hnl h2 hN g12 (by omega) fun l x5 x6 s hl hnd hp g hs => ?_
  simp only [onNx_nx, wp_ySeq, wp_yIf, wp_asB, wp_xBin, wp_xFn, wp_xCons, wp_var, List.getElem?_cons_zero, List.getElem?_cons_succ, wp_c, wp_xNil, List.map_cons, List.map_nil, List.length_cons, List.length_nil]
  refine ⟨trivial, draw_ok g.wf g.wat (by decide) (by decide) fun r s3 hr hr2 g3 hs3 => ?_⟩
  have g13 := g.trans g3
  rw [wp_mEq]
  have he : PyData.eqv (toPy (res s3 (.int r))) (toPy (res s3 (.int 0))) = decide (r = 0) := by
    show PyData.eqv (.int r) (.int 0) = _
    have e : PyData.eqv (.int r) (.int 0) = (r == 0) := by simp only [PyData.eqv]
    rw [e]
    by_cases h : r = 0 <;> simp [h]
  rw [he, isB_bl]
  refine ⟨⟨rfl, rfl⟩, ?_⟩
  by_cases hr0 : r = 0
  · rw [decide_eq_true hr0, if_pos rfl]
    simp only [wp_ySeq, wp_ySet, wp_xFn, wp_xCons, wp_var, List.getElem?_cons_zero, List.getElem?_cons_succ, wp_xNil, List.map_cons, List.map_nil, List.length_cons, List.length_nil]
    refine ⟨trivial, shuf_ok g13.wf g13.wat (by omega) fun qs s4 hqs g4 hs4 => ?_⟩
    have g14 := g13.trans g4
    simp only [List.set_cons_zero, List.set_cons_succ, onNx_nx, wp_ySet, wp_xComp, wp_itemsR2, wp_xCons, wp_c, wp_var, List.getElem?_cons_zero, List.getElem?_cons_succ, wp_xNil]
    have hmi : ((m : Int) - 1).toNat = m - 1 := by omega
    rw [hmi]
    refine ⟨⟨by omega, by omega, by omega, by omega⟩, by simp [rangeD]; omega, ?_⟩
    simp only [wipeE, List.set_cons_zero, List.set_cons_succ]
    refine loop2 (by rw [hqs.length_eq]; exact hnl) h1 h2 (hqs.nodup_iff.mpr (names_nd hN)) (fun x hx => (hN.g x (hqs.mem_iff.mp hx)).ok) g14 (by omega) fun l2 s5 hl2 hnd2 hp2 g5 hs5 => ?_
    exact fin l2 _ _ _ s5 hl2 hnd2 (fun p hpm => ⟨hqs.mem_iff.mp (hp2 p hpm).1, hqs.mem_iff.mp (hp2 p hpm).2.1, (hp2 p hpm).2.2⟩) g5 hs5
  · rw [decide_eq_false hr0, if_neg (by decide)]
    simp only [wp_yNil, onNx_nx]
    exact fin l _ _ _ s3 hl hnd hp g13 (by omega)
end K85
set_option autoImplicit false
set_option maxRecDepth 100000
set_option maxHeartbeats 8000000
namespace K85
open PySem PySem.Spec L2 MM
theorem eqv_int {a b : Int} : PyData.eqv (.int a) (.int b) = decide (a = b) := by
  have e : PyData.eqv (.int a) (.int b) = (a == b) := by simp only [PyData.eqv]
  rw [e]
  by_cases h : a = b <;> simp [h]
theorem eqv_str {a b : Str} : PyData.eqv (.str a) (.str b) = decide (a = b) := by
  have e : PyData.eqv (.str a) (.str b) = (a == b) := by simp only [PyData.eqv]
  rw [e]
  by_cases h : a = b <;> simp [h]
/-- posts drawn one by one -/
theorem some_ok {st : List Ob} {n : Nat} {ns : List Str} (hw : Wf st) (h : WAt st n) (hl : ns.length ≤ 90) {Q : D → List Ob → Prop}
    (q : ∀ (ps : List Str) (s : List Ob), ps.Sublist ns → Go n st s → s.length = st.length → Q (.tup (ps.map .str)) s) : wp (S_law_some [.d (.loc n), .d (.tup (ns.map .str))]) st Q := by
  unfold S_law_some
  refine wp_frzW h hw ?_
  rw [wp_runF]
  unfold m_law_some
  simp only [startE, List.map_cons, List.map_nil, List.length_cons, List.length_nil, List.replicate, List.cons_append, List.nil_append, wp_ySeq, wp_ySet, wp_xFn, wp_xCons, wp_var, List.getElem?_cons_zero, List.getElem?_cons_succ, wp_xNil, wp_xTup, wp_c]
  refine ⟨by decide, trivial, of_ok (ds := [.int 2, .int 3, .int 5]) hw h (by decide) (by decide) rfl (fun d s1 hd g1 hs1 => ?_) (.inl rfl)⟩
  obtain ⟨o, rfl, ho1, ho2⟩ : ∃ o : Int, d = .int o ∧ 1 ≤ o ∧ o < 1073741824 := by
    simp only [List.mem_cons, List.not_mem_nil, or_false] at hd
    rcases hd with rfl | rfl | rfl
    · exact ⟨2, rfl, by decide, by decide⟩
    · exact ⟨3, rfl, by decide, by decide⟩
    · exact ⟨5, rfl, by decide, by decide⟩
  simp only [List.set_cons_zero, List.set_cons_succ, onNx_nx, wp_yRet, wp_xCall, wp_xCons, wp_xComp, wp_itemsT, wp_var, List.getElem?_cons_zero, List.getElem?_cons_succ, wp_xNil]
  refine ⟨by rw [List.length_map]; omega, ?_⟩
  simp only [wipeE, List.set_cons_zero, List.set_cons_succ]
  refine wp_compM (fun i acc s => Go n st s ∧ s.length = st.length ∧ ∃ ps : List Str, acc = ps.map .str ∧ ps.Sublist (ns.take i)) ?_ ?_ ?_
  · exact ⟨g1, hs1, [], rfl, by simp⟩
  · rintro i hi acc s ⟨g, hs, ps, rfl, hp⟩
    have hin : i < ns.length := by simpa using hi
    have hit : (ns.map D.str)[i] = .str ns[i] := by simp
    rw [hit]
    simp only [wp_zName, List.set_cons_zero, List.set_cons_succ, wp_asB, wp_xBin, wp_xFn, wp_xCons, wp_var, List.getElem?_cons_zero, List.getElem?_cons_succ, wp_xNil, wp_c, List.map_cons, List.map_nil, List.length_cons, List.length_nil]
    refine ⟨trivial, draw_ok g.wf g.wat ho1 ho2 fun r s2 _ _ g2 hs2 => ?_⟩
    rw [wp_mEq]
    have he : PyData.eqv (toPy (res s2 (.int r))) (toPy (res s2 (.int 0))) = decide (r = 0) := eqv_int
    rw [he, isB_bl]
    refine ⟨⟨rfl, rfl⟩, ?_⟩
    have ht : ns.take (i + 1) = ns.take i ++ [ns[i]] := by rw [List.take_succ_eq_append_getElem hin]
    by_cases hr : r = 0
    · rw [if_pos (decide_eq_true hr)]
      exact ⟨g.trans g2, by omega, ps ++ [ns[i]], by simp, by rw [ht]; exact hp.append (List.Sublist.refl _)⟩
    · rw [if_neg (by simpa using hr)]
      exact ⟨g.trans g2, by omega, ps, rfl, by rw [ht]; exact hp.trans (List.sublist_append_left _ _)⟩
  · rintro acc s ⟨g, hs, ps, rfl, hp⟩
    have htu : dTuple s [.lst (ps.map .str)] = some (.tup (ps.map .str)) := rfl
    simp only [wp_liftL, htu]
    rw [List.length_map, List.take_length] at hp
    exact ⟨g, _, frz_lo (by simp only [D.lo]; exact loL_strs ps), fun s' g' hs' => q ps s' hp g' hs'⟩
def KS : List Str := [("near" : Str), ("open" : Str), ("apart" : Str), ("joined" : Str), ("once" : Str), ("double" : Str)]
theorem kinds_ok {st : List Ob} (hw : Wf st) {Q : D → List Ob → Prop} (q : Q (.tup (KS.map .str)) st) : wp (S_law_kinds []) st Q := by
  unfold S_law_kinds
  refine wp_frz0 ?_
  rw [wp_runF]
  unfold m_law_kinds
  simp only [startE, List.map_nil, List.length_nil, List.replicate, List.nil_append, wp_yRet, wp_xTup, wp_xCons, wp_c, wp_xNil]
  exact ⟨by decide, trivial, hw, _, frz_lo (by simp only [D.lo]; exact loL_strs KS), q⟩
/-! ### all sets -/
abbrev rowD (r : List Str) : D := .tup (r.map .str)
abbrev cntD (r : List Str) : D := .tup [.int r.length, rowD r]
theorem loL_rows {n : Nat} (l : List (List Str)) : D.loL n (l.map rowD) = true := by
  induction l with
  | nil => rfl
  | cons x l ih => simp only [List.map_cons, D.loL, D.lo, Bool.and_eq_true]; exact ⟨loL_strs x, ih⟩
theorem toPys_strs (l : List Str) : toPys (l.map .str) = l.map .str := by
  induction l with
  | nil => rfl
  | cons x l ih => simp only [List.map_cons, toPys, toPy, ih]
theorem alikeAll_strs : ∀ a b : List Str, PySem.W.alikeAll (a.map PyData.str) (b.map PyData.str) = true
  | [], _ => by simp [PySem.W.alikeAll]
  | _ :: _, [] => by simp [PySem.W.alikeAll]
  | x :: a, y :: b => by simp only [List.map_cons, PySem.W.alikeAll, PySem.W.alike, Bool.true_and]; exact alikeAll_strs a b
theorem depthAll_strs (l : List Str) : PyData.depthAll (l.map .str) ≤ 5 := by
  induction l with
  | nil => simp [PyData.depthAll]
  | cons x l ih => simp only [List.map_cons, PyData.depthAll, PyData.depth]; omega
theorem pyOks_strs {l : List Str} (h : ∀ x ∈ l, PyData.strOk x = true) : pyOks (l.map .str) = true := by
  induction l with
  | nil => rfl
  | cons x l ih => simp only [List.map_cons, pyOks, pyOk, Bool.and_eq_true]; exact ⟨h x (by simp), ih fun y hy => h y (by simp [hy])⟩
theorem all_sets_ok {st : List Ob} {ns : List Str} (hw : Wf st) (hl : ns.length ≤ 6) (hok : ∀ x ∈ ns, PyData.strOk x = true) {Q : D → List Ob → Prop}
    (q : ∀ rows : List (List Str), rows.length ≤ 64 → (∀ r ∈ rows, r.Sublist ns) → Q (.lst (rows.map rowD)) st) : wp (S_law_all_sets [.d (.tup (ns.map .str))]) st Q := by
  unfold S_law_all_sets
  refine wp_frz0 ?_
  rw [wp_runF]
  unfold m_law_all_sets
  simp only [startE, List.map_cons, List.map_nil, List.length_cons, List.length_nil, List.replicate, List.cons_append, List.nil_append, wp_ySeq, wp_ySet, wp_xLst, wp_xCons, wp_xTup, wp_xNil, List.set_cons_zero, List.set_cons_succ, onNx_nx, wp_yFor, wp_itemsT, wp_var, List.getElem?_cons_zero, List.getElem?_cons_succ]
  refine ⟨by decide, by decide, ?_⟩
  refine wp_forM (fun i ρ s => s = st ∧ ∃ (rows : List (List Str)) (x2 x3 x4 : Option A), ρ = [some (.d (.tup (ns.map .str))), some (.d (.lst (rows.map rowD))), x2, x3, x4] ∧ rows.length = 2 ^ i ∧ ∀ r ∈ rows, r.Sublist (ns.take i)) ?_ ?_ ?_
  · exact ⟨rfl, [[]], _, _, _, rfl, rfl, by simp⟩
  · rintro i hi ρ s ⟨rfl, rows, x2, x3, x4, rfl, hrl, hr⟩
    have hin : i < ns.length := by simpa using hi
    have hit : (ns.map D.str)[i] = .str ns[i] := by simp
    have hpow : 2 ^ i ≤ 64 := Nat.pow_le_pow_right (by decide) (show i ≤ 6 by omega)
    rw [hit]
    simp only [wp_zName, List.set_cons_zero, List.set_cons_succ, wp_ySet, wp_xBin, wp_var, List.getElem?_cons_zero, List.getElem?_cons_succ, wp_xComp, wp_itemsL]
    refine ⟨by rw [List.length_map]; omega, ?_⟩
    simp only [wipeE, List.set_cons_zero, List.set_cons_succ]
    have ht : ns.take (i + 1) = ns.take i ++ [ns[i]] := by rw [List.take_succ_eq_append_getElem hin]
    refine wp_compP (p := fun _ => true) (f := fun d => match d with | .tup ds => .tup (ds ++ [.str ns[i]]) | d => d) (fun d hd => ?_) ?_
    · obtain ⟨r, hrm, rfl⟩ := List.mem_map.mp hd
      have hrlen : r.length ≤ 6 := Nat.le_trans (hr r hrm).length_le (by rw [List.length_take]; omega)
      have ad : dAdd (.tup (r.map .str)) (.tup [.str ns[i]]) = some (.tup (r.map .str ++ [.str ns[i]])) := by
        show (if (r.map D.str).length + [D.str ns[i]].length ≤ 1000000 then some (D.tup (r.map .str ++ [.str ns[i]])) else none) = _
        rw [if_pos (by simp; omega)]
      simp only [wp_zName, List.set_cons_zero, List.set_cons_succ, wp_tYes, wp_xBin, wp_var, List.getElem?_cons_zero, List.getElem?_cons_succ, wp_xTup, wp_xCons, wp_xNil, wp_lift2, ad, true_and]
      exact fun _ => ⟨by simp, trivial⟩
    · have e2 : ((rows.map rowD).filter fun _ => true).map (fun d => match d with | .tup ds => D.tup (ds ++ [.str ns[i]]) | d => d) = (rows.map fun r => r ++ [ns[i]]).map rowD := by
        rw [List.filter_eq_self.mpr (fun _ _ => rfl), List.map_map, List.map_map]
        apply List.map_congr_left
        intro r _
        simp [rowD]
      rw [e2]
      have ad : dAdd (.lst (rows.map rowD)) (.lst ((rows.map fun r => r ++ [ns[i]]).map rowD)) = some (.lst (rows.map rowD ++ (rows.map fun r => r ++ [ns[i]]).map rowD)) := by
        show (if (rows.map rowD).length + ((rows.map fun r => r ++ [ns[i]]).map rowD).length ≤ 1000000 then some (D.lst (rows.map rowD ++ (rows.map fun r => r ++ [ns[i]]).map rowD)) else none) = _
        rw [if_pos (by simp only [List.length_map]; omega)]
      simp only [wp_lift2, ad]
      refine ⟨trivial, rows ++ rows.map fun r => r ++ [ns[i]], _, _, _, by rw [List.map_append], by simp only [List.length_append, List.length_map]; rw [Nat.pow_succ]; omega, fun r hrm => ?_⟩
      rw [ht]
      rcases List.mem_append.mp hrm with hrm | hrm
      · exact (hr r hrm).trans (List.sublist_append_left _ _)
      · obtain ⟨r', hrm', rfl⟩ := List.mem_map.mp hrm
        exact (hr r' hrm').append (List.Sublist.refl _)
  · rintro ρ s ⟨rfl, rows, x2, x3, x4, rfl, hrl, hr⟩
    rw [List.length_map] at hrl hr
    rw [List.take_length] at hr
    have hpow : 2 ^ ns.length ≤ 64 := Nat.pow_le_pow_right (by decide) hl
    simp only [onNx_nx, wp_yRet, wp_xComp, wp_itemsL, wp_xCall, wp_xCons, wp_var, List.getElem?_cons_zero, List.getElem?_cons_succ, wp_xNil]
    refine ⟨by rw [List.length_map]; omega, ?_⟩
    simp only [wipeE, List.set_cons_zero, List.set_cons_succ]
    refine wp_compP (p := fun _ => true) (f := fun d => match d with | .tup ds => .tup [.int ds.length, .tup ds] | d => d) (fun d hd => ?_) ?_
    · obtain ⟨r, hrm, rfl⟩ := List.mem_map.mp hd
      have hd : ∀ s, dLen s [rowD r] = some (.int (r.map D.str).length) := fun s => rfl
      simp only [wp_zName, List.set_cons_zero, List.set_cons_succ, wp_tYes, wp_xTup, wp_xCons, wp_xCall, wp_var, List.getElem?_cons_zero, List.getElem?_cons_succ, wp_xNil, wp_liftL, hd, true_and]
      exact fun _ => ⟨by simp, trivial⟩
    · have e2 : ((rows.map rowD).filter fun _ => true).map (fun d => match d with | .tup ds => D.tup [.int ds.length, .tup ds] | d => d) = rows.map cntD := by
        rw [List.filter_eq_self.mpr (fun _ _ => rfl), List.map_map]
        apply List.map_congr_left
        intro r _
        simp [rowD, cntD]
      rw [e2]
      have hso : dSorted s [.lst (rows.map cntD)] = some (.lst (sortD (rows.map cntD))) := by
        show (match seqItems s (.lst (rows.map cntD)) with | some ds => if sortOk ds = true then some (D.lst (sortD ds)) else none | none => none) = _
        rw [show seqItems s (.lst (rows.map cntD)) = some (rows.map cntD) from rfl]
        simp only []
        rw [if_pos (sortOk_gen cntD rows (by omega) (fun r hrm => ?_) (fun a b => ?_) (fun a => rfl) (fun r hrm => ?_))]
        · simp only [cntD, pyOk, pyOks, Bool.true_and, Bool.and_true]
          exact pyOks_strs fun x hx => hok x ((hr r hrm).subset hx)
        · simp only [cntD, toPy, toPys, toPys_strs, PySem.W.alike, PySem.W.alikeAll, Bool.true_and, Bool.and_true]
          exact alikeAll_strs a b
        · show (toPy (cntD r)).depth ≤ 60
          have := depthAll_strs r
          simp only [cntD, toPy, toPys, toPys_strs, PyData.depth, PyData.depthAll]
          omega
      rw [sortD_map cntD rows] at hso
      have hperm := sortD_perm cntD rows
      generalize (rows.mergeSort fun a b => PySem.W.dataLe false toPy (cntD a) (cntD b)) = rows2 at hso hperm
      simp only [wp_liftL, hso]
      have hl2 := hperm.length_eq
      refine ⟨by rw [List.length_map]; omega, ?_⟩
      refine wp_compP (p := fun _ => true) (f := fun d => match d with | .tup [_, x] => x | d => d) (fun d hd => ?_) ?_
      · obtain ⟨r, hrm, rfl⟩ := List.mem_map.mp hd
        simp only [wp_zTup, wp_zCons, wp_zName, List.set_cons_zero, List.set_cons_succ, wp_zNil, wp_tYes, wp_var, List.getElem?_cons_zero, List.getElem?_cons_succ, true_and]
        exact fun _ => trivial
      · have e3 : ((rows2.map cntD).filter fun _ => true).map (fun d => match d with | .tup [_, x] => x | d => d) = rows2.map rowD := by
          rw [List.filter_eq_self.mpr (fun _ _ => rfl), List.map_map]
          apply List.map_congr_left
          intro r _
          rfl
        rw [e3]
        exact ⟨rfl, hw, _, frz_lo (by simp only [D.lo]; exact loL_rows rows2), q rows2 (by omega) fun r hrm => hr r (hperm.mem_iff.mp hrm)⟩
end K85
set_option autoImplicit false
set_option maxRecDepth 100000
set_option maxHeartbeats 8000000
namespace K85
open PySem PySem.Spec L2 MM
abbrev lstS (l : List Str) : D := .lst (l.map .str)
abbrev keysOf (ns : List Str) : List L2.Key := ns.map Sum.inr
abbrev locsOf (b : Nat) (ns : List Str) : List D := (List.range' b ns.length).map D.loc
structure NearD (ns : List Str) (d : D) : Prop where
  ex : ∃ adj : List (List Str), d = .dct (keysOf ns) (adj.map lstS) ∧ adj.length = ns.length ∧ ∀ l ∈ adj, l.length ≤ 60 ∧ ∀ x ∈ l, x ∈ ns
theorem valD_at : ∀ {ns : List Str} {ds : List D} {a : Nat} {x : Str}, ns.Nodup → ds.length = ns.length → ns[a]? = some x → valD ((keysOf ns).zip ds) (Sum.inr x) = ds[a]?
  | [], _, _, _, _, _, h => by simp at h
  | n :: ns, [], _, _, _, hl, _ => by simp at hl
  | n :: ns, d :: ds, 0, x, nd, hl, h => by
    have : n = x := by simpa using h
    subst this
    simp [valD, keysOf]
  | n :: ns, d :: ds, a + 1, x, nd, hl, h => by
    have hx : ns[a]? = some x := by simpa using h
    have hne : n ≠ x := fun e => (List.nodup_cons.mp nd).1 (by rw [e]; exact List.mem_of_getElem? hx)
    have ih := valD_at (ns := ns) (ds := ds) (List.nodup_cons.mp nd).2 (by simpa using hl) hx
    simp only [List.getElem?_cons_succ]
    rw [← ih]
    simp [valD, keysOf, hne]
theorem NearD.get {ns : List Str} {d : D} (h : NearD ns d) (nd : ns.Nodup) {x : Str} (hx : x ∈ ns) (st : List Ob) : ∃ l : List Str, dGetD st d (.str x) = some (lstS l) ∧ l.length ≤ 60 ∧ ∀ y ∈ l, y ∈ ns := by
  obtain ⟨adj, rfl, hl, ha⟩ := h.ex
  obtain ⟨a, hxa⟩ := List.mem_iff_getElem?.mp hx
  have hlt : a < adj.length := by rw [hl]; exact (List.getElem?_eq_some_iff.mp hxa).1
  refine ⟨adj[a], ?_, ha _ (List.getElem_mem hlt)⟩
  show valD ((keysOf ns).zip (adj.map lstS)) (Sum.inr x) = _
  rw [valD_at nd (by rw [List.length_map, hl]) hxa]
  simp [hlt]
theorem mergeD_app : ∀ (more acc : KD), (∀ p ∈ more, ∀ r ∈ acc, r.1 ≠ p.1) → (more.map (·.1)).Nodup → mergeD acc more = acc ++ more
  | [], acc, _, _ => by simp [mergeD]
  | p :: more, acc, h, nd => by
    have h0 : putD acc p.1 p.2 = acc ++ [p] := by
      unfold putD
      rw [if_neg]
      intro ht
      rw [List.any_eq_true] at ht
      obtain ⟨r, hr, he⟩ := ht
      exact h p (by simp) r hr (of_decide_eq_true he)
    rw [List.map_cons] at nd
    have ih := mergeD_app more (acc ++ [p]) (fun p' hp' r hr => by
      rcases List.mem_append.mp hr with hr | hr
      · exact h p' (by simp [hp']) r hr
      · rw [List.mem_singleton.mp hr]
        exact fun e => (List.nodup_cons.mp nd).1 (by rw [e]; exact List.mem_map_of_mem hp')) (List.nodup_cons.mp nd).2
    show mergeD (putD acc p.1 p.2) more = _
    rw [h0, ih, List.append_assoc]
    rfl
theorem pairs_of : ∀ (ns : List Str) (b : Nat), pairsD ((List.range ns.length).map fun j => D.tup [.str (ns.getD j Str.empty), .loc (b + j)]) = some ((keysOf ns).zip (locsOf b ns))
  | [], _ => rfl
  | n :: ns, b => by
    have ih := pairs_of ns (b + 1)
    rw [List.length_cons, List.range_succ_eq_map, List.map_cons, List.map_map]
    simp only [pairsD, List.getD_cons_zero, keyD, Option.bind_some, Nat.add_zero]
    have e : (List.range ns.length).map ((fun j => D.tup [.str ((n :: ns).getD j Str.empty), .loc (b + j)]) ∘ Nat.succ) = (List.range ns.length).map fun j => D.tup [.str (ns.getD j Str.empty), .loc (b + 1 + j)] := by
      apply List.map_congr_left
      intro j _
      simp only [Function.comp, List.getD_cons_succ]
      rw [show b + j.succ = b + 1 + j by omega]
    rw [e, ih]
    simp [keysOf, locsOf, List.range'_succ]
theorem loL_locs (n b : Nat) (ns : List Str) (h : b + ns.length ≤ n) : D.loL n (locsOf b ns) = true := by
  induction ns generalizing b with
  | nil => rfl
  | cons x ns ih =>
    simp only [locsOf, List.length_cons, List.range'_succ, List.map_cons, D.loL, D.lo, Bool.and_eq_true]
    simp only [List.length_cons] at h
    exact ⟨decide_eq_true (by omega), ih (b + 1) (by omega)⟩
abbrev nearSt (st : List Ob) (ns : List Str) (adj : List (List Str)) : List Ob := st ++ (adj.map (fun l => Ob.lst (l.map .str)) ++ [.dK (keysOf ns) (locsOf st.length ns)])
theorem near_at {st : List Ob} {ns : List Str} {adj : List (List Str)} {a : Nat} (h : a < adj.length) : (nearSt st ns adj)[st.length + a]? = some (.lst (adj[a].map .str)) := by
  unfold nearSt
  rw [List.getElem?_append_right (by omega), List.getElem?_append_left (by simp; omega)]
  simp [h]
theorem near_dct {st : List Ob} {ns : List Str} {adj : List (List Str)} (h : adj.length = ns.length) : (nearSt st ns adj)[st.length + ns.length]? = some (.dK (keysOf ns) (locsOf st.length ns)) := by
  unfold nearSt
  rw [List.getElem?_append_right (by omega), List.getElem?_append_right (by simp; omega)]
  simp [h]
theorem near_set {st : List Ob} {ns : List Str} {adj : List (List Str)} {a : Nat} {l : List Str} (h : a < adj.length) : (nearSt st ns adj).set (st.length + a) (.lst (l.map .str)) = nearSt st ns (adj.set a l) := by
  unfold nearSt
  rw [List.set_append_right _ _ (by omega), List.set_append_left _ _ (by simp; omega)]
  simp [List.map_set]
theorem frz_near {st : List Ob} {ns : List Str} {adj : List (List Str)} (h : adj.length = ns.length) (h6 : ns.length ≤ 6) (hl : ∀ l ∈ adj, l.length ≤ 60) : frzD (nearSt st ns adj) st.length 100 (.loc (st.length + ns.length)) = some (.dct (keysOf ns) (adj.map lstS)) := by
  simp only [frzD]
  rw [if_neg (by omega), near_dct h]
  simp only []
  have gen : ∀ (k i g : Nat), 90 ≤ g → i + k = ns.length → frzL (nearSt st ns adj) st.length (g + k) ((List.range' (st.length + i) k).map D.loc) = some ((adj.drop i).map lstS) := by
    intro k
    induction k with
    | zero =>
      intro i g hg hi
      rw [List.drop_of_length_le (by omega)]
      obtain ⟨g', rfl⟩ : ∃ g', g = g' + 1 := ⟨g - 1, by omega⟩
      rfl
    | succ k ih =>
      intro i g hg hi
      have hia : i < adj.length := by omega
      rw [List.range'_succ, List.map_cons, List.drop_eq_getElem_cons hia, List.map_cons]
      have h1 : frzD (nearSt st ns adj) st.length (g + k) (.loc (st.length + i)) = some (lstS adj[i]) := by
        rw [show g + k = (g + k - 2) + 2 by omega]
        exact frz_locL (near_at hia) (by omega) (by rw [List.length_map]; have := hl _ (List.getElem_mem hia); omega) (loL_strs _)
      show (frzD (nearSt st ns adj) st.length (g + k) (.loc (st.length + i))).bind _ = _
      rw [h1, Option.bind_some]
      have ih2 := ih (i + 1) g hg (by omega)
      rw [show st.length + (i + 1) = st.length + i + 1 by omega] at ih2
      rw [show g.add k = g + k from rfl, ih2]
      rfl
  have g0 := gen ns.length 0 (99 - ns.length) (by omega) (by omega)
  rw [show 99 - ns.length + ns.length = 99 by omega, Nat.add_zero] at g0
  rw [g0]
  rfl
theorem tyL {s : List Ob} {i : Nat} {ds : List D} (h : s[i]? = some (.lst ds)) : tyD "list" s (.loc i) = true := by simp [tyD, lstItems, res, h]
theorem near_ok {st : List Ob} {ns : List Str} {ts : List (Str × Str)} (hw : Wf st) (hl : ns.length ≤ 6) (nd : ns.Nodup) (hT : Ties ns ts) {Q : D → List Ob → Prop}
    (q : ∀ d : D, NearD ns d → Q d st) : wp (S_law_near [.d (.tup [.tup (ns.map .str), .tup (ts.map tieD)])]) st Q := by
  unfold S_law_near
  refine wp_frzS ?_
  rw [wp_runF]
  unfold m_law_near
  have at0 : ∀ (s : List Ob) (a b : D), dIx s (.tup [a, b]) (.int 0) = some a := fun s a b => rfl
  have at1 : ∀ (s : List Ob) (a b : D), dIx s (.tup [a, b]) (.int 1) = some b := fun s a b => rfl
  simp only [startE, List.map_cons, List.map_nil, List.length_cons, List.length_nil, List.replicate, List.cons_append, List.nil_append, wp_ySeq, wp_ySet, wp_xCall, wp_xCons, wp_xComp, wp_itemsT, wp_xBin, wp_mIx, wp_var, wp_c, List.getElem?_cons_zero, List.getElem?_cons_succ, wp_xNil, at0]
  refine ⟨by rw [List.length_map]; omega, ?_⟩
  simp only [wipeE, List.set_cons_zero, List.set_cons_succ]
  refine wp_compM (fun i acc s => s = st ++ List.replicate i (.lst []) ∧ acc = (List.range i).map fun j => D.tup [.str (ns.getD j Str.empty), .loc (st.length + j)]) ?_ ?_ ?_
  · exact ⟨by simp, rfl⟩
  · rintro i hi acc s ⟨rfl, rfl⟩
    have hin : i < ns.length := by simpa using hi
    have hit : (ns.map D.str)[i] = .str ns[i] := by simp
    rw [hit]
    simp only [wp_zName, List.set_cons_zero, List.set_cons_succ, wp_tYes, if_true, wp_xTup, wp_xCons, wp_var, List.getElem?_cons_zero, List.getElem?_cons_succ, wp_xLstM, wp_xNil]
    refine ⟨by decide, by simp, ?_, ?_⟩
    · rw [List.append_assoc, List.replicate_succ']
    · rw [List.range_succ, List.map_append]
      simp [hin]
  · rintro acc s ⟨rfl, rfl⟩
    rw [List.length_map]
    have hdl : ∀ s : List Ob, dDict s (.lst ((List.range ns.length).map fun j => D.tup [.str (ns.getD j Str.empty), .loc (st.length + j)])) = some ((keysOf ns).zip (locsOf st.length ns)) := fun s => by
      unfold dDict
      rw [show lstItems s (.lst ((List.range ns.length).map fun j => D.tup [.str (ns.getD j Str.empty), .loc (st.length + j)])) = some ((List.range ns.length).map fun j => D.tup [.str (ns.getD j Str.empty), .loc (st.length + j)]) from rfl]
      rw [Option.bind_some, pairs_of]
      have hz : ((keysOf ns).zip (locsOf st.length ns)).map (·.1) = keysOf ns := by
        rw [List.map_fst_zip]
        simp
      rw [Option.map_some, mergeD_app _ [] (fun _ _ r hr => by cases hr) (by
        rw [hz]
        exact List.pairwise_map.mpr (nd.imp fun h e => h (Sum.inr.inj e))), List.nil_append]
    have hk1 : ((keysOf ns).zip (locsOf st.length ns)).map (·.1) = keysOf ns := List.map_fst_zip (by simp)
    have hk2 : ((keysOf ns).zip (locsOf st.length ns)).map (·.2) = locsOf st.length ns := List.map_snd_zip (by simp)
    have e0 : mDictP [.lst ((List.range ns.length).map fun j => D.tup [.str (ns.getD j Str.empty), .loc (st.length + j)])] (st ++ List.replicate ns.length (.lst [])) = some (.loc (st.length + ns.length), nearSt st ns (List.replicate ns.length [])) := by
      show (dDict _ _).map _ = _
      rw [hdl, Option.map_some, hk1, hk2]
      simp [nearSt]
    rw [wp_def, e0]
    simp only [onNx_nx, wp_ySeq, wp_yFor, wp_itemsT, wp_xBin, wp_mIx, wp_var, wp_c, List.getElem?_cons_zero, List.getElem?_cons_succ, at1]
    refine wp_forM (fun i ρ s => ∃ (adj : List (List Str)) (x2 x3 x4 : Option A), ρ = [some (.d (.tup [.tup (ns.map .str), .tup (ts.map tieD)])), some (.d (.loc (st.length + ns.length))), x2, x3, x4] ∧ s = nearSt st ns adj ∧ adj.length = ns.length ∧ ∀ l ∈ adj, l.length ≤ i ∧ ∀ x ∈ l, x ∈ ns) ?_ ?_ ?_
    · exact ⟨_, _, _, _, rfl, rfl, by simp, fun l hl => by rw [List.eq_of_mem_replicate hl]; exact ⟨Nat.le_refl _, fun x hx => by cases hx⟩⟩
    · rintro i hi ρ s ⟨adj, x2, x3, x4, rfl, rfl, hal, hadj⟩
      have hit : i < ts.length := by simpa using hi
      have hti : (ts.map tieD)[i] = tieD ts[i] := by simp
      rw [hti]
      obtain ⟨m1, m2, m3⟩ := hT.mem ts[i] (List.getElem_mem hit)
      have h60 := hT.len
      obtain ⟨a, ha⟩ := List.mem_iff_getElem?.mp m1
      obtain ⟨b, hb⟩ := List.mem_iff_getElem?.mp m2
      have hab : a ≠ b := fun e => by
        rw [e] at ha
        rw [ha] at hb
        rw [Option.some.inj hb] at m3
        exact List.lt_irrefl _ m3
      have hla : a < adj.length := by rw [hal]; exact (List.getElem?_eq_some_iff.mp ha).1
      have hlb : b < adj.length := by rw [hal]; exact (List.getElem?_eq_some_iff.mp hb).1
      have get : ∀ (adj2 : List (List Str)) (x : Str) (c : Nat), adj2.length = ns.length → ns[c]? = some x → dGetD (nearSt st ns adj2) (.loc (st.length + ns.length)) (.str x) = some (.loc (st.length + c)) := fun adj2 x c h1 h2 => by
        have hc : c < ns.length := (List.getElem?_eq_some_iff.mp h2).1
        have e : dctOf (nearSt st ns adj2) (.loc (st.length + ns.length)) = some (keysOf ns, locsOf st.length ns) := by simp only [dctOf, near_dct h1]
        unfold dGetD
        rw [e]
        simp only [Option.bind_some, keyD]
        rw [valD_at nd (by simp) h2]
        simp [locsOf, hc]
      simp only [tieD, wp_zTup, wp_zCons, wp_zName, List.set_cons_zero, List.set_cons_succ, wp_zNil, wp_ySeq, wp_yDrop, wp_xMt, wp_xBin, wp_mGetD, wp_var, List.getElem?_cons_zero, List.getElem?_cons_succ, wp_xCons, wp_xNil, get adj _ a hal ha]
      refine ⟨tyL (near_at hla), wp_append (near_at hla) (by rw [List.length_map]; have := (hadj _ (List.getElem_mem hla)).1; omega) ?_⟩
      rw [show adj[a].map D.str ++ [D.str ts[i].2] = (adj[a] ++ [ts[i].2]).map D.str by simp, near_set hla]
      have hal2 : (adj.set a (adj[a] ++ [ts[i].2])).length = ns.length := by rw [List.length_set]; exact hal
      have hlb2 : b < (adj.set a (adj[a] ++ [ts[i].2])).length := by rw [List.length_set]; exact hlb
      have hbb : (adj.set a (adj[a] ++ [ts[i].2]))[b] = adj[b] := by rw [List.getElem_set_ne hab]
      simp only [onNx_nx, wp_yDrop, wp_xMt, wp_xBin, wp_mGetD, wp_var, List.getElem?_cons_zero, List.getElem?_cons_succ, wp_xCons, wp_xNil, get _ _ b hal2 hb]
      refine ⟨tyL (near_at hlb2), wp_append (near_at hlb2) (by rw [List.length_map, hbb]; have := (hadj _ (List.getElem_mem hlb)).1; omega) ?_⟩
      rw [hbb, show adj[b].map D.str ++ [D.str ts[i].1] = (adj[b] ++ [ts[i].1]).map D.str by simp, near_set hlb2]
      refine ⟨_, _, _, _, rfl, rfl, by rw [List.length_set]; exact hal2, fun l hlm => ?_⟩
      rcases List.mem_or_eq_of_mem_set hlm with hlm | rfl
      · rcases List.mem_or_eq_of_mem_set hlm with hlm | rfl
        · exact ⟨Nat.le_succ_of_le (hadj l hlm).1, (hadj l hlm).2⟩
        · refine ⟨by have := (hadj _ (List.getElem_mem hla)).1; simp; omega, fun x hx => ?_⟩
          rcases List.mem_append.mp hx with hx | hx
          · exact (hadj _ (List.getElem_mem hla)).2 x hx
          · rw [List.mem_singleton.mp hx]; exact m2
      · refine ⟨by have := (hadj _ (List.getElem_mem hlb)).1; simp; omega, fun x hx => ?_⟩
        rcases List.mem_append.mp hx with hx | hx
        · exact (hadj _ (List.getElem_mem hlb)).2 x hx
        · rw [List.mem_singleton.mp hx]; exact m1
    · rintro ρ s ⟨adj, x2, x3, x4, rfl, rfl, hal, hadj⟩
      have h60 := hT.len
      rw [List.length_map] at hadj
      simp only [onNx_nx, wp_yRet, wp_var, List.getElem?_cons_zero, List.getElem?_cons_succ]
      exact ⟨st, _, rfl, rfl, hw, _, frz_near hal hl (fun l hlm => by have := (hadj l hlm).1; omega), q _ ⟨adj, rfl, hal, fun l hlm => ⟨by have := (hadj l hlm).1; omega, (hadj l hlm).2⟩⟩⟩
end K85
set_option autoImplicit false
set_option maxRecDepth 100000
set_option maxHeartbeats 8000000
namespace K85
open PySem PySem.Spec L2 MM
/-- [y for y in texts if P y] -/
theorem comp_strs {ρ : Ev} {st : List Ob} {i : Nat} {mt : Ev → Mo Bool} {l : List Str} {P : Str → Bool} {QL : List D → List Ob → Prop} (hi : i < ρ.length)
    (h : ∀ y ∈ l, wp (mt (ρ.set i (some (.d (.str y))))) st fun b s => s = st ∧ b = P y) (hq : QL ((l.filter P).map .str) st) : wp (compM (zName i) mt (xVar i) (l.map .str) ρ) st QL := by
  refine wp_compP (p := fun d => match d with | .str y => P y | _ => false) (f := fun d => d) (fun d hd => ?_) ?_
  · obtain ⟨y, hy, rfl⟩ := List.mem_map.mp hd
    rw [wp_zName]
    refine ⟨rfl, wp_mono (h y hy) fun b s ⟨e1, e2⟩ => ⟨e1, e2, fun _ => ?_⟩⟩
    rw [wp_var, List.getElem?_set_self hi]
    exact ⟨rfl, rfl⟩
  · have e : ((l.map D.str).filter fun d => match d with | .str y => P y | _ => false).map (fun d => d) = (l.filter P).map .str := by
      rw [List.map_id', List.filter_map]
      rfl
    rw [e]
    exact hq
theorem okD_strs {s : List Ob} {l : List Str} (h : ∀ x ∈ l, PyData.strOk x = true) : okD (res s (lstS l)) = true := by
  show okD (lstS l) = true
  unfold okD
  rw [Bool.and_eq_true]
  refine ⟨by simp only [lstS, pyOk]; exact pyOks_strs h, ?_⟩
  have := depthAll_strs l
  simp only [lstS, toPy, toPys_strs, PyData.depth]
  exact decide_eq_true (by omega)
theorem inS {s : List Ob} {ps : List Str} {y : Str} : inB s (.str y) (.tup (ps.map .str)) = some (decide (y ∈ ps)) := in_strs rfl
theorem inL {s : List Ob} {ps : List Str} {y : Str} : inB s (.str y) (lstS ps) = some (decide (y ∈ ps)) := in_strs rfl
theorem sees_ok {st : List Ob} {ns : List Str} {d : D} {x : Str} (hw : Wf st) (hN : NearD ns d) (nd : ns.Nodup) (hx : x ∈ ns) {Q : D → List Ob → Prop}
    (q : ∀ l : List Str, l.length ≤ 61 → Q (lstS l) st) : wp (S_law_sees [.d d, .d (.str x)]) st Q := by
  unfold S_law_sees
  refine wp_frz0 ?_
  rw [wp_runF]
  unfold m_law_sees
  obtain ⟨l, hl, hl2, _⟩ := hN.get nd hx st
  have ad : dAdd (.lst [.str x]) (lstS l) = some (lstS (x :: l)) := by
    show (if [D.str x].length + (l.map D.str).length ≤ 1000000 then some (D.lst ([D.str x] ++ l.map D.str)) else none) = _
    rw [if_pos (by simp; omega)]
    rfl
  simp only [startE, List.map_cons, List.map_nil, List.length_cons, List.length_nil, List.replicate, List.cons_append, List.nil_append, wp_yRet, wp_xBin, wp_xLst, wp_xCons, wp_var, List.getElem?_cons_zero, List.getElem?_cons_succ, wp_xNil, wp_mGetD, hl, wp_lift2, ad]
  exact ⟨by decide, trivial, hw, _, frz_lo (by simp only [lstS, D.lo]; exact loL_strs (x :: l)), q (x :: l) (by simp; omega)⟩
theorem tied_ok {st : List Ob} {ns ps : List Str} {d : D} (hw : Wf st) (hN : NearD ns d) (nd : ns.Nodup) (hl : ns.length ≤ 6) (hok : ∀ x ∈ ns, PyData.strOk x = true) (hp : ps.Sublist ns) {Q : D → List Ob → Prop}
    (q : ∀ l : List Str, l.length ≤ 6 → (∀ x ∈ l, x ∈ ns) → Q (lstS l) st) : wp (S_law_tied_posts [.d d, .d (.tup (ps.map .str))]) st Q := by
  unfold S_law_tied_posts
  refine wp_frz0 ?_
  rw [wp_runF]
  unfold m_law_tied_posts
  have hpl := hp.length_le
  simp only [startE, List.map_cons, List.map_nil, List.length_cons, List.length_nil, List.replicate, List.cons_append, List.nil_append, wp_yRet, wp_xComp, wp_itemsT, wp_var, List.getElem?_cons_zero, List.getElem?_cons_succ]
  refine ⟨by rw [List.length_map]; omega, ?_⟩
  simp only [wipeE, List.set_cons_zero, List.set_cons_succ]
  have hex : ∀ y : Str, ∃ b : Bool, y ∈ ps → wp (asB (xBin mNe (xComp (itemsL (xBin mGetD (xVar 0) (xVar 2))) [3] (zName 3) (asB (xBin mIn (xVar 3) (xVar 1))) (xVar 3)) (xLst xNil)) [some (.d d), some (.d (.tup (ps.map .str))), some (.d (.str y)), none]) st fun b' s => s = st ∧ b' = b := fun y => by
    by_cases hy : y ∈ ps
    · obtain ⟨l, hl1, hl2, hl3⟩ := hN.get nd (hp.subset hy) st
      refine ⟨!PyData.eqv (toPy (res st (lstS (l.filter fun z => decide (z ∈ ps))))) (toPy (res st (.lst []))), fun _ => ?_⟩
      simp only [wp_asB, wp_xBin, wp_xComp, wp_itemsL, wp_mGetD, wp_var, List.getElem?_cons_zero, List.getElem?_cons_succ, hl1]
      refine ⟨by rw [List.length_map]; omega, ?_⟩
      simp only [wipeE, List.set_cons_zero, List.set_cons_succ]
      refine comp_strs (P := fun z => decide (z ∈ ps)) (by simp) (fun z hz => ?_) ?_
      · simp only [List.set_cons_zero, List.set_cons_succ, wp_asB, wp_xBin, wp_var, List.getElem?_cons_zero, List.getElem?_cons_succ, wp_mIn, inS, isB_bl, true_and]
      · simp only [wp_xLst, wp_xNil, wp_mNe, List.length_nil]
        exact ⟨by decide, ⟨okD_strs fun x hx => hok x (hl3 x ((List.mem_filter.mp hx).1)), rfl⟩, rfl, rfl⟩
    · exact ⟨true, fun h => absurd h hy⟩
  refine comp_strs (P := fun y => (hex y).choose) (by simp) (fun y hy => (hex y).choose_spec hy) ?_
  have hf := List.length_filter_le (fun y => (hex y).choose) ps
  exact ⟨rfl, hw, _, frz_lo (by simp only [D.lo]; exact loL_strs _), q _ (by omega) fun x hx => hp.subset ((List.mem_filter.mp hx).1)⟩
theorem set_same {ρ : Ev} {i : Nat} {x : Option A} (h : ρ[i]? = some x) : ρ.set i x = ρ := by
  apply List.ext_getElem?
  intro j
  by_cases hij : i = j
  · subst hij
    rw [List.getElem?_set_self (List.getElem?_eq_some_iff.mp h).1, h]
  · rw [List.getElem?_set_ne hij]
theorem if_fine {ρ : Ev} {s : List Ob} {k S : Str} {E : Ev → Mo D} {QO : Out → List Ob → Prop} (h1 : ρ[1]? = some (some (.d (.str k)))) (hk : PyData.strOk k = true) (hS : PyData.strOk S = true) (hE : wp (E ρ) s fun d s' => s' = s ∧ ∃ b, d = .bl b) (h7 : ∃ b, ρ[7]? = some (some (.d (.bl b))))
    (hq : ∀ b, QO (.nx (ρ.set 7 (some (.d (.bl b))))) s) : wp (yIf (asB (xBin mEq (xVar 1) (xC (.str S)))) (ySet 7 E) yNil ρ) s QO := by
  simp only [wp_yIf, wp_asB, wp_xBin, wp_var, h1, wp_c, wp_mEq]
  have o1 : ∀ x : Str, PyData.strOk x = true → okD (.str x) = true := fun x h => by
    unfold okD
    rw [Bool.and_eq_true]
    exact ⟨by simp only [pyOk]; exact h, by simp only [toPy, PyData.depth]; rfl⟩
  refine ⟨⟨o1 k hk, o1 S hS⟩, ?_⟩
  rw [isB_bl]
  split
  · rw [wp_ySet]
    refine wp_mono hE fun d s' ⟨e1, b, e2⟩ => ?_
    subst e1 e2
    exact hq b
  · rw [wp_yNil]
    obtain ⟨b, hb⟩ := h7
    have := hq b
    rwa [set_same hb] at this
theorem ill_ok {st : List Ob} {ns ps : List Str} {d : D} {k : Str} (hw : Wf st) (hN : NearD ns d) (nd : ns.Nodup) (hl : ns.length ≤ 6) (hk : PyData.strOk k = true) {Q : D → List Ob → Prop}
    (q : ∀ l : List Str, l.length ≤ 6 → (∀ x ∈ l, x ∈ ns) → Q (lstS l) st) : wp (S_law_ill_watched [.d d, .d (.str k), .d (.tup (ps.map .str))]) st Q := by
  unfold S_law_ill_watched
  refine wp_frz0 ?_
  rw [wp_runF]
  unfold m_law_ill_watched
  have hkl : dListD st [d] = some (lstS ns) := by
    obtain ⟨adj, rfl, _, _⟩ := hN.ex
    show some (D.lst ((keysOf ns).map kD)) = _
    simp [keysOf, kD, lstS]
  simp only [startE, List.map_cons, List.map_nil, List.length_cons, List.length_nil, List.replicate, List.cons_append, List.nil_append, wp_ySeq, wp_ySet, wp_xLst, wp_xNil, List.set_cons_zero, List.set_cons_succ, onNx_nx, wp_yFor, wp_itemsL, wp_xCall, wp_xCons, wp_var, List.getElem?_cons_zero, List.getElem?_cons_succ, wp_liftL, hkl]
  refine ⟨by decide, ?_⟩
  refine wp_forM (fun i ρ s => s = st ∧ ∃ (f : List Str) (x4 x5 x6 x7 x8 : Option A), ρ = [some (.d d), some (.d (.str k)), some (.d (.tup (ps.map .str))), some (.d (lstS f)), x4, x5, x6, x7, x8] ∧ f.length ≤ i ∧ ∀ x ∈ f, x ∈ ns) ?_ ?_ ?_
  · exact ⟨rfl, [], _, _, _, _, _, rfl, Nat.le_refl _, fun x hx => by cases hx⟩
  · rintro i hi ρ s ⟨rfl, f, x4, x5, x6, x7, x8, rfl, hf, hfm⟩
    have hin : i < ns.length := by simpa using hi
    have hit : (ns.map D.str)[i] = .str ns[i] := by simp
    have hm : ns[i] ∈ ns := List.getElem_mem hin
    rw [hit]
    simp only [wp_zName, List.set_cons_zero, List.set_cons_succ, wp_ySeq, wp_ySet, wp_xCall, wp_xCons, wp_xComp, wp_itemsL, wp_xFn, wp_var, List.getElem?_cons_zero, List.getElem?_cons_succ, wp_xNil, List.map_cons, List.map_nil, List.length_cons, List.length_nil]
    refine ⟨trivial, sees_ok hw hN nd hm fun l hll => ⟨by rw [List.length_map]; omega, ?_⟩⟩
    simp only [wipeE, List.set_cons_zero, List.set_cons_succ]
    have ln : ∀ (s : List Ob) (l : List Str), dLen s [.lst (l.map .str)] = some (.int l.length) := fun s l => by
      show some (D.int (l.map D.str).length) = _
      simp
    refine comp_strs (P := fun z => decide (z ∈ ps)) (by simp) (fun z hz => by simp only [List.set_cons_zero, List.set_cons_succ, wp_asB, wp_xBin, wp_var, List.getElem?_cons_zero, List.getElem?_cons_succ, wp_mIn, inS, isB_bl, true_and]) ?_
    obtain ⟨l2, hl1, hl2, hl3⟩ := hN.get nd hm s
    simp only [wp_liftL, ln, onNx_nx, wp_ySeq, wp_ySet, wp_xCall, wp_xCons, wp_xComp, wp_itemsL, wp_xBin, wp_mGetD, wp_var, List.getElem?_cons_zero, List.getElem?_cons_succ, hl1]
    refine ⟨by rw [List.length_map]; omega, ?_⟩
    simp only [wipeE, List.set_cons_zero, List.set_cons_succ]
    refine comp_strs (P := fun z => decide (z ∈ ps)) (by simp) (fun z hz => by simp only [List.set_cons_zero, List.set_cons_succ, wp_asB, wp_xBin, wp_var, List.getElem?_cons_zero, List.getElem?_cons_succ, wp_mIn, inS, isB_bl, true_and]) ?_
    simp only [wp_xNil, wp_liftL, ln, onNx_nx, List.set_cons_zero, List.set_cons_succ, wp_ySeq, wp_ySet, wp_xBin, wp_var, List.getElem?_cons_zero, List.getElem?_cons_succ, wp_c, wp_lift2, dIB_int]
    have eqI : ∀ (ρ : Ev) (j : Nat) (a b : Int) (s : List Ob), ρ[j]? = some (some (.d (.int a))) → wp (xBin mEq (xVar j) (xC (.int b)) ρ) s fun d s' => s' = s ∧ ∃ b, d = .bl b := fun ρ j a b s h => by
      simp only [wp_xBin, wp_var, h, wp_c, wp_mEq]
      exact ⟨⟨rfl, rfl⟩, trivial, _, rfl⟩
    have gtI : ∀ (ρ : Ev) (j : Nat) (a b : Int) (s : List Ob), ρ[j]? = some (some (.d (.int a))) → wp (xBin mGt (xVar j) (xC (.int b)) ρ) s fun d s' => s' = s ∧ ∃ b, d = .bl b := fun ρ j a b s h => by
      simp only [wp_xBin, wp_var, h, wp_c, wp_lift2, dIB_int]
      exact ⟨trivial, _, rfl⟩
    refine if_fine rfl hk (by decide +kernel) (gtI _ _ _ _ _ rfl) ⟨_, rfl⟩ fun b1 => ?_
    simp only [onNx_nx, List.set_cons_zero, List.set_cons_succ, wp_ySeq]
    refine if_fine rfl hk (by decide +kernel) (eqI _ _ _ _ _ rfl) ⟨_, rfl⟩ fun b2 => ?_
    simp only [onNx_nx, List.set_cons_zero, List.set_cons_succ, wp_ySeq]
    refine if_fine rfl hk (by decide +kernel) (gtI _ _ _ _ _ rfl) ⟨_, rfl⟩ fun b3 => ?_
    simp only [onNx_nx, List.set_cons_zero, List.set_cons_succ, wp_ySet, wp_xBin, wp_var, List.getElem?_cons_zero, List.getElem?_cons_succ, wp_xIf, wp_asB, isB_bl, wp_xLst, wp_xNil, wp_xCons, List.length_cons, List.length_nil]
    have ad : ∀ g : List Str, g.length ≤ 1 → dAdd (lstS f) (lstS g) = some (lstS (f ++ g)) := fun g hg => by
      show (if (f.map D.str).length + (g.map D.str).length ≤ 1000000 then some (D.lst (f.map D.str ++ g.map D.str)) else none) = _
      rw [if_pos (by simp; omega), ← List.map_append]
    cases b3 with
    | true =>
      rw [if_pos rfl]
      refine ⟨by decide, ?_⟩
      rw [show dAdd (lstS f) (D.lst []) = some (lstS (f ++ [])) from ad [] (by simp)]
      exact ⟨trivial, f ++ [], _, _, _, _, _, rfl, by simp; omega, by simpa using hfm⟩
    | false =>
      rw [if_neg (by decide)]
      refine ⟨by simp, ?_⟩
      rw [show dAdd (lstS f) (D.lst [.str ns[i]]) = some (lstS (f ++ [ns[i]])) from ad [ns[i]] (by simp)]
      refine ⟨trivial, f ++ [ns[i]], _, _, _, _, _, rfl, by simp; omega, fun x hx => ?_⟩
      rcases List.mem_append.mp hx with hx | hx
      · exact hfm x hx
      · rw [List.mem_singleton.mp hx]; exact hm
  · rintro ρ s ⟨rfl, f, x4, x5, x6, x7, x8, rfl, hf, hfm⟩
    rw [List.length_map] at hf
    simp only [onNx_nx, wp_yRet, wp_var, List.getElem?_cons_zero, List.getElem?_cons_succ]
    exact ⟨trivial, hw, _, frz_lo (by simp only [lstS, D.lo]; exact loL_strs f), q f (by omega) hfm⟩
end K85
set_option autoImplicit false
set_option maxRecDepth 100000
set_option maxHeartbeats 8000000
namespace K85
open PySem PySem.Spec L2 MM
abbrev obS (l : List Str) : Ob := .lst (l.map .str)
theorem pre0 {pre : List Ob} {x y : Ob} : (pre ++ [x, y])[pre.length]? = some x := by simp
theorem pre1 {pre : List Ob} {x y : Ob} : (pre ++ [x, y])[pre.length + 1]? = some y := by
  rw [List.getElem?_append_right (by omega)]
  simp
theorem set0 {pre : List Ob} {x y o : Ob} : (pre ++ [x, y]).set pre.length o = pre ++ [o, y] := by
  rw [List.set_append_right _ _ (Nat.le_refl _)]
  simp
theorem set1 {pre : List Ob} {x y o : Ob} : (pre ++ [x, y]).set (pre.length + 1) o = pre ++ [x, o] := by
  rw [List.set_append_right _ _ (by omega)]
  simp
/-- what is not in the row yet -/
def cnt (l row : List Str) : Nat := (l.filter fun y => decide (y ∉ row)).length
theorem cnt_add {l row : List Str} {y : Str} (hy : y ∈ l) (hr : y ∉ row) : cnt l (row ++ [y]) + 1 ≤ cnt l row := by
  unfold cnt
  have e : (l.filter fun z => decide (z ∉ row ++ [y])) = (l.filter fun z => decide (z ∉ row)).filter fun z => decide (z ≠ y) := by
    rw [List.filter_filter]
    apply List.filter_congr
    intro z _
    by_cases h1 : z ∈ row <;> by_cases h2 : z = y <;> simp [h1, h2]
  rw [e]
  have hm : y ∈ l.filter fun z => decide (z ∉ row) := List.mem_filter.mpr ⟨hy, decide_eq_true hr⟩
  exact List.length_filter_lt_length_iff_exists.mpr ⟨y, hm, by simp⟩
theorem cnt_one {l : List Str} {x : Str} (hx : x ∈ l) : 1 + cnt l [x] ≤ l.length := by
  have := cnt_add (row := []) hx (by simp)
  have h0 : cnt l [] ≤ l.length := List.length_filter_le _ _
  simp only [List.nil_append] at this
  omega
theorem ne_nil {s : List Ob} {x : D} {l : List Str} (hx : res s x = lstS l) (hok : ∀ y ∈ l, PyData.strOk y = true) {QB : Bool → List Ob → Prop} (h : QB (decide (l ≠ [])) s) : wp (mNe x (.lst [])) s (isB QB) := by
  rw [wp_mNe, hx]
  refine ⟨⟨okD_strs (s := s) hok, rfl⟩, ?_⟩
  have e : PyData.eqv (toPy (lstS l)) (toPy (res s (.lst []))) = decide (l = []) := by
    show PyData.eqv (.list (toPys (l.map D.str))) (.list []) = _
    rw [toPys_strs]
    cases l <;> simp [PyData.eqv, PyData.eqvAll]
  rw [e, isB_bl]
  have e2 : (!decide (l = [])) = decide (l ≠ []) := by by_cases h : l = [] <;> simp [h]
  rw [e2]
  exact h
theorem inner_ok {pre : List Ob} {ns l : List Str} {d : D} {x1 x3 x6 x7 : Option A} {l0 : Str} (hN : NearD ns d) (nd : ns.Nodup) (hok : ∀ x ∈ ns, PyData.strOk x = true) (hl : ∀ x ∈ l, x ∈ ns) (hl6 : l.length ≤ 6) (h0 : l0 ∈ l) {QO : Out → List Ob → Prop}
    (q : ∀ (row edge : List Str) (x6 : Option A), 1 ≤ row.length → row.length + cnt l row ≤ l.length → (∀ x ∈ row, x ∈ ns) → QO (.nx [some (.d d), x1, some (.d (lstS l)), x3, some (.d (.loc pre.length)), some (.d (.loc (pre.length + 1))), x6, x7]) (pre ++ [obS row, obS edge])) :
    wp (whileM (asB (xBin mNe (xVar 5) (xLst xNil))) (yFor (itemsL (xBin mGetD (xVar 0) (xMt "list" mPop0 (xVar 5) xNil))) (zName 6) (yIf (xAndB (asB (xBin mIn (xVar 6) (xVar 2))) (asB (xBin mNotIn (xVar 6) (xVar 4)))) (ySeq (yDrop (xMt "list" mAppend (xVar 4) (xCons (xVar 6) xNil)))
      (yDrop (xMt "list" mAppend (xVar 5) (xCons (xVar 6) xNil)))) yNil)) 1000 [some (.d d), x1, some (.d (lstS l)), x3, some (.d (.loc pre.length)), some (.d (.loc (pre.length + 1))), x6, x7]) (pre ++ [obS [l0], obS [l0]]) QO := by
  have resL : ∀ (row edge : List Str), res (pre ++ [obS row, obS edge]) (.loc (pre.length + 1)) = lstS edge := fun row edge => by simp only [res, pre1]
  refine wp_whileM (fun k ρ s => ∃ (row edge : List Str) (x6 : Option A), ρ = [some (.d d), x1, some (.d (lstS l)), x3, some (.d (.loc pre.length)), some (.d (.loc (pre.length + 1))), x6, x7] ∧ s = pre ++ [obS row, obS edge] ∧ 1 ≤ row.length ∧ row.length + cnt l row ≤ l.length ∧ (∀ x ∈ row, x ∈ ns) ∧ (∀ x ∈ edge, x ∈ ns) ∧ 2 * cnt l row + edge.length ≤ k ∧ k ≤ 20) ?_ 1000 20 _ _ (by decide) ?_
  · rintro k ρ s ⟨row, edge, x6, rfl, rfl, hr1, hrc, hrn, hen, hk, hk20⟩
    simp only [wp_asB, wp_xBin, wp_var, List.getElem?_cons_zero, List.getElem?_cons_succ, wp_xLst, wp_xNil, List.length_nil]
    refine ⟨by decide, ne_nil (resL row edge) (fun y hy => hok y (hen y hy)) ?_⟩
    by_cases he : edge = []
    · rw [if_neg (by simp [he])]
      exact q row edge x6 hr1 hrc hrn
    · rw [if_pos (by simp [he])]
      have hlen : 0 < edge.length := List.length_pos_iff.mpr he
      have hlast : edge[edge.length - 1] ∈ ns := hen _ (List.getElem_mem _)
      obtain ⟨l2, e1, e2, e3⟩ := hN.get nd hlast (pre ++ [obS row, obS edge.dropLast])
      simp only [wp_yFor, wp_itemsL, wp_xBin, wp_var, List.getElem?_cons_zero, List.getElem?_cons_succ, wp_xMt, wp_xNil]
      refine ⟨tyL pre1, wp_pop0 (y := .str edge[edge.length - 1]) pre1 (by rw [List.length_map, List.getElem?_map, List.getElem?_eq_getElem (by omega)]; rfl) ?_⟩
      rw [set1, show (edge.map D.str).dropLast = edge.dropLast.map D.str by rw [List.map_dropLast]]
      rw [wp_mGetD, e1]
      simp only []
      refine wp_forM (fun i ρ s => ∃ (row2 edge2 : List Str) (x6 : Option A), ρ = [some (.d d), x1, some (.d (lstS l)), x3, some (.d (.loc pre.length)), some (.d (.loc (pre.length + 1))), x6, x7] ∧ s = pre ++ [obS row2, obS edge2] ∧ 1 ≤ row2.length ∧ row2.length + cnt l row2 ≤ l.length ∧ (∀ x ∈ row2, x ∈ ns) ∧ (∀ x ∈ edge2, x ∈ ns) ∧ 2 * cnt l row2 + edge2.length + 1 ≤ k) ?_ ?_ ?_
      · exact ⟨row, edge.dropLast, x6, rfl, rfl, hr1, hrc, hrn, fun x hx => hen x (List.dropLast_subset _ hx), by rw [List.length_dropLast]; omega⟩
      · rintro i hi ρ s ⟨row2, edge2, y6, rfl, rfl, h1, h2, h3, h4, h5⟩
        have hi2 : i < l2.length := by simpa using hi
        have hit : (l2.map D.str)[i] = .str l2[i] := by simp
        rw [hit]
        have hsq : seqItems (pre ++ [obS row2, obS edge2]) (.loc pre.length) = some (row2.map .str) := by simp only [seqItems, res, pre0]
        simp only [wp_zName, List.set_cons_zero, List.set_cons_succ, wp_yIf, wp_xAndB, wp_asB, wp_xBin, wp_var, List.getElem?_cons_zero, List.getElem?_cons_succ, wp_mIn, inL, isB_bl, wp_mNotIn, in_strs hsq]
        by_cases hyl : l2[i] ∈ l
        · rw [if_pos (decide_eq_true hyl)]
          by_cases hyr : l2[i] ∈ row2
          · rw [if_neg (by simp [hyr])]
            simp only [wp_yNil]
            exact ⟨row2, edge2, _, rfl, rfl, h1, h2, h3, h4, h5⟩
          · rw [if_pos (by simp [hyr])]
            have hc := cnt_add hyl hyr
            simp only [wp_ySeq, wp_yDrop, wp_xMt, wp_var, List.getElem?_cons_zero, List.getElem?_cons_succ, wp_xCons, wp_xNil]
            refine ⟨tyL pre0, wp_append pre0 (by rw [List.length_map]; omega) ?_⟩
            rw [set0, show row2.map D.str ++ [D.str l2[i]] = (row2 ++ [l2[i]]).map D.str by simp]
            simp only [onNx_nx, wp_yDrop, wp_xMt, wp_var, List.getElem?_cons_zero, List.getElem?_cons_succ, wp_xCons, wp_xNil]
            have hcn : cnt l row2 ≤ 6 := Nat.le_trans (List.length_filter_le _ _) hl6
            refine ⟨tyL pre1, wp_append pre1 (by rw [List.length_map]; omega) ?_⟩
            rw [set1, show edge2.map D.str ++ [D.str l2[i]] = (edge2 ++ [l2[i]]).map D.str by simp]
            refine ⟨row2 ++ [l2[i]], edge2 ++ [l2[i]], _, rfl, rfl, by simp, by simp; omega, fun x hx => ?_, fun x hx => ?_, by simp; omega⟩
            · rcases List.mem_append.mp hx with hx | hx
              · exact h3 x hx
              · rw [List.mem_singleton.mp hx]; exact hl _ hyl
            · rcases List.mem_append.mp hx with hx | hx
              · exact h4 x hx
              · rw [List.mem_singleton.mp hx]; exact hl _ hyl
        · rw [if_neg (by simp [hyl]), if_neg (by decide)]
          simp only [wp_yNil]
          exact ⟨row2, edge2, _, rfl, rfl, h1, h2, h3, h4, h5⟩
      · rintro ρ s ⟨row2, edge2, y6, rfl, rfl, h1, h2, h3, h4, h5⟩
        exact ⟨k - 1, by omega, row2, edge2, _, rfl, rfl, h1, h2, h3, h4, by omega, by omega⟩
  · have := cnt_one h0
    exact ⟨[l0], [l0], _, rfl, rfl, by simp, by simpa using this, fun x hx => by rw [List.mem_singleton.mp hx]; exact hl _ h0, fun x hx => by rw [List.mem_singleton.mp hx]; exact hl _ h0, by simp; omega, Nat.le_refl _⟩
theorem parts_ok {st : List Ob} {ns ps : List Str} {d : D} (hw : Wf st) (hN : NearD ns d) (nd : ns.Nodup) (hok : ∀ x ∈ ns, PyData.strOk x = true) (hps : ∀ x ∈ ps, x ∈ ns) (hl6 : ps.length ≤ 6) {Q : D → List Ob → Prop}
    (q : ∀ rows : List D, rows.length ≤ 6 → Q (.lst rows) st) : wp (S_law_parts_of [.d d, .d (.tup (ps.map .str))]) st Q := by
  unfold S_law_parts_of
  refine wp_frzS ?_
  rw [wp_runF]
  unfold m_law_parts_of
  simp only [startE, List.map_cons, List.map_nil, List.length_cons, List.length_nil, List.replicate, List.cons_append, List.nil_append, wp_ySeq, wp_yPar, wp_xCons, wp_xCall, wp_var, List.getElem?_cons_zero, List.getElem?_cons_succ, wp_xNil, wp_liftL, wp_xLstM]
  have hdl : dList st [.tup (ps.map .str)] = some (lstS ps) := rfl
  rw [hdl]
  refine ⟨by decide, ?_⟩
  simp only [List.set_cons_zero, List.set_cons_succ, onNx_nx, wp_ySeq, wp_yWhile]
  refine wp_whileM (fun k ρ s => ∃ (l : List Str) (rl : List Nat) (E : List Ob) (x4 x5 x6 x7 : Option A), ρ = [some (.d d), some (.d (.tup (ps.map .str))), some (.d (lstS l)), some (.d (.loc st.length)), x4, x5, x6, x7] ∧ s = st ++ .lst (rl.map .loc) :: E ∧ l.length ≤ k ∧ rl.length + l.length ≤ 6 ∧ (∀ x ∈ l, x ∈ ns) ∧
    ∀ b ∈ rl, st.length < b ∧ ∃ row : List Str, s[b]? = some (obS row) ∧ row.length ≤ 6) ?_ 1000 6 _ _ (by decide) ?_
  · rintro k ρ s ⟨l, rl, E, x4, x5, x6, x7, rfl, rfl, hk, hr6, hln, hrl⟩
    simp only [wp_asB, wp_xBin, wp_var, List.getElem?_cons_zero, List.getElem?_cons_succ, wp_xLst, wp_xNil, List.length_nil]
    refine ⟨by decide, ne_nil rfl (fun y hy => hok y (hln y hy)) ?_⟩
    cases l with
    | nil =>
      rw [if_neg (by simp)]
      simp only [onNx_nx, wp_yRet, wp_var, List.getElem?_cons_zero, List.getElem?_cons_succ]
      have hR : (st ++ .lst (rl.map D.loc) :: E)[st.length]? = some (.lst (rl.map .loc)) := by simp
      have gen : ∀ (m : List Nat) (f : Nat), 50 + m.length ≤ f → (∀ b ∈ m, st.length < b ∧ ∃ row : List Str, (st ++ .lst (rl.map D.loc) :: E)[b]? = some (obS row) ∧ row.length ≤ 6) → ∃ rows : List D, frzL (st ++ .lst (rl.map D.loc) :: E) st.length f (m.map .loc) = some rows ∧ rows.length = m.length := by
        intro m
        induction m with
        | nil => intro f hf _; obtain ⟨f', rfl⟩ : ∃ f', f = f' + 1 := ⟨f - 1, by omega⟩; exact ⟨[], rfl, rfl⟩
        | cons b m ih =>
          intro f hf hb
          simp only [List.length_cons] at hf
          obtain ⟨f', rfl⟩ : ∃ f', f = f' + 3 := ⟨f - 3, by omega⟩
          obtain ⟨hb1, row, hb2, hb3⟩ := hb b (by simp)
          obtain ⟨rows, e1, e2⟩ := ih (f' + 2) (by omega) fun c hc => hb c (by simp [hc])
          have h1 : frzD (st ++ .lst (rl.map D.loc) :: E) st.length (f' + 2) (.loc b) = some (lstS row) := frz_locL hb2 (by omega) (by rw [List.length_map]; omega) (loL_strs row)
          refine ⟨lstS row :: rows, ?_, by simp [e2]⟩
          show (frzD (st ++ .lst (rl.map D.loc) :: E) st.length (f' + 2) (.loc b)).bind _ = _
          rw [h1, Option.bind_some, e1]
          rfl
      obtain ⟨rows, e1, e2⟩ := gen rl 99 (by simp at hr6; omega) hrl
      refine ⟨st, _, rfl, rfl, hw, .lst rows, ?_, q rows (by rw [e2]; simpa using hr6)⟩
      simp only [frzD]
      rw [if_neg (by omega), hR]
      simp only []
      rw [e1]
      rfl
    | cons l0 l =>
      rw [if_pos (by simp)]
      have at0 : ∀ s : List Ob, dIx s (lstS (l0 :: l)) (.int 0) = some (.str l0) := fun s => by
        rw [dIx_lst, show (0 : Int) = ((0 : Nat) : Int) from rfl, at_nat]
        rfl
      have hl0 : l0 ∈ l0 :: l := by simp
      simp only [wp_ySeq, wp_yAsg, wp_xTup, wp_xCons, wp_xLstM, wp_xBin, wp_var, List.getElem?_cons_zero, List.getElem?_cons_succ, wp_c, wp_mIx, at0, wp_xNil, List.length_cons, List.length_nil, wp_zTup, wp_zCons, wp_zName, List.set_cons_zero, List.set_cons_succ, wp_zNil]
      refine ⟨by decide, by decide, by decide, ?_⟩
      have hpre : (st ++ .lst (rl.map D.loc) :: E) ++ [Ob.lst [D.str l0]] ++ [Ob.lst [D.str l0]] = (st ++ .lst (rl.map D.loc) :: E) ++ [obS [l0], obS [l0]] := by simp
      have hlen1 : ((st ++ .lst (rl.map D.loc) :: E) ++ [Ob.lst [D.str l0]]).length = (st ++ .lst (rl.map D.loc) :: E).length + 1 := by simp; omega
      rw [hpre, hlen1]
      simp only [onNx_nx, wp_ySeq, wp_yWhile]
      refine inner_ok hN nd hok hln (by simp at hr6 ⊢; omega) hl0 fun row edge x6 h1 h2 h3 => ?_
      have hR : ((st ++ .lst (rl.map D.loc) :: E) ++ [obS row, obS edge])[st.length]? = some (.lst (rl.map .loc)) := by
        rw [List.append_assoc, List.getElem?_append_right (Nat.le_refl _), Nat.sub_self]
        rfl
      simp only [onNx_nx, wp_ySeq, wp_yDrop, wp_xMt, wp_var, List.getElem?_cons_zero, List.getElem?_cons_succ, wp_xCons, wp_xNil]
      refine ⟨tyL hR, wp_append hR (by rw [List.length_map]; omega) ?_⟩
      have hset : ((st ++ .lst (rl.map D.loc) :: E) ++ [obS row, obS edge]).set st.length (.lst (rl.map D.loc ++ [D.loc (st ++ .lst (rl.map D.loc) :: E).length])) = st ++ .lst ((rl ++ [(st ++ Ob.lst (rl.map D.loc) :: E).length]).map D.loc) :: (E ++ [obS row, obS edge]) := by
        rw [List.append_assoc, List.set_append_right _ _ (Nat.le_refl _), Nat.sub_self]
        simp
      rw [hset]
      have hEl : (st ++ Ob.lst (rl.map D.loc) :: E).length = st.length + 1 + E.length := by simp; omega
      generalize hS : st ++ Ob.lst ((rl ++ [(st ++ Ob.lst (rl.map D.loc) :: E).length]).map D.loc) :: (E ++ [obS row, obS edge]) = S
      have hrow : S[(st ++ Ob.lst (rl.map D.loc) :: E).length]? = some (obS row) := by
        rw [← hS, hEl, List.getElem?_append_right (by omega), show st.length + 1 + E.length - st.length = E.length + 1 by omega, List.getElem?_cons_succ, List.getElem?_append_right (Nat.le_refl _), Nat.sub_self]
        rfl
      have hsq : seqItems S (.loc (st ++ Ob.lst (rl.map D.loc) :: E).length) = some (row.map .str) := by simp only [seqItems, res, hrow]
      simp only [onNx_nx, wp_ySet, wp_xComp, wp_itemsL, wp_var, List.getElem?_cons_zero, List.getElem?_cons_succ]
      have hl7 : (l0 :: l).length ≤ 6 := by simp at hr6 ⊢; omega
      refine ⟨by rw [List.length_map]; omega, ?_⟩
      simp only [wipeE, List.set_cons_zero, List.set_cons_succ]
      refine comp_strs (P := fun z => decide (z ∉ row)) (by simp) (fun z hz => ?_) ?_
      · have e : (!decide (z ∈ row)) = decide (z ∉ row) := by by_cases h : z ∈ row <;> simp [h]
        simp only [List.set_cons_zero, List.set_cons_succ, wp_asB, wp_xBin, wp_var, List.getElem?_cons_zero, List.getElem?_cons_succ, wp_mNotIn, in_strs hsq, isB_bl, e, true_and]
      · have hc : ((l0 :: l).filter fun z => decide (z ∉ row)).length + 1 ≤ (l0 :: l).length := by
          have : cnt (l0 :: l) row = ((l0 :: l).filter fun z => decide (z ∉ row)).length := rfl
          omega
        refine ⟨k - 1, ?_, (l0 :: l).filter fun z => decide (z ∉ row), rl ++ [(st ++ Ob.lst (rl.map D.loc) :: E).length], E ++ [obS row, obS edge], _, _, _, _, rfl, hS.symm, by omega, by simp only [List.length_append, List.length_cons, List.length_nil] at hr6 hc ⊢; omega, fun x hx => hln x (List.mem_filter.mp hx).1, fun b hb => ?_⟩
        · simp only [List.length_cons] at hk; omega
        · rcases List.mem_append.mp hb with hb | hb
          · obtain ⟨hb1, row2, hb2, hb3⟩ := hrl b hb
            refine ⟨hb1, row2, ?_, hb3⟩
            have hbl := (List.getElem?_eq_some_iff.mp hb2).1
            rw [← hS]
            rw [List.getElem?_append_right (by omega)] at hb2 ⊢
            obtain ⟨c, hc2⟩ : ∃ c, b - st.length = c + 1 := ⟨b - st.length - 1, by omega⟩
            rw [hc2, List.getElem?_cons_succ] at hb2 ⊢
            rw [List.getElem?_append_left (List.getElem?_eq_some_iff.mp hb2).1]
            exact hb2
          · rw [List.mem_singleton.mp hb]
            exact ⟨by omega, row, hrow, by omega⟩
  · exact ⟨ps, [], [], _, _, _, _, rfl, rfl, hl6, by simpa using hl6, hps, fun b hb => by cases hb⟩
end K85
set_option autoImplicit false
set_option maxRecDepth 100000
set_option maxHeartbeats 8000000
namespace K85
open PySem PySem.Spec L2 MM
theorem okD_str {s : List Ob} {x : Str} (h : PyData.strOk x = true) : okD (res s (.str x)) = true := by
  show okD (.str x) = true
  unfold okD
  rw [Bool.and_eq_true]
  exact ⟨by simp only [pyOk]; exact h, by simp only [toPy, PyData.depth]; rfl⟩
theorem kind_ok {st : List Ob} {ns ps : List Str} {d : D} {k : Str} (hw : Wf st) (hN : NearD ns d) (nd : ns.Nodup) (hl : ns.length ≤ 6) (hok : ∀ x ∈ ns, PyData.strOk x = true) (hk : PyData.strOk k = true) (hp : ps.Sublist ns) {Q : D → List Ob → Prop}
    (q : ∀ b : Bool, Q (.bl b) st) : wp (S_law_is_of_kind [.d d, .d (.str k), .d (.tup (ps.map .str))]) st Q := by
  unfold S_law_is_of_kind
  refine wp_frz0 ?_
  rw [wp_runF]
  unfold m_law_is_of_kind
  have fin : ∀ b : Bool, st.length = st.length ∧ Wf st ∧ ∃ e, frzD st st.length 100 (.bl b) = some e ∧ Q e st := fun b => ⟨rfl, hw, _, frz_lo rfl, q b⟩
  have fin2 : ∀ b : Bool, True ∧ Wf st ∧ ∃ e, frzD st st.length 100 (.bl b) = some e ∧ Q e st := fun b => ⟨trivial, (fin b).2⟩
  have hpl := hp.length_le
  simp only [startE, List.map_cons, List.map_nil, List.length_cons, List.length_nil, List.replicate, List.cons_append, List.nil_append, wp_ySeq, wp_yIf, wp_asB, wp_xBin, wp_xFn, wp_xCons, wp_var, List.getElem?_cons_zero, List.getElem?_cons_succ, wp_xNil, wp_xLst]
  refine ⟨trivial, ill_ok hw hN nd hl hk fun l hll hlm => ⟨by decide, ne_nil rfl (fun y hy => hok y (hlm y hy)) ?_⟩⟩
  split
  · simp only [wp_yRet, wp_c, onNx_rt]
    first | exact fin false | exact fin2 false
  · simp only [wp_yNil, onNx_nx, wp_ySeq, wp_yIf, wp_asB, wp_xBin, wp_var, List.getElem?_cons_zero, List.getElem?_cons_succ, wp_c, wp_mEq]
    refine ⟨⟨okD_str hk, okD_str (by decide +kernel)⟩, ?_⟩
    rw [isB_bl]
    split
    · simp only [wp_yRet, wp_xBin, wp_xFn, wp_xCons, wp_var, List.getElem?_cons_zero, List.getElem?_cons_succ, wp_xNil, wp_xLst, List.map_cons, List.map_nil, List.length_cons, List.length_nil, onNx_rt]
      refine ⟨trivial, tied_ok hw hN nd hl hok hp fun l2 _ hlm2 => ⟨by decide, ?_⟩⟩
      rw [wp_mEq]
      exact ⟨⟨okD_strs fun y hy => hok y (hlm2 y hy), rfl⟩, by first | exact fin _ | exact fin2 _⟩
    · simp only [wp_yNil, onNx_nx, wp_yRet, wp_xOr, wp_xBin, wp_var, List.getElem?_cons_zero, List.getElem?_cons_succ, wp_c, wp_mNe]
      refine ⟨⟨okD_str hk, okD_str (by decide +kernel)⟩, ?_⟩
      rw [isB_bl]
      split
      · first | exact fin true | exact fin2 true
      · simp only [wp_xCall, wp_xCons, wp_xFn, wp_var, List.getElem?_cons_zero, List.getElem?_cons_succ, wp_xNil, List.map_cons, List.map_nil, List.length_cons, List.length_nil]
        refine ⟨trivial, parts_ok hw hN nd hok (fun x hx => hp.subset hx) (by omega) fun rows hrl => ?_⟩
        have ln : dLen st [.lst rows] = some (.int rows.length) := rfl
        simp only [wp_liftL, ln, wp_c, wp_mEq]
        first | exact ⟨⟨rfl, rfl⟩, fin _⟩ | exact ⟨⟨rfl, rfl⟩, fin2 _⟩
theorem of_kind_ok {st : List Ob} {ns : List Str} {ts : List (Str × Str)} {k : Str} (hw : Wf st) (hN : Names ns) (hT : Ties ns ts) (hl : ns.length ≤ 6) (hk : PyData.strOk k = true) {Q : D → List Ob → Prop}
    (q : ∀ rows : List (List Str), rows.length ≤ 64 → (∀ r ∈ rows, r.Sublist ns) → Q (.lst (rows.map rowD)) st) : wp (S_law_of_kind [.d (.tup [.tup (ns.map .str), .tup (ts.map tieD)]), .d (.str k)]) st Q := by
  unfold S_law_of_kind
  refine wp_frz0 ?_
  rw [wp_runF]
  unfold m_law_of_kind
  have nd := names_nd hN
  have hok : ∀ x ∈ ns, PyData.strOk x = true := fun x hx => (hN.g x hx).ok
  have at0 : ∀ (s : List Ob) (a b : D), dIx s (.tup [a, b]) (.int 0) = some a := fun s a b => rfl
  simp only [startE, List.map_cons, List.map_nil, List.length_cons, List.length_nil, List.replicate, List.cons_append, List.nil_append, wp_ySeq, wp_ySet, wp_xFn, wp_xCons, wp_var, List.getElem?_cons_zero, List.getElem?_cons_succ, wp_xNil]
  refine ⟨trivial, near_ok hw hl nd hT fun d hN2 => ?_⟩
  simp only [List.set_cons_zero, List.set_cons_succ, onNx_nx, wp_yRet, wp_xComp, wp_itemsL, wp_xFn, wp_xCons, wp_xBin, wp_mIx, wp_var, wp_c, List.getElem?_cons_zero, List.getElem?_cons_succ, at0, wp_xNil, List.map_cons, List.map_nil, List.length_cons, List.length_nil]
  refine ⟨trivial, all_sets_ok hw hl hok fun rows hrl hr => ⟨by rw [List.length_map]; omega, ?_⟩⟩
  simp only [wipeE, List.set_cons_zero, List.set_cons_succ]
  have hex : ∀ r : List Str, ∃ b : Bool, r ∈ rows → wp (asB (xFn 3 S_law_is_of_kind (xCons (xVar 2) (xCons (xVar 1) (xCons (xVar 3) xNil)))) [some (.d (.tup [.tup (ns.map .str), .tup (ts.map tieD)])), some (.d (.str k)), some (.d d), some (.d (rowD r))]) st fun b' s => s = st ∧ b' = b := fun r => by
    by_cases hm : r ∈ rows
    · have h1 : wp (asB (xFn 3 S_law_is_of_kind (xCons (xVar 2) (xCons (xVar 1) (xCons (xVar 3) xNil)))) [some (.d (.tup [.tup (ns.map .str), .tup (ts.map tieD)])), some (.d (.str k)), some (.d d), some (.d (rowD r))]) st fun b' s => s = st := by
        simp only [wp_asB, wp_xFn, wp_xCons, wp_var, List.getElem?_cons_zero, List.getElem?_cons_succ, wp_xNil, List.map_cons, List.map_nil, List.length_cons, List.length_nil]
        exact ⟨trivial, kind_ok hw hN2 nd hl hok hk (hr r hm) fun b => rfl⟩
      obtain ⟨b, s, e1, e2⟩ := h1
      exact ⟨b, fun _ => ⟨b, s, e1, e2, rfl⟩⟩
    · exact ⟨true, fun h => absurd h hm⟩
  refine wp_compP (p := fun x => match x with | .tup ds => (match ds.mapM asStr with | some r => (hex r).choose | none => false) | _ => false) (f := fun x => x) (fun x hx => ?_) ?_
  · obtain ⟨r, hrm, rfl⟩ := List.mem_map.mp hx
    have hmm : (r.map D.str).mapM asStr = some r := by
      clear hrm hx
      induction r with
      | nil => rfl
      | cons y r ih => simp [List.mapM_cons, asStr, ih]
    simp only [wp_zName, List.set_cons_zero, List.set_cons_succ, true_and, rowD, hmm]
    exact wp_mono ((hex r).choose_spec hrm) fun b s ⟨e1, e2⟩ => ⟨e1, e2, fun _ => by
      rw [wp_var]
      exact ⟨rfl, rfl⟩⟩
  · have hs : ∃ rows2 : List (List Str), (((rows.map rowD).filter fun x => match x with | .tup ds => (match ds.mapM asStr with | some r => (hex r).choose | none => false) | _ => false).map fun x => x) = rows2.map rowD ∧ rows2.length ≤ rows.length ∧ ∀ r ∈ rows2, r ∈ rows := by
      rw [List.map_id', List.filter_map]
      exact ⟨_, rfl, List.length_filter_le _ _, fun r hr => (List.mem_filter.mp hr).1⟩
    obtain ⟨rows2, e, h2, h3⟩ := hs
    rw [e]
    exact ⟨rfl, hw, _, frz_lo (by simp only [D.lo]; exact loL_rows rows2), q rows2 (by omega) fun r hrm => hr r (h3 r hrm)⟩
/-! ### a case -/
structure Cs where
  ns : List Str
  ts : List (Str × Str)
  ps : List Str
  k : Str
  a : Int
  x : Str
  b : Int
abbrev webD (c : Cs) : D := .tup [.tup (c.ns.map .str), .tup (c.ts.map tieD)]
abbrev csD (c : Cs) : D := .tup [webD c, .tup (c.ps.map .str), .str c.k, .int c.a, .str c.x, .int c.b]
structure Cs.Ok (c : Cs) : Prop where
  n1 : 1 ≤ c.ns.length
  n6 : c.ns.length ≤ 6
  names : Names c.ns
  ties : Ties c.ns c.ts
  ps : c.ps.Sublist c.ns
  k : c.k ∈ KS
  a0 : 0 ≤ c.a
  a9 : c.a ≤ 9
  x : c.x ∈ c.ns
  b0 : 0 ≤ c.b
  b9 : c.b ≤ 9
theorem ks_ok : ∀ k ∈ KS, PyData.strOk k = true := by decide +kernel
theorem loL_case {n : Nat} (c : Cs) : D.loL n [webD c, .tup (c.ps.map .str), .str c.k, .int c.a, .str c.x, .int c.b] = true := by
  simp only [D.loL, D.lo, loL_strs, loL_prs, Bool.true_and, Bool.and_true]
theorem case_ok {st : List Ob} {n m : Nat} (hw : Wf st) (h : WAt st n) (h1 : 1 ≤ m) (h2 : m ≤ 6) {Q : D → List Ob → Prop}
    (q : ∀ (c : Cs) (s : List Ob), c.Ok → c.a ≤ 2 → c.b ≤ 6 → c.ns.length = m → Go n st s → s.length = st.length → Q (csD c) s) : wp (S_law_case [.d (.loc n), .d (.int m)]) st Q := by
  unfold S_law_case
  refine wp_frzW h hw ?_
  rw [wp_runF]
  unfold m_law_case
  have at0 : ∀ (s : List Ob) (a b : D), dIx s (.tup [a, b]) (.int 0) = some a := fun s a b => rfl
  simp only [startE, List.map_cons, List.map_nil, List.length_cons, List.length_nil, List.replicate, List.cons_append, List.nil_append, wp_ySeq, wp_yPar, wp_xFn, wp_xCons, wp_var, List.getElem?_cons_zero, List.getElem?_cons_succ, wp_xNil]
  refine ⟨trivial, web_ok hw h h1 h2 fun ns ts s1 hnl hN hT g1 hs1 => ⟨trivial, kinds_ok g1.wf ⟨trivial, of_ok (ds := KS.map .str) g1.wf g1.wat (by decide) (by decide) (loL_strs KS) (fun d s2 hd g2 hs2 => ?_) (.inl rfl)⟩⟩⟩
  obtain ⟨k, hk, rfl⟩ := List.mem_map.mp hd
  have g12 := g1.trans g2
  simp only [List.set_cons_zero, List.set_cons_succ, onNx_nx, wp_ySeq, wp_yPar, wp_xFn, wp_xCons, wp_xBin, wp_mIx, wp_var, wp_c, List.getElem?_cons_zero, List.getElem?_cons_succ, at0, wp_xNil, List.map_cons, List.map_nil, List.length_cons, List.length_nil]
  refine ⟨trivial, some_ok g12.wf g12.wat (by omega) fun ps s3 hps g3 hs3 => ⟨trivial, of_kind_ok (g12.trans g3).wf hN hT (by omega) (ks_ok k hk) fun rows hrl hr => ?_⟩⟩
  have g13 := g12.trans g3
  have fin : ∀ (ps : List Str) (x5 : Option A) (s : List Ob), ps.Sublist ns → Go n st s → s.length = st.length →
      wp (yRet (xTup (xCons (xVar 2) (xCons (xVar 4) (xCons (xVar 3) (xCons (xFn 2 S_law_draw (xCons (xVar 0) (xCons (xC (.int 3)) xNil))) (xCons (xFn 2 S_law_of (xCons (xVar 0) (xCons (xBin mIx (xVar 2) (xC (.int 0))) xNil))) (xCons (xFn 2 S_law_draw (xCons (xVar 0) (xCons (xBin mAdd (xVar 1) (xC (.int 1))) xNil))) xNil)))))))
        [some (.d (.loc n)), some (.d (.int m)), some (.d (.tup [.tup (ns.map .str), .tup (ts.map tieD)])), some (.d (.str k)), some (.d (.tup (ps.map .str))), x5]) s
        fun o s => match o with
          | .rt d => Go n st s ∧ ∃ e, frzD s st.length 100 d = some e ∧ ∀ s', Go n st s' → s'.length = st.length → Q e s'
          | .nx _ => Go n st s ∧ ∃ e, frzD s st.length 100 .non = some e ∧ ∀ s', Go n st s' → s'.length = st.length → Q e s'
          | _ => False := fun ps x5 s hps g hs => by
    simp only [wp_yRet, wp_xTup, wp_xCons, wp_xFn, wp_xBin, wp_mIx, wp_var, wp_c, List.getElem?_cons_zero, List.getElem?_cons_succ, at0, wp_xNil, List.map_cons, List.map_nil, List.length_cons, List.length_nil, wp_lift2, dAdd_int]
    refine ⟨trivial, draw_ok g.wf g.wat (by decide) (by decide) fun a s4 ha1 ha2 g4 hs4 => ⟨trivial, of_ok (ds := ns.map .str) g4.wf g4.wat (by rw [List.length_map]; omega) (by rw [List.length_map]; omega) (loL_strs ns) (fun d s5 hd g5 hs5 => ?_) (.inl rfl)⟩⟩
    obtain ⟨x, hx, rfl⟩ := List.mem_map.mp hd
    refine ⟨trivial, draw_ok g5.wf g5.wat (by omega) (by omega) fun b s6 hb1 hb2 g6 hs6 => ⟨by decide, ((g.trans g4).trans g5).trans g6, _, frz_lo ?_, fun s' g' hs' => q ⟨ns, ts, ps, k, a, x, b⟩ s' ⟨by show 1 ≤ ns.length; omega, by show ns.length ≤ 6; omega, hN, hT, hps, hk, ha1, by show a ≤ 9; omega, hx, hb1, by show b ≤ 9; omega⟩ (by show a ≤ 2; omega) (by show b ≤ 6; omega) hnl g' hs'⟩⟩
    simp only [D.lo]
    exact loL_case ⟨ns, ts, ps, k, a, x, b⟩
  simp only [List.set_cons_zero, List.set_cons_succ, onNx_nx, wp_ySeq, wp_yIf, wp_xAndB, wp_asB, wp_xBin, wp_xFn, wp_xCons, wp_var, wp_c, List.getElem?_cons_zero, List.getElem?_cons_succ, wp_xNil, List.map_cons, List.map_nil, List.length_cons, List.length_nil]
  refine ⟨trivial, draw_ok g13.wf g13.wat (by decide) (by decide) fun r s4 _ _ g4 hs4 => ?_⟩
  have g14 := g13.trans g4
  simp only [wp_lift2, dIB_int, isB_bl]
  split
  · simp only [wp_xBin, wp_var, List.getElem?_cons_zero, List.getElem?_cons_succ, wp_xLst, wp_xNil, List.length_nil, wp_mNe]
    have hokr : okD (res s4 (.lst (rows.map rowD))) = true := by
      show okD (.lst (rows.map rowD)) = true
      unfold okD
      rw [Bool.and_eq_true]
      refine ⟨?_, ?_⟩
      · simp only [pyOk]
        rw [pyOks_all, List.all_eq_true]
        intro x hx
        obtain ⟨r, hrm, rfl⟩ := List.mem_map.mp hx
        simp only [rowD, pyOk]
        exact pyOks_strs fun y hy => (hN.g y ((hr r hrm).subset hy)).ok
      · have hd : ∀ l : List (List Str), PyData.depthAll (toPys (l.map rowD)) ≤ 10 := by
          intro l
          induction l with
          | nil => simp [toPys, PyData.depthAll]
          | cons x l ih =>
            have := depthAll_strs x
            simp only [List.map_cons, toPys, rowD, toPy, toPys_strs, PyData.depthAll, PyData.depth]
            omega
        have := hd rows
        simp only [toPy, PyData.depth]
        exact decide_eq_true (by omega)
    refine ⟨by decide, ⟨hokr, rfl⟩, ?_⟩
    rw [isB_bl]
    split
    · rename_i hb
      have hne : rows ≠ [] := fun e => by
        rw [e] at hb
        simp [res, toPy, toPys, PyData.eqv, PyData.eqvAll] at hb
      simp only [wp_ySet, wp_xFn, wp_xCons, wp_var, List.getElem?_cons_zero, List.getElem?_cons_succ, wp_xNil, List.map_cons, List.map_nil, List.length_cons, List.length_nil]
      refine ⟨trivial, of_ok (ds := rows.map rowD) g14.wf g14.wat (by rw [List.length_map]; exact List.length_pos_iff.mpr hne) (by rw [List.length_map]; omega) (loL_rows rows) (fun d s5 hd g5 hs5 => ?_) (.inr rfl)⟩
      obtain ⟨r, hrm, rfl⟩ := List.mem_map.mp hd
      simp only [List.set_cons_zero, List.set_cons_succ, onNx_nx]
      exact fin r _ s5 (hr r hrm) (g14.trans g5) (by omega)
    · simp only [wp_yNil, onNx_nx]
      exact fin ps _ s4 hps g14 (by omega)
  · simp only [Bool.false_eq_true, if_false, wp_yNil, onNx_nx]
    exact fin ps _ s4 hps g14 (by omega)
end K85
set_option autoImplicit false
set_option maxRecDepth 100000
set_option maxHeartbeats 8000000
namespace K85
open PySem PySem.Spec L2 MM
theorem wp_xLam {ρ : Ev} {st : List Ob} {i n np : Nat} {ml : Ev → Mo D} {mm : Ev → Mo (List D)} {k : Nat} {caps : List D} {Q : D → List Ob → Prop} (h : ρ[i]? = some (some (.clo k caps))) : wp (xLam i n np ml mm ρ) st Q ↔ wp (mm ρ) st fun ds s => ds.length = np ∧ wp (ml (startE n ((ds ++ caps).map .d))) s Q := by
  have e : xLam i n np ml mm ρ st = ((mm ρ).bind fun ds => if ds.length = np then ml (startE n ((ds ++ caps).map .d)) else Mo.fail) st := by
    unfold xLam
    rw [h]
  have e2 : wp (xLam i n np ml mm ρ) st Q ↔ wp ((mm ρ).bind fun ds => if ds.length = np then ml (startE n ((ds ++ caps).map .d)) else Mo.fail) st Q := by
    rw [wp_def, wp_def, e]
  rw [e2, wp_bind]
  constructor <;> (intro h; refine wp_mono h fun a s q => ?_)
  · rw [wp_ite] at q
    split at q
    · exact ⟨by assumption, q⟩
    · exact (wp_fail.mp q).elim
  · rw [wp_ite, if_pos q.1]
    exact q.2
theorem isi_tup {st : List Ob} {ds : List D} : dIsi isiTb isiNb st [.tup ds, .ty "tuple"] = some (.bl true) := by
  show (kitB "tuple" "tuple").map D.bl = _
  rfl
theorem wrong_ok {st : List Ob} {vs : List D} {least : Int} {most : D} {n np : Nat} {body : Ev → Mo D} {caps : List D} {Q : D → List Ob → Prop} (hl : least ≤ vs.length) (hl2 : vs.length ≤ 1000) (hmo : okD most = true) (hm : ∀ i, i < vs.length → PyData.eqv (.int (i : Int)) (toPy most) = false) (hres : ∀ s, res s most = most)
    (hb : ∀ (i : Nat) (h : i < vs.length), wp (body (startE n (([.tup (vs.take i), vs[i]] ++ caps).map .d))) st fun d s => d = .bl true ∧ s = st) (hnp : np = 2) (q : Q (.lst []) st) :
    wp (runF 6 (m_wrong_in fun i => xLam i n np body) [.d (.tup vs), .d (.int least), .d most, .clo 0 caps]) st Q := by
  rw [wp_runF]
  unfold m_wrong_in
  have ln : dLen st [.tup vs] = some (.int vs.length) := rfl
  have lt : dLt (.int vs.length) (.int least) = some (.bl false) := by
    show some (D.bl (decide ((vs.length : Int) < least))) = _
    rw [decide_eq_false (by omega)]
  simp only [startE, List.map_cons, List.map_nil, List.length_cons, List.length_nil, List.replicate, List.cons_append, List.nil_append, wp_ySeq, wp_yIf, wp_xOrB, wp_xNotB, wp_asB, wp_xCall, wp_xCons, wp_var, wp_c, List.getElem?_cons_zero, List.getElem?_cons_succ, wp_xNil, wp_liftL, isi_tup, isB_bl, Bool.not_true, Bool.false_eq_true, if_false, wp_xBin, ln, wp_lift2, lt, wp_yNil, onNx_nx, wp_yFor, wp_itemsET]
  refine wp_forM (fun i ρ s => s = st ∧ ∃ x4 x5, ρ = [some (.d (.tup vs)), some (.d (.int least)), some (.d most), some (.clo 0 caps), x4, x5]) ?_ ?_ ?_
  · exact ⟨rfl, _, _, rfl⟩
  · rintro i hi ρ s ⟨rfl, x4, x5, rfl⟩
    have hel : ∀ (k : Nat) (ds : List D), (enumD k ds).length = ds.length := fun k ds => by
      induction ds generalizing k with
      | nil => rfl
      | cons d ds ih => simp [enumD, ih]
    have hiv : i < vs.length := by rw [hel] at hi; exact hi
    have hit : (enumD 0 vs)[i] = .tup [.int i, vs[i]] := by
      have := enumD_get (ds := vs) (n := 0) (i := i)
      rw [List.getElem?_eq_getElem hi, List.getElem?_eq_getElem hiv] at this
      simpa using Option.some.inj this
    rw [hit]
    simp only [wp_zTup, wp_zCons, wp_zName, List.set_cons_zero, List.set_cons_succ, wp_zNil, wp_yIf, wp_xOrB, wp_asB, wp_xBin, wp_var, List.getElem?_cons_zero, List.getElem?_cons_succ, wp_mEq, hres]
    refine ⟨⟨rfl, hmo⟩, ?_⟩
    have he : PyData.eqv (toPy (res s (.int (i : Int)))) (toPy most) = false := hm i hiv
    rw [he, isB_bl, if_neg (by decide)]
    simp only [wp_xNotB, wp_asB]
    rw [wp_xLam (caps := caps) (k := 0) rfl]
    have sl : dSlice s (.tup vs) none (some (i : Int)) = some (.tup (vs.take i)) := by
      show some (D.tup (cutD vs none (some (i : Int)))) = _
      unfold cutD
      rw [HT.sIx_none, HT.sIx_nat, Nat.min_eq_left (by omega), List.drop_zero, Nat.sub_zero]
    simp only [wp_xCons, wp_xSlice, wp_var, wp_oNone, wp_oSome, List.getElem?_cons_zero, List.getElem?_cons_succ, sl, wp_xNil, List.length_cons, List.length_nil]
    refine ⟨by rw [hnp], wp_mono (hb i hiv) fun d s2 ⟨e1, e2⟩ => ?_⟩
    subst e1 e2
    rw [isB_bl, Bool.not_true, if_neg (by decide)]
    simp only [wp_yNil]
    exact ⟨trivial, _, _, rfl⟩
  · rintro ρ s ⟨rfl, x4, x5, rfl⟩
    simp only [onNx_nx, wp_yRet, wp_xLst, wp_xNil, List.length_nil]
    exact ⟨by decide, q⟩
theorem isi_str {st : List Ob} {x : Str} : dIsi isiTb isiNb st [.str x, .ty "str"] = some (.bl true) := by
  show (kitB "str" "str").map D.bl = _
  rfl
theorem one_of_ok {st : List Ob} {x : Str} {l : List Str} (hw : Wf st) {Q : D → List Ob → Prop} (q : Q (.bl (decide (x ∈ l))) st) : wp (S_is_one_of [.d (.str x), .d (.tup (l.map .str))]) st Q := by
  unfold S_is_one_of
  refine wp_frz0 ?_
  rw [wp_runF]
  unfold m_is_one_of
  simp only [startE, List.map_cons, List.map_nil, List.length_cons, List.length_nil, List.replicate, List.cons_append, List.nil_append, wp_yRet, wp_xAnd, wp_xCall, wp_xCons, wp_var, wp_c, List.getElem?_cons_zero, List.getElem?_cons_succ, wp_xNil, wp_liftL, isi_str, isB_bl, if_true, wp_xBin, wp_mIn, inS]
  exact ⟨trivial, hw, _, frz_lo rfl, q⟩
end K85
set_option autoImplicit false
set_option maxRecDepth 100000
set_option maxHeartbeats 8000000
namespace K85
open PySem PySem.Spec L2 MM
theorem allT {l : List D} (h : ∀ d ∈ l, d = .bl true) (st : List Ob) : dAll st [.lst l] = some (.bl true) := by
  have hc : ∀ l : List D, (∀ d ∈ l, d = .bl true) → ∃ bs, l.mapM asBl = some bs ∧ bs.all id = true := fun l => by
    induction l with
    | nil => exact fun _ => ⟨[], rfl, rfl⟩
    | cons d l ih =>
      intro h
      obtain ⟨bs, e1, e2⟩ := ih fun x hx => h x (by simp [hx])
      have hd := h d (by simp)
      subst hd
      exact ⟨true :: bs, by simp [List.mapM_cons, asBl, e1], by simpa using e2⟩
  obtain ⟨bs, e1, e2⟩ := hc l h
  show ((some l).bind fun ds => ds.mapM asBl).map (fun bs => D.bl (bs.all id)) = _
  rw [Option.bind_some, e1, Option.map_some, e2]
theorem word_ok {st : List Ob} {x : Str} (hw : Wf st) (hx : GN x) {Q : D → List Ob → Prop} (q : Q (.bl true) st) : wp (S_is_word [.d (.str x)]) st Q := by
  unfold S_is_word
  refine wp_frz0 ?_
  rw [wp_runF]
  unfold m_is_word
  have e1 : PyData.eqv (toPy (res st (.str x))) (toPy (res st (.str ""))) = false := by
    show PyData.eqv (.str x) (.str "") = false
    rw [eqv_str]
    exact decide_eq_false fun e => hx.ne (by rw [e]; rfl)
  have hlen : (x.cps.toList.map fun c => D.str ⟨#[c]⟩).length ≤ 1000000 := by
    have h1 := hx.len
    have h2 : x.cps.toList.length = x.length := by simp [Str.length]
    rw [List.length_map]
    omega
  simp only [startE, List.map_cons, List.map_nil, List.length_cons, List.length_nil, List.replicate, List.cons_append, List.nil_append, wp_yRet, wp_xAnd, wp_xCall, wp_xCons, wp_var, wp_c, List.getElem?_cons_zero, List.getElem?_cons_succ, wp_xNil, wp_liftL, isi_str, isB_bl, if_true, wp_xBin, wp_mNe, e1, Bool.not_false, wp_xComp, wp_itemsS]
  refine ⟨⟨okD_str hx.ok, okD_str (by decide +kernel)⟩, hlen, ?_⟩
  simp only [wipeE, List.set_cons_zero, List.set_cons_succ]
  refine wp_compP (p := fun _ => true) (f := fun _ => .bl true) (fun d hd => ?_) ?_
  · obtain ⟨c, hc, rfl⟩ := List.mem_map.mp hd
    have hin : inB st (.str ⟨#[c]⟩) c_LETTERS = some true := by
      show (if (⟨#[c]⟩ : Str).length = 1 then some (decide (((⟨#[c]⟩ : Str).cps.getD 0 0) ∈ LS.cps.toList)) else none) = _
      rw [if_pos (show (⟨#[c]⟩ : Str).length = 1 from rfl), ls_eq]
      have h1 := hx.lt c hc
      have : c ∈ (List.range 26).map (97 + ·) := List.mem_map.mpr ⟨c - 97, List.mem_range.mpr (by omega), by omega⟩
      rw [decide_eq_true (by exact this)]
    simp only [wp_zName, List.set_cons_zero, List.set_cons_succ, wp_tYes, wp_xBin, wp_var, List.getElem?_cons_zero, List.getElem?_cons_succ, wp_c, wp_mIn, hin, true_and]
    exact fun _ => trivial
  · rw [allT (fun d hd => by
      obtain ⟨_, _, rfl⟩ := List.mem_map.mp hd
      rfl) st]
    exact ⟨rfl, hw, _, frz_lo rfl, q⟩
theorem name_ok {st : List Ob} {x : Str} (hw : Wf st) (hx : GN x) {Q : D → List Ob → Prop} (q : Q (.bl true) st) : wp (S_is_name [.d (.str x)]) st Q := by
  unfold S_is_name
  refine wp_frz0 ?_
  rw [wp_runF]
  unfold m_is_name
  have hl := hx.len
  have ln : dLen st [.str x] = some (.int x.length) := by
    show (if x.length ≤ 1000000 then some (D.int x.length) else none) = _
    rw [if_pos (by omega)]
  have h8 : (fun i j : Int => decide (i ≤ j)) (x.length : Int) 8 = true := decide_eq_true (by omega)
  have nin : inB st (.str x) c_WORDS = some false := by
    rw [c_WORDS_eq, inS, decide_eq_false hx.nw]
  simp only [startE, List.map_cons, List.map_nil, List.length_cons, List.length_nil, List.replicate, List.cons_append, List.nil_append, wp_yRet, wp_xAnd, wp_xFn, wp_xCons, wp_var, List.getElem?_cons_zero, List.getElem?_cons_succ, wp_xNil]
  refine ⟨trivial, word_ok hw hx ?_⟩
  rw [isB_bl, if_pos rfl]
  simp only [wp_xBin, wp_xCall, wp_xCons, wp_var, List.getElem?_cons_zero, List.getElem?_cons_succ, wp_xNil, wp_liftL, ln, wp_c, wp_lift2]
  rw [show dIB (fun i j => decide (i ≤ j)) (.int x.length) c_MOST_LETTERS = some (.bl (decide ((x.length : Int) ≤ 8))) from rfl, decide_eq_true (show (x.length : Int) ≤ 8 by omega)]
  simp only [isB_bl, if_true, wp_mNotIn, nin, Bool.not_false]
  exact ⟨trivial, hw, _, frz_lo rfl, q⟩
/-- below: the row so far ends below the next -/
theorem last_at {l : List D} {d : D} (st : List Ob) : dIx st (.tup (l ++ [d])) (.int (-1)) = some d := by
  rw [dIx_tup]
  unfold atI ixN
  rw [if_neg (by decide), if_pos (by simp; omega)]
  have e : ((-1 : Int) + ((l ++ [d]).length : Nat)).toNat = l.length := by simp; omega
  rw [Option.bind_some, e]
  simp
theorem below_ok {st : List Ob} {l : List D} {v : D} (hw : Wf st) (ho : okD (.tup l) = true) (h : ∀ l' d, l = l' ++ [d] → dLt d v = some (.bl true)) {Q : D → List Ob → Prop} (q : Q (.bl true) st) : wp (S_are_below [.d (.tup l), .d v]) st Q := by
  unfold S_are_below
  refine wp_frz0 ?_
  rw [wp_runF]
  unfold m_are_below
  simp only [startE, List.map_cons, List.map_nil, List.length_cons, List.length_nil, List.replicate, List.cons_append, List.nil_append, wp_yRet, wp_xOr, wp_xBin, wp_var, List.getElem?_cons_zero, List.getElem?_cons_succ, wp_xTup, wp_xNil, wp_mEq]
  refine ⟨by decide, ⟨ho, rfl⟩, ?_⟩
  rw [isB_bl]
  split
  · first | exact ⟨rfl, hw, _, frz_lo rfl, q⟩ | exact ⟨trivial, hw, _, frz_lo rfl, q⟩
  · rename_i hne
    rcases List.eq_nil_or_concat l with rfl | ⟨l', d, rfl⟩
    · exact absurd (by simp [res, toPy, toPys, PyData.eqv, PyData.eqvAll]) hne
    · have hn : dNeg (.int 1) = some (.int (-1)) := rfl
      simp only [wp_xBin, wp_var, List.getElem?_cons_zero, List.getElem?_cons_succ, wp_xNeg, wp_c, hn, wp_mIx, List.concat_eq_append, last_at, wp_lift2]
      rw [h l' d (by simp)]
      first | exact ⟨rfl, hw, _, frz_lo rfl, q⟩ | exact ⟨trivial, hw, _, frz_lo rfl, q⟩
theorem okD_tup_strs {l : List Str} (h : ∀ x ∈ l, PyData.strOk x = true) : okD (.tup (l.map .str)) = true := by
  unfold okD
  rw [Bool.and_eq_true]
  refine ⟨by simp only [pyOk]; exact pyOks_strs h, ?_⟩
  have := depthAll_strs l
  simp only [toPy, toPys_strs, PyData.depth]
  exact decide_eq_true (by omega)
theorem take_end {α : Type} {l : List α} {i : Nat} {l' : List α} {d : α} (hi : i < l.length) (h : l.take i = l' ++ [d]) : ∃ j, j + 1 = i ∧ l[j]? = some d := by
  have hl := congrArg List.length h
  rw [List.length_take, List.length_append, List.length_singleton, Nat.min_eq_left (by omega)] at hl
  refine ⟨l'.length, by omega, ?_⟩
  have : (l.take i)[l'.length]? = some d := by rw [h]; simp
  rwa [List.getElem?_take_of_lt (by omega)] at this
/-- strictly rising texts, each end of a part below the next -/
theorem below_strs {l : List Str} (hp : l.Pairwise fun a b => a.cps.toList < b.cps.toList) {i : Nat} (hi : i < l.length) (l' : List D) (d : D) (h : (l.map D.str).take i = l' ++ [d]) : dLt d (.str l[i]) = some (.bl true) := by
  obtain ⟨j, hj, hd⟩ := take_end (by rw [List.length_map]; exact hi) h
  rw [List.getElem?_map] at hd
  obtain ⟨x, hx, rfl⟩ := Option.map_eq_some_iff.mp hd
  obtain ⟨hlj, ex⟩ := List.getElem?_eq_some_iff.mp hx
  have := List.pairwise_iff_getElem.mp hp j i hlj hi (by omega)
  rw [ex] at this
  show some (D.bl (decide (x.cps.toList < l[i].cps.toList))) = _
  rw [decide_eq_true this]
theorem take_strs {l : List Str} {i : Nat} : (l.map D.str).take i = (l.take i).map .str := by rw [List.map_take]
theorem places_ok {st : List Ob} {ns : List Str} (hw : Wf st) (hN : Names ns) (h1 : 1 ≤ ns.length) (h6 : ns.length ≤ 6) {Q : D → List Ob → Prop} (q : Q (.lst []) st) : wp (S_wrong_in_places [.d (.tup (ns.map .str))]) st Q := by
  unfold S_wrong_in_places
  refine wp_frz0 ?_
  rw [wp_runF]
  unfold m_wrong_in_places
  simp only [startE, List.map_cons, List.map_nil, List.length_cons, List.length_nil, List.replicate, List.cons_append, List.nil_append, wp_yRet]
  have e : ∀ R : D → List Ob → Prop, wp (runF 6 (m_wrong_in fun i => xLam i 2 2 (xAnd (xFn 1 S_is_name (xCons (xVar 1) xNil)) (xFn 2 S_are_below (xCons (xVar 0) (xCons (xVar 1) xNil))))) [.d (.tup (ns.map .str)), .d (.int 1), .d c_MOST_PLACES, .clo 0 []]) st R ↔
      wp (xLamCall 4 [] (xCons (xVar 0) (xCons (xC (.int 1)) (xCons (xC c_MOST_PLACES) xNil))) (runF 6 (m_wrong_in fun i => xLam i 2 2 (xAnd (xFn 1 S_is_name (xCons (xVar 1) xNil)) (xFn 2 S_are_below (xCons (xVar 0) (xCons (xVar 1) xNil)))))) [some (.d (.tup (ns.map .str)))]) st R := fun R => Iff.rfl
  refine (e _).mp ?_
  refine wrong_ok (by simp; omega) (by simp; omega) rfl (fun i hi => ?_) (fun s => rfl) (fun i hi => ?_) rfl ⟨rfl, hw, _, frz_lo rfl, q⟩
  · show PyData.eqv (.int (i : Int)) (.int 9) = false
    rw [eqv_int]
    simp at hi
    exact decide_eq_false (by omega)
  · have hin : i < ns.length := by simpa using hi
    have hit : (ns.map D.str)[i] = .str ns[i] := by simp
    rw [hit]
    simp only [startE, List.map_cons, List.map_nil, List.length_cons, List.length_nil, List.replicate, List.cons_append, List.nil_append, List.append_nil, wp_xAnd, wp_xFn, wp_xCons, wp_var, List.getElem?_cons_zero, List.getElem?_cons_succ, wp_xNil]
    refine ⟨trivial, name_ok hw (hN.g _ (List.getElem_mem hin)) ?_⟩
    rw [isB_bl, if_pos rfl]
    have hi2 : i < ns.length := by rw [List.length_map] at hi; exact hi
    refine ⟨trivial, below_ok hw (by rw [take_strs]; exact okD_tup_strs fun x hx => (hN.g x (List.mem_of_mem_take hx)).ok) (fun l' d h => below_strs hN.pw hin l' d h) ⟨rfl, rfl⟩⟩
end K85
set_option autoImplicit false
set_option maxRecDepth 100000
set_option maxHeartbeats 8000000
namespace K85
open PySem PySem.Spec L2 MM
theorem pair_ok {st : List Ob} {p : Str × Str} (hw : Wf st) {Q : D → List Ob → Prop} (q : Q (.bl true) st) : wp (S_is_pair [.d (tieD p)]) st Q := by
  unfold S_is_pair
  refine wp_frz0 ?_
  rw [wp_runF]
  unfold m_is_pair
  simp only [startE, List.map_cons, List.map_nil, List.length_cons, List.length_nil, List.replicate, List.cons_append, List.nil_append, wp_yRet, wp_xFn, wp_xCons, wp_var, wp_c, List.getElem?_cons_zero, List.getElem?_cons_succ, wp_xNil]
  refine ⟨trivial, ?_⟩
  unfold S_is_tuple_of
  refine wp_frz0 ?_
  rw [wp_runF]
  unfold m_is_tuple_of
  have ln : dLen st [tieD p] = some (.int 2) := rfl
  have ti : dIsi isiTb isiNb st [tieD p, .ty "tuple"] = some (.bl true) := isi_tup
  have ee : PyData.eqv (toPy (res st (.int 2))) (toPy (res st (.int 2))) = true := by
    show PyData.eqv (.int 2) (.int 2) = true
    rw [eqv_int]; rfl
  simp only [startE, List.map_cons, List.map_nil, List.length_cons, List.length_nil, List.replicate, List.cons_append, List.nil_append, wp_yRet, wp_xAnd, wp_xCall, wp_xCons, wp_var, wp_c, List.getElem?_cons_zero, List.getElem?_cons_succ, wp_xNil, wp_liftL, ti, isB_bl, if_true, wp_xBin, ln, wp_mEq, ee]
  exact ⟨⟨rfl, rfl⟩, trivial, hw, _, frz_lo rfl, trivial, hw, _, frz_lo rfl, q⟩
theorem tie_ok {st : List Ob} {ns : List Str} {p : Str × Str} (hw : Wf st) (h1 : p.1 ∈ ns) (h2 : p.2 ∈ ns) (h3 : p.1.cps.toList < p.2.cps.toList) {Q : D → List Ob → Prop} (q : Q (.bl true) st) : wp (S_is_tie [.d (.tup (ns.map .str)), .d (tieD p)]) st Q := by
  unfold S_is_tie
  refine wp_frz0 ?_
  rw [wp_runF]
  unfold m_is_tie
  have i0 : ∀ s, dIx s (tieD p) (.int 0) = some (.str p.1) := fun s => rfl
  have i1 : ∀ s, dIx s (tieD p) (.int 1) = some (.str p.2) := fun s => rfl
  have lt : dLt (.str p.1) (.str p.2) = some (.bl true) := by
    show some (D.bl (decide (p.1.cps.toList < p.2.cps.toList))) = _
    rw [decide_eq_true h3]
  simp only [startE, List.map_cons, List.map_nil, List.length_cons, List.length_nil, List.replicate, List.cons_append, List.nil_append, wp_yRet, wp_xAnd, wp_xFn, wp_xCons, wp_var, List.getElem?_cons_zero, List.getElem?_cons_succ, wp_xNil]
  refine ⟨trivial, pair_ok hw ?_⟩
  rw [isB_bl, if_pos rfl]
  simp only [wp_xBin, wp_var, wp_c, wp_mIx, List.getElem?_cons_zero, List.getElem?_cons_succ, i0, i1]
  refine ⟨trivial, one_of_ok hw ?_⟩
  rw [decide_eq_true h1, isB_bl, if_pos rfl]
  refine ⟨trivial, one_of_ok hw ?_⟩
  rw [decide_eq_true h2, isB_bl, if_pos rfl]
  simp only [wp_lift2, lt]
  exact ⟨trivial, hw, _, frz_lo rfl, q⟩
theorem ties_lt {p q : Str × Str} (h : lexLtS [p.1, p.2] [q.1, q.2] = true) : dLt (tieD p) (tieD q) = some (.bl true) := by
  show some (D.bl (lexLtS [p.1, p.2] [q.1, q.2])) = _
  rw [h]
theorem pyOks_ties {l : List (Str × Str)} (h : ∀ p ∈ l, PyData.strOk p.1 = true ∧ PyData.strOk p.2 = true) : pyOks (l.map tieD) = true := by
  induction l with
  | nil => rfl
  | cons x l ih =>
    have hx := h x (by simp)
    simp only [List.map_cons, pyOks, Bool.and_eq_true]
    exact ⟨by simp [pyOk, pyOks, hx], ih fun p hp => h p (by simp [hp])⟩
theorem depthAll_ties (l : List (Str × Str)) : PyData.depthAll (toPys (l.map tieD)) ≤ 20 := by
  induction l with
  | nil => decide
  | cons x l ih =>
    simp only [List.map_cons, toPys, PyData.depthAll]
    have : (toPy (tieD x)).depth ≤ 20 := by simp [toPy, toPys, PyData.depth, PyData.depthAll]
    omega
theorem okD_ties {l : List (Str × Str)} (h : ∀ p ∈ l, PyData.strOk p.1 = true ∧ PyData.strOk p.2 = true) : okD (.tup (l.map tieD)) = true := by
  unfold okD
  rw [Bool.and_eq_true]
  refine ⟨by simp only [pyOk]; exact pyOks_ties h, ?_⟩
  have := depthAll_ties l
  simp only [toPy, PyData.depth]
  exact decide_eq_true (by omega)
theorem below_ties {l : List (Str × Str)} (hp : l.Pairwise fun p q => lexLtS [p.1, p.2] [q.1, q.2] = true) {i : Nat} (hi : i < l.length) (l' : List D) (d : D) (h : (l.map tieD).take i = l' ++ [d]) : dLt d (tieD l[i]) = some (.bl true) := by
  obtain ⟨j, hj, hd⟩ := take_end (by rw [List.length_map]; exact hi) h
  rw [List.getElem?_map] at hd
  obtain ⟨x, hx, rfl⟩ := Option.map_eq_some_iff.mp hd
  obtain ⟨hlj, ex⟩ := List.getElem?_eq_some_iff.mp hx
  have := List.pairwise_iff_getElem.mp hp j i hlj hi (by omega)
  rw [ex] at this
  exact ties_lt this
theorem ties_ok {st : List Ob} {ns : List Str} {ts : List (Str × Str)} (hw : Wf st) (hN : Names ns) (hT : Ties ns ts) {Q : D → List Ob → Prop} (q : Q (.lst []) st) : wp (S_wrong_in_ties [.d (.tup (ns.map .str)), .d (.tup (ts.map tieD))]) st Q := by
  unfold S_wrong_in_ties
  refine wp_frz0 ?_
  rw [wp_runF]
  unfold m_wrong_in_ties
  have hl := hT.len
  simp only [startE, List.map_cons, List.map_nil, List.length_cons, List.length_nil, List.replicate, List.cons_append, List.nil_append, wp_yRet]
  have e : ∀ R : D → List Ob → Prop, wp (runF 6 (m_wrong_in fun i => xLam i 3 2 (xAnd (xFn 2 S_is_tie (xCons (xVar 2) (xCons (xVar 1) xNil))) (xFn 2 S_are_below (xCons (xVar 0) (xCons (xVar 1) xNil))))) [.d (.tup (ts.map tieD)), .d (.int 0), .d .non, .clo 0 [.tup (ns.map .str)]]) st R ↔
      wp (xLamCall 4 [0] (xCons (xVar 1) (xCons (xC (.int 0)) (xCons (xC .non) xNil))) (runF 6 (m_wrong_in fun i => xLam i 3 2 (xAnd (xFn 2 S_is_tie (xCons (xVar 2) (xCons (xVar 1) xNil))) (xFn 2 S_are_below (xCons (xVar 0) (xCons (xVar 1) xNil)))))) [some (.d (.tup (ns.map .str))), some (.d (.tup (ts.map tieD)))]) st R := fun R => Iff.rfl
  refine (e _).mp ?_
  refine wrong_ok (by simp) (by simp; omega) rfl (fun i hi => by simp [toPy, PyData.eqv]) (fun s => rfl) (fun i hi => ?_) rfl ⟨rfl, hw, _, frz_lo rfl, q⟩
  have hin : i < ts.length := by simpa using hi
  have hit : (ts.map tieD)[i] = tieD ts[i] := by simp
  have hm := hT.mem _ (List.getElem_mem hin)
  rw [hit]
  simp only [startE, List.map_cons, List.map_nil, List.length_cons, List.length_nil, List.replicate, List.cons_append, List.nil_append, List.append_nil, wp_xAnd, wp_xFn, wp_xCons, wp_var, List.getElem?_cons_zero, List.getElem?_cons_succ, wp_xNil]
  refine ⟨trivial, tie_ok hw hm.1 hm.2.1 hm.2.2 ?_⟩
  rw [isB_bl, if_pos rfl]
  have hok : okD (.tup ((ts.map tieD).take i)) = true := by
    rw [← List.map_take]
    exact okD_ties fun p hp => by
      have := hT.mem p (List.mem_of_mem_take hp)
      exact ⟨(hN.g _ this.1).ok, (hN.g _ this.2.1).ok⟩
  exact ⟨trivial, below_ok hw hok (fun l' d h => below_ties hT.pw hin l' d h) ⟨rfl, rfl⟩⟩
/-- a part of the places is a set of names -/
theorem set_ok {st : List Ob} {ns ps : List Str} (hw : Wf st) (hN : Names ns) (h6 : ns.length ≤ 6) (hs : ps.Sublist ns) {Q : D → List Ob → Prop} (q : Q (.bl true) st) : wp (S_is_set_of_names [.d (.tup (ps.map .str)), .d (.tup (ns.map .str))]) st Q := by
  unfold S_is_set_of_names
  refine wp_frz0 ?_
  rw [wp_runF]
  unfold m_is_set_of_names
  have hl := hs.length_le
  simp only [startE, List.map_cons, List.map_nil, List.length_cons, List.length_nil, List.replicate, List.cons_append, List.nil_append, wp_yRet, wp_xBin]
  have e : ∀ R : D → List Ob → Prop, wp (runF 6 (m_wrong_in fun i => xLam i 3 2 (xAnd (xFn 2 S_is_one_of (xCons (xVar 1) (xCons (xVar 2) xNil))) (xFn 2 S_are_below (xCons (xVar 0) (xCons (xVar 1) xNil))))) [.d (.tup (ps.map .str)), .d (.int 0), .d (.int (ns.map D.str).length), .clo 0 [.tup (ns.map .str)]]) st R ↔
      wp (xLamCall 4 [1] (xCons (xVar 0) (xCons (xC (.int 0)) (xCons (xCall (liftL dLen) (xCons (xVar 1) xNil)) xNil))) (runF 6 (m_wrong_in fun i => xLam i 3 2 (xAnd (xFn 2 S_is_one_of (xCons (xVar 1) (xCons (xVar 2) xNil))) (xFn 2 S_are_below (xCons (xVar 0) (xCons (xVar 1) xNil)))))) [some (.d (.tup (ps.map .str))), some (.d (.tup (ns.map .str)))]) st R := fun R => Iff.rfl
  refine (e _).mp ?_
  refine wrong_ok (by simp) (by simp; omega) rfl (fun i hi => ?_) (fun s => rfl) (fun i hi => ?_) rfl ?_
  · show PyData.eqv (.int (i : Int)) (.int ((ns.map D.str).length : Nat)) = false
    rw [eqv_int]
    simp at hi
    exact decide_eq_false (by simp; omega)
  · have hin : i < ps.length := by simpa using hi
    have hit : (ps.map D.str)[i] = .str ps[i] := by simp
    have hm : ps[i] ∈ ns := hs.subset (List.getElem_mem hin)
    rw [hit]
    simp only [startE, List.map_cons, List.map_nil, List.length_cons, List.length_nil, List.replicate, List.cons_append, List.nil_append, List.append_nil, wp_xAnd, wp_xFn, wp_xCons, wp_var, List.getElem?_cons_zero, List.getElem?_cons_succ, wp_xNil]
    refine ⟨trivial, one_of_ok hw ?_⟩
    rw [decide_eq_true hm, isB_bl, if_pos rfl]
    exact ⟨trivial, below_ok hw (by rw [take_strs]; exact okD_tup_strs fun x hx => (hN.g x (hs.subset (List.mem_of_mem_take hx))).ok) (fun l' d h => below_strs (hN.pw.sublist hs) hin l' d h) ⟨rfl, rfl⟩⟩
  · have ee : PyData.eqv (toPy (res st (.lst []))) (toPy (res st (.lst []))) = true := by
      simp [res, toPy, toPys, PyData.eqv, PyData.eqvAll]
    simp only [wp_xLst, wp_xNil, List.length_nil, wp_mEq, ee]
    exact ⟨by decide, ⟨rfl, rfl⟩, trivial, hw, _, frz_lo rfl, q⟩
end K85
set_option autoImplicit false
set_option maxRecDepth 100000
set_option maxHeartbeats 8000000
namespace K85
open PySem PySem.Spec L2 MM
def IsW (s : List Ob) (x : D) (c : Cs) : Prop := insOf s x = some (("Web" : Str), [("all_told" : Str)], [webD c])
def IsC (s : List Ob) (x w : D) (c : Cs) : Prop := insOf s x = some (("Case" : Str), [("all_of_it" : Str)], [D.tup [w, .tup (c.ps.map .str), .str c.k, .int c.a, .str c.x, .int c.b]]) ∧ IsW s w c
theorem lo_web {n : Nat} {c : Cs} : D.lo n (webD c) = true := by simp only [D.lo, D.loL, loL_strs, loL_prs, Bool.true_and, Bool.and_true]
theorem lo_cs {n : Nat} {c : Cs} : D.lo n (csD c) = true := by
  unfold csD
  rw [show ∀ ds, D.lo n (.tup ds) = D.loL n ds from fun ds => by simp only [D.lo]]
  exact loL_case c
theorem fldW {s : List Ob} {x : D} {c : Cs} (h : IsW s x c) : dFld "Web" "all_told" s x = some (webD c) := by
  unfold dFld
  unfold IsW at h
  rw [h]
  rfl
theorem fldC {s : List Ob} {x w : D} {c : Cs} (h : IsC s x w c) : dFld "Case" "all_of_it" s x = some (.tup [w, .tup (c.ps.map .str), .str c.k, .int c.a, .str c.x, .int c.b]) := by
  unfold dFld
  rw [h.1]
  rfl
section
variable {st : List Ob} {x w : D} {c : Cs} {Q : D → List Ob → Prop}
theorem wplaces_ok (hw : Wf st) (h : IsW st x c) (q : Q (.tup (c.ns.map .str)) st) : wp (S_Web_places [.d x]) st Q := by
  unfold S_Web_places
  refine wp_frz0 ?_
  rw [wp_runF]
  unfold m_Web_places
  have i0 : dIx st (webD c) (.int 0) = some (.tup (c.ns.map .str)) := rfl
  simp only [startE, List.map_cons, List.map_nil, List.length_cons, List.length_nil, List.replicate, List.cons_append, List.nil_append, wp_yRet, wp_xBin, wp_xFld, wp_var, wp_c, List.getElem?_cons_zero, fldW h, wp_mIx, i0]
  exact ⟨trivial, hw, _, frz_lo (by simp only [D.lo, loL_strs]), q⟩
theorem wparts_ok (hw : Wf st) (h : IsW st x c) (q : Q (webD c) st) : wp (S_Web_parts [.d x]) st Q := by
  unfold S_Web_parts
  refine wp_frz0 ?_
  rw [wp_runF]
  unfold m_Web_parts
  simp only [startE, List.map_cons, List.map_nil, List.length_cons, List.length_nil, List.replicate, List.cons_append, List.nil_append, wp_yRet, wp_xFld, wp_var, List.getElem?_cons_zero, fldW h]
  exact ⟨trivial, hw, _, frz_lo lo_web, q⟩
theorem cweb_ok (hw : Wf st) (h : IsC st x w c) (hlo : D.lo st.length w = true) (q : Q w st) : wp (S_Case_web [.d x]) st Q := by
  unfold S_Case_web
  refine wp_frz0 ?_
  rw [wp_runF]
  unfold m_Case_web
  have i0 : ∀ a b d e f, dIx st (.tup [w, a, b, d, e, f]) (.int 0) = some w := fun a b d e f => rfl
  simp only [startE, List.map_cons, List.map_nil, List.length_cons, List.length_nil, List.replicate, List.cons_append, List.nil_append, wp_yRet, wp_xBin, wp_xFld, wp_var, wp_c, List.getElem?_cons_zero, fldC h, wp_mIx, i0]
  exact ⟨trivial, hw, _, frz_lo hlo, q⟩
theorem cposts_ok (hw : Wf st) (h : IsC st x w c) (q : Q (.tup (c.ps.map .str)) st) : wp (S_Case_posts [.d x]) st Q := by
  unfold S_Case_posts
  refine wp_frz0 ?_
  rw [wp_runF]
  unfold m_Case_posts
  have i0 : ∀ a b d e f, dIx st (.tup [w, a, b, d, e, f]) (.int 1) = some a := fun a b d e f => rfl
  simp only [startE, List.map_cons, List.map_nil, List.length_cons, List.length_nil, List.replicate, List.cons_append, List.nil_append, wp_yRet, wp_xBin, wp_xFld, wp_var, wp_c, List.getElem?_cons_zero, fldC h, wp_mIx, i0]
  exact ⟨trivial, hw, _, frz_lo (by simp only [D.lo, loL_strs]), q⟩
theorem ckind_ok (hw : Wf st) (h : IsC st x w c) (q : Q (.str c.k) st) : wp (S_Case_kind [.d x]) st Q := by
  unfold S_Case_kind
  refine wp_frz0 ?_
  rw [wp_runF]
  unfold m_Case_kind
  have i0 : ∀ a b d e f, dIx st (.tup [w, a, b, d, e, f]) (.int 2) = some b := fun a b d e f => rfl
  simp only [startE, List.map_cons, List.map_nil, List.length_cons, List.length_nil, List.replicate, List.cons_append, List.nil_append, wp_yRet, wp_xBin, wp_xFld, wp_var, wp_c, List.getElem?_cons_zero, fldC h, wp_mIx, i0]
  exact ⟨trivial, hw, _, frz_lo rfl, q⟩
theorem cmany_ok (hw : Wf st) (h : IsC st x w c) (q : Q (.int c.a) st) : wp (S_Case_many [.d x]) st Q := by
  unfold S_Case_many
  refine wp_frz0 ?_
  rw [wp_runF]
  unfold m_Case_many
  have i0 : ∀ a b d e f, dIx st (.tup [w, a, b, d, e, f]) (.int 3) = some d := fun a b d e f => rfl
  simp only [startE, List.map_cons, List.map_nil, List.length_cons, List.length_nil, List.replicate, List.cons_append, List.nil_append, wp_yRet, wp_xBin, wp_xFld, wp_var, wp_c, List.getElem?_cons_zero, fldC h, wp_mIx, i0]
  exact ⟨trivial, hw, _, frz_lo rfl, q⟩
theorem cplace_ok (hw : Wf st) (h : IsC st x w c) (q : Q (.str c.x) st) : wp (S_Case_place [.d x]) st Q := by
  unfold S_Case_place
  refine wp_frz0 ?_
  rw [wp_runF]
  unfold m_Case_place
  have i0 : ∀ a b d e f, dIx st (.tup [w, a, b, d, e, f]) (.int 4) = some e := fun a b d e f => rfl
  simp only [startE, List.map_cons, List.map_nil, List.length_cons, List.length_nil, List.replicate, List.cons_append, List.nil_append, wp_yRet, wp_xBin, wp_xFld, wp_var, wp_c, List.getElem?_cons_zero, fldC h, wp_mIx, i0]
  exact ⟨trivial, hw, _, frz_lo rfl, q⟩
theorem cbeats_ok (hw : Wf st) (h : IsC st x w c) (q : Q (.int c.b) st) : wp (S_Case_beats [.d x]) st Q := by
  unfold S_Case_beats
  refine wp_frz0 ?_
  rw [wp_runF]
  unfold m_Case_beats
  have i0 : ∀ a b d e f, dIx st (.tup [w, a, b, d, e, f]) (.int 5) = some f := fun a b d e f => rfl
  simp only [startE, List.map_cons, List.map_nil, List.length_cons, List.length_nil, List.replicate, List.cons_append, List.nil_append, wp_yRet, wp_xBin, wp_xFld, wp_var, wp_c, List.getElem?_cons_zero, fldC h, wp_mIx, i0]
  exact ⟨trivial, hw, _, frz_lo rfl, q⟩
theorem cparts_ok (hw : Wf st) (h : IsC st x w c) (q : Q (csD c) st) : wp (S_Case_parts [.d x]) st Q := by
  unfold S_Case_parts
  refine wp_frz0 ?_
  rw [wp_runF]
  unfold m_Case_parts
  have i0 : ∀ a b d e f, dIx st (.tup [w, a, b, d, e, f]) (.int 0) = some w := fun a b d e f => rfl
  have sl : ∀ a b d e f, dSlice st (.tup [w, a, b, d, e, f]) (some 1) none = some (.tup [a, b, d, e, f]) := fun a b d e f => rfl
  have it : ∀ l, seqItems st (.tup l) = some l := fun l => rfl
  simp only [startE, List.map_cons, List.map_nil, List.length_cons, List.length_nil, List.replicate, List.cons_append, List.nil_append, wp_yRet, wp_xTup, wp_xCons, wp_xProp, wp_xBin, wp_xFld, wp_var, wp_c, List.getElem?_cons_zero, fldC h, wp_mIx, i0]
  have h2 := h.2
  unfold IsW at h2
  rw [h2]
  refine ⟨rfl, wparts_ok hw h.2 ?_⟩
  simp only [wp_xStar, wp_xSlice, wp_oSome, wp_oNone, wp_xFld, wp_var, wp_c, List.getElem?_cons_zero, fldC h, sl, it, wp_xNil, List.append_nil, List.length_cons, List.length_nil]
  exact ⟨by decide, trivial, hw, _, frz_lo lo_cs, q⟩
end
end K85
set_option autoImplicit false
set_option maxRecDepth 100000
set_option maxHeartbeats 8000000
namespace K85
open PySem PySem.Spec L2 MM
theorem ins_ty {s : List Ob} {x : D} {c : Str} {ns : List Str} {ds : List D} (h : insOf s x = some (c, ns, ds)) : tyNm s x = none ∧ insCls s x = some c := by
  cases x with
  | ins c' ns' ds' => cases h; exact ⟨rfl, rfl⟩
  | loc n =>
    simp only [insOf] at h
    cases e : s[n]? with
    | none => rw [e] at h; cases h
    | some o =>
      rw [e] at h
      cases o with
      | ins c' ns' ds' => cases h; simp [tyNm, insCls, e]
      | lst l => cases h
      | dK a b => cases h
  | _ => cases h
theorem isi_own {s : List Ob} {x : D} {c : Str} {ns : List Str} {ds : List D} (h : insOf s x = some (c, ns, ds)) (hc : c = "Web" ∨ c = "Case") : dIsi isiTb isiNb s [x, .cls c] = some (.bl true) := by
  obtain ⟨h1, h2⟩ := ins_ty h
  simp only [dIsi]
  rw [h1, h2]
  rcases hc with rfl | rfl <;> rfl
section
variable {st : List Ob} {x w : D} {c : Cs} {Q : D → List Ob → Prop}
theorem chweb_ok (hw : Wf st) (h : IsW st x c) (q : Q .non st) : wp (S_check_web [.d x]) st Q := by
  unfold S_check_web
  refine wp_frz0 ?_
  rw [wp_runF]
  unfold m_check_web
  have ti := isi_own h (.inl rfl)
  simp only [startE, List.map_cons, List.map_nil, List.length_cons, List.length_nil, List.replicate, List.cons_append, List.nil_append, wp_yIf, wp_xNotB, wp_asB, wp_xCall, wp_xCons, wp_xNil, wp_liftL, wp_var, wp_c, List.getElem?_cons_zero, ti, isB_bl, Bool.not_true, Bool.false_eq_true, if_false, wp_yNil]
  exact ⟨trivial, hw, _, frz_lo rfl, q⟩
theorem chset_ok (hw : Wf st) (h : IsW st x c) (hc : c.Ok) (q : Q .non st) : wp (S_check_set [.d x, .d (.tup (c.ps.map .str))]) st Q := by
  unfold S_check_set
  refine wp_frz0 ?_
  rw [wp_runF]
  unfold m_check_set
  simp only [startE, List.map_cons, List.map_nil, List.length_cons, List.length_nil, List.replicate, List.cons_append, List.nil_append, wp_yIf, wp_xNotB, wp_asB, wp_xFn, wp_xCons, wp_xProp, wp_xNil, wp_var, wp_c, List.getElem?_cons_zero, List.getElem?_cons_succ]
  have h2 := h
  unfold IsW at h2
  rw [h2]
  refine ⟨rfl, wplaces_ok hw h ⟨trivial, set_ok hw hc.names hc.n6 hc.ps ?_⟩⟩
  simp only [isB_bl, Bool.not_true, Bool.false_eq_true, if_false, wp_yNil]
  exact ⟨trivial, hw, _, frz_lo rfl, q⟩
theorem chposts_ok (hw : Wf st) (h : IsW st x c) (hc : c.Ok) (q : Q .non st) : wp (S_check_posts [.d x, .d (.tup (c.ps.map .str))]) st Q := by
  unfold S_check_posts
  refine wp_frz0 ?_
  rw [wp_runF]
  unfold m_check_posts
  simp only [startE, List.map_cons, List.map_nil, List.length_cons, List.length_nil, List.replicate, List.cons_append, List.nil_append, wp_ySeq, wp_yDrop, wp_xFn, wp_xCons, wp_xNil, wp_var, List.getElem?_cons_zero, List.getElem?_cons_succ]
  refine ⟨trivial, chweb_ok hw h ?_⟩
  rw [onNx_nx]
  simp only [wp_yDrop, wp_xFn, wp_xCons, wp_xNil, wp_var, List.getElem?_cons_zero, List.getElem?_cons_succ, List.length_cons, List.length_nil]
  exact ⟨trivial, chset_ok hw h hc ⟨rfl, hw, _, frz_lo rfl, q⟩⟩
theorem chkind_ok (hw : Wf st) {k : Str} (hk : k ∈ KS) (q : Q .non st) : wp (S_check_kind [.d (.str k)]) st Q := by
  unfold S_check_kind
  refine wp_frz0 ?_
  rw [wp_runF]
  unfold m_check_kind
  simp only [startE, List.map_cons, List.map_nil, List.length_cons, List.length_nil, List.replicate, List.cons_append, List.nil_append, wp_yIf, wp_xNotB, wp_asB, wp_xFn, wp_xCons, wp_xNil, wp_var, wp_c, List.getElem?_cons_zero, List.getElem?_cons_succ]
  refine ⟨trivial, one_of_ok hw ?_⟩
  have hk2 : k ∈ [("near" : Str), ("open" : Str), ("apart" : Str), ("joined" : Str), ("once" : Str), ("double" : Str)] := hk
  simp only [decide_eq_true hk2, isB_bl, Bool.not_true, Bool.false_eq_true, if_false, wp_yNil]
  exact ⟨trivial, hw, _, frz_lo rfl, q⟩
theorem between_ok (hw : Wf st) {a : Int} (h0 : 0 ≤ a) (h9 : a ≤ 9) (q : Q (.bl true) st) : wp (S_is_between [.d (.int a), .d (.int 0), .d (.int 9)]) st Q := by
  unfold S_is_between
  refine wp_frz0 ?_
  rw [wp_runF]
  unfold m_is_between
  simp only [startE, List.map_cons, List.map_nil, List.length_cons, List.length_nil, List.replicate, List.cons_append, List.nil_append, wp_yRet, wp_xAnd, wp_xFn, wp_xCons, wp_xNil, wp_var, List.getElem?_cons_zero, List.getElem?_cons_succ]
  refine ⟨trivial, ?_⟩
  unfold S_is_whole
  refine wp_frz0 ?_
  rw [wp_runF]
  unfold m_is_whole
  have t1 : dIsi isiTb isiNb st [.int a, .ty "int"] = some (.bl true) := by
    show (kitB "int" "int").map D.bl = _
    rfl
  have t2 : dIsi isiTb isiNb st [.int a, .ty "bool"] = some (.bl false) := by
    show (kitB "int" "bool").map D.bl = _
    rfl
  have l1 : dIB (fun i j => decide (i ≤ j)) (.int 0) (.int a) = some (.bl true) := by
    show some (D.bl (decide (0 ≤ a))) = _
    rw [decide_eq_true h0]
  have l2 : dIB (fun i j => decide (i ≤ j)) (.int a) (.int 9) = some (.bl true) := by
    show some (D.bl (decide (a ≤ 9))) = _
    rw [decide_eq_true h9]
  simp only [startE, List.map_cons, List.map_nil, List.length_cons, List.length_nil, List.replicate, List.cons_append, List.nil_append, wp_yRet, wp_xAnd, wp_xNot, wp_xCall, wp_xCons, wp_xNil, wp_liftL, wp_var, wp_c, List.getElem?_cons_zero, List.getElem?_cons_succ, t1, t2, isB_bl, if_true, Bool.not_false]
  refine ⟨trivial, hw, _, frz_lo rfl, ?_⟩
  simp only [isB_bl, if_true, wp_xChain, wp_var, List.getElem?_cons_zero, List.getElem?_cons_succ, wp_lift2, l1, l2]
  exact ⟨trivial, hw, _, frz_lo rfl, q⟩
theorem chnum_ok (hw : Wf st) {a : Int} (h0 : 0 ≤ a) (h9 : a ≤ 9) (q : Q .non st) : wp (S_check_number [.d (.int a), .d (.int 0), .d (.int 9)]) st Q := by
  unfold S_check_number
  refine wp_frz0 ?_
  rw [wp_runF]
  unfold m_check_number
  simp only [startE, List.map_cons, List.map_nil, List.length_cons, List.length_nil, List.replicate, List.cons_append, List.nil_append, wp_yIf, wp_xNotB, wp_asB, wp_xFn, wp_xCons, wp_xNil, wp_var, List.getElem?_cons_zero, List.getElem?_cons_succ]
  refine ⟨trivial, between_ok hw h0 h9 ?_⟩
  simp only [isB_bl, Bool.not_true, Bool.false_eq_true, if_false, wp_yNil]
  exact ⟨trivial, hw, _, frz_lo rfl, q⟩
theorem chplace_ok (hw : Wf st) (h : IsW st w c) {y : Str} (hy : y ∈ c.ns) (q : Q .non st) : wp (S_check_place [.d w, .d (.str y)]) st Q := by
  unfold S_check_place
  refine wp_frz0 ?_
  rw [wp_runF]
  unfold m_check_place
  simp only [startE, List.map_cons, List.map_nil, List.length_cons, List.length_nil, List.replicate, List.cons_append, List.nil_append, wp_yIf, wp_xNotB, wp_asB, wp_xFn, wp_xCons, wp_xProp, wp_xNil, wp_var, wp_c, List.getElem?_cons_zero, List.getElem?_cons_succ]
  have h2 := h
  unfold IsW at h2
  rw [h2]
  refine ⟨rfl, wplaces_ok hw h ⟨trivial, one_of_ok hw ?_⟩⟩
  simp only [decide_eq_true hy, isB_bl, Bool.not_true, Bool.false_eq_true, if_false, wp_yNil]
  exact ⟨trivial, hw, _, frz_lo rfl, q⟩
end
/-- a Web is made -/
theorem webi_ok {st : List Ob} {n : Nat} {c : Cs} (hw : Wf st) (hn : st[n]? = some (.ins "Web" [] [])) (hc : c.Ok) {Q : D → List Ob → Prop} (q : Q .non (st.set n (.ins "Web" ["all_told"] [webD c]))) : wp (S_Web_ddinitdd [.d (.loc n), .d (.tup (c.ns.map .str)), .d (.tup (c.ts.map tieD))]) st Q := by
  unfold S_Web_ddinitdd
  refine wp_frz0 ?_
  rw [wp_runF]
  unfold m_Web_ddinitdd
  simp only [startE, List.map_cons, List.map_nil, List.length_cons, List.length_nil, List.replicate, List.cons_append, List.nil_append, wp_ySeq, wp_yFor, wp_itemsL, wp_xFn, wp_xCons, wp_xNil, wp_var, List.getElem?_cons_zero, List.getElem?_cons_succ]
  refine ⟨trivial, places_ok hw hc.names hc.n1 hc.n6 ?_⟩
  simp only [MM.forM, wp_pure, onNx_nx, wp_ySeq, wp_yFor, wp_itemsL, wp_xFn, wp_xCons, wp_xNil, wp_var, List.getElem?_cons_zero, List.getElem?_cons_succ, List.length_cons, List.length_nil]
  refine ⟨trivial, ties_ok hw hc.names hc.ties ?_⟩
  simp only [MM.forM, wp_pure, onNx_nx, wp_setF, wp_xTup, wp_xCons, wp_xNil, wp_var, List.getElem?_cons_zero, List.getElem?_cons_succ, List.length_cons, List.length_nil, hn]
  refine ⟨by decide, ⟨trivial, by decide⟩, ?_⟩
  have hlo : Ob.lo st.length (.ins "Web" ["all_told"] [webD c]) = true := by
    simp only [Ob.lo, D.loL, lo_web, Bool.true_and, Bool.and_true]
  exact ⟨List.length_set, hw.set hlo, _, frz_lo rfl, q⟩
/-- a Case is made -/
theorem casei_ok {st : List Ob} {n : Nat} {w : D} {c : Cs} (hw : Wf st) (hn : st[n]? = some (.ins "Case" [] [])) (hc : c.Ok) (h : IsW st w c) (hlo : D.lo st.length w = true) {Q : D → List Ob → Prop}
    (q : Q .non (st.set n (.ins "Case" ["all_of_it"] [.tup [w, .tup (c.ps.map .str), .str c.k, .int c.a, .str c.x, .int c.b]]))) : wp (S_Case_ddinitdd [.d (.loc n), .d w, .d (.tup (c.ps.map .str)), .d (.str c.k), .d (.int c.a), .d (.str c.x), .d (.int c.b)]) st Q := by
  unfold S_Case_ddinitdd
  refine wp_frz0 ?_
  rw [wp_runF]
  unfold m_Case_ddinitdd
  simp only [startE, List.map_cons, List.map_nil, List.length_cons, List.length_nil, List.replicate, List.cons_append, List.nil_append, wp_ySeq, wp_yDrop, wp_xFn, wp_xCons, wp_xNil, wp_var, List.getElem?_cons_zero, List.getElem?_cons_succ]
  refine ⟨trivial, chposts_ok hw h hc ?_⟩
  simp only [onNx_nx, wp_ySeq, wp_yDrop, wp_xFn, wp_xCons, wp_xNil, wp_var, wp_c, List.getElem?_cons_zero, List.getElem?_cons_succ, List.length_cons, List.length_nil]
  refine ⟨trivial, chkind_ok hw hc.k ⟨trivial, chnum_ok hw hc.a0 hc.a9 ⟨trivial, chplace_ok hw h hc.x ⟨trivial, chnum_ok hw hc.b0 hc.b9 ?_⟩⟩⟩⟩
  simp only [onNx_nx, wp_setF, wp_xTup, wp_xCons, wp_xNil, wp_var, List.getElem?_cons_zero, List.getElem?_cons_succ, List.length_cons, List.length_nil, hn]
  refine ⟨by decide, ⟨trivial, by decide⟩, ?_⟩
  have hob : Ob.lo st.length (.ins "Case" ["all_of_it"] [.tup [w, .tup (c.ps.map .str), .str c.k, .int c.a, .str c.x, .int c.b]]) = true := by
    simp only [Ob.lo, D.loL, D.lo, loL_strs, hlo, Bool.true_and, Bool.and_true]
  exact ⟨List.length_set, hw.set hob, _, frz_lo rfl, q⟩
end K85
set_option autoImplicit false
set_option maxRecDepth 100000
set_option maxHeartbeats 8000000
namespace K85
open PySem PySem.Spec L2 MM
abbrev webV (c : Cs) : D := .ins "Web" ["all_told"] [webD c]
abbrev caseV (c : Cs) : D := .ins "Case" ["all_of_it"] [.tup [webV c, .tup (c.ps.map .str), .str c.k, .int c.a, .str c.x, .int c.b]]
abbrev webO (c : Cs) : MM.Ob := .ins "Web" ["all_told"] [webD c]
abbrev caseO (w : D) (c : Cs) : MM.Ob := .ins "Case" ["all_of_it"] [.tup [w, .tup (c.ps.map .str), .str c.k, .int c.a, .str c.x, .int c.b]]
theorem set_last {α : Type} {l : List α} {x y : α} : (l ++ [x]).set l.length y = l ++ [y] := by
  rw [List.set_append_right _ _ (Nat.le_refl _), Nat.sub_self]
  rfl
theorem get_last {α : Type} {l : List α} {x : α} : (l ++ [x])[l.length]? = some x := by simp
theorem mkweb_ok {st : List Ob} {c : Cs} (hw : Wf st) (hc : c.Ok) {Q : D → List Ob → Prop} (q : Wf (st ++ [webO c]) → Q (.loc st.length) (st ++ [webO c])) : wp (mkM "Web" 2 S_Web_ddinitdd [.tup (c.ns.map .str), .tup (c.ts.map tieD)]) st Q := by
  refine wp_make.mpr ⟨rfl, ?_⟩
  have hw1 : Wf (st ++ [.ins "Web" [] []]) := hw.push rfl
  refine webi_ok hw1 get_last hc ?_
  rw [set_last]
  exact q (hw.push (by simp only [Ob.lo, D.loL, lo_web, Bool.true_and, Bool.and_true]))
theorem IsW.push {st : List Ob} {w : D} {c : Cs} {o : Ob} (h : IsW st w c) : IsW (st ++ [o]) w c := by
  unfold IsW at h ⊢
  cases w with
  | ins a b d => exact h
  | loc n =>
    simp only [insOf] at h ⊢
    cases e : st[n]? with
    | none => rw [e] at h; cases h
    | some x =>
      rw [e] at h
      have : (st ++ [o])[n]? = some x := by rw [List.getElem?_append_left (List.getElem?_eq_some_iff.mp e).1]; exact e
      rw [this]
      exact h
  | _ => cases h
theorem lo_up {st : List Ob} {w : D} {c : Cs} (h : IsW st w c) (hlo : D.lo st.length w = true) : D.lo (st.length + 1) w = true := by
  cases w with
  | ins a b d =>
    cases h
    show D.lo _ (webV c) = true
    simp only [D.lo, D.loL, loL_strs, loL_prs, Bool.true_and, Bool.and_true]
  | loc n =>
    simp only [D.lo] at hlo ⊢
    have := of_decide_eq_true hlo
    exact decide_eq_true (by omega)
  | _ => cases h
theorem mkcase_ok {st : List Ob} {w : D} {c : Cs} (hw : Wf st) (hc : c.Ok) (h : IsW st w c) (hlo : D.lo st.length w = true) {Q : D → List Ob → Prop} (q : Wf (st ++ [caseO w c]) → Q (.loc st.length) (st ++ [caseO w c])) : wp (mkM "Case" 6 S_Case_ddinitdd [w, .tup (c.ps.map .str), .str c.k, .int c.a, .str c.x, .int c.b]) st Q := by
  refine wp_make.mpr ⟨rfl, ?_⟩
  have hw1 : Wf (st ++ [.ins "Case" [] []]) := hw.push rfl
  have hl : D.lo (st ++ [MM.Ob.ins "Case" [] []]).length w = true := by rw [List.length_append]; exact lo_up h hlo
  refine casei_ok hw1 get_last hc h.push hl ?_
  rw [set_last]
  exact q (hw.push (by simp only [Ob.lo, D.loL, D.lo, loL_strs, lo_up h hlo, Bool.true_and, Bool.and_true]))
theorem frz_case {st : List Ob} {c : Cs} {k : Nat} : frzD (st ++ [webO c] ++ [caseO (.loc st.length) c]) st.length (k + 12) (.loc (st.length + 1)) = some (caseV c) := by
  have g1 : (st ++ [webO c] ++ [caseO (.loc st.length) c])[st.length + 1]? = some (caseO (.loc st.length) c) := by
    rw [show st.length + 1 = (st ++ [webO c]).length by simp]
    exact get_last
  have g0 : (st ++ [webO c] ++ [caseO (.loc st.length) c])[st.length]? = some (webO c) := by
    rw [List.getElem?_append_left (by simp)]
    exact get_last
  simp only [frzD]
  rw [if_neg (by omega), g1]
  simp only [frzL, frzD]
  rw [if_neg (by simp [D.loL, D.lo]), if_neg (by omega), g0]
  simp only [frzL, frzD, loL_strs, loL_prs, D.loL, D.lo, Bool.true_and, Bool.and_true, if_true, Option.map_some, Option.bind_some]
theorem cased_ok {st : List Ob} {c : Cs} (hw : Wf st) (hc : c.Ok) {Q : D → List Ob → Prop} (q : Q (caseV c) st) : wp (S_law_cased [.d (csD c)]) st Q := by
  unfold S_law_cased
  refine wp_frzS ?_
  rw [wp_runF]
  unfold m_law_cased
  have a0 : ∀ s a b d e f g, dIx s (.tup [a, b, d, e, f, g]) (.int 0) = some a := fun s a b d e f g => rfl
  have a1 : ∀ s a b d e f g, dIx s (.tup [a, b, d, e, f, g]) (.int 1) = some b := fun s a b d e f g => rfl
  have a2 : ∀ s a b d e f g, dIx s (.tup [a, b, d, e, f, g]) (.int 2) = some d := fun s a b d e f g => rfl
  have a3 : ∀ s a b d e f g, dIx s (.tup [a, b, d, e, f, g]) (.int 3) = some e := fun s a b d e f g => rfl
  have a4 : ∀ s a b d e f g, dIx s (.tup [a, b, d, e, f, g]) (.int 4) = some f := fun s a b d e f g => rfl
  have a5 : ∀ s a b d e f g, dIx s (.tup [a, b, d, e, f, g]) (.int 5) = some g := fun s a b d e f g => rfl
  have b0 : ∀ s a b, dIx s (.tup [a, b]) (.int 0) = some a := fun s a b => rfl
  have b1 : ∀ s a b, dIx s (.tup [a, b]) (.int 1) = some b := fun s a b => rfl
  simp only [startE, List.map_cons, List.map_nil, List.length_cons, List.length_nil, List.replicate, List.cons_append, List.nil_append, wp_yRet, wp_xMake, wp_xCons, wp_xNil, wp_xBin, wp_mIx, wp_var, wp_c, List.getElem?_cons_zero, a0, a1, a2, a3, a4, a5, b0, b1]
  refine mkweb_ok hw hc fun hw1 => mkcase_ok hw1 hc ?_ (by simp [D.lo]) fun hw2 => ?_
  · unfold IsW insOf
    simp only [get_last]
  · exact ⟨st, [webO c, caseO (.loc st.length) c], by simp, rfl, hw, caseV c, by
      have := frz_case (st := st) (c := c) (k := 88)
      rw [show (st ++ [webO c]).length = st.length + 1 by simp]
      exact this, q⟩
end K85
set_option autoImplicit false
set_option maxRecDepth 100000
set_option maxHeartbeats 8000000
namespace K85
open PySem PySem.Spec L2 MM
theorem okD_web {c : Cs} (hc : c.Ok) : okD (webD c) = true := by
  have h1 := okD_tup_strs (l := c.ns) fun x hx => (hc.names.g x hx).ok
  have h2 := okD_ties (l := c.ts) fun p hp => by
    have := hc.ties.mem p hp
    exact ⟨(hc.names.g _ this.1).ok, (hc.names.g _ this.2.1).ok⟩
  unfold okD at *
  rw [Bool.and_eq_true] at *
  refine ⟨by simp only [pyOk, pyOks] at *; rw [h1.1, h2.1]; rfl, ?_⟩
  have a := depthAll_strs c.ns
  have b := depthAll_ties c.ts
  simp only [toPy, toPys, toPys_strs, PyData.depth, PyData.depthAll]
  exact decide_eq_true (by omega)
theorem okD_cs {c : Cs} (hc : c.Ok) : okD (csD c) = true := by
  have h1 := okD_tup_strs (l := c.ns) fun x hx => (hc.names.g x hx).ok
  have h2 := okD_ties (l := c.ts) fun p hp => by
    have := hc.ties.mem p hp
    exact ⟨(hc.names.g _ this.1).ok, (hc.names.g _ this.2.1).ok⟩
  have h3 := okD_tup_strs (l := c.ps) fun x hx => (hc.names.g x (hc.ps.subset hx)).ok
  have h4 := (hc.names.g _ hc.x).ok
  have h5 := ks_ok _ hc.k
  unfold okD at *
  rw [Bool.and_eq_true] at *
  refine ⟨by simp only [pyOk, pyOks] at *; rw [h1.1, h2.1, h3.1, h4, h5]; rfl, ?_⟩
  have a := depthAll_strs c.ns
  have a2 := depthAll_strs c.ps
  have b := depthAll_ties c.ts
  simp only [toPy, toPys, toPys_strs, PyData.depth, PyData.depthAll]
  exact decide_eq_true (by omega)
abbrev eqC (a b : Cs) : Bool := PyData.eqv (toPy (csD a)) (toPy (csD b))
/-- what _law_same looks through -/
def SD : Nat → D → Bool
  | 0, _ => false
  | _ + 1, .int _ => true
  | _ + 1, .str x => PyData.strOk x
  | n + 1, .tup ds => decide (ds.length ≤ 1000) && ds.all (SD n)
  | _ + 1, _ => false
theorem eqv_selfD : ∀ (n : Nat) (d : D), SD n d = true → PyData.eqv (toPy d) (toPy d) = true := fun n => by
  induction n with
  | zero => intro d h; cases h
  | succ n ih =>
    intro d h
    cases d with
    | int i => show PyData.eqv (.int _) (.int _) = true; rw [eqv_int]; exact decide_eq_true rfl
    | str x => show PyData.eqv (.str _) (.str _) = true; rw [eqv_str]; exact decide_eq_true rfl
    | tup ds =>
      simp only [SD, Bool.and_eq_true, List.all_eq_true, decide_eq_true_eq] at h
      simp only [toPy, PyData.eqv]
      replace h := h.2
      induction ds with
      | nil => rfl
      | cons d ds ih2 =>
        simp only [toPys, PyData.eqvAll, Bool.and_eq_true]
        exact ⟨ih d (h d (by simp)), ih2 fun x hx => h x (by simp [hx])⟩
    | _ => cases h
theorem SD_strs {n : Nat} {l : List Str} (hl : l.length ≤ 1000) (h : ∀ x ∈ l, PyData.strOk x = true) : SD (n + 2) (.tup (l.map .str)) = true := by
  simp only [SD, Bool.and_eq_true, List.all_eq_true, decide_eq_true_eq, List.length_map]
  refine ⟨hl, fun d hd => ?_⟩
  obtain ⟨x, hx, rfl⟩ := List.mem_map.mp hd
  exact h x hx
theorem SD_ties {n : Nat} {l : List (Str × Str)} (hl : l.length ≤ 1000) (h : ∀ p ∈ l, PyData.strOk p.1 = true ∧ PyData.strOk p.2 = true) : SD (n + 3) (.tup (l.map tieD)) = true := by
  simp only [SD, Bool.and_eq_true, List.all_eq_true, decide_eq_true_eq, List.length_map]
  refine ⟨hl, fun d hd => ?_⟩
  obtain ⟨p, hp, rfl⟩ := List.mem_map.mp hd
  have := h p hp
  simp [tieD, SD, this]
theorem SD_web {n : Nat} {c : Cs} (hc : c.Ok) : SD (n + 4) (webD c) = true := by
  have h1 : SD (n + 3) (.tup (c.ns.map .str)) = true := SD_strs (n := n + 1) (by have := hc.n6; omega) fun x hx => (hc.names.g x hx).ok
  have h2 : SD (n + 3) (.tup (c.ts.map tieD)) = true := SD_ties (by have := hc.ties.len; omega) fun p hp => by
    have := hc.ties.mem p hp
    exact ⟨(hc.names.g _ this.1).ok, (hc.names.g _ this.2.1).ok⟩
  show (decide (2 ≤ 1000) && [D.tup (c.ns.map .str), .tup (c.ts.map tieD)].all (SD (n + 3))) = true
  simp [h1, h2]
theorem SD_ps {n : Nat} {c : Cs} (hc : c.Ok) : SD (n + 2) (.tup (c.ps.map .str)) = true := SD_strs (by have := hc.n6; have := hc.ps.length_le; omega) fun x hx => (hc.names.g x (hc.ps.subset hx)).ok
theorem SD_cs {n : Nat} {c : Cs} (hc : c.Ok) : SD (n + 5) (csD c) = true := by
  have h1 : SD (n + 4) (webD c) = true := SD_web hc
  have h2 : SD (n + 4) (.tup (c.ps.map .str)) = true := SD_ps (n := n + 2) hc
  have h3 : SD (n + 4) (.str c.k) = true := ks_ok _ hc.k
  have h4 : SD (n + 4) (.str c.x) = true := (hc.names.g _ hc.x).ok
  have h5 : ∀ a, SD (n + 4) (.int a) = true := fun _ => rfl
  show (decide (6 ≤ 1000) && [webD c, .tup (c.ps.map .str), .str c.k, .int c.a, .str c.x, .int c.b].all (SD (n + 4))) = true
  simp only [List.all_cons, List.all_nil, h1, h2, h3, h4, h5]
  rfl
theorem eqC_self {c : Cs} (hc : c.Ok) : eqC c c = true := eqv_selfD 5 _ (SD_cs (n := 0) hc)
theorem eqW_self {c : Cs} (hc : c.Ok) : PyData.eqv (toPy (webD c)) (toPy (webD c)) = true := eqv_selfD 4 _ (SD_web (n := 0) hc)
theorem eqv_commD : ∀ (n : Nat) (x y : D), SD n x = true → SD n y = true → PyData.eqv (toPy x) (toPy y) = PyData.eqv (toPy y) (toPy x) := fun n => by
  induction n with
  | zero => intro x y h; cases h
  | succ n ih =>
    have hl : ∀ xs ys : List D, (∀ d ∈ xs, SD n d = true) → (∀ d ∈ ys, SD n d = true) → PyData.eqvAll (toPys xs) (toPys ys) = PyData.eqvAll (toPys ys) (toPys xs) := fun xs => by
      induction xs with
      | nil => intro ys _ _; cases ys <;> simp [toPys, PyData.eqvAll]
      | cons x xs ih2 =>
        intro ys h1 h2
        cases ys with
        | nil => simp [toPys, PyData.eqvAll]
        | cons y ys =>
          simp only [toPys, PyData.eqvAll]
          rw [ih x y (h1 x (by simp)) (h2 y (by simp)), ih2 ys (fun d hd => h1 d (by simp [hd])) fun d hd => h2 d (by simp [hd])]
    intro x y hx hy
    cases x <;> cases y <;> first
      | cases hx; done
      | cases hy; done
      | (simp only [toPy, PyData.eqv]; done)
      | (simp only [toPy]; rw [eqv_int, eqv_int]; exact decide_eq_decide.mpr eq_comm)
      | (simp only [toPy]; rw [eqv_str, eqv_str]; exact decide_eq_decide.mpr eq_comm)
      | (simp only [SD, Bool.and_eq_true, List.all_eq_true, decide_eq_true_eq] at hx hy
         simp only [toPy, PyData.eqv]
         exact hl _ _ hx.2 hy.2)
theorem eqC_comm {c d : Cs} (hc : c.Ok) (hd : d.Ok) : eqC c d = eqC d c := eqv_commD 5 _ _ (SD_cs (n := 0) hc) (SD_cs (n := 0) hd)
theorem weq_ok {st : List Ob} {x y : D} {c : Cs} (hw : Wf st) (hc : c.Ok) (hx : IsW st x c) (hy : IsW st y c) {Q : D → List Ob → Prop} (q : Q (.bl true) st) : wp (S_Web_ddeqdd [.d x, .d y]) st Q := by
  unfold S_Web_ddeqdd
  refine wp_frz0 ?_
  rw [wp_runF]
  unfold m_Web_ddeqdd
  have ti := isi_own hy (.inl rfl)
  simp only [startE, List.map_cons, List.map_nil, List.length_cons, List.length_nil, List.replicate, List.cons_append, List.nil_append, wp_yRet, wp_xAnd, wp_xCall, wp_xCons, wp_xNil, wp_liftL, wp_var, wp_c, List.getElem?_cons_zero, List.getElem?_cons_succ, ti, isB_bl, if_true, wp_xBin, wp_xProp]
  have h1 := hx
  have h2 := hy
  unfold IsW at h1 h2
  rw [h1]
  refine ⟨rfl, wparts_ok hw hx ?_⟩
  rw [h2]
  refine ⟨rfl, wparts_ok hw hy ?_⟩
  rw [wp_mEq]
  have e : PyData.eqv (toPy (res st (webD c))) (toPy (res st (webD c))) = true := eqW_self hc
  rw [e]
  exact ⟨⟨okD_web hc, okD_web hc⟩, rfl, hw, _, frz_lo rfl, q⟩
theorem ceq_ok {st : List Ob} {x y w1 w2 : D} {c d : Cs} (hw : Wf st) (hc : c.Ok) (hd : d.Ok) (hx : IsC st x w1 c) (hy : IsC st y w2 d) {Q : D → List Ob → Prop} (q : Q (.bl (eqC c d)) st) : wp (S_Case_ddeqdd [.d x, .d y]) st Q := by
  unfold S_Case_ddeqdd
  refine wp_frz0 ?_
  rw [wp_runF]
  unfold m_Case_ddeqdd
  have ti := isi_own hy.1 (.inr rfl)
  simp only [startE, List.map_cons, List.map_nil, List.length_cons, List.length_nil, List.replicate, List.cons_append, List.nil_append, wp_yRet, wp_xAnd, wp_xCall, wp_xCons, wp_xNil, wp_liftL, wp_var, wp_c, List.getElem?_cons_zero, List.getElem?_cons_succ, ti, isB_bl, if_true, wp_xBin, wp_xProp]
  rw [hx.1]
  refine ⟨rfl, cparts_ok hw hx ?_⟩
  rw [hy.1]
  refine ⟨rfl, cparts_ok hw hy ?_⟩
  rw [wp_mEq]
  exact ⟨⟨okD_cs hc, okD_cs hd⟩, rfl, hw, _, frz_lo rfl, q⟩
theorem same_ok {st : List Ob} (hw : Wf st) : ∀ (n : Nat) (d : D), SD n d = true → ∀ {Q : D → List Ob → Prop}, Q (.bl true) st → wp (S_law_same n [.d d, .d d]) st Q := fun n => by
  induction n with
  | zero => intro d h; cases h
  | succ n ih =>
    intro d h Q q
    unfold S_law_same
    refine wp_frz0 ?_
    rw [wp_runF]
    unfold m_law_same
    cases d with
    | tup ds =>
      simp only [SD, Bool.and_eq_true, List.all_eq_true, decide_eq_true_eq] at h
      have ln : dLen st [.tup ds] = some (.int ds.length) := rfl
      have ee : PyData.eqv (toPy (res st (.int ds.length))) (toPy (res st (.int ds.length))) = true := by
        show PyData.eqv (.int _) (.int _) = true
        rw [eqv_int]; exact decide_eq_true rfl
      simp only [startE, List.map_cons, List.map_nil, List.length_cons, List.length_nil, List.replicate, List.cons_append, List.nil_append, wp_ySeq, wp_yIf, wp_asB, wp_xCall, wp_xCons, wp_xNil, wp_liftL, wp_var, wp_c, List.getElem?_cons_zero, List.getElem?_cons_succ, isi_tup, isB_bl, if_true, wp_xOrB, wp_xNotB, Bool.not_true, Bool.false_eq_true, if_false, wp_xBin, ln, wp_mNe, ee, wp_yNil, onNx_nx, wp_yRet, wp_xComp, wp_itemsR1]
      have hl := h.1
      refine ⟨⟨rfl, rfl⟩, by omega, by simp [rangeD]; omega, ?_⟩
      simp only [wipeE, List.set_cons_zero, List.set_cons_succ]
      refine wp_compP (p := fun _ => true) (f := fun _ => .bl true) (fun d hd => ?_) ?_
      · obtain ⟨i, hi, rfl⟩ : ∃ i : Nat, i < ds.length ∧ d = .int i := by
          simp [rangeD] at hd
          obtain ⟨i, hi, rfl⟩ := hd
          exact ⟨i, hi, rfl⟩
        have ix : dIx st (.tup ds) (.int (i : Int)) = some ds[i] := by
          rw [dIx_tup, at_nat, List.getElem?_eq_getElem hi]
        simp only [wp_zName, List.set_cons_zero, List.set_cons_succ, wp_tYes, wp_xFn, wp_xCons, wp_xNil, wp_xBin, wp_mIx, wp_var, List.getElem?_cons_zero, List.getElem?_cons_succ, ix, true_and]
        exact fun _ => ⟨rfl, ih ds[i] (h.2 _ (List.getElem_mem hi)) ⟨rfl, rfl⟩⟩
      · rw [allT (fun d hd => by
          obtain ⟨_, _, rfl⟩ := List.mem_map.mp hd
          rfl) st]
        simp only [onNx_rt]
        exact ⟨trivial, hw, _, frz_lo rfl, q⟩
    | int i =>
      have t0 : dIsi isiTb isiNb st [.int i, .ty "tuple"] = some (.bl false) := by
        show (kitB "int" "tuple").map D.bl = _
        rfl
      have t1 : dIsi isiTb isiNb st [.int i, .ty "int"] = some (.bl true) := by
        show (kitB "int" "int").map D.bl = _
        rfl
      have t2 : dIsi isiTb isiNb st [.int i, .ty "bool"] = some (.bl false) := by
        show (kitB "int" "bool").map D.bl = _
        rfl
      have ee : PyData.eqv (toPy (res st (.int i))) (toPy (res st (.int i))) = true := by
        show PyData.eqv (.int _) (.int _) = true
        rw [eqv_int]; exact decide_eq_true rfl
      simp only [startE, List.map_cons, List.map_nil, List.length_cons, List.length_nil, List.replicate, List.cons_append, List.nil_append, wp_ySeq, wp_yIf, wp_asB, wp_xCall, wp_xCons, wp_xNil, wp_liftL, wp_var, wp_c, List.getElem?_cons_zero, List.getElem?_cons_succ, t0, t1, t2, isB_bl, if_true, wp_xAnd, wp_xNot, Bool.not_false, Bool.false_eq_true, if_false, wp_xBin, wp_mEq, ee, wp_yNil, onNx_nx, onNx_rt, wp_yRet]
      exact ⟨⟨rfl, rfl⟩, trivial, hw, _, frz_lo rfl, q⟩
    | str x =>
      have t0 : dIsi isiTb isiNb st [.str x, .ty "tuple"] = some (.bl false) := by
        show (kitB "str" "tuple").map D.bl = _
        rfl
      have t1 : dIsi isiTb isiNb st [.str x, .ty "int"] = some (.bl false) := by
        show (kitB "str" "int").map D.bl = _
        rfl
      have t2 : dIsi isiTb isiNb st [.str x, .ty "bool"] = some (.bl false) := by
        show (kitB "str" "bool").map D.bl = _
        rfl
      have ee : PyData.eqv (toPy (res st (.str x))) (toPy (res st (.str x))) = true := by
        show PyData.eqv (.str _) (.str _) = true
        rw [eqv_str]; exact decide_eq_true rfl
      simp only [startE, List.map_cons, List.map_nil, List.length_cons, List.length_nil, List.replicate, List.cons_append, List.nil_append, wp_ySeq, wp_yIf, wp_asB, wp_xCall, wp_xCons, wp_xNil, wp_liftL, wp_var, wp_c, List.getElem?_cons_zero, List.getElem?_cons_succ, t0, t1, t2, isi_str, isB_bl, if_true, wp_xAnd, wp_xNot, Bool.not_false, Bool.false_eq_true, if_false, wp_xBin, wp_mEq, ee, wp_yNil, onNx_nx, onNx_rt, wp_yRet]
      exact ⟨⟨okD_str h, okD_str h⟩, trivial, hw, _, frz_lo rfl, q⟩
    | _ => cases h
end K85
set_option autoImplicit false
set_option maxRecDepth 100000
set_option maxHeartbeats 8000000
namespace K85
open PySem PySem.Spec L2 MM
theorem eqv_bool {a b : Bool} : PyData.eqv (.bool a) (.bool b) = (a == b) := by simp only [PyData.eqv]
theorem isC_val {st : List Ob} {c : Cs} : IsC st (caseV c) (webV c) c := ⟨rfl, rfl⟩
abbrev bodyR : Ev → Mo Out := (ySeq (ySet 7 (xFn 1 S_law_cased (xCons (xVar 6) xNil)))
  (yIf (xOrB (asB (xBin mNe (xBin (mEqOwn "Case" S_Case_ddeqdd) (xVar 2) (xVar 7)) (xBin mEq (xVar 6) (xVar 1)))) (asB (xBin mEq (xBin (mNeOwn "Case" S_Case_ddeqdd) (xVar 2) (xVar 7)) (xBin mEq (xVar 6) (xVar 1))))) (yRet (xC (.bl false))) yNil))
theorem loopR {st : List Ob} {c : Cs} {os : List Cs} {x0 x3 x4 x5 x6 x7 : Option A} (hw : Wf st) (hc : c.Ok) (ho : ∀ o ∈ os, o.Ok) {QO : Out → List Ob → Prop}
    (q : ∀ x6 x7, QO (.nx [x0, some (.d (csD c)), some (.d (caseV c)), x3, x4, x5, x6, x7]) st) :
    wp (forM (zName 6) bodyR (os.map csD) [x0, some (.d (csD c)), some (.d (caseV c)), x3, x4, x5, x6, x7]) st QO := by
  refine wp_forM (fun i ρ s => s = st ∧ ∃ x6 x7, ρ = [x0, some (.d (csD c)), some (.d (caseV c)), x3, x4, x5, x6, x7]) ⟨rfl, _, _, rfl⟩ ?_ ?_
  · rintro i hi ρ s ⟨rfl, x6, x7, rfl⟩
    have hio : i < os.length := by simpa using hi
    have hok := ho _ (List.getElem_mem hio)
    rw [show (os.map csD)[i] = csD os[i] by simp]
    simp only [wp_zName, List.set_cons_zero, List.set_cons_succ, wp_ySeq, wp_ySet, wp_xFn, wp_xCons, wp_xNil, wp_var, List.getElem?_cons_zero, List.getElem?_cons_succ]
    refine ⟨rfl, cased_ok hw hok ?_⟩
    rw [onNx_nx]
    simp only [List.set_cons_zero, List.set_cons_succ, wp_yIf, wp_xOrB, wp_asB, wp_xBin, wp_var, List.getElem?_cons_zero, List.getElem?_cons_succ]
    refine wp_eqOwn isC_val.1 isC_val.1 (ceq_ok hw hc hok isC_val isC_val ?_)
    simp only [isB_bl, wp_mEq, wp_mNe]
    have e1 : PyData.eqv (toPy (res s (csD os[i]))) (toPy (res s (csD c))) = eqC c os[i] := eqC_comm hok hc
    have e2 : ∀ b : Bool, PyData.eqv (toPy (res s (.bl b))) (toPy (res s (.bl b))) = true := fun b => by
      show PyData.eqv (.bool b) (.bool b) = true
      rw [eqv_bool]; simp
    have e3 : ∀ b : Bool, PyData.eqv (toPy (res s (.bl (!b)))) (toPy (res s (.bl b))) = false := fun b => by
      show PyData.eqv (.bool (!b)) (.bool b) = false
      rw [eqv_bool]; cases b <;> rfl
    rw [e1, e2]
    refine ⟨⟨okD_cs hok, okD_cs hc⟩, ⟨rfl, rfl⟩, ?_⟩
    rw [Bool.not_true, if_neg (by decide)]
    refine wp_neOwn isC_val.1 isC_val.1 (ceq_ok hw hc hok isC_val isC_val ?_)
    simp only [isB_bl, wp_mEq, e1, e3, Bool.false_eq_true, if_false, wp_yNil]
    exact ⟨⟨okD_cs hok, okD_cs hc⟩, ⟨rfl, rfl⟩, trivial, _, _, rfl⟩
  · rintro ρ s ⟨rfl, x6, x7, rfl⟩
    exact q x6 x7
end K85
set_option autoImplicit false
set_option maxRecDepth 100000
set_option maxHeartbeats 8000000
namespace K85
open PySem PySem.Spec L2 MM
theorem last_get {ns : List Str} (h : 1 ≤ ns.length) : ∃ y ∈ ns, ∀ s, dIx s (.tup (ns.map .str)) (.int (-1)) = some (.str y) := by
  rcases List.eq_nil_or_concat ns with rfl | ⟨l, y, rfl⟩
  · simp at h
  · refine ⟨y, by simp, fun s => ?_⟩
    rw [List.concat_eq_append, List.map_append, List.map_cons, List.map_nil]
    exact last_at s
theorem isW_loc {st : List Ob} {c : Cs} {n : Nat} (h : st[n]? = some (webO c)) : IsW st (.loc n) c := by
  unfold IsW
  simp only [insOf]
  rw [h]
theorem isC_loc {st : List Ob} {c : Cs} {n : Nat} {w : D} (h : st[n]? = some (caseO w c)) (hw : IsW st w c) : IsC st (.loc n) w c := by
  refine ⟨?_, hw⟩
  simp only [insOf]
  rw [h]
theorem others_ok {c c2 : Cs} {y kk : Str} {pp : List Str} (hc : c.Ok) (ha : c.a ≤ 2) (hb : c.b ≤ 6) (hc2 : c2.Ok) (hy : y ∈ c.ns) (hk : kk ∈ KS) (hp : pp.Sublist c.ns) : ∀ o ∈ [c2, { c with a := c.a + 1 }, { c with b := c.b + 1 }, { c with x := y }, { c with k := kk }, { c with ps := pp }], o.Ok := fun o ho => by
  simp only [List.mem_cons, List.not_mem_nil, or_false] at ho
  have h0a := hc.a0
  have h0b := hc.b0
  rcases ho with rfl | rfl | rfl | rfl | rfl | rfl
  · exact hc2
  · exact { hc with a0 := by show 0 ≤ c.a + 1; omega, a9 := by show c.a + 1 ≤ 9; omega }
  · exact { hc with b0 := by show 0 ≤ c.b + 1; omega, b9 := by show c.b + 1 ≤ 9; omega }
  · exact { hc with x := hy }
  · exact { hc with k := hk }
  · exact { hc with ps := hp }
theorem right_ok {st : List Ob} {n : Nat} (hw : Wf st) (h : WAt st n) {Q : D → List Ob → Prop} (q : ∀ s, Go n st s → s.length = st.length → Q (.bl true) s) : wp (S_law_right [.d (.loc n)]) st Q := by
  unfold S_law_right
  refine wp_frzW h hw ?_
  rw [wp_runF]
  unfold m_law_right
  simp only [startE, List.map_cons, List.map_nil, List.length_cons, List.length_nil, List.replicate, List.cons_append, List.nil_append, wp_ySeq, wp_ySet, wp_xFn, wp_xCons, wp_xNil, wp_xBin, wp_var, wp_c, List.getElem?_cons_zero, List.getElem?_cons_succ]
  refine ⟨trivial, draw_ok hw h (by decide) (by decide) fun r s1 hr1 hr2 g1 hs1 => ?_⟩
  obtain ⟨k, rfl⟩ := Int.eq_ofNat_of_zero_le hr1
  rw [wp_lift2, dAdd_int, show (1 : Int) + (k : Int) = ((k + 1 : Nat) : Int) by omega]
  refine ⟨trivial, case_ok g1.wf g1.wat (by omega) (by omega) fun c s2 hc ha hb hl g2 hs2 => ?_⟩
  have g12 := g1.trans g2
  have a0 : ∀ s a b d e f g, dIx s (.tup [a, b, d, e, f, g]) (.int 0) = some a := fun s a b d e f g => rfl
  have a1 : ∀ s a b d e f g, dIx s (.tup [a, b, d, e, f, g]) (.int 1) = some b := fun s a b d e f g => rfl
  have a2 : ∀ s a b d e f g, dIx s (.tup [a, b, d, e, f, g]) (.int 2) = some d := fun s a b d e f g => rfl
  have a3 : ∀ s a b d e f g, dIx s (.tup [a, b, d, e, f, g]) (.int 3) = some e := fun s a b d e f g => rfl
  have a4 : ∀ s a b d e f g, dIx s (.tup [a, b, d, e, f, g]) (.int 4) = some f := fun s a b d e f g => rfl
  have a5 : ∀ s a b d e f g, dIx s (.tup [a, b, d, e, f, g]) (.int 5) = some g := fun s a b d e f g => rfl
  have b0 : ∀ s a b, dIx s (.tup [a, b]) (.int 0) = some a := fun s a b => rfl
  have b1 : ∀ s a b, dIx s (.tup [a, b]) (.int 1) = some b := fun s a b => rfl
  rw [onNx_nx]
  simp only [List.set_cons_zero, List.set_cons_succ, wp_yPar, wp_ySeq, wp_xFn, wp_xCons, wp_xNil, wp_var, List.getElem?_cons_zero, List.getElem?_cons_succ]
  refine ⟨rfl, cased_ok g12.wf hc ?_⟩
  simp only [wp_xMake, wp_xCons, wp_xNil, wp_xBin, wp_mIx, wp_var, wp_c, List.getElem?_cons_zero, List.getElem?_cons_succ, a0, a1, b0, b1]
  refine mkweb_ok g12.wf hc fun hw3 => ?_
  have hW0 : IsW (s2 ++ [webO c]) (.loc s2.length) c := isW_loc get_last
  rw [onNx_nx]
  simp only [List.set_cons_zero, List.set_cons_succ, wp_ySeq, wp_ySet, wp_xMakeK, wp_xCons, wp_xNil, wp_xBin, wp_mIx, wp_var, wp_c, List.getElem?_cons_zero, List.getElem?_cons_succ, a0, a1, a2, a3, a4, a5]
  refine ⟨rfl, ?_⟩
  refine mkcase_ok hw3 hc hW0 (by simp [D.lo]) fun hw4 => ?_
  have g3 : Go n st (s2 ++ [webO c]) := g12.push (by simp only [MM.Ob.lo, D.loL, lo_web, Bool.true_and, Bool.and_true])
  have g4 : Go n st (s2 ++ [webO c] ++ [caseO (.loc s2.length) c]) := g3.push (by simp [MM.Ob.lo, D.loL, D.lo, loL_strs]; omega)
  have hW : IsW (s2 ++ [webO c] ++ [caseO (.loc s2.length) c]) (.loc s2.length) c := hW0.push
  have hC : IsC (s2 ++ [webO c] ++ [caseO (.loc s2.length) c]) (.loc (s2 ++ [webO c]).length) (.loc s2.length) c := isC_loc get_last hW
  generalize hs4 : s2 ++ [webO c] ++ [caseO (.loc s2.length) c] = s4 at *
  rw [onNx_nx]
  simp only [List.set_cons_zero, List.set_cons_succ, wp_ySeq, wp_yIf, wp_xOrB, wp_asB, wp_xBin, wp_xProp, wp_var, List.getElem?_cons_zero, List.getElem?_cons_succ]
  have cv : insOf s4 (caseV c) = some (("Case" : Str), [("all_of_it" : Str)], [.tup [webV c, .tup (c.ps.map .str), .str c.k, .int c.a, .str c.x, .int c.b]]) := rfl
  rw [cv]
  refine ⟨rfl, cweb_ok hw4 isC_val (by
    show D.lo _ (webV c) = true
    simp only [D.lo, D.loL, loL_strs, loL_prs, Bool.true_and, Bool.and_true]) ?_⟩
  have wv : IsW s4 (webV c) c := rfl
  have hW' := hW
  unfold IsW at hW'
  refine wp_neOwn (ns1 := [("all_told" : Str)]) (ds1 := [webD c]) rfl hW' (weq_ok hw4 hc wv hW ?_)
  simp only [isB_bl, Bool.not_true, Bool.false_eq_true, if_false, wp_xNotB, wp_asB, wp_xFn, wp_xCons, wp_xTup, wp_xProp, wp_xNil, wp_var, List.getElem?_cons_zero, List.getElem?_cons_succ]
  rw [cv]
  refine ⟨rfl, cposts_ok hw4 isC_val ?_⟩
  rw [cv]
  refine ⟨rfl, ckind_ok hw4 isC_val ?_⟩
  rw [cv]
  refine ⟨rfl, cmany_ok hw4 isC_val ?_⟩
  rw [cv]
  refine ⟨rfl, cplace_ok hw4 isC_val ?_⟩
  rw [cv]
  refine ⟨rfl, cbeats_ok hw4 isC_val ?_⟩
  rw [cv]
  refine ⟨rfl, cparts_ok hw4 isC_val ?_⟩
  rw [hC.1]
  refine ⟨rfl, cparts_ok hw4 hC ?_⟩
  have sl1 : ∀ s a b d e f g, dSlice s (.tup [a, b, d, e, f, g]) (some 1) none = some (.tup [b, d, e, f, g]) := fun s a b d e f g => rfl
  have ad : ∀ l m : List D, (l ++ m).length ≤ 1000000 → dAdd (.tup l) (.tup m) = some (.tup (l ++ m)) := fun l m h => by simp only [dAdd]; simp_all
  simp only [wp_xBin, wp_xSlice, wp_oSome, wp_oNone, wp_var, wp_c, wp_xTup, wp_xCons, wp_xNil, List.getElem?_cons_zero, List.getElem?_cons_succ, sl1, wp_lift2, ad, List.cons_append, List.nil_append, List.length_cons, List.length_nil]
  refine ⟨by decide, by decide, by decide, same_ok hw4 8 _ ?_ ?_⟩
  · have h1 : SD 7 (csD c) = true := SD_cs (n := 2) hc
    have h2 : SD 7 (.tup (c.ps.map .str)) = true := SD_ps (n := 5) hc
    have h3 : SD 7 (.str c.k) = true := ks_ok _ hc.k
    have h4 : SD 7 (.str c.x) = true := (hc.names.g _ hc.x).ok
    have h5 : ∀ a, SD 7 (.int a) = true := fun _ => rfl
    show (decide (7 ≤ 1000) && [.tup (c.ps.map .str), .str c.k, .int c.a, .str c.x, .int c.b, csD c, csD c].all (SD 7)) = true
    simp only [List.all_cons, List.all_nil, h1, h2, h3, h4, h5]
    rfl
  simp only [isB_bl, Bool.not_true, Bool.false_eq_true, if_false, wp_yNil, onNx_nx, wp_ySeq, wp_ySet, wp_xLst, wp_xCons, wp_xFn, wp_var, wp_c, wp_xCall, wp_liftL, wp_xBin, wp_mIx, wp_xNil, List.getElem?_cons_zero, List.getElem?_cons_succ, a0, b0]
  have ln : dLen s4 [.tup (c.ns.map .str)] = some (.int c.ns.length) := by
    show some (D.int ((c.ns.map D.str).length : Nat)) = _
    rw [List.length_map]
  rw [ln]
  refine ⟨rfl, case_ok hw4 g4.wat hc.n1 hc.n6 fun c2 s5 hc2 _ _ _ g5 hs5 => ?_⟩
  have g45 := g4.trans g5
  have p3 : ∀ s a b d e f g, dSlice s (.tup [a, b, d, e, f, g]) none (some 3) = some (.tup [a, b, d]) := fun s a b d e f g => rfl
  have p1 : ∀ s a b d e f g, dSlice s (.tup [a, b, d, e, f, g]) none (some 1) = some (.tup [a]) := fun s a b d e f g => rfl
  have p2 : ∀ s a b d e f g, dSlice s (.tup [a, b, d, e, f, g]) none (some 2) = some (.tup [a, b]) := fun s a b d e f g => rfl
  have p4 : ∀ s a b d e f g, dSlice s (.tup [a, b, d, e, f, g]) none (some 4) = some (.tup [a, b, d, e]) := fun s a b d e f g => rfl
  have p5 : ∀ s a b d e f g, dSlice s (.tup [a, b, d, e, f, g]) none (some 5) = some (.tup [a, b, d, e, f]) := fun s a b d e f g => rfl
  have q2 : ∀ s a b d e f g, dSlice s (.tup [a, b, d, e, f, g]) (some 2) none = some (.tup [d, e, f, g]) := fun s a b d e f g => rfl
  have q3 : ∀ s a b d e f g, dSlice s (.tup [a, b, d, e, f, g]) (some 3) none = some (.tup [e, f, g]) := fun s a b d e f g => rfl
  have q4 : ∀ s a b d e f g, dSlice s (.tup [a, b, d, e, f, g]) (some 4) none = some (.tup [f, g]) := fun s a b d e f g => rfl
  have q5 : ∀ s a b d e f g, dSlice s (.tup [a, b, d, e, f, g]) (some 5) none = some (.tup [g]) := fun s a b d e f g => rfl
  obtain ⟨y, hy, hlast⟩ := last_get hc.n1
  have hneg : dNeg (.int 1) = some (.int (-1)) := rfl
  have adl : ∀ l m : List D, (l ++ m).length ≤ 1000000 → dAdd (.lst l) (.lst m) = some (.lst (l ++ m)) := fun l m h => by simp only [dAdd]; simp_all
  simp only [wp_xSlice, wp_oSome, wp_oNone, wp_var, wp_c, wp_xTup, wp_xCons, wp_xNil, wp_xBin, wp_mIx, wp_xNeg, hneg, List.getElem?_cons_zero, List.getElem?_cons_succ, p3, p4, p5, q4, q5, a0, b0, a3, a5, hlast, wp_lift2, dAdd_int, ad, List.cons_append, List.nil_append, List.length_cons, List.length_nil]
  refine ⟨by decide, by decide, by decide, by decide, ?_⟩
  simp only [List.set_cons_zero, List.set_cons_succ, List.getElem?_cons_zero, List.getElem?_cons_succ, p1, p2, q2, q3, a0, a1, a2, b0, wp_xIf, wp_asB, wp_xBin, wp_mIx, wp_mNe, wp_var, wp_c, List.cons_append, List.nil_append]
  have hnl : n < s2.length := by have := h.lt; have := g12.le; omega
  have l4 : s4.length = s2.length + 2 := by rw [← hs4]; simp
  have hg0 : s4[s2.length]? = some (webO c) := by
    rw [← hs4, List.getElem?_append_left (by simp)]
    exact get_last
  have hg1 : s4[(s2 ++ [webO c]).length]? = some (caseO (.loc s2.length) c) := by
    rw [← hs4]
    exact get_last
  have hl1 : (s2 ++ [webO c]).length = s2.length + 1 := by simp
  have hC5 : IsC s5 (.loc (s2 ++ [webO c]).length) (.loc s2.length) c := isC_loc ((g5.old _ (by omega) (by omega)).trans hg1) (isW_loc ((g5.old _ (by omega) (by omega)).trans hg0))
  refine ⟨⟨okD_str (ks_ok _ hc.k), okD_str (by decide +kernel)⟩, ?_⟩
  have okp : okD (res s5 (.tup (c.ps.map .str))) = true := okD_tup_strs (l := c.ps) fun x hx => (hc.names.g x (hc.ps.subset hx)).ok
  have okn : okD (res s5 (.tup (c.ns.map .str))) = true := okD_tup_strs (l := c.ns) fun x hx => (hc.names.g x hx).ok
  rw [isB_bl]
  split
  · try simp only [ad, adl, List.cons_append, List.nil_append, List.length_cons, List.length_nil]
    refine ⟨by decide, ⟨okp, okn⟩, ?_⟩
    rw [isB_bl]
    split
    · simp only [ad, adl, List.cons_append, List.nil_append, List.length_cons, List.length_nil]
      refine ⟨by decide, by decide, ?_⟩
      simp only [wp_yFor, wp_itemsL, wp_var, List.getElem?_cons_zero, List.getElem?_cons_succ]
      refine loopR (os := [c2, { c with a := c.a + 1 }, { c with b := c.b + 1 }, { c with x := y }, { c with k := "open" }, { c with ps := c.ns }]) g45.wf hc (others_ok hc ha hb hc2 hy (by decide +kernel) (List.Sublist.refl _)) fun x6 x7 => ?_
      rw [onNx_nx]
      simp only [wp_ySeq, wp_yIf, wp_xNotB, wp_asIns, wp_var, List.getElem?_cons_zero, List.getElem?_cons_succ]
      refine ⟨rfl, ?_⟩
      simp only [Bool.not_true, Bool.false_eq_true, if_false, wp_yNil, onNx_nx, wp_yRet, wp_xAnd, wp_xBin, wp_var, List.getElem?_cons_zero, List.getElem?_cons_succ]
      refine wp_eqOwn isC_val.1 hC5.1 (ceq_ok g45.wf hc hc isC_val hC5 ?_)
      simp only [eqC_self hc, isB_bl, if_true, wp_xNot, wp_xBin, wp_var, List.getElem?_cons_zero, List.getElem?_cons_succ]
      refine wp_neOwn isC_val.1 hC5.1 (ceq_ok g45.wf hc hc isC_val hC5 ?_)
      simp only [eqC_self hc, isB_bl, Bool.not_true, Bool.not_false]
      exact ⟨g45, _, frz_lo rfl, fun s' g' hs' => q s' g' hs'⟩
    · simp only [wp_xTup, wp_xNil, ad, adl, List.cons_append, List.nil_append, List.length_cons, List.length_nil]
      refine ⟨by decide, by decide, by decide, ?_⟩
      simp only [wp_yFor, wp_itemsL, wp_var, List.getElem?_cons_zero, List.getElem?_cons_succ]
      refine loopR (os := [c2, { c with a := c.a + 1 }, { c with b := c.b + 1 }, { c with x := y }, { c with k := "open" }, { c with ps := [] }]) g45.wf hc (others_ok hc ha hb hc2 hy (by decide +kernel) (List.nil_sublist _)) fun x6 x7 => ?_
      rw [onNx_nx]
      simp only [wp_ySeq, wp_yIf, wp_xNotB, wp_asIns, wp_var, List.getElem?_cons_zero, List.getElem?_cons_succ]
      refine ⟨rfl, ?_⟩
      simp only [Bool.not_true, Bool.false_eq_true, if_false, wp_yNil, onNx_nx, wp_yRet, wp_xAnd, wp_xBin, wp_var, List.getElem?_cons_zero, List.getElem?_cons_succ]
      refine wp_eqOwn isC_val.1 hC5.1 (ceq_ok g45.wf hc hc isC_val hC5 ?_)
      simp only [eqC_self hc, isB_bl, if_true, wp_xNot, wp_xBin, wp_var, List.getElem?_cons_zero, List.getElem?_cons_succ]
      refine wp_neOwn isC_val.1 hC5.1 (ceq_ok g45.wf hc hc isC_val hC5 ?_)
      simp only [eqC_self hc, isB_bl, Bool.not_true, Bool.not_false]
      exact ⟨g45, _, frz_lo rfl, fun s' g' hs' => q s' g' hs'⟩
  · try simp only [ad, adl, List.cons_append, List.nil_append, List.length_cons, List.length_nil]
    refine ⟨by decide, ⟨okp, okn⟩, ?_⟩
    rw [isB_bl]
    split
    · simp only [ad, adl, List.cons_append, List.nil_append, List.length_cons, List.length_nil]
      refine ⟨by decide, by decide, ?_⟩
      simp only [wp_yFor, wp_itemsL, wp_var, List.getElem?_cons_zero, List.getElem?_cons_succ]
      refine loopR (os := [c2, { c with a := c.a + 1 }, { c with b := c.b + 1 }, { c with x := y }, { c with k := "once" }, { c with ps := c.ns }]) g45.wf hc (others_ok hc ha hb hc2 hy (by decide +kernel) (List.Sublist.refl _)) fun x6 x7 => ?_
      rw [onNx_nx]
      simp only [wp_ySeq, wp_yIf, wp_xNotB, wp_asIns, wp_var, List.getElem?_cons_zero, List.getElem?_cons_succ]
      refine ⟨rfl, ?_⟩
      simp only [Bool.not_true, Bool.false_eq_true, if_false, wp_yNil, onNx_nx, wp_yRet, wp_xAnd, wp_xBin, wp_var, List.getElem?_cons_zero, List.getElem?_cons_succ]
      refine wp_eqOwn isC_val.1 hC5.1 (ceq_ok g45.wf hc hc isC_val hC5 ?_)
      simp only [eqC_self hc, isB_bl, if_true, wp_xNot, wp_xBin, wp_var, List.getElem?_cons_zero, List.getElem?_cons_succ]
      refine wp_neOwn isC_val.1 hC5.1 (ceq_ok g45.wf hc hc isC_val hC5 ?_)
      simp only [eqC_self hc, isB_bl, Bool.not_true, Bool.not_false]
      exact ⟨g45, _, frz_lo rfl, fun s' g' hs' => q s' g' hs'⟩
    · simp only [wp_xTup, wp_xNil, ad, adl, List.cons_append, List.nil_append, List.length_cons, List.length_nil]
      refine ⟨by decide, by decide, by decide, ?_⟩
      simp only [wp_yFor, wp_itemsL, wp_var, List.getElem?_cons_zero, List.getElem?_cons_succ]
      refine loopR (os := [c2, { c with a := c.a + 1 }, { c with b := c.b + 1 }, { c with x := y }, { c with k := "once" }, { c with ps := [] }]) g45.wf hc (others_ok hc ha hb hc2 hy (by decide +kernel) (List.nil_sublist _)) fun x6 x7 => ?_
      rw [onNx_nx]
      simp only [wp_ySeq, wp_yIf, wp_xNotB, wp_asIns, wp_var, List.getElem?_cons_zero, List.getElem?_cons_succ]
      refine ⟨rfl, ?_⟩
      simp only [Bool.not_true, Bool.false_eq_true, if_false, wp_yNil, onNx_nx, wp_yRet, wp_xAnd, wp_xBin, wp_var, List.getElem?_cons_zero, List.getElem?_cons_succ]
      refine wp_eqOwn isC_val.1 hC5.1 (ceq_ok g45.wf hc hc isC_val hC5 ?_)
      simp only [eqC_self hc, isB_bl, if_true, wp_xNot, wp_xBin, wp_var, List.getElem?_cons_zero, List.getElem?_cons_succ]
      refine wp_neOwn isC_val.1 hC5.1 (ceq_ok g45.wf hc hc isC_val hC5 ?_)
      simp only [eqC_self hc, isB_bl, Bool.not_true, Bool.not_false]
      exact ⟨g45, _, frz_lo rfl, fun s' g' hs' => q s' g' hs'⟩
end K85
set_option autoImplicit false
set_option maxRecDepth 100000
set_option maxHeartbeats 8000000
namespace K85
open PySem PySem.Spec L2 MM
theorem cut_ints {ns : List Int} {lo hi : Option Int} : ∃ ms : List Int, cutD (ns.map D.int) lo hi = ms.map D.int := by
  unfold cutD
  exact ⟨_, by rw [← List.map_drop, ← List.map_take]⟩
theorem slice_ints {st : List Ob} {ns : List Int} {d : D} (hd : d = .ro (ns.map D.int) ∨ d = .lst (ns.map D.int)) {lo hi : Option Int} : ∃ ms : List Int, dSlice st d lo hi = some (.lst (ms.map D.int)) := by
  obtain ⟨ms, h⟩ := cut_ints (ns := ns) (lo := lo) (hi := hi)
  refine ⟨ms, ?_⟩
  rcases hd with rfl | rfl <;> simp [dSlice, lstItems, res, h]
theorem dLt_int {i j : Int} : dLt (.int i) (.int j) = some (.bl (decide (i < j))) := rfl
theorem well_ok {st : List Ob} {ns : List Int} {d : D} (hd : d = .ro (ns.map D.int) ∨ d = .lst (ns.map D.int)) (k : Nat) {Q : D → List Ob → Prop}
    (q : ∀ a b : Int, Q (.loc st.length) (st ++ [W3 a b 0])) : wp (S_law_well [.d d, .d (.int (k : Int))]) st Q := by
  unfold S_law_well
  rw [wp_runF]
  unfold m_law_well
  have p1 : (0 : Int) < 2147483587 := by decide
  have p2 : (0 : Int) < 2147483549 := by decide
  have c1 : ∀ x : Int, cMul x 48271 := fun x => cMul_r (by decide)
  have c2 : ∀ x : Int, cMul x 53 := fun x => cMul_r (by decide)
  have c3 : ∀ x : Int, cMul x 15013 := fun x => cMul_r (by decide)
  have c4 : ∀ x : Int, cMul 6121 x := fun x => cMul_l (by decide)
  have c5 : cPow 10 15 := by decide
  obtain ⟨ms, hs⟩ := slice_ints (st := st) hd (lo := none) (hi := some 16)
  simp only [startE, List.map_cons, List.map_nil, List.length_cons, List.length_nil, List.replicate, List.cons_append, List.nil_append, wp_ySeq, wp_ySet, wp_xBin, wp_var, wp_c, List.getElem?_cons_zero, List.getElem?_cons_succ, wp_lift2, dI_int, dAdd_int, c4, if_true, List.set_cons_zero, List.set_cons_succ, onNx_nx, wp_yFor, wp_itemsL, wp_xSlice, wp_oNone, wp_oSome, hs]
  refine wp_forM (fun i ρ s => s = st ∧ ∃ (x : Int) (o : Option A), ρ = [some (.d d), some (.d (.int (k : Int))), some (.d (.int x)), o, none]) ⟨rfl, _, _, rfl⟩ ?_ ?_
  · rintro i hi ρ s ⟨rfl, x, o, rfl⟩
    have e : (ms.map D.int)[i] = .int (ms[i]'(by simpa using hi)) := by simp
    rw [e]
    simp only [wp_zName, List.set_cons_zero, List.set_cons_succ, wp_ySet, wp_xBin, wp_xCall, wp_xCons, wp_xNil, wp_var, wp_c, List.getElem?_cons_zero, List.getElem?_cons_succ, wp_lift2, wp_liftL, dInt_int, dI_int, dAdd_int, p1, p2, c1, if_true]
    exact ⟨trivial, _, _, rfl⟩
  · rintro ρ s ⟨rfl, x, o, rfl⟩
    have hln : ∀ s, dLen s [d] = some (.int ns.length) := fun s => by rcases hd with rfl | rfl <;> simp [dLen, seqItems, res]
    have fin : ∀ (a b : Int), wp (xLstM (xCons (xIf (xOrB (asB (xBin mLt (xVar 4) (xC (.int 0)))) (asB (xBin mGe (xVar 4) (xBin mPow (xC (.int 10)) (xC (.int 15)))))) (xCall (liftL dAbs) (xCons (xVar 4) xNil)) (xC (.int 0))) (xCons (xVar 2) (xCons (xC (.int 0)) xNil))) [some (.d d), some (.d (.int (k : Int))), some (.d (.int b)), o, some (.d (.int a))]) s Q := fun a b => by
      simp only [wp_xLstM, wp_xCons, wp_xNil, wp_xIf, wp_xOrB, wp_asB, wp_xBin, wp_xCall, wp_var, wp_c, List.getElem?_cons_zero, List.getElem?_cons_succ, wp_lift2, wp_liftL, dLt_int, dIB_int, dI_int, dAbs, c5, if_true, isB_bl, List.length_cons, List.length_nil]
      split
      · exact ⟨by decide, q _ _⟩
      · split
        · exact ⟨by decide, q _ _⟩
        · exact ⟨by decide, q _ _⟩
    by_cases hk : k < ns.length
    · have hx : dIx s d (.int (k : Int)) = some (.int ns[k]) := by
        have e2 : atI (ns.map D.int) (k : Int) = some (.int ns[k]) := by
          unfold atI ixN
          simp [hk]
        rcases hd with rfl | rfl
        · simp [dIx, seqItems, res, e2]
        · simp [dIx, seqItems, res, e2]
      simp only [wp_ySeq, wp_ySet, wp_xIf, wp_asB, wp_xBin, wp_xCall, wp_xCons, wp_xNil, wp_var, wp_c, List.getElem?_cons_zero, List.getElem?_cons_succ, wp_lift2, wp_liftL, hln, dLt_int, isB_bl, wp_mIx, hx, dInt_int, decide_eq_true (show (k : Int) < (ns.length : Int) by omega), if_true, List.set_cons_zero, List.set_cons_succ, onNx_nx, dI_int, dAdd_int, p1, p2, c2, c3, wp_yRet]
      exact fin _ _
    · simp only [wp_ySeq, wp_ySet, wp_xIf, wp_asB, wp_xBin, wp_xCall, wp_xCons, wp_xNil, wp_var, wp_c, List.getElem?_cons_zero, List.getElem?_cons_succ, wp_lift2, wp_liftL, hln, dLt_int, isB_bl, dInt_int, decide_eq_false (show ¬ (k : Int) < (ns.length : Int) by omega), if_true, Bool.false_eq_true, if_false, List.set_cons_zero, List.set_cons_succ, onNx_nx, dI_int, dAdd_int, p1, p2, c2, c3, wp_yRet]
      exact fin _ _
theorem law_ok {ns : List Int} {d : D} (hd : d = .ro (ns.map D.int) ∨ d = .lst (ns.map D.int)) (hl : ns.length ≤ 63) : wp (S_law [.d d]) [] fun e _ => e = .bl true := by
  unfold S_law
  refine wp_frzS ?_
  rw [wp_runF]
  unfold m_law
  have hln : ∀ s, dLen s [d] = some (.int ns.length) := fun s => by rcases hd with rfl | rfl <;> simp [dLen, seqItems, res]
  obtain ⟨L, hL1, hL3, hL⟩ : ∃ L : Nat, 1 ≤ L ∧ L ≤ 3 ∧ ∀ s, (match dMin2 s [.int ns.length, .int 3] with | some m => dMax2 s [.int 1, m] | none => none) = some (.int L) := by
    refine ⟨max 1 (min ns.length 3), by omega, by omega, fun s => ?_⟩
    simp only [dMin2, dMax2]
    congr 2
    split <;> split <;> omega
  simp only [dMin2] at hL
  simp only [startE, List.map_cons, List.map_nil, List.length_cons, List.length_nil, List.replicate, List.cons_append, List.nil_append, wp_ySeq, wp_ySet, wp_xComp, wp_itemsR1, wp_xCons, wp_xNil, wp_xCall, wp_liftL, wp_var, wp_c, List.getElem?_cons_zero, List.getElem?_cons_succ, hln, dMin2, hL]
  refine ⟨⟨by omega, by omega⟩, by simp [rangeD]; omega, ?_⟩
  simp only [wipeE, List.set_cons_zero, List.set_cons_succ]
  have hr : ∀ (n i : Nat) (h : i < (rangeD 0 n).length), (rangeD 0 n)[i] = .int (i : Int) := fun n i h => by simp [rangeD]
  refine wp_compM (fun i acc s => acc = (List.range i).map D.loc ∧ s.length = i ∧ Wf s ∧ ∀ m, m < i → WAt s m) ⟨rfl, rfl, rfl, fun m hm => absurd hm (Nat.not_lt_zero _)⟩ ?_ ?_
  · rintro i hi acc s ⟨rfl, hs, hw, hat⟩
    rw [hr]
    simp only [wp_zName, List.set_cons_zero, List.set_cons_succ, wp_tYes, if_true, wp_xFn, wp_xCons, wp_xNil, wp_var, List.getElem?_cons_zero, List.getElem?_cons_succ, List.map_cons, List.map_nil]
    refine ⟨rfl, well_ok hd i fun a b => ⟨?_, by simp [hs], hw.push w3_lo, fun m hm => ?_⟩⟩
    · rw [List.range_succ, List.map_append, hs]
      rfl
    · by_cases hmi : m < i
      · obtain ⟨x, y, z, e⟩ := hat m hmi
        exact ⟨x, y, z, by rw [List.getElem?_append_left (by omega)]; exact e⟩
      · have : m = s.length := by omega
        subst this
        exact ⟨a, b, 0, get_last⟩
  · rintro acc s ⟨hacc, hs, hw, hat⟩
    have hlen : (rangeD 0 (L : Int).toNat).length = L := by simp [rangeD]
    rw [hlen] at hacc hs hat
    subst hacc
    simp only [onNx_nx, List.set_cons_zero, List.set_cons_succ, wp_yRet, wp_xCall, wp_xCons, wp_xNil, wp_liftL, wp_xComp, wp_itemsR1, wp_c]
    refine ⟨⟨by decide, by decide⟩, by simp [rangeD], ?_⟩
    simp only [wipeE, List.set_cons_zero, List.set_cons_succ]
    refine wp_compM (fun i acc s => (∀ e ∈ acc, e = .bl true) ∧ s.length = L ∧ Wf s ∧ ∀ m, m < L → WAt s m) ⟨fun e he => (by cases he), hs, hw, hat⟩ ?_ ?_
    · rintro i hi acc s ⟨ha, hs, hw, hat⟩
      rw [hr]
      have hmod : (i : Int) % (L : Int) = ((i % L : Nat) : Int) := by omega
      have hix : dIx s (.lst ((List.range L).map D.loc)) (.int ((i % L : Nat) : Int)) = some (.loc (i % L)) := by
        rw [dIx_lst, at_nat, List.getElem?_map, List.getElem?_range (Nat.mod_lt _ (show 0 < L by omega))]
        rfl
      have hln2 : dLen s [.lst ((List.range L).map D.loc)] = some (.int (L : Int)) := by simp [dLen, seqItems, res]
      have hpos : (0 : Int) < (L : Int) := by omega
      simp only [wp_zName, List.set_cons_zero, List.set_cons_succ, wp_tYes, if_true, wp_xFn, wp_xCons, wp_xNil, wp_xBin, wp_xCall, wp_liftL, wp_mIx, wp_lift2, wp_var, List.getElem?_cons_zero, List.getElem?_cons_succ, dInt_int, hln2, dI_int, hpos, hmod, hix, List.map_cons, List.map_nil]
      have hm := Nat.mod_lt i (show 0 < L by omega)
      refine ⟨rfl, right_ok hw (hat _ hm) fun s' g hs' => ⟨fun e he => ?_, hs'.trans hs, g.wf, fun m hm2 => ?_⟩⟩
      · rcases List.mem_append.mp he with he | he
        · exact ha e he
        · exact List.mem_singleton.mp he
      · by_cases e : m = i % L
        · subst e; exact g.wat
        · obtain ⟨x, y, z, e1⟩ := hat m hm2
          exact ⟨x, y, z, (g.old m (by omega) e).trans e1⟩
    · rintro acc s ⟨ha, hs, hw, hat⟩
      rw [allT ha]
      dsimp only
      exact ⟨[], s, rfl, rfl, rfl, _, frz_lo rfl, rfl⟩
theorem math (ns : List Int) (hl : ns.length ≤ 63) (hb : ∀ z ∈ ns, Builtin.Int.intBits z ≤ 1048576) (d : D) (hd : d = .ro (ns.map D.int) ∨ d = .lst (ns.map D.int)) : ∃ st, S_law [.d d] [] = some (.bl true, st) := by
  obtain ⟨e, s, h, rfl⟩ := law_ok hd hl
  exact ⟨s, h⟩
end K85
set_option maxRecDepth 100000
set_option maxHeartbeats 0
open PySem PySem.W PySem.Calls PyProof.Rows
theorem PySem.Challenge.cw_watchposts_k85_whole_cases_made_holds : PySem.Challenge.rw_watchposts_k85_whole_cases_made.Holds := by
  w_on; o_law
  refine HandSHeadRun.head_any (r := OpenLaw.row PySem.Challenge.rw_watchposts_k85_whole_cases_made) (q := view (OpenLaw.row PySem.Challenge.rw_watchposts_k85_whole_cases_made).prog [69]) (H := K85.hk) (ob := K85.ob) (M := 9000) (loose := K85.loose) (d := HandSHeadRun.topDef (OpenLaw.row PySem.Challenge.rw_watchposts_k85_whole_cases_made).prog 69) (kwd := []) K85.ob_eq
    (by kernel_rfl) (fun s => by kernel_rfl) K85.run (by kernel_rfl) (by kernel_rfl) (by kernel_rfl) (by rfl) (by first | assumption | decide +kernel) (by decide +kernel) ⟨rfl, rfl, rfl, rfl, rfl, by decide +kernel⟩ ?hw ?hc
  case hw => w_witness2
  case hc =>
    refine LamX.walk_ofTsE (l := PySem.Challenge.rw_watchposts_k85_whole_cases_made) (n := 63) (k := 30) (x := "script") (CX := fun _ => C8.CX0) rfl (by decide) (by kernel_rfl) ⟨rfl, by decide, by decide⟩ ?F (fun _ _ _ _ _ z => z)
    intro w mg fa h Y G hmg0
    obtain ⟨K, KX, c⟩ := Y
    have hmg : mg ("law" : PySem.Str) = some (.ref fa) := by
      have e : (HandSHeadRun.topDef (OpenLaw.row PySem.Challenge.rw_watchposts_k85_whole_cases_made).prog 69).name = ("law" : PySem.Str) := by kernel_rfl
      rw [← e]
      exact hmg0
    exact ⟨K, KX, K85.law_at KX G hmg c K85.math⟩
