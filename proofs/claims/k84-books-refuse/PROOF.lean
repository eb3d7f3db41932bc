import PyProof.Rows.All
import Wide.All
import OpenK.AllK
import Wide.FinOn
import PySem.Challenge.RW_watchposts_k84_books_refuse
import KE.KStateDown
import HandS.ForMost
import HandS.Exc
import HandS.Codes
import HandS.Lambda
import HandS.Nested
import HandS.NestedK
import HandS.Defaults
import HandS.Property
import HandS.TupAny
import HandS.Wide
import HandS.Star
import HandS.TupLe
import HandS.DictComp
import KE.GoesEnum
import HandS.Text
import HandS.Deep
import HandS.IsInst
import HandS.WideBits
import KE.SortData
import KE.KLam
import HandS.OwnEq
import HandS.MakeKwOnly
import PyProof.InstNe
import HandS.Conv
import HandS.Words
import HandS.Style
import PyProof.StrOps2
import HandS.Head2
import HandS.HeadHook4
import HandS.HeadWalk
import KE.KExcSuper
import KE.KSuper
import HandS.ExcInit
import HandS.ExcField
import HandS.ExcOwn
import KE.KExcIs
import HandS.ExcIs
import PyProof.DictUpdate
import PyProof.DictDisplay
import HandS.More
import HandS.TupMul
import PyProof.P3In
import PyProof.WalkInts
import PyProof.EqAt
import HandS.Head0
import HandS.Head1
import HandS.HeadHook1
import HandS.HeadHook2
set_option Elab.async false
set_option linter.all false
set_option autoImplicit false
set_option maxRecDepth 100000
set_option maxHeartbeats 4000000
/-! M1: data, their place in the abstract heap, judgements. -/
namespace MM
open PySem PySem.Spec PyProof.Rows L2 LamX NdefX

/-- data -/
inductive D where
  | non | bl (b : Bool) | int (i : Int) | str (x : Str)
  | tup (ds : List D) | lst (ds : List D) | ro (ds : List D)
  | ins (c : Str) (ns : List Str) (ds : List D)
  | dct (ks : List L2.Key) (ds : List D)
  | loc (n : Nat)
  | ty (n : String)
  | cls (c : Str)
instance : Inhabited D := ⟨.non⟩
/-- what stands in the store and may change -/
inductive Ob where
  | lst (ds : List D)
  | ins (c : Str) (ns : List Str) (ds : List D)
  | dK (ks : List L2.Key) (ds : List D)
instance : Inhabited Ob := ⟨.lst []⟩
/-- a slot's value: a datum, or a lambda with what it captured -/
inductive A where
  | d (x : D)
  | clo (k : Nat) (caps : List D)
abbrev Ev := List (Option A)
abbrev Mo (α : Type) := List Ob → Option (α × List Ob)
def Mo.pure {α : Type} (a : α) : Mo α := fun s => some (a, s)
def Mo.bind {α β : Type} (m : Mo α) (f : α → Mo β) : Mo β := fun s => match m s with
  | some (a, s') => f a s'
  | none => none
def Mo.fail {α : Type} : Mo α := fun _ => none
theorem Mo.bind_some {α β : Type} {m : Mo α} {f : α → Mo β} {s s' : List Ob} {r : β} (h : m.bind f s = some (r, s')) : ∃ a s1, m s = some (a, s1) ∧ f a s1 = some (r, s') := by
  unfold Mo.bind at h
  cases e : m s with
  | none => rw [e] at h; cases h
  | some p => obtain ⟨a, s1⟩ := p; rw [e] at h; exact ⟨a, s1, rfl, h⟩
theorem Mo.pure_some {α : Type} {a b : α} {s s' : List Ob} (h : Mo.pure a s = some (b, s')) : b = a ∧ s' = s := by
  unfold Mo.pure at h
  cases h
  exact ⟨rfl, rfl⟩
inductive Out where
  | nx (ρ : Ev) | rt (d : D) | bk (ρ : Ev) | ct (ρ : Ev)

/-- never written -/
def Imm : HO → Prop
  | .tup _ => True
  | .frz _ _ => True
  | .ext _ => True
  | .xd _ => True
  | _ => False

/-- what is known of the program around: the classes' addresses, the tables of code objects, the lambdas -/
structure G where
  ca : Str → Addr
  T : List NTab
  clo : Hp → Nat → V → List (Addr × V) → Prop
  cloK : ∀ (H H' : Hp) k v cs, clo H k v cs → (∀ b o, H b = some o → Imm o → H' b = some o) → clo H' k v cs

mutual
inductive Rp (K : PySem.W.Frag) (ca : Str → Addr) (av μ : List Addr) (H : Hp) : V → D → Prop
  | non : Rp K ca av μ H .non .non
  | bl (b : Bool) : Rp K ca av μ H (.bl b) (.bl b)
  | int (i : Int) : Rp K ca av μ H (.int i) (.int i)
  | str (x : Str) : Rp K ca av μ H (.str x) (.str x)
  | tup {a : Addr} {xs : List V} {ds : List D} : SqT K H a xs → RpL K ca av μ H xs ds → Rp K ca av μ H (.ref a) (.tup ds)
  | lst {a : Addr} {xs : List V} {ds : List D} : H a = some (.lst xs) → a ∉ av → a ∉ μ → RpL K ca av μ H xs ds → Rp K ca av μ H (.ref a) (.lst ds)
  | ro {a : Addr} {xs : List V} {ds : List D} : ((∃ o, H a = some (.frz o (.lst xs))) ∨ SqL K (fun _ => none) a xs) → RpL K ca av μ H xs ds → Rp K ca av μ H (.ref a) (.ro ds)
  | ins {a dx : Addr} {c : Str} {fv : List (Str × V)} {ds : List D} : H a = some (.ins (ca c) dx fv) → a ∉ av → a ∉ μ → RpL K ca av μ H (fv.map (·.2)) ds → Rp K ca av μ H (.ref a) (.ins c (fv.map (·.1)) ds)
  | dct {a : Addr} {kvs : List (L2.Key × V)} {ds : List D} : H a = some (.dK kvs) → a ∉ av → a ∉ μ → RpL K ca av μ H (kvs.map (·.2)) ds → Rp K ca av μ H (.ref a) (.dct (kvs.map (·.1)) ds)
  | loc {n : Nat} {a : Addr} : μ[n]? = some a → Rp K ca av μ H (.ref a) (.loc n)
  | ty (n : String) : Rp K ca av μ H (.ty n) (.ty n)
  | cls (c : Str) : Rp K ca av μ H (.ref (ca c)) (.cls c)
inductive RpL (K : PySem.W.Frag) (ca : Str → Addr) (av μ : List Addr) (H : Hp) : List V → List D → Prop
  | nil : RpL K ca av μ H [] []
  | cons {v : V} {vs : List V} {d : D} {ds : List D} : Rp K ca av μ H v d → RpL K ca av μ H vs ds → RpL K ca av μ H (v :: vs) (d :: ds)
end
/-- the heap has gone on: new objects, the store's own changed, tables grown -/
structure Ext (μ μ' : List Addr) (H H' : Hp) : Prop where
  pre : ∃ r, μ' = μ ++ r ∧ ∀ a ∈ r, H a = none
  keep : ∀ b o, H b = some o → (b ∈ μ → Imm o) → (∀ ps, o ≠ .tbl ps) → H' b = some o
  thr : ∀ b, H' b = none → H b = none
theorem Ext.refl (μ : List Addr) (H : Hp) : Ext μ μ H H := ⟨⟨[], by simp, fun _ h => by cases h⟩, fun _ _ h _ _ => h, fun _ h => h⟩
theorem Ext.trans {μ μ1 μ2 : List Addr} {H H1 H2 : Hp} (a : Ext μ μ1 H H1) (b : Ext μ1 μ2 H1 H2) : Ext μ μ2 H H2 := by
  obtain ⟨⟨r, e, hr⟩, k1, t1⟩ := a
  obtain ⟨⟨r2, e2, hr2⟩, k2, t2⟩ := b
  refine ⟨⟨r ++ r2, by rw [e2, e, List.append_assoc], fun x hx => ?_⟩, fun x o h hi ht => ?_, fun x h => t1 x (t2 x h)⟩
  · rcases List.mem_append.mp hx with h | h
    · exact hr x h
    · exact t1 x (hr2 x h)
  · refine k2 x o (k1 x o h hi ht) (fun hm => ?_) ht
    rw [e] at hm
    rcases List.mem_append.mp hm with z | z
    · exact hi z
    · rw [hr x z] at h; cases h
theorem Ext.notin {μ μ' : List Addr} {H H' : Hp} {a : Addr} {o : HO} (e : Ext μ μ' H H') (h : H a = some o) (n : a ∉ μ) : a ∉ μ' := by
  obtain ⟨⟨r, e1, hr⟩, _, _⟩ := e
  intro hm
  rw [e1] at hm
  rcases List.mem_append.mp hm with z | z
  · exact n z
  · rw [hr a z] at h; cases h
theorem SqT.keep {K : PySem.W.Frag} {H H' : Hp} {a : Addr} {xs : List V} (h : SqT K H a xs) (k : ∀ b o, H b = some o → Imm o → H' b = some o) : SqT K H' a xs := by
  rcases h with (h | ⟨o, h⟩) | h
  · exact .inl (.inl (k _ _ h trivial))
  · exact .inl (.inr ⟨o, k _ _ h trivial⟩)
  · exact .inr h
theorem notTbl_imm {o : HO} (h : Imm o) : ∀ ps, o ≠ .tbl ps := fun ps z => by rw [z] at h; exact h
section
variable {K : PySem.W.Frag} {ca : Str → Addr} {av μ μ' : List Addr} {H H' : Hp}
theorem Ext.imm (e : Ext μ μ' H H') : ∀ b o, H b = some o → Imm o → H' b = some o := fun b o h i => e.keep b o h (fun _ => i) (notTbl_imm i)
theorem SqT.ext' {a : Addr} {xs : List V} (e : Ext μ μ' H H') (h : SqT K H a xs) : SqT K H' a xs := SqT.keep h e.imm
mutual
theorem Rp.mono (e : Ext μ μ' H H') : ∀ {v : V} {d : D}, Rp K ca av μ H v d → Rp K ca av μ' H' v d
  | _, _, .non => .non
  | _, _, .bl b => .bl b
  | _, _, .int i => .int i
  | _, _, .str x => .str x
  | _, _, .ty x => .ty x
  | _, _, .cls x => .cls x
  | _, _, .tup h l => .tup (SqT.ext' e h) (RpL.mono e l)
  | _, _, .lst h n1 n2 l => .lst (e.keep _ _ h (fun z => absurd z n2) (fun _ z => by cases z)) n1 (e.notin h n2) (RpL.mono e l)
  | _, _, .ro h l => .ro (h.elim (fun ⟨o, h⟩ => .inl ⟨o, e.imm _ _ h trivial⟩) .inr) (RpL.mono e l)
  | _, _, .ins h n1 n2 l => .ins (e.keep _ _ h (fun z => absurd z n2) (fun _ z => by cases z)) n1 (e.notin h n2) (RpL.mono e l)
  | _, _, .dct h n1 n2 l => .dct (e.keep _ _ h (fun z => absurd z n2) (fun _ z => by cases z)) n1 (e.notin h n2) (RpL.mono e l)
  | _, _, .loc h => by
    obtain ⟨⟨r, e1, _⟩, _, _⟩ := e
    refine .loc ?_
    rw [e1, List.getElem?_append_left (List.getElem?_eq_some_iff.mp h).1]
    exact h
theorem RpL.mono (e : Ext μ μ' H H') : ∀ {vs : List V} {ds : List D}, RpL K ca av μ H vs ds → RpL K ca av μ' H' vs ds
  | _, _, .nil => .nil
  | _, _, .cons h t => .cons (Rp.mono e h) (RpL.mono e t)
end
mutual
/-- a new place is none of its -/
theorem Rp.avoid {p : Addr} (n : H p = none) : ∀ {v : V} {d : D}, Rp K ca av μ H v d → Rp K ca (p :: av) μ H v d
  | _, _, .non => .non
  | _, _, .bl b => .bl b
  | _, _, .int i => .int i
  | _, _, .str x => .str x
  | _, _, .ty x => .ty x
  | _, _, .cls x => .cls x
  | _, _, .tup h l => .tup h (RpL.avoid n l)
  | _, _, .lst h n1 n2 l => .lst h (fun z => (List.mem_cons.mp z).elim (fun e => by rw [e, n] at h; cases h) n1) n2 (RpL.avoid n l)
  | _, _, .ro h l => .ro h (RpL.avoid n l)
  | _, _, .ins h n1 n2 l => .ins h (fun z => (List.mem_cons.mp z).elim (fun e => by rw [e, n] at h; cases h) n1) n2 (RpL.avoid n l)
  | _, _, .dct h n1 n2 l => .dct h (fun z => (List.mem_cons.mp z).elim (fun e => by rw [e, n] at h; cases h) n1) n2 (RpL.avoid n l)
  | _, _, .loc h => .loc h
theorem RpL.avoid {p : Addr} (n : H p = none) : ∀ {vs : List V} {ds : List D}, RpL K ca av μ H vs ds → RpL K ca (p :: av) μ H vs ds
  | _, _, .nil => .nil
  | _, _, .cons h t => .cons (Rp.avoid n h) (RpL.avoid n t)
end
mutual
theorem Rp.fewer {av' : List Addr} (n : ∀ a ∈ av', a ∈ av) : ∀ {v : V} {d : D}, Rp K ca av μ H v d → Rp K ca av' μ H v d
  | _, _, .non => .non
  | _, _, .bl b => .bl b
  | _, _, .int i => .int i
  | _, _, .str x => .str x
  | _, _, .ty x => .ty x
  | _, _, .cls x => .cls x
  | _, _, .tup h l => .tup h (RpL.fewer n l)
  | _, _, .lst h n1 n2 l => .lst h (fun z => n1 (n _ z)) n2 (RpL.fewer n l)
  | _, _, .ro h l => .ro h (RpL.fewer n l)
  | _, _, .ins h n1 n2 l => .ins h (fun z => n1 (n _ z)) n2 (RpL.fewer n l)
  | _, _, .dct h n1 n2 l => .dct h (fun z => n1 (n _ z)) n2 (RpL.fewer n l)
  | _, _, .loc h => .loc h
theorem RpL.fewer {av' : List Addr} (n : ∀ a ∈ av', a ∈ av) : ∀ {vs : List V} {ds : List D}, RpL K ca av μ H vs ds → RpL K ca av' μ H vs ds
  | _, _, .nil => .nil
  | _, _, .cons h t => .cons (Rp.fewer n h) (RpL.fewer n t)
end
theorem RpL.length : ∀ {vs : List V} {ds : List D}, RpL K ca av μ H vs ds → vs.length = ds.length
  | _, _, .nil => rfl
  | _, _, .cons _ t => by rw [List.length_cons, List.length_cons, RpL.length t]
theorem RpL.get : ∀ {vs : List V} {ds : List D} {i : Nat} {d : D}, RpL K ca av μ H vs ds → ds[i]? = some d → ∃ v, vs[i]? = some v ∧ Rp K ca av μ H v d
  | _, _, _, _, .nil, e => by simp at e
  | _, _, 0, _, .cons r _, e => by simp at e; subst e; exact ⟨_, rfl, r⟩
  | _, _, i + 1, _, .cons _ t, e => by
    obtain ⟨v, h1, h2⟩ := RpL.get (i := i) t (by simpa using e)
    exact ⟨v, by simpa using h1, h2⟩
theorem RpL.append : ∀ {vs ws : List V} {ds es : List D}, RpL K ca av μ H vs ds → RpL K ca av μ H ws es → RpL K ca av μ H (vs ++ ws) (ds ++ es)
  | _, _, _, _, .nil, s => s
  | _, _, _, _, .cons r t, s => .cons r (RpL.append t s)
theorem RpL.set {v : V} {d : D} (r : Rp K ca av μ H v d) : ∀ {vs : List V} {ds : List D} (i : Nat), RpL K ca av μ H vs ds → RpL K ca av μ H (vs.set i v) (ds.set i d)
  | _, _, _, .nil => .nil
  | _, _, 0, .cons _ t => .cons r t
  | _, _, i + 1, .cons q t => .cons q (RpL.set r i t)
theorem RpL.take : ∀ {vs : List V} {ds : List D} (n : Nat), RpL K ca av μ H vs ds → RpL K ca av μ H (vs.take n) (ds.take n)
  | _, _, 0, _ => .nil
  | _, _, _ + 1, .nil => .nil
  | _, _, n + 1, .cons r t => .cons r (RpL.take n t)
theorem RpL.drop : ∀ {vs : List V} {ds : List D} (n : Nat), RpL K ca av μ H vs ds → RpL K ca av μ H (vs.drop n) (ds.drop n)
  | _, _, 0, r => r
  | _, _, _ + 1, .nil => .nil
  | _, _, n + 1, .cons _ t => RpL.drop n t
theorem RpL.eraseIdx : ∀ {vs : List V} {ds : List D} (i : Nat), RpL K ca av μ H vs ds → RpL K ca av μ H (vs.eraseIdx i) (ds.eraseIdx i)
  | _, _, _, .nil => .nil
  | _, _, 0, .cons _ t => t
  | _, _, i + 1, .cons r t => .cons r (RpL.eraseIdx i t)
theorem RpL.dropLast : ∀ {vs : List V} {ds : List D}, RpL K ca av μ H vs ds → RpL K ca av μ H vs.dropLast ds.dropLast := fun {vs ds} r => by
  rw [List.dropLast_eq_take, List.dropLast_eq_take, r.length]
  exact RpL.take _ r
theorem RpL.nil_iff {vs : List V} {ds : List D} (r : RpL K ca av μ H vs ds) : vs = [] ↔ ds = [] := by
  cases r with
  | nil => simp
  | cons _ _ => simp
end
inductive RpO (K : PySem.W.Frag) (ca : Str → Addr) (av μ : List Addr) (H : Hp) : Addr → Ob → Prop
  | lst {a : Addr} {xs : List V} {ds : List D} : H a = some (.lst xs) → RpL K ca av μ H xs ds → RpO K ca av μ H a (.lst ds)
  | ins {a dx : Addr} {c : Str} {fv : List (Str × V)} {ds : List D} : H a = some (.ins (ca c) dx fv) → RpL K ca av μ H (fv.map (·.2)) ds → RpO K ca av μ H a (.ins c (fv.map (·.1)) ds)
  | dK {a : Addr} {kvs : List (L2.Key × V)} {ds : List D} : H a = some (.dK kvs) → RpL K ca av μ H (kvs.map (·.2)) ds → RpO K ca av μ H a (.dK (kvs.map (·.1)) ds)
/-- what of the heap's objects the store may have -/
def Vol : HO → Prop
  | .lst _ => True
  | .ins _ _ _ => True
  | .dK _ => True
  | _ => False
theorem Vol.imm {o : HO} (v : Vol o) (i : Imm o) : False := by cases o <;> first | exact v | exact i
theorem Vol.tbl {o : HO} (v : Vol o) : ∀ ps, o ≠ .tbl ps := fun ps z => by rw [z] at v; exact v
theorem RpO.vol {K : PySem.W.Frag} {ca : Str → Addr} {av μ : List Addr} {H : Hp} {a : Addr} {ob : Ob} (h : RpO K ca av μ H a ob) : ∃ o, H a = some o ∧ Vol o := by
  cases h with
  | lst h _ => exact ⟨_, h, trivial⟩
  | ins h _ => exact ⟨_, h, trivial⟩
  | dK h _ => exact ⟨_, h, trivial⟩
structure Rel (K : PySem.W.Frag) (g : G) (av μ : List Addr) (st : List Ob) (H : Hp) : Prop where
  len : μ.length = st.length
  nd : μ.Nodup
  avo : ∀ a ∈ av, H a ≠ none ∧ a ∉ μ
  obs : ∀ (n : Nat) (a : Addr) (ob : Ob), μ[n]? = some a → st[n]? = some ob → RpO K g.ca av μ H a ob
  tab : TabsN g.T H
def RpA (K : PySem.W.Frag) (g : G) (av μ : List Addr) (H : Hp) (v : V) : A → Prop
  | .d x => Rp K g.ca av μ H v x
  | .clo k caps => ∃ cs, g.clo H k v cs ∧ RpL K g.ca av μ H (cs.map (·.2)) caps
structure EnvR (K : PySem.W.Frag) (g : G) (av μ : List Addr) (H : Hp) (σ : L2.St) (ρ : Ev) : Prop where
  len : σ.length = ρ.length
  at_ : ∀ (i : Nat) (x : A), ρ[i]? = some (some x) → ∃ v, σ[i]? = some (some v) ∧ RpA K g av μ H v x
section
variable {K : PySem.W.Frag} {g : G} {av μ μ' : List Addr} {st : List Ob} {H H' : Hp} {σ : L2.St} {ρ : Ev}
theorem RpA.mono (e : Ext μ μ' H H') {v : V} {x : A} (h : RpA K g av μ H v x) : RpA K g av μ' H' v x := by
  cases x with
  | d x => exact Rp.mono e h
  | clo k caps => obtain ⟨cs, h1, h2⟩ := h; exact ⟨cs, g.cloK H H' k v cs h1 e.imm, RpL.mono e h2⟩
theorem EnvR.mono (r : EnvR K g av μ H σ ρ) (e : Ext μ μ' H H') : EnvR K g av μ' H' σ ρ := ⟨r.len, fun i x h => by
  obtain ⟨v, h1, h2⟩ := r.at_ i x h
  exact ⟨v, h1, RpA.mono e h2⟩⟩
theorem EnvR.avoid {p : Addr} (n : H p = none) (r : EnvR K g av μ H σ ρ) : EnvR K g (p :: av) μ H σ ρ := ⟨r.len, fun i x h => by
  obtain ⟨v, h1, h2⟩ := r.at_ i x h
  refine ⟨v, h1, ?_⟩
  cases x with
  | d x => exact Rp.avoid n h2
  | clo k caps => obtain ⟨cs, q1, q2⟩ := h2; exact ⟨cs, q1, RpL.avoid n q2⟩⟩
theorem EnvR.set {v : V} {x : D} (r : EnvR K g av μ H σ ρ) (h : Rp K g.ca av μ H v x) (i : Nat) : EnvR K g av μ H (σ.set i (some v)) (ρ.set i (some (.d x))) := by
  refine ⟨by rw [List.length_set, List.length_set, r.len], fun j y e => ?_⟩
  by_cases hij : i = j
  · subst hij
    by_cases hl : i < ρ.length
    · rw [List.getElem?_set_self hl] at e
      cases e
      exact ⟨v, by rw [List.getElem?_set_self (by rw [r.len]; exact hl)], h⟩
    · rw [List.getElem?_eq_none (by rw [List.length_set]; omega)] at e
      cases e
  · rw [List.getElem?_set_ne hij] at e
    obtain ⟨w, h1, h2⟩ := r.at_ j y e
    exact ⟨w, by rw [List.getElem?_set_ne hij]; exact h1, h2⟩
theorem upd_some {H : Hp} {p b : Addr} {o u : HO} (n : H p = none) (h : H b = some u) : upd H p o b = some u := by rw [upd_ne (ne_of_none h n)]; exact h
theorem upd_thr {H : Hp} {p b : Addr} {o : HO} (h : upd H p o b = none) : H b = none := by
  by_cases e : b = p
  · subst e; rw [upd_same] at h; cases h
  · rw [upd_ne e] at h; exact h
/-- a new object -/
theorem Ext.new {p : Addr} {o : HO} (n : H p = none) : Ext μ μ H (upd H p o) := ⟨⟨[], by simp, fun _ h => by cases h⟩, fun b u h _ _ => upd_some n h, fun b h => upd_thr h⟩
theorem Ext.new' {H1 : Hp} {p : Addr} {o : HO} (e : Ext μ μ' H H1) (n : H1 p = none) : Ext μ μ' H (upd H1 p o) := e.trans (Ext.new n)
theorem RpO.mono {a : Addr} {ob : Ob} (e : Ext μ μ' H H') (ha : ∀ o, H a = some o → H' a = some o) (h : RpO K g.ca av μ H a ob) : RpO K g.ca av μ' H' a ob := by
  cases h with
  | lst h r => exact .lst (ha _ h) (RpL.mono e r)
  | ins h r => exact .ins (ha _ h) (RpL.mono e r)
  | dK h r => exact .dK (ha _ h) (RpL.mono e r)
theorem Rel.new {p : Addr} {o : HO} (r : Rel K g av μ st H) (n : H p = none) : Rel K g av μ st (upd H p o) :=
  ⟨r.len, r.nd, fun a ha => ⟨fun z => (r.avo a ha).1 (upd_thr z), (r.avo a ha).2⟩, fun i a ob h1 h2 => (r.obs i a ob h1 h2).mono (Ext.new n) fun u z => upd_some n z, r.tab.ext fun b u z => upd_some n z⟩
theorem Rel.vol (r : Rel K g av μ st H) {a : Addr} (ha : a ∈ μ) : ∃ o, H a = some o ∧ Vol o := by
  obtain ⟨i, hi, e⟩ := List.mem_iff_getElem.mp ha
  have h1 : μ[i]? = some a := by rw [← e]; exact List.getElem?_eq_getElem hi
  have hl : i < st.length := by rw [← r.len]; exact hi
  exact (r.obs i a _ h1 (List.getElem?_eq_getElem hl)).vol
theorem tabsN_upd {a : Addr} {o u : HO} (t : TabsN g.T H) (h : H a = some u) (hv : Vol u) : TabsN g.T (upd H a o) := fun p hp => by
  obtain ⟨ps, h1, h2, h3⟩ := t p hp
  refine ⟨ps, ?_, h2, fun pos cv hc => ?_⟩
  · rw [upd_ne (fun z => by rw [z, h] at h1; cases h1; exact hv)]; exact h1
  · obtain ⟨c, e1, e2⟩ := h3 pos cv hc
    refine ⟨c, e1, ?_⟩
    rw [upd_ne (fun z => by
      rw [z, h] at e2
      unfold CodeO at e2
      cases e2
      exact hv)]; exact e2
/-- an object of the store is written -/
theorem Ext.write {n : Nat} {a : Addr} {o : HO} (r : Rel K g av μ st H) (h : μ[n]? = some a) : Ext μ μ H (upd H a o) := by
  have hm : a ∈ μ := List.mem_of_getElem? h
  obtain ⟨u, hu, hv⟩ := r.vol hm
  refine ⟨⟨[], by simp, fun _ z => by cases z⟩, fun b w hb hi ht => ?_, fun b z => upd_thr z⟩
  by_cases e : b = a
  · subst e
    rw [hu] at hb
    cases hb
    exact (hv.imm (hi hm)).elim
  · rw [upd_ne e]; exact hb
theorem Rel.write {n : Nat} {a : Addr} {o : HO} {ob : Ob} (r : Rel K g av μ st H) (h : μ[n]? = some a) (hn : RpO K g.ca av μ (upd H a o) a ob) : Rel K g av μ (st.set n ob) (upd H a o) := by
  have hm : a ∈ μ := List.mem_of_getElem? h
  obtain ⟨u, hu, hv⟩ := r.vol hm
  refine ⟨by rw [List.length_set]; exact r.len, r.nd, fun b hb => ⟨fun z => (r.avo b hb).1 (upd_thr z), (r.avo b hb).2⟩, fun i b w h1 h2 => ?_, tabsN_upd r.tab hu hv⟩
  by_cases e : n = i
  · subst e
    rw [h] at h1
    cases h1
    have hl : n < st.length := by rw [← r.len]; exact (List.getElem?_eq_some_iff.mp h).1
    rw [List.getElem?_set_self hl] at h2
    cases h2
    exact hn
  · rw [List.getElem?_set_ne e] at h2
    have hne : b ≠ a := fun z => e (by
      subst z
      obtain ⟨l1, e1⟩ := List.getElem?_eq_some_iff.mp h
      obtain ⟨l2, e2⟩ := List.getElem?_eq_some_iff.mp h1
      exact (List.getElem_inj r.nd).mp (e1.trans e2.symm))
    exact (r.obs i b w h1 h2).mono (Ext.write r h) fun x hx => by rw [upd_ne hne]; exact hx
/-- a new object of the store -/
theorem Rel.push {p : Addr} {o : HO} {ob : Ob} (r : Rel K g av μ st H) (n : H p = none) (hn : RpO K g.ca av (μ ++ [p]) (upd H p o) p ob) : Rel K g av (μ ++ [p]) (st ++ [ob]) (upd H p o) ∧ Ext μ (μ ++ [p]) H (upd H p o) := by
  have hx : Ext μ (μ ++ [p]) H (upd H p o) := ⟨⟨[p], rfl, fun a ha => by rw [List.mem_singleton.mp ha]; exact n⟩, fun b u h _ _ => upd_some n h, fun b h => upd_thr h⟩
  have hp : p ∉ μ := fun z => by obtain ⟨u, hu, _⟩ := r.vol z; rw [n] at hu; cases hu
  refine ⟨⟨by rw [List.length_append, List.length_append, r.len]; rfl, ?_, fun a ha => ⟨fun z => (r.avo a ha).1 (upd_thr z), fun z => ?_⟩, fun i a w h1 h2 => ?_, r.tab.ext fun b u z => upd_some n z⟩, hx⟩
  · exact List.nodup_append.mpr ⟨r.nd, by simp, fun a ha b hb => by rw [List.mem_singleton.mp hb]; rintro rfl; exact hp ha⟩
  · rcases List.mem_append.mp z with q | q
    · exact (r.avo a ha).2 q
    · rw [List.mem_singleton.mp q] at ha; exact (r.avo p ha).1 n
  · by_cases hi : i < μ.length
    · rw [List.getElem?_append_left hi] at h1
      rw [List.getElem?_append_left (by rw [← r.len]; exact hi)] at h2
      exact (r.obs i a w h1 h2).mono hx fun x hx' => upd_some n hx'
    · rw [List.getElem?_append_right (by omega)] at h1
      rw [List.getElem?_append_right (by rw [← r.len]; omega)] at h2
      have e1 : i - μ.length = 0 := by
        have := (List.getElem?_eq_some_iff.mp h1).1
        simp at this
        omega
      rw [← r.len, e1] at h2
      rw [e1] at h1
      simp at h1 h2
      subst h1
      subst h2
      exact hn
end
end MM
set_option autoImplicit false
set_option maxRecDepth 100000
set_option maxHeartbeats 4000000
/-! M2: judgements; names, constants, operators, tests, statements. -/
namespace MM
open PySem PySem.Spec PyProof.Rows L2 LamX NdefX

def Post (K : PySem.W.Frag) (g : G) (av μ : List Addr) (H : Hp) (d : D) (st' : List Ob) (Q : VK) : Prop := ∀ v H' μ', Ext μ μ' H H' → Rel K g av μ' st' H' → Rp K g.ca av μ' H' v d → Q v H'
def PostL (K : PySem.W.Frag) (g : G) (av μ : List Addr) (H : Hp) (ds : List D) (st' : List Ob) (Q : List V → Hp → Prop) : Prop := ∀ vs H' μ', Ext μ μ' H H' → Rel K g av μ' st' H' → RpL K g.ca av μ' H' vs ds → Q vs H'
def PostB (K : PySem.W.Frag) (g : G) (av μ : List Addr) (H : Hp) (b : Bool) (st' : List Ob) (Q : Bool → Hp → Prop) : Prop := ∀ H' μ', Ext μ μ' H H' → Rel K g av μ' st' H' → Q b H'
def SemE (K : PySem.W.Frag) (g : G) (t : TE) (m : Ev → Mo D) : Prop := ∀ (av μ : List Addr) (σ : L2.St) (H : Hp) (Q : VK) (ρ : Ev) (st : List Ob) (d : D) (st' : List Ob),
  Rel K g av μ st H → EnvR K g av μ H σ ρ → m ρ st = some (d, st') → Post K g av μ H d st' Q → t σ H Q
def SemT (K : PySem.W.Frag) (g : G) (t : TT) (m : Ev → Mo Bool) : Prop := ∀ (av μ : List Addr) (σ : L2.St) (H : Hp) (Q : Bool → Hp → Prop) (ρ : Ev) (st : List Ob) (b : Bool) (st' : List Ob),
  Rel K g av μ st H → EnvR K g av μ H σ ρ → m ρ st = some (b, st') → PostB K g av μ H b st' Q → t σ H Q
def SemA (K : PySem.W.Frag) (g : G) (t : TA) (m : Ev → Mo (List D)) : Prop := ∀ (av μ : List Addr) (σ : L2.St) (H : Hp) (Q : List V → Hp → Prop) (ρ : Ev) (st : List Ob) (ds : List D) (st' : List Ob),
  Rel K g av μ st H → EnvR K g av μ H σ ρ → m ρ st = some (ds, st') → PostL K g av μ H ds st' Q → t σ H Q
structure EV (g : G) (X : Cx) (e : Expr) (m : Ev → Mo D) : Prop where
  ex : ∃ t, PE X e t ∧ SemE X.K g t m
structure TV (g : G) (X : Cx) (e : Expr) (m : Ev → Mo Bool) : Prop where
  ex : ∃ t, PT X e t ∧ SemT X.K g t m
structure WV (g : G) (X : Cx) (e : Expr) (m : Ev → Mo Bool) : Prop where
  ex : ∃ t, PW X e t ∧ SemT X.K g t m
structure AV (g : G) (X : Cx) (es : List Expr) (m : Ev → Mo (List D)) : Prop where
  ex : ∃ t, PA X es t ∧ SemA X.K g t m
/-- behind a first part -/
theorem Post.mono {K : PySem.W.Frag} {g : G} {av μ μ1 : List Addr} {H H1 : Hp} {d : D} {st' : List Ob} {Q : VK} (p : Post K g av μ H d st' Q) (e : Ext μ μ1 H H1) : Post K g av μ1 H1 d st' Q := fun v H' μ' e' r q => p v H' μ' (e.trans e') r q
theorem PostL.mono {K : PySem.W.Frag} {g : G} {av μ μ1 : List Addr} {H H1 : Hp} {d : List D} {st' : List Ob} {Q : List V → Hp → Prop} (p : PostL K g av μ H d st' Q) (e : Ext μ μ1 H H1) : PostL K g av μ1 H1 d st' Q := fun v H' μ' e' r q => p v H' μ' (e.trans e') r q
theorem PostB.mono {K : PySem.W.Frag} {g : G} {av μ μ1 : List Addr} {H H1 : Hp} {d : Bool} {st' : List Ob} {Q : Bool → Hp → Prop} (p : PostB K g av μ H d st' Q) (e : Ext μ μ1 H H1) : PostB K g av μ1 H1 d st' Q := fun H' μ' e' r => p H' μ' (e.trans e') r
section
variable {K : PySem.W.Frag} {g : G} {av μ : List Addr} {H : Hp} {d : D} {st : List Ob} {Q : VK}
theorem Post.here (p : Post K g av μ H d st Q) (r : Rel K g av μ st H) {v : V} (h : Rp K g.ca av μ H v d) : Q v H := p v H μ (Ext.refl _ _) r h
/-- a new object is the answer -/
theorem Post.newO (p : Post K g av μ H d st Q) (r : Rel K g av μ st H) {a : Addr} {o : HO} (n : H a = none) (h : Rp K g.ca av μ (upd H a o) (.ref a) d) : Q (.ref a) (upd H a o) := p _ _ μ (Ext.new n) (r.new n) h
theorem Rel.fresh (r : Rel K g av μ st H) {p : Addr} (n : H p = none) : p ∉ av ∧ p ∉ μ := ⟨fun z => (r.avo p z).1 n, fun z => by obtain ⟨u, hu, _⟩ := r.vol z; rw [n] at hu; cases hu⟩
theorem rp_newT (r : Rel K g av μ st H) {p : Addr} {xs : List V} {ds : List D} (n : H p = none) (h : RpL K g.ca av μ H xs ds) : Rp K g.ca av μ (upd H p (.tup xs)) (.ref p) (.tup ds) := .tup (SqT.of upd_same) (RpL.mono (Ext.new n) h)
theorem rp_newL (r : Rel K g av μ st H) {p : Addr} {xs : List V} {ds : List D} (n : H p = none) (h : RpL K g.ca av μ H xs ds) : Rp K g.ca av μ (upd H p (.lst xs)) (.ref p) (.lst ds) := .lst upd_same (r.fresh n).1 (r.fresh n).2 (RpL.mono (Ext.new n) h)
end

/-! ### mirrors of expressions -/
def xVar (i : Nat) : Ev → Mo D := fun ρ st => match ρ[i]? with
  | some (some (.d x)) => some (x, st)
  | _ => none
def xC (d : D) : Ev → Mo D := fun _ => Mo.pure d
def lift2 (f : D → D → Option D) : D → D → Mo D := fun x y st => (f x y).map fun d => (d, st)
def xBin (f : D → D → Mo D) (ma mb : Ev → Mo D) : Ev → Mo D := fun ρ => (ma ρ).bind fun x => (mb ρ).bind fun y => f x y
def asB (m : Ev → Mo D) : Ev → Mo Bool := fun ρ => (m ρ).bind fun d => match d with
  | .bl b => Mo.pure b
  | _ => Mo.fail
def xAndB (ma mb : Ev → Mo Bool) : Ev → Mo Bool := fun ρ => (ma ρ).bind fun b => if b = true then mb ρ else Mo.pure false
def xOrB (ma mb : Ev → Mo Bool) : Ev → Mo Bool := fun ρ => (ma ρ).bind fun b => if b = true then Mo.pure true else mb ρ
def xNotB (ma : Ev → Mo Bool) : Ev → Mo Bool := fun ρ => (ma ρ).bind fun b => Mo.pure (!b)
def xAnd (ma mb : Ev → Mo D) : Ev → Mo D := fun ρ => (asB ma ρ).bind fun b => if b = true then mb ρ else Mo.pure (.bl false)
def xOr (ma mb : Ev → Mo D) : Ev → Mo D := fun ρ => (asB ma ρ).bind fun b => if b = true then Mo.pure (.bl true) else mb ρ
def xNot (ma : Ev → Mo D) : Ev → Mo D := fun ρ => (asB ma ρ).bind fun b => Mo.pure (.bl (!b))
def xIf (mc : Ev → Mo Bool) (ma mb : Ev → Mo D) : Ev → Mo D := fun ρ => (mc ρ).bind fun b => if b = true then ma ρ else mb ρ
def xNil : Ev → Mo (List D) := fun _ => Mo.pure []
def xCons (ma : Ev → Mo D) (mr : Ev → Mo (List D)) : Ev → Mo (List D) := fun ρ => (ma ρ).bind fun x => (mr ρ).bind fun xs => Mo.pure (x :: xs)
def xTup (m : Ev → Mo (List D)) : Ev → Mo D := fun ρ => (m ρ).bind fun xs => if xs.length ≤ 1000000 then Mo.pure (.tup xs) else Mo.fail
def xLst (m : Ev → Mo (List D)) : Ev → Mo D := fun ρ => (m ρ).bind fun xs => if xs.length ≤ 1000000 then Mo.pure (.lst xs) else Mo.fail
/-- a list that is to be changed -/
def xLstM (m : Ev → Mo (List D)) : Ev → Mo D := fun ρ => (m ρ).bind fun xs st => if xs.length ≤ 1000000 then some (.loc st.length, st ++ [.lst xs]) else none
theorem line_le : (1000000 : Nat) ≤ sizeLine := by rw [sizeLine_eq]; decide

section
variable {g : G} {X : Cx} {a b e : Expr} {ma mb : Ev → Mo D} {pos : Pos}
theorem ev_var {i : Nat} (h : PE X e (tVar i)) : EV g X e (xVar i) := ⟨_, h, fun av μ σ H Q ρ st d st' r er hm p => by
  unfold xVar at hm
  split at hm
  · rename_i x hx
    cases hm
    obtain ⟨v, h1, h2⟩ := er.at_ i _ hx
    exact ⟨v, h1, p.here r h2⟩
  · cases hm⟩
theorem ev_c {v : V} {d : D} (h : PE X e (tC v)) (hr : ∀ av μ H, Rp X.K g.ca av μ H v d) : EV g X e (xC d) := ⟨_, h, fun av μ σ H Q ρ st d' st' r er hm p => by
  obtain ⟨e1, e2⟩ := Mo.pure_some hm
  subst e1 e2
  exact p.here r (hr av μ H)⟩
theorem ev_int {i : Int} {j : Nat} : EV g X (.Constant (.int i) j pos) (xC (.int i)) := ev_c pe_int fun _ _ _ => .int i
theorem ev_str {i : Str} {j : Nat} : EV g X (.Constant (.str i) j pos) (xC (.str i)) := ev_c pe_str fun _ _ _ => .str i
theorem ev_bl {i : Bool} {j : Nat} : EV g X (.Constant (.bool i) j pos) (xC (.bl i)) := ev_c pe_bl fun _ _ _ => .bl i
theorem ev_non {j : Nat} : EV g X (.Constant .none j pos) (xC .non) := ev_c pe_non fun _ _ _ => .non
/-- an operation by values -/
def OpD (g : G) (X : Cx) (f : Value → Value → Sem Value) (md : D → D → Mo D) : Prop :=
  ∃ r, OpR X f r ∧ ∀ (av μ : List Addr) (H : Hp) (Q : VK) (st : List Ob) (x y : V) (dx dy d : D) (st' : List Ob), Rel X.K g av μ st H → Rp X.K g.ca av μ H x dx → Rp X.K g.ca av μ H y dy → md dx dy st = some (d, st') → Post X.K g av μ H d st' Q → r x y H Q
theorem OpD.or {f : Value → Value → Sem Value} {m1 m2 m : D → D → Mo D} (h1 : OpD g X f m1) (h2 : OpD g X f m2) (hm : ∀ x y st r, m x y st = some r → m1 x y st = some r ∨ m2 x y st = some r) : OpD g X f m := by
  obtain ⟨r1, o1, s1⟩ := h1
  obtain ⟨r2, o2, s2⟩ := h2
  refine ⟨_, OpR.or o1 o2, fun av μ H Q st x y dx dy d st' r rx ry e p => ?_⟩
  rcases hm _ _ _ _ e with e | e
  · exact .inl (s1 av μ H Q st x y dx dy d st' r rx ry e p)
  · exact .inr (s2 av μ H Q st x y dx dy d st' r rx ry e p)
theorem semBin {f : Value → Value → Sem Value} {md : D → D → Mo D} {r : R2} {ta tb : TE}
    (s : ∀ (av μ : List Addr) (H : Hp) (Q : VK) (st : List Ob) (x y : V) (dx dy d : D) (st' : List Ob), Rel X.K g av μ st H → Rp X.K g.ca av μ H x dx → Rp X.K g.ca av μ H y dy → md dx dy st = some (d, st') → Post X.K g av μ H d st' Q → r x y H Q)
    (sa : SemE X.K g ta ma) (sb : SemE X.K g tb mb) : SemE X.K g (tOp r ta tb) (xBin md ma mb) := fun av μ σ H Q ρ st d st' rl er hm p => by
  obtain ⟨dx, s1, h1, hm⟩ := Mo.bind_some hm
  obtain ⟨dy, s2, h2, hm⟩ := Mo.bind_some hm
  refine sa av μ σ H _ ρ st dx s1 rl er h1 fun x H1 μ1 e1 r1 q1 => ?_
  refine sb av μ1 σ H1 _ ρ s1 dy s2 r1 (er.mono e1) h2 fun y H2 μ2 e2 r2 q2 => ?_
  exact s av μ2 H2 Q s2 x y dx dy d st' r2 (q1.mono e2) q2 hm (p.mono (e1.trans e2))
theorem ev_op {op : Operator} {md : D → D → Mo D} (h : OpD g X (binaryOp op) md) (ha : EV g X a ma) (hb : EV g X b mb) : EV g X (.BinOp a op b pos) (xBin md ma mb) := by
  obtain ⟨r, o, s⟩ := h
  obtain ⟨ta, pa, sa⟩ := ha.ex
  obtain ⟨tb, pb, sb⟩ := hb.ex
  exact ⟨_, pe_op o pa pb, semBin (f := binaryOp op) s sa sb⟩
theorem ev_cmp {op : CmpOp} {md : D → D → Mo D} (h : OpD g X (compareOp op) md) (ha : EV g X a ma) (hb : EV g X b mb) (hm : behindInMarks op b = false) : EV g X (.Compare a [op] [b] pos) (xBin md ma mb) := by
  obtain ⟨r, o, s⟩ := h
  obtain ⟨ta, pa, sa⟩ := ha.ex
  obtain ⟨tb, pb, sb⟩ := hb.ex
  exact ⟨_, pe_cmpR o pa pb hm, semBin (f := compareOp op) s sa sb⟩
theorem semB {t : TE} {m : Ev → Mo D} (s : SemE X.K g t m) : SemT X.K g (fun σ H Q => t σ H fun x H' => ∃ k, x = .bl k ∧ Q k H') (asB m) := fun av μ σ H Q ρ st c st' rl er hm p => by
  obtain ⟨d, s1, h1, hm⟩ := Mo.bind_some hm
  refine s av μ σ H _ ρ st d s1 rl er h1 fun x H1 μ1 e1 r1 q1 => ?_
  cases d with
  | bl k =>
    obtain ⟨z1, z2⟩ := Mo.pure_some hm
    subst z1 z2
    cases q1
    exact ⟨_, rfl, p H1 μ1 e1 r1⟩
  | _ => cases hm
theorem tv_cmp {op : CmpOp} {md : D → D → Mo D} (h : OpD g X (compareOp op) md) (ha : EV g X a ma) (hb : EV g X b mb) (hm : behindInMarks op b = false) : TV g X (.Compare a [op] [b] pos) (asB (xBin md ma mb)) := by
  obtain ⟨r, o, s⟩ := h
  obtain ⟨ta, pa, sa⟩ := ha.ex
  obtain ⟨tb, pb, sb⟩ := hb.ex
  exact ⟨_, pt_cmpR o pa pb hm, semB (semBin (f := compareOp op) s sa sb)⟩
theorem tv_val {m : Ev → Mo D} (h : EV g X e m) (he : ∀ whole, isTrue e X.env whole = (do let v ← whole; standAt e.pos; holding [v] (truthy v)) := by intro _; rfl) : TV g X e (asB m) := by
  obtain ⟨t, p, s⟩ := h.ex
  exact ⟨_, pt_val p he, semB s⟩
variable {na nb : Ev → Mo Bool} {rest : List Expr}
theorem wv_and1 (h : TV g X a na) : WV g X (.BoolOp .And [a] pos) na := let ⟨t, p, s⟩ := h.ex; ⟨t, pw_and1 p, s⟩
theorem wv_or1 (h : TV g X a na) : WV g X (.BoolOp .Or [a] pos) na := let ⟨t, p, s⟩ := h.ex; ⟨t, pw_or1 p, s⟩
theorem wv_and (ha : TV g X a na) (hb : WV g X (.BoolOp .And (b :: rest) pos) nb) : WV g X (.BoolOp .And (a :: b :: rest) pos) (xAndB na nb) := by
  obtain ⟨ta, pa, sa⟩ := ha.ex
  obtain ⟨tb, pb, sb⟩ := hb.ex
  refine ⟨_, pw_and pa pb, fun av μ σ H Q ρ st c st' rl er hm p => ?_⟩
  obtain ⟨k, s1, h1, hm⟩ := Mo.bind_some hm
  refine sa av μ σ H _ ρ st k s1 rl er h1 fun H1 μ1 e1 r1 => ?_
  cases k with
  | true => exact sb av μ1 σ H1 Q ρ s1 c st' r1 (er.mono e1) hm (p.mono e1)
  | false =>
    obtain ⟨z1, z2⟩ := Mo.pure_some hm
    subst z1 z2
    exact p H1 μ1 e1 r1
theorem wv_or (ha : TV g X a na) (hb : WV g X (.BoolOp .Or (b :: rest) pos) nb) : WV g X (.BoolOp .Or (a :: b :: rest) pos) (xOrB na nb) := by
  obtain ⟨ta, pa, sa⟩ := ha.ex
  obtain ⟨tb, pb, sb⟩ := hb.ex
  refine ⟨_, pw_or pa pb, fun av μ σ H Q ρ st c st' rl er hm p => ?_⟩
  obtain ⟨k, s1, h1, hm⟩ := Mo.bind_some hm
  refine sa av μ σ H _ ρ st k s1 rl er h1 fun H1 μ1 e1 r1 => ?_
  cases k with
  | false => exact sb av μ1 σ H1 Q ρ s1 c st' r1 (er.mono e1) hm (p.mono e1)
  | true =>
    obtain ⟨z1, z2⟩ := Mo.pure_some hm
    subst z1 z2
    exact p H1 μ1 e1 r1
theorem WV.tv (h : WV g X e na) : TV g X e na := let ⟨t, p, s⟩ := h.ex; ⟨t, p.pt, s⟩
theorem tv_not (ha : TV g X a na) : TV g X (.UnaryOp .Not a pos) (xNotB na) := by
  obtain ⟨ta, pa, sa⟩ := ha.ex
  refine ⟨_, pt_not pa, fun av μ σ H Q ρ st c st' rl er hm p => ?_⟩
  obtain ⟨k, s1, h1, hm⟩ := Mo.bind_some hm
  obtain ⟨z1, z2⟩ := Mo.pure_some hm
  subst z1 z2
  exact sa av μ σ H _ ρ st k _ rl er h1 fun H1 μ1 e1 r1 => p H1 μ1 e1 r1
theorem ev_one {op} {m : Ev → Mo D} (h : EV g X a m) : EV g X (.BoolOp op [a] pos) m := let ⟨t, p, s⟩ := h.ex; ⟨t, pe_one p, s⟩
theorem asB_some {m : Ev → Mo D} {ρ : Ev} {st st' : List Ob} {b : Bool} (h : asB m ρ st = some (b, st')) : m ρ st = some (.bl b, st') := by
  obtain ⟨d, s1, h1, hm⟩ := Mo.bind_some h
  cases d with
  | bl k =>
    obtain ⟨z1, z2⟩ := Mo.pure_some hm
    subst z1 z2
    exact h1
  | _ => cases hm
theorem ev_and (ha : EV g X a ma) (hb : EV g X (.BoolOp .And (b :: rest) pos) mb) : EV g X (.BoolOp .And (a :: b :: rest) pos) (xAnd ma mb) := by
  obtain ⟨ta, pa, sa⟩ := ha.ex
  obtain ⟨tb, pb, sb⟩ := hb.ex
  refine ⟨_, pe_and pa pb, fun av μ σ H Q ρ st d st' rl er hm p => ?_⟩
  obtain ⟨k, s1, h1, hm⟩ := Mo.bind_some hm
  refine sa av μ σ H _ ρ st _ s1 rl er (asB_some h1) fun x H1 μ1 e1 r1 q1 => ?_
  cases q1
  refine ⟨k, rfl, ?_⟩
  cases k with
  | true => exact sb av μ1 σ H1 Q ρ s1 d st' r1 (er.mono e1) hm (p.mono e1)
  | false =>
    obtain ⟨z1, z2⟩ := Mo.pure_some hm
    subst z1 z2
    exact p _ H1 μ1 e1 r1 (.bl false)
theorem ev_or (ha : EV g X a ma) (hb : EV g X (.BoolOp .Or (b :: rest) pos) mb) : EV g X (.BoolOp .Or (a :: b :: rest) pos) (xOr ma mb) := by
  obtain ⟨ta, pa, sa⟩ := ha.ex
  obtain ⟨tb, pb, sb⟩ := hb.ex
  refine ⟨_, pe_or pa pb, fun av μ σ H Q ρ st d st' rl er hm p => ?_⟩
  obtain ⟨k, s1, h1, hm⟩ := Mo.bind_some hm
  refine sa av μ σ H _ ρ st _ s1 rl er (asB_some h1) fun x H1 μ1 e1 r1 q1 => ?_
  cases q1
  refine ⟨k, rfl, ?_⟩
  cases k with
  | false => exact sb av μ1 σ H1 Q ρ s1 d st' r1 (er.mono e1) hm (p.mono e1)
  | true =>
    obtain ⟨z1, z2⟩ := Mo.pure_some hm
    subst z1 z2
    exact p _ H1 μ1 e1 r1 (.bl true)
theorem ev_not (ha : EV g X a ma) : EV g X (.UnaryOp .Not a pos) (xNot ma) := by
  obtain ⟨ta, pa, sa⟩ := ha.ex
  refine ⟨_, pe_not pa, fun av μ σ H Q ρ st d st' rl er hm p => ?_⟩
  obtain ⟨k, s1, h1, hm⟩ := Mo.bind_some hm
  obtain ⟨z1, z2⟩ := Mo.pure_some hm
  subst z1 z2
  refine sa av μ σ H _ ρ st _ _ rl er (asB_some h1) fun x H1 μ1 e1 r1 q1 => ?_
  cases q1
  exact ⟨k, rfl, p _ H1 μ1 e1 r1 (.bl _)⟩
theorem ev_if {c : Expr} (hc : TV g X c na) (ha : EV g X a ma) (hb : EV g X b mb) : EV g X (.IfExp c a b pos) (xIf na ma mb) := by
  obtain ⟨tc, pc, sc⟩ := hc.ex
  obtain ⟨ta, pa, sa⟩ := ha.ex
  obtain ⟨tb, pb, sb⟩ := hb.ex
  refine ⟨_, pe_ifExp pc pa pb, fun av μ σ H Q ρ st d st' rl er hm p => ?_⟩
  obtain ⟨k, s1, h1, hm⟩ := Mo.bind_some hm
  refine sc av μ σ H _ ρ st k s1 rl er h1 fun H1 μ1 e1 r1 => ?_
  cases k with
  | true => exact sa av μ1 σ H1 Q ρ s1 d st' r1 (er.mono e1) hm (p.mono e1)
  | false => exact sb av μ1 σ H1 Q ρ s1 d st' r1 (er.mono e1) hm (p.mono e1)
/-! ### rows of arguments, displays -/
variable {es : List Expr} {ml : Ev → Mo (List D)}
theorem av_nil : AV g X [] xNil := ⟨_, pa_nil, fun av μ σ H Q ρ st d st' rl er hm p => by
  obtain ⟨z1, z2⟩ := Mo.pure_some hm
  subst z1 z2
  exact p [] H μ (Ext.refl _ _) rl .nil⟩
theorem av_cons (ha : EV g X a ma) (hb : AV g X es ml) (hs : starEach (a :: es) X.env = (false, eval a X.env) :: starEach es X.env := by rfl) : AV g X (a :: es) (xCons ma ml) := by
  obtain ⟨ta, pa, sa⟩ := ha.ex
  obtain ⟨tb, pb, sb⟩ := hb.ex
  refine ⟨_, pa_cons pa pb hs, fun av μ σ H Q ρ st d st' rl er hm p => ?_⟩
  obtain ⟨x, s1, h1, hm⟩ := Mo.bind_some hm
  obtain ⟨xs, s2, h2, hm⟩ := Mo.bind_some hm
  obtain ⟨z1, z2⟩ := Mo.pure_some hm
  subst z1 z2
  refine sa av μ σ H _ ρ st x s1 rl er h1 fun v H1 μ1 e1 r1 q1 => ?_
  refine sb av μ1 σ H1 _ ρ s1 xs _ r1 (er.mono e1) h2 fun vs H2 μ2 e2 r2 q2 => ?_
  exact p _ H2 μ2 (e1.trans e2) r2 (.cons (q1.mono e2) q2)
theorem ev_tup {k : Nat} (h : AV g X es ml) : EV g X (.Tuple es k pos) (xTup ml) := by
  obtain ⟨t, p0, s⟩ := h.ex
  refine ⟨_, pe_tup p0, fun av μ σ H Q ρ st d st' rl er hm p => ?_⟩
  obtain ⟨xs, s1, h1, hm⟩ := Mo.bind_some hm
  split at hm
  · rename_i hl
    obtain ⟨z1, z2⟩ := Mo.pure_some hm
    subst z1 z2
    refine s av μ σ H _ ρ st xs _ rl er h1 fun vs H1 μ1 e1 r1 q1 => ⟨by rw [q1.length]; exact Nat.le_trans hl line_le, fun q hq => ?_⟩
    exact (p.mono e1).newO r1 hq (rp_newT r1 hq q1)
  · cases hm
theorem ev_lst (h : AV g X es ml) : EV g X (.List es pos) (xLst ml) := by
  obtain ⟨t, p0, s⟩ := h.ex
  refine ⟨_, pe_lst p0, fun av μ σ H Q ρ st d st' rl er hm p => ?_⟩
  obtain ⟨xs, s1, h1, hm⟩ := Mo.bind_some hm
  split at hm
  · rename_i hl
    obtain ⟨z1, z2⟩ := Mo.pure_some hm
    subst z1 z2
    refine s av μ σ H _ ρ st xs _ rl er h1 fun vs H1 μ1 e1 r1 q1 => ⟨by rw [q1.length]; exact Nat.le_trans hl line_le, fun q hq => ?_⟩
    exact (p.mono e1).newO r1 hq (rp_newL r1 hq q1)
  · cases hm
theorem push_loc {K : PySem.W.Frag} {av μ : List Addr} {st : List Ob} {H : Hp} {Q : VK} {q : Addr} {vs : List V} {xs : List D} (r1 : Rel K g av μ st H) (hq : H q = none) (q1 : RpL K g.ca av μ H vs xs) (p : Post K g av μ H (.loc st.length) (st ++ [.lst xs]) Q) : Q (.ref q) (upd H q (.lst vs)) := by
  have x0 : Ext μ (μ ++ [q]) H (upd H q (.lst vs)) := ⟨⟨[q], rfl, fun a ha => by rw [List.mem_singleton.mp ha]; exact hq⟩, fun b u h _ _ => upd_some hq h, fun b h => upd_thr h⟩
  obtain ⟨r2, e2⟩ := r1.push hq (ob := .lst xs) (RpO.lst upd_same (RpL.mono x0 q1))
  refine p _ _ (μ ++ [q]) e2 r2 (.loc ?_)
  rw [← r1.len, List.getElem?_append_right (Nat.le_refl _), Nat.sub_self]
  rfl
theorem ev_lstM (h : AV g X es ml) : EV g X (.List es pos) (xLstM ml) := by
  obtain ⟨t, p0, s⟩ := h.ex
  refine ⟨_, pe_lst p0, fun av μ σ H Q ρ st d st' rl er hm p => ?_⟩
  obtain ⟨xs, s1, h1, hm⟩ := Mo.bind_some hm
  split at hm
  · rename_i hl
    cases hm
    refine s av μ σ H _ ρ st xs _ rl er h1 fun vs H1 μ1 e1 r1 q1 => ⟨by rw [q1.length]; exact Nat.le_trans hl line_le, fun q hq => ?_⟩
    exact push_loc r1 hq q1 (p.mono e1)
  · cases hm
end

/-! ### statements -/
def PostS (K : PySem.W.Frag) (g : G) (av μ : List Addr) (H : Hp) (o : Out) (st' : List Ob) (E : Ends) : Prop := match o with
  | .nx ρ' => ∀ σ' H' μ', Ext μ μ' H H' → Rel K g av μ' st' H' → EnvR K g av μ' H' σ' ρ' → E.nx σ' H'
  | .bk ρ' => ∀ σ' H' μ', Ext μ μ' H H' → Rel K g av μ' st' H' → EnvR K g av μ' H' σ' ρ' → E.bk σ' H'
  | .ct ρ' => ∀ σ' H' μ', Ext μ μ' H H' → Rel K g av μ' st' H' → EnvR K g av μ' H' σ' ρ' → E.ct σ' H'
  | .rt d => ∀ v H' μ', Ext μ μ' H H' → Rel K g av μ' st' H' → Rp K g.ca av μ' H' v d → E.rt v H'
theorem PostS.mono {K : PySem.W.Frag} {g : G} {av μ μ1 : List Addr} {H H1 : Hp} {o : Out} {st' : List Ob} {E : Ends} (p : PostS K g av μ H o st' E) (e : Ext μ μ1 H H1) : PostS K g av μ1 H1 o st' E := by
  cases o with
  | nx ρ => exact fun σ' H' μ' e' r q => p σ' H' μ' (e.trans e') r q
  | bk ρ => exact fun σ' H' μ' e' r q => p σ' H' μ' (e.trans e') r q
  | ct ρ => exact fun σ' H' μ' e' r q => p σ' H' μ' (e.trans e') r q
  | rt ρ => exact fun σ' H' μ' e' r q => p σ' H' μ' (e.trans e') r q
def SemS (K : PySem.W.Frag) (g : G) (t : TS) (m : Ev → Mo Out) : Prop := ∀ (av μ : List Addr) (σ : L2.St) (H : Hp) (E : Ends) (ρ : Ev) (st : List Ob) (o : Out) (st' : List Ob),
  Rel K g av μ st H → EnvR K g av μ H σ ρ → m ρ st = some (o, st') → PostS K g av μ H o st' E → t E σ H
structure SV (g : G) (X : Cx) (s : Stmt) (m : Ev → Mo Out) : Prop where
  ex : ∃ t, PS X s t ∧ SemS X.K g t m
structure BV (g : G) (X : Cx) (s : List Stmt) (m : Ev → Mo Out) : Prop where
  ex : ∃ t, PSs X s t ∧ SemS X.K g t m
def yNil : Ev → Mo Out := fun ρ => Mo.pure (.nx ρ)
def ySeq (m n : Ev → Mo Out) : Ev → Mo Out := fun ρ => (m ρ).bind fun o => match o with
  | .nx ρ' => n ρ'
  | o => Mo.pure o
def yRet (m : Ev → Mo D) : Ev → Mo Out := fun ρ => (m ρ).bind fun d => Mo.pure (.rt d)
def yDrop (m : Ev → Mo D) : Ev → Mo Out := fun ρ => (m ρ).bind fun _ => Mo.pure (.nx ρ)
def yIf (c : Ev → Mo Bool) (m n : Ev → Mo Out) : Ev → Mo Out := fun ρ => (c ρ).bind fun b => if b = true then m ρ else n ρ
def yNever : Ev → Mo Out := fun _ => Mo.fail
def ySet (i : Nat) (m : Ev → Mo D) : Ev → Mo Out := fun ρ => (m ρ).bind fun d => Mo.pure (.nx (ρ.set i (some (.d d))))
section
variable {g : G} {X : Cx} {s : Stmt} {rest : List Stmt} {e : Expr} {m : Ev → Mo D} {m1 m2 : Ev → Mo Out} {c : Ev → Mo Bool} {pos : Pos}
theorem bv_nil : BV g X [] yNil := ⟨_, pss_nil, fun av μ σ H E ρ st o st' rl er hm p => by
  obtain ⟨z1, z2⟩ := Mo.pure_some hm
  subst z1 z2
  exact p σ H μ (Ext.refl _ _) rl er⟩
theorem bv_cons (h1 : SV g X s m1) (h2 : BV g X rest m2) : BV g X (s :: rest) (ySeq m1 m2) := by
  obtain ⟨t1, p1, s1⟩ := h1.ex
  obtain ⟨t2, p2, s2⟩ := h2.ex
  refine ⟨_, pss_cons p1 p2, fun av μ σ H E ρ st o st' rl er hm p => ?_⟩
  obtain ⟨o1, st1, e1, hm⟩ := Mo.bind_some hm
  refine s1 av μ σ H _ ρ st o1 st1 rl er e1 ?_
  cases o1 with
  | nx ρ1 => exact fun σ' H' μ' x r q => s2 av μ' σ' H' E ρ1 st1 o st' r q hm (p.mono x)
  | rt d =>
    obtain ⟨z1, z2⟩ := Mo.pure_some hm
    subst z1 z2
    exact fun v H' μ' x r q => p v H' μ' x r q
  | bk d =>
    obtain ⟨z1, z2⟩ := Mo.pure_some hm
    subst z1 z2
    exact fun v H' μ' x r q => p v H' μ' x r q
  | ct d =>
    obtain ⟨z1, z2⟩ := Mo.pure_some hm
    subst z1 z2
    exact fun v H' μ' x r q => p v H' μ' x r q
theorem bv_one (h1 : SV g X s m1) : BV g X [s] m1 := let ⟨t, p, q⟩ := h1.ex; ⟨t, pss_one p, q⟩
theorem sv_ret (h : EV g X e m) : SV g X (.Return (some e) pos) (yRet m) := by
  obtain ⟨t, p0, s0⟩ := h.ex
  refine ⟨_, ps_ret p0, fun av μ σ H E ρ st o st' rl er hm p => ?_⟩
  obtain ⟨d, st1, e1, hm⟩ := Mo.bind_some hm
  obtain ⟨z1, z2⟩ := Mo.pure_some hm
  subst z1 z2
  exact s0 av μ σ H _ ρ st d _ rl er e1 fun v H' μ' x r q => p v H' μ' x r q
theorem sv_drop (h : EV g X e m) (hs : swapsWith e none pos.line X.env = pure false := by rfl) : SV g X (.Expr e pos) (yDrop m) := by
  obtain ⟨t, p0, s0⟩ := h.ex
  refine ⟨_, ps_expr p0 hs, fun av μ σ H E ρ st o st' rl er hm p => ?_⟩
  obtain ⟨d, st1, e1, hm⟩ := Mo.bind_some hm
  obtain ⟨z1, z2⟩ := Mo.pure_some hm
  subst z1 z2
  exact s0 av μ σ H _ ρ st d _ rl er e1 fun v H' μ' x r q => p σ H' μ' x r (er.mono x)
theorem sv_if {ce : Expr} {a b : List Stmt} (hc : TV g X ce c) (ha : BV g X a m1) (hb : BV g X b m2) : SV g X (.If ce a b pos) (yIf c m1 m2) := by
  obtain ⟨tc, pc, sc⟩ := hc.ex
  obtain ⟨ta, pa, sa⟩ := ha.ex
  obtain ⟨tb, pb, sb⟩ := hb.ex
  refine ⟨_, ps_if pc pa pb, fun av μ σ H E ρ st o st' rl er hm p => ?_⟩
  obtain ⟨k, s1, h1, hm⟩ := Mo.bind_some hm
  refine sc av μ σ H _ ρ st k s1 rl er h1 fun H1 μ1 e1 r1 => ?_
  cases k with
  | true => exact sa av μ1 σ H1 E ρ s1 o st' r1 (er.mono e1) hm (p.mono e1)
  | false => exact sb av μ1 σ H1 E ρ s1 o st' r1 (er.mono e1) hm (p.mono e1)
theorem sv_never : SV g X s yNever := ⟨_, ps_never, fun av μ σ H E ρ st o st' rl er hm p => by cases hm⟩
theorem bv_never : BV g X rest yNever := ⟨_, pss_never, fun av μ σ H E ρ st o st' rl er hm p => by cases hm⟩
theorem sv_set {i : Nat} {x : Str} {pos' : Pos} (hN : X.N.Nodup) (hi : X.N[i]? = some x) (hx : Loc X.env.scope x) (he : EV g X e m) (hs : swapsWith e (some (.Name x pos')) pos.line X.env = pure false := by rfl) (hf : X.fn x = true ∨ X.env.scope.names.lookup x = some .local := by first | exact .inl rfl | exact .inr rfl) :
    SV g X (.Assign [.Name x pos'] e pos) (ySet i m) := by
  obtain ⟨t, p0, s0⟩ := he.ex
  refine ⟨_, ps_set hN hi hx p0 hs hf, fun av μ σ H E ρ st o st' rl er hm p => ?_⟩
  obtain ⟨d, st1, e1, hm⟩ := Mo.bind_some hm
  obtain ⟨z1, z2⟩ := Mo.pure_some hm
  subst z1 z2
  exact s0 av μ σ H _ ρ st d _ rl er e1 fun v H' μ' x r q => p _ H' μ' x r ((er.mono x).set q i)
end
end MM
set_option autoImplicit false
set_option maxRecDepth 100000
set_option maxHeartbeats 4000000
/-! M3: targets, walks, loops, comprehensions. -/
namespace MM
open PySem PySem.Spec PyProof.Rows L2 LamX NdefX

/-! ### a place that a rule fills by itself: protected -/
section
variable {K : PySem.W.Frag} {g : G} {ca : Str → Addr} {av μ μ' : List Addr} {st : List Ob} {H H1 : Hp} {σ : L2.St} {ρ : Ev} {p : Addr} {o u : HO}
mutual
theorem Rp.over (hp : p ∈ av) (hu : H p = some u) (vu : Vol u) : ∀ {v : V} {d : D}, Rp K ca av μ H v d → Rp K ca av μ (upd H p o) v d
  | _, _, .non => .non
  | _, _, .bl b => .bl b
  | _, _, .int i => .int i
  | _, _, .str x => .str x
  | _, _, .ty x => .ty x
  | _, _, .cls x => .cls x
  | _, _, .tup h l => .tup (SqT.keep h fun b w hb hi => by rw [upd_ne (fun z => by rw [z, hu] at hb; cases hb; exact vu.imm hi)]; exact hb) (RpL.over hp hu vu l)
  | _, _, .lst h n1 n2 l => .lst (by rw [upd_ne (fun z => n1 (by rw [z]; exact hp))]; exact h) n1 n2 (RpL.over hp hu vu l)
  | _, _, .ro h l => .ro (h.elim (fun ⟨w, h⟩ => .inl ⟨w, by rw [upd_ne (fun z => by rw [z, hu] at h; cases h; exact vu)]; exact h⟩) .inr) (RpL.over hp hu vu l)
  | _, _, .ins h n1 n2 l => .ins (by rw [upd_ne (fun z => n1 (by rw [z]; exact hp))]; exact h) n1 n2 (RpL.over hp hu vu l)
  | _, _, .dct h n1 n2 l => .dct (by rw [upd_ne (fun z => n1 (by rw [z]; exact hp))]; exact h) n1 n2 (RpL.over hp hu vu l)
  | _, _, .loc h => .loc h
theorem RpL.over (hp : p ∈ av) (hu : H p = some u) (vu : Vol u) : ∀ {vs : List V} {ds : List D}, RpL K ca av μ H vs ds → RpL K ca av μ (upd H p o) vs ds
  | _, _, .nil => .nil
  | _, _, .cons h t => .cons (Rp.over hp hu vu h) (RpL.over hp hu vu t)
end
theorem RpO.over {a : Addr} {ob : Ob} (hp : p ∈ av) (hu : H p = some u) (vu : Vol u) (ha : a ≠ p) (h : RpO K ca av μ H a ob) : RpO K ca av μ (upd H p o) a ob := by
  cases h with
  | lst h r => exact .lst (by rw [upd_ne ha]; exact h) (RpL.over hp hu vu r)
  | ins h r => exact .ins (by rw [upd_ne ha]; exact h) (RpL.over hp hu vu r)
  | dK h r => exact .dK (by rw [upd_ne ha]; exact h) (RpL.over hp hu vu r)
theorem RpO.avoid {a : Addr} {ob : Ob} (n : H p = none) (h : RpO K ca av μ H a ob) : RpO K ca (p :: av) μ H a ob := by
  cases h with
  | lst h r => exact .lst h (RpL.avoid n r)
  | ins h r => exact .ins h (RpL.avoid n r)
  | dK h r => exact .dK h (RpL.avoid n r)
theorem RpO.fewer {av' : List Addr} {a : Addr} {ob : Ob} (n : ∀ a ∈ av', a ∈ av) (h : RpO K ca av μ H a ob) : RpO K ca av' μ H a ob := by
  cases h with
  | lst h r => exact .lst h (RpL.fewer n r)
  | ins h r => exact .ins h (RpL.fewer n r)
  | dK h r => exact .dK h (RpL.fewer n r)
theorem Rel.protect (r : Rel K g av μ st H) (n : H p = none) : Rel K g (p :: av) μ st (upd H p o) := by
  have r1 := r.new (o := o) n
  refine ⟨r.len, r.nd, fun a ha => ?_, fun i a ob h1 h2 => ((r.obs i a ob h1 h2).avoid n).mono (Ext.new n) fun u z => upd_some n z, r1.tab⟩
  rcases List.mem_cons.mp ha with z | z
  · rw [z]
    exact ⟨(by rw [upd_same]; intro z; cases z), (r.fresh n).2⟩
  · exact r1.avo a z
theorem Rel.over (r : Rel K g av μ st H) (hp : p ∈ av) (hu : H p = some u) (vu : Vol u) : Rel K g av μ st (upd H p o) :=
  ⟨r.len, r.nd, fun a ha => ⟨fun z => (r.avo a ha).1 (upd_thr z), (r.avo a ha).2⟩, fun i a ob h1 h2 => (r.obs i a ob h1 h2).over hp hu vu fun z => (r.avo p hp).2 (by rw [← z]; exact List.mem_of_getElem? h1), tabsN_upd r.tab hu vu⟩
theorem Rel.fewer {av' : List Addr} (n : ∀ a ∈ av', a ∈ av) (r : Rel K g av μ st H) : Rel K g av' μ st H := ⟨r.len, r.nd, fun a ha => r.avo a (n a ha), fun i a ob h1 h2 => (r.obs i a ob h1 h2).fewer n, r.tab⟩
theorem Ext.over (e : Ext μ μ' H1 H) (n : H1 p = none) : Ext μ μ' H1 (upd H p o) := ⟨e.pre, fun b w hb hi ht => by rw [upd_ne (ne_of_none hb n)]; exact e.keep b w hb hi ht, fun b z => e.thr b (upd_thr z)⟩
theorem RpA.over {v : V} {x : A} (hp : p ∈ av) (hu : H p = some u) (vu : Vol u) (h : RpA K g av μ H v x) : RpA K g av μ (upd H p o) v x := by
  cases x with
  | d x => exact Rp.over hp hu vu h
  | clo k caps => obtain ⟨cs, q1, q2⟩ := h; exact ⟨cs, g.cloK _ _ k v cs q1 fun b φ z im => (by rw [upd_ne (fun e => by rw [e, hu] at z; cases z; exact vu.imm im)]; exact z), RpL.over hp hu vu q2⟩
theorem EnvR.over (hp : p ∈ av) (hu : H p = some u) (vu : Vol u) (r : EnvR K g av μ H σ ρ) : EnvR K g av μ (upd H p o) σ ρ := ⟨r.len, fun i x h => by
  obtain ⟨v, h1, h2⟩ := r.at_ i x h
  exact ⟨v, h1, h2.over hp hu vu⟩⟩
theorem EnvR.protect (r : EnvR K g av μ H σ ρ) (n : H p = none) : EnvR K g (p :: av) μ (upd H p o) σ ρ := (r.avoid n).mono (Ext.new n)
end

/-! ### targets -/
def SemG (K : PySem.W.Frag) (g : G) (t : TG) (js : List Nat) (gm : Ev → D → Mo Ev) : Prop := ∀ (av μ : List Addr) (σ : L2.St) (H : Hp) (Q : L2.St → Hp → Prop) (ρ : Ev) (st : List Ob) (v : V) (d : D) (ρ' : Ev) (st' : List Ob),
  Rel K g av μ st H → EnvR K g av μ H σ ρ → Rp K g.ca av μ H v d → gm ρ d st = some (ρ', st') →
  (∀ σ' H' μ', Ext μ μ' H H' → Rel K g av μ' st' H' → EnvR K g av μ' H' σ' ρ' → (∀ vs : List Nat, (∀ j ∈ js, j ∈ vs) → wipe σ' vs = wipe σ vs) → Q σ' H') → t v σ H Q
def SemGs (K : PySem.W.Frag) (g : G) (t : TGs) (js : List Nat) (gm : Ev → List D → Mo Ev) : Prop := ∀ (av μ : List Addr) (σ : L2.St) (H : Hp) (Q : L2.St → Hp → Prop) (ρ : Ev) (st : List Ob) (vs : List V) (ds : List D) (ρ' : Ev) (st' : List Ob),
  Rel K g av μ st H → EnvR K g av μ H σ ρ → RpL K g.ca av μ H vs ds → gm ρ ds st = some (ρ', st') →
  (∀ σ' H' μ', Ext μ μ' H H' → Rel K g av μ' st' H' → EnvR K g av μ' H' σ' ρ' → (∀ vs : List Nat, (∀ j ∈ js, j ∈ vs) → wipe σ' vs = wipe σ vs) → Q σ' H') → t vs σ H Q
structure GV (g : G) (X : Cx) (tg : Expr) (js : List Nat) (gm : Ev → D → Mo Ev) : Prop where
  ex : ∃ t, PG X tg t ∧ SemG X.K g t js gm
structure GsV (g : G) (X : Cx) (n : Nat) (tg : List Expr) (js : List Nat) (gm : Ev → List D → Mo Ev) : Prop where
  ex : ∃ t, PGs X tg t ∧ SemGs X.K g t js gm
  len : ∀ ρ ds st r, gm ρ ds st = some r → ds.length = n
def zName (i : Nat) : Ev → D → Mo Ev := fun ρ d => Mo.pure (ρ.set i (some (.d d)))
def zNil : Ev → List D → Mo Ev := fun ρ ds => match ds with
  | [] => Mo.pure ρ
  | _ => Mo.fail
def zCons (a : Ev → D → Mo Ev) (b : Ev → List D → Mo Ev) : Ev → List D → Mo Ev := fun ρ ds => match ds with
  | d :: r => (a ρ d).bind fun ρ1 => b ρ1 r
  | _ => Mo.fail
def zTup (b : Ev → List D → Mo Ev) : Ev → D → Mo Ev := fun ρ d => match d with
  | .tup ds => b ρ ds
  | _ => Mo.fail
theorem wipe_get {σ : L2.St} {vs : List Nat} {i : Nat} : (wipe σ vs)[i]? = if i ∈ vs ∧ i < σ.length then some none else σ[i]? := by
  induction vs with
  | nil => simp [wipe]
  | cons v vs ih =>
    unfold wipe
    by_cases e : v = i
    · subst e
      by_cases hl : v < σ.length
      · rw [List.getElem?_set_self (by rw [wipe_length]; exact hl)]
        simp [hl]
      · rw [List.getElem?_eq_none (by rw [List.length_set, wipe_length]; omega)]
        simp [hl]
    · rw [List.getElem?_set_ne e, ih]
      have : i ≠ v := fun z => e z.symm
      simp [this]
theorem wipe_set {σ : L2.St} {vs : List Nat} {i : Nat} {x : Option V} (h : i ∈ vs) : wipe (σ.set i x) vs = wipe σ vs := by
  apply List.ext_getElem?
  intro j
  rw [wipe_get, wipe_get, List.length_set]
  by_cases e : i = j
  · subst e
    by_cases hl : i < σ.length
    · simp [h, hl]
    · rw [List.getElem?_eq_none (by rw [List.length_set]; omega), List.getElem?_eq_none (by omega)]
  · rw [List.getElem?_set_ne e]
theorem wipe_wipe {σ : L2.St} {vs : List Nat} : wipe (wipe σ vs) vs = wipe σ vs := by
  apply List.ext_getElem?
  intro j
  rw [wipe_get, wipe_get, wipe_length]
  by_cases h : j ∈ vs ∧ j < σ.length
  · rw [if_pos h, if_pos h]
  · rw [if_neg h, if_neg h]
section
variable {g : G} {X : Cx} {pos : Pos}
theorem gv_name {i : Nat} {x : Str} (hN : X.N.Nodup) (hi : X.N[i]? = some x) (hx : Loc X.env.scope x) (hf : X.fn x = true ∨ X.env.scope.names.lookup x = some .local := by first | exact .inl rfl | exact .inr rfl) : GV g X (.Name x pos) [i] (zName i) :=
  ⟨_, pg_name hN hi hx hf, fun av μ σ H Q ρ st v d ρ' st' r er rp hm q => by
    obtain ⟨z1, z2⟩ := Mo.pure_some hm
    subst z1 z2
    exact q _ H μ (Ext.refl _ _) r (er.set rp i) fun vs hv => wipe_set (hv i (by simp))⟩
theorem gsv_nil : GsV g X 0 [] [] zNil := by
  refine ⟨⟨_, pgs_nil, fun av μ σ H Q ρ st vs ds ρ' st' r er rp hm q => ?_⟩, fun ρ ds st r h => ?_⟩
  · cases rp with
    | nil =>
      obtain ⟨z1, z2⟩ := Mo.pure_some hm
      subst z1 z2
      exact ⟨rfl, q _ H μ (Ext.refl _ _) r er fun vs hv => rfl⟩
    | cons _ _ => cases hm
  · cases ds with
    | nil => rfl
    | cons _ _ => cases h
theorem gsv_cons {n : Nat} {e : Expr} {es : List Expr} {j1 j2 : List Nat} {a : Ev → D → Mo Ev} {b : Ev → List D → Mo Ev} (h1 : GV g X e j1 a) (h2 : GsV g X n es j2 b) (hs : (assignEach (e :: es) X.env).map (·.2) = assign e X.env :: (assignEach es X.env).map (·.2) := by rfl) :
    GsV g X (n + 1) (e :: es) (j1 ++ j2) (zCons a b) := by
  obtain ⟨t1, p1, s1⟩ := h1.ex
  obtain ⟨t2, p2, s2⟩ := h2.ex
  refine ⟨⟨_, pgs_cons p1 p2 hs, fun av μ σ H Q ρ st vs ds ρ' st' r er rp hm q => ?_⟩, fun ρ ds st r h => ?_⟩
  · cases rp with
    | nil => cases hm
    | cons rp rr =>
      obtain ⟨ρ1, st1, e1, hm⟩ := Mo.bind_some hm
      refine ⟨_, _, rfl, s1 av μ σ H _ ρ st _ _ ρ1 st1 r er rp e1 fun σ1 H1 μ1 x1 r1 er1 w1 => ?_⟩
      exact s2 av μ1 σ1 H1 _ ρ1 st1 _ _ ρ' st' r1 er1 (RpL.mono x1 rr) hm fun σ2 H2 μ2 x2 r2 er2 w2 => q σ2 H2 μ2 (x1.trans x2) r2 er2 fun vs hv => (w2 vs fun j hj => hv j (List.mem_append_right _ hj)).trans (w1 vs fun j hj => hv j (List.mem_append_left _ hj))
  · cases ds with
    | nil => cases h
    | cons d ds =>
      obtain ⟨ρ1, st1, e1, hm⟩ := Mo.bind_some (r := r.1) (s' := r.2) h
      rw [List.length_cons, h2.len _ _ _ _ hm]
theorem gv_tup {es : List Expr} {k n : Nat} {js : List Nat} {b : Ev → List D → Mo Ev} (hc : X.calm = true) (h : GsV g X n es js b) (hn : (assignEach es X.env).length = n := by rfl) (hst : (assignEach es X.env).findIdx? (·.1) = none := by rfl) : GV g X (.Tuple es k pos) js (zTup b) := by
  obtain ⟨t, p, s⟩ := h.ex
  refine ⟨_, pg_tup (n := n) hc p hn hst, fun av μ σ H Q ρ st v d ρ' st' r er rp hm q => ?_⟩
  unfold zTup at hm
  split at hm
  · cases rp with
    | tup hq rl => exact ⟨_, _, rfl, hq, by rw [rl.length]; exact h.len _ _ _ _ hm, s av μ σ H Q ρ st _ _ ρ' st' r er rl hm q⟩
  · cases hm
/-- target = value -/
def yAsg (m : Ev → Mo D) (gm : Ev → D → Mo Ev) : Ev → Mo Out := fun ρ => (m ρ).bind fun d => (gm ρ d).bind fun ρ' => Mo.pure (.nx ρ')
theorem sv_asg {tg e : Expr} {m : Ev → Mo D} {js : List Nat} {gm : Ev → D → Mo Ev} (he : EV g X e m) (hg : GV g X tg js gm) (hs : swapsWithSole [tg] e pos.line X.env = pure false := by rfl) (hw : swappedStores [tg] e X.env = pure none := by rfl)
    (h1 : (assignEach [tg] X.env).map (·.2) = [assign tg X.env] := by rfl) : SV g X (.Assign [tg] e pos) (yAsg m gm) := by
  obtain ⟨t, p, s⟩ := he.ex
  obtain ⟨u, pg, sg⟩ := hg.ex
  refine ⟨_, ps_asg p pg hs hw h1, fun av μ σ H E ρ st o st' rl er hm q => ?_⟩
  obtain ⟨d, st1, e1, hm⟩ := Mo.bind_some hm
  obtain ⟨ρ1, st2, e2, hm⟩ := Mo.bind_some hm
  obtain ⟨z1, z2⟩ := Mo.pure_some hm
  subst z1 z2
  refine s av μ σ H _ ρ st d st1 rl er e1 fun v H1 μ1 x1 r1 q1 => ?_
  exact sg av μ1 σ H1 _ ρ st1 v d ρ1 _ r1 (er.mono x1) q1 e2 fun σ2 H2 μ2 x2 r2 er2 _ => q σ2 H2 μ2 (x1.trans x2) r2 er2
/-- a, b = x, y of plain local names -/
def yPar (i j : Nat) (m : Ev → Mo (List D)) : Ev → Mo Out := fun ρ => (m ρ).bind fun ds => match ds with
  | [a, b] => Mo.pure (.nx ((ρ.set i (some (.d a))).set j (some (.d b))))
  | _ => Mo.fail
theorem sv_par {i j : Nat} {x y : Str} {a b : Expr} {m : Ev → Mo (List D)} {px py pt : Pos} {kt : Nat} {k2 : Nat} {pt2 : Pos} (hc : X.calm = true) (hN : X.N.Nodup) (hi : X.N[i]? = some x) (hj : X.N[j]? = some y) (hij : i ≠ j)
    (hx : X.env.scope.names.lookup x = some .local) (hy : X.env.scope.names.lookup y = some .local) (ha : AV g X [a, b] m)
    (hw : swappedStores [.Tuple [.Name x px, .Name y py] kt pt] (.Tuple [a, b] k2 pt2) X.env = pure (some [x, y]) := by rfl)
    (hs : swapsWithSole [.Tuple [.Name x px, .Name y py] kt pt] (.Tuple [a, b] k2 pt2) pos.line X.env = pure false := by rfl) :
    SV g X (.Assign [.Tuple [.Name x px, .Name y py] kt pt] (.Tuple [a, b] k2 pt2) pos) (yPar i j m) := by
  obtain ⟨t, p, s⟩ := ha.ex
  refine ⟨_, ps_par hc hN hi hj hij hx hy p hw hs, fun av μ σ H E ρ st o st' rl er hm q => ?_⟩
  obtain ⟨ds, st1, e1, hm⟩ := Mo.bind_some hm
  refine s av μ σ H _ ρ st ds st1 rl er e1 fun vs H1 μ1 x1 r1 q1 => ?_
  cases q1 with
  | nil => cases hm
  | cons p1 q1 =>
    cases q1 with
    | nil => cases hm
    | cons p2 q1 =>
      cases q1 with
      | nil =>
        obtain ⟨z1, z2⟩ := Mo.pure_some hm
        subst z1 z2
        exact ⟨_, _, rfl, q _ H1 μ1 x1 r1 (((er.mono x1).set p1 i).set p2 j)⟩
      | cons _ _ => cases hm
end

/-! ### what is walked -/
structure Wk (K : PySem.W.Frag) (g : G) (J : It) (μ : List Addr) (H : Hp) (xs : List V) (src items : List D) : Prop where
  go : ∀ i H', i < items.length → (∀ b o, H b = some o → (b ∈ μ → Imm o) → (∀ ps, o ≠ .tbl ps) → H' b = some o) → J.go i H'
  stop : ∀ H', (∀ b o, H b = some o → (b ∈ μ → Imm o) → (∀ ps, o ≠ .tbl ps) → H' b = some o) → J.stop items.length H'
  yld : ∀ (av μ1 : List Addr) (i : Nat) (H' H2 : Hp) (x : V) (d : D), (∀ b o, H b = some o → (b ∈ μ → Imm o) → (∀ ps, o ≠ .tbl ps) → H' b = some o) → J.yld i H' x H2 → items[i]? = some d → RpL K g.ca av μ1 H' xs src →
    (H2 = H' ∨ ∃ T zs, H' T = none ∧ H2 = upd H' T (.tup zs)) ∧ Rp K g.ca av μ1 H2 x d
def SemI (K : PySem.W.Frag) (g : G) (t : TI) (m : Ev → Mo (List D)) : Prop := ∀ (av μ : List Addr) (σ : L2.St) (H : Hp) (R : It → Hp → Prop) (ρ : Ev) (st : List Ob) (items : List D) (st' : List Ob),
  Rel K g av μ st H → EnvR K g av μ H σ ρ → m ρ st = some (items, st') →
  (∀ J H' μ' xs src, Ext μ μ' H H' → Rel K g av μ' st' H' → RpL K g.ca av μ' H' xs src → Wk K g J μ' H' xs src items → R J H') → t σ H R
structure IV (g : G) (X : Cx) (tg iter : Expr) (m : Ev → Mo (List D)) : Prop where
  ex : ∃ t, PI X tg iter t ∧ SemI X.K g t m
/-- the items of a tuple, of a list that stands -/
def itemsT (m : Ev → Mo D) : Ev → Mo (List D) := fun ρ => (m ρ).bind fun d => match d with
  | .tup ds => Mo.pure ds
  | _ => Mo.fail
def itemsL (m : Ev → Mo D) : Ev → Mo (List D) := fun ρ => (m ρ).bind fun d => match d with
  | .lst ds => Mo.pure ds
  | .ro ds => Mo.pure ds
  | _ => Mo.fail
def itemsS (m : Ev → Mo D) : Ev → Mo (List D) := fun ρ => (m ρ).bind fun d => match d with
  | .str x => Mo.pure (x.cps.toList.map fun c => .str ⟨#[c]⟩)
  | _ => Mo.fail
def rangeD (lo : Int) (n : Nat) : List D := (List.range n).map fun (i : Nat) => D.int (lo + (i : Int))
def itemsR1 (m : Ev → Mo (List D)) : Ev → Mo (List D) := fun ρ => (m ρ).bind fun ds => match ds with
  | [.int j] => if -(2 ^ 62) ≤ j ∧ j < 2 ^ 62 then Mo.pure (rangeD 0 j.toNat) else Mo.fail
  | _ => Mo.fail
def itemsR2 (m : Ev → Mo (List D)) : Ev → Mo (List D) := fun ρ => (m ρ).bind fun ds => match ds with
  | [.int i, .int j] => if -(2 ^ 62) ≤ i ∧ i < 2 ^ 62 ∧ -(2 ^ 62) ≤ j ∧ j < 2 ^ 62 then Mo.pure (rangeD i (j - i).toNat) else Mo.fail
  | _ => Mo.fail
section
variable {g : G} {X : Cx} {tg e : Expr} {m : Ev → Mo D}
theorem sqL_keep {K : PySem.W.Frag} {μ : List Addr} {H H' : Hp} {a : Addr} {xs : List V} (h : SqL K H a xs) (hm : H a = some (.lst xs) → a ∉ μ) (k : ∀ b o, H b = some o → (b ∈ μ → Imm o) → (∀ ps, o ≠ .tbl ps) → H' b = some o) : SqL K H' a xs := by
  rcases h with (h | ⟨o, h⟩) | h
  · exact .inl (.inl (k _ _ h (fun z => absurd z (hm h)) fun ps z => by cases z))
  · exact .inl (.inr ⟨o, k _ _ h (fun _ => trivial) fun ps z => by cases z⟩)
  · exact .inr h
theorem sqT_keep {K : PySem.W.Frag} {μ : List Addr} {H H' : Hp} {a : Addr} {xs : List V} (h : SqT K H a xs) (k : ∀ b o, H b = some o → (b ∈ μ → Imm o) → (∀ ps, o ≠ .tbl ps) → H' b = some o) : SqT K H' a xs := SqT.keep h fun b o hb hi => k b o hb (fun _ => hi) (notTbl_imm hi)
theorem ro_sqL {K : PySem.W.Frag} {H : Hp} {a : Addr} {xs : List V} (h : (∃ o, H a = some (.frz o (.lst xs))) ∨ SqL K (fun _ => none) a xs) : SqL K H a xs := by
  rcases h with ⟨o, h⟩ | (h | h) | h
  · exact .inl (.inr ⟨o, h⟩)
  · cases h
  · obtain ⟨_, h⟩ := h; cases h
  · exact .inr h
theorem iv_tup (he : EV g X e m) : IV g X tg e (itemsT m) := by
  obtain ⟨t, p, s⟩ := he.ex
  refine ⟨_, pi_tup p, fun av μ σ H R ρ st items st' rl er hm q => ?_⟩
  obtain ⟨d, st1, e1, hm⟩ := Mo.bind_some hm
  refine s av μ σ H _ ρ st d st1 rl er e1 fun v H1 μ1 x1 r1 q1 => ?_
  cases q1 with
  | tup hq l =>
    obtain ⟨z1, z2⟩ := Mo.pure_some hm
    subst z1 z2
    rename_i a xs
    refine ⟨_, rfl, ⟨_, hq⟩, q _ H1 μ1 xs _ x1 r1 l ⟨fun i H' hi k => ?_, fun H' k => ⟨xs, sqT_keep hq k, by rw [l.length]; exact Nat.le_refl _⟩, fun av' μ' i H' H2 x d k hy hd hl => ?_⟩⟩
    · rw [← l.length] at hi
      exact ⟨xs, xs[i], sqT_keep hq k, by simp [hi]⟩
    · obtain ⟨e2, hy⟩ := hy
      subst e2
      obtain ⟨v', h1, h2⟩ := RpL.get hl hd
      have h3 := hy xs (sqT_keep hq k)
      rw [h1] at h3
      cases h3
      exact ⟨.inl rfl, h2⟩
  | _ => cases hm
theorem iv_lst (he : EV g X e m) : IV g X tg e (itemsL m) := by
  obtain ⟨t, p, s⟩ := he.ex
  refine ⟨_, pi_list p, fun av μ σ H R ρ st items st' rl er hm q => ?_⟩
  obtain ⟨d, st1, e1, hm⟩ := Mo.bind_some hm
  refine s av μ σ H _ ρ st d st1 rl er e1 fun v H1 μ1 x1 r1 q1 => ?_
  have fin : ∀ {a : Addr} {xs : List V} {ds : List D}, (∀ H', (∀ b o, H1 b = some o → (b ∈ μ1 → Imm o) → (∀ ps, o ≠ .tbl ps) → H' b = some o) → SqL X.K H' a xs) → RpL X.K g.ca av μ1 H1 xs ds → items = ds → st' = st1 → v = .ref a → ∃ a, v = .ref a ∧ (∃ xs, SqL X.K H1 a xs) ∧ R (Itl X.K a) H1 := fun {a xs ds} hk l z1 z2 z3 => by
    subst z1 z2
    refine ⟨_, z3, ⟨_, hk H1 fun b o h _ _ => h⟩, q _ H1 μ1 xs _ x1 r1 l ⟨fun i H' hi k => ?_, fun H' k => ⟨xs, hk H' k, by rw [l.length]; exact Nat.le_refl _⟩, fun av' μ' i H' H2 x d k hy hd hl => ?_⟩⟩
    · rw [← l.length] at hi
      exact ⟨xs, xs[i], hk H' k, by simp [hi]⟩
    · obtain ⟨e2, hy⟩ := hy
      subst e2
      obtain ⟨v', h1, h2⟩ := RpL.get hl hd
      have h3 := hy xs (hk _ k)
      rw [h1] at h3
      cases h3
      exact ⟨.inl rfl, h2⟩
  cases q1 with
  | lst hq n1 n2 l =>
    obtain ⟨z1, z2⟩ := Mo.pure_some hm
    exact fin (fun H' k => sqL_keep (SqL.of hq) (fun _ => n2) k) l z1 z2 rfl
  | ro hq l =>
    obtain ⟨z1, z2⟩ := Mo.pure_some hm
    refine fin (fun H' k => ?_) l z1 z2 rfl
    rcases hq with ⟨o, hq⟩ | (hq | ⟨_, hq⟩) | hq
    · exact .inl (.inr ⟨o, k _ _ hq (fun _ => trivial) fun ps z => by cases z⟩)
    · cases hq
    · cases hq
    · exact .inr hq
  | _ => cases hm
end
end MM
set_option autoImplicit false
set_option maxRecDepth 100000
set_option maxHeartbeats 4000000
/-! enumerate of a tuple. -/
namespace MM
open PySem PySem.Spec PyProof.Rows L2
open AutoSeq1 (wpAny_loadPart')
theorem meets_enum1 {v : Value} {o : Obj} {H : Heap → Prop} (B : Begins v o H) :
    Meets (Builtin.«enumerate.__new__» ⟨[.type "enumerate", v], []⟩) (fun _ R s => H s.heap ∧
      R (.ok (.ret (.ref (s.heap.push o).objs.size))) { s with heap := (s.heap.push o).push { cls := .type "enumerate", data := .fields #[.none, .bool false, .ref s.heap.objs.size, rawInt 0, .none, .none] } }) :=
  .of_wp fun prog w A R s h => by
    obtain ⟨hp, g, d, tk, os⟩ := s; obtain ⟨h1, h⟩ := h
    have hsub := sub_enumerate
    have q1 : ∀ {A' : Around} {E : Value → Shared → Prop} {Q : Value → Shared → Prop}, Q (.ref hp.objs.size) ⟨hp.push o, g, d, tk, os⟩ → wpAny (model prog w) A' (pyIter v) Q E ⟨hp, g, d, tk, os⟩ :=
      fun q => B.iter prog w _ _ ⟨hp, g, d, tk, os⟩ _ h1 q
    wp_walk using q1
    refine wpAny_stack_any fun st => wpAny_pure ?_
    split
    · rename_i c _ _ _ _ _
      cases (c == Value.type "enumerate")
      · wp_walk using q1
        exact ⟨_, rfl, h⟩
      · wp_walk using q1
        exact ⟨_, rfl, h⟩
    · wp_walk using q1
      exact ⟨_, rfl, h⟩
theorem call_enum1 {prog : Program} {w : World} {A : Around} {E : Value → Shared → Prop} {s : Shared} {v : Value} {o : Obj} {H : Heap → Prop} {Q : Value → Shared → Prop} (B : Begins v o H) (h1 : H s.heap)
    (h : ∀ h', IsEnum h' (s.heap.objs.size + 1) s.heap.objs.size 0 .none → h'.get? s.heap.objs.size = some o → h'.objs.size = s.heap.objs.size + 2 →
      (∀ b o, s.heap.get? b = some o → h'.get? b = some o) → Q (.ref (s.heap.objs.size + 1)) { s with heap := h' }) :
    wpAny (model prog w) A (call (.type "enumerate") [v]) Q E s := by
  refine callType_new F.called_enumerate (by decide) (F.typeCall_enumerate_1 _) (F.newCall_enumerate_1 _) (fun obj => F.args_object_init_2 obj _) F.entry_enumerate_new
    (meets_enum1 B) ⟨h1, ?_⟩
  have hz : (s.heap.push o).objs.size = s.heap.objs.size + 1 := Heap.size_push ..
  show _ ∧ _
  rw [hz]
  have he : IsEnum ((s.heap.push o).push { cls := .type "enumerate", data := .fields #[.none, .bool false, .ref s.heap.objs.size, rawInt 0, .none, .none] }) (s.heap.objs.size + 1) s.heap.objs.size 0 .none := by
    have := Heap.get?_push_size (s.heap.push o) (o := { cls := .type "enumerate", data := .fields #[.none, .bool false, .ref s.heap.objs.size, rawInt 0, .none, .none] }) rfl
    rw [hz] at this; exact this
  refine ⟨⟨_, he, rfl⟩, h _ he (Heap.get?_push_of_some _ (Heap.get?_push_size _ B.free)) (by rw [Heap.size_push, hz]) fun b o x => Heap.get?_push_of_some _ (Heap.get?_push_of_some _ x)⟩
/-- the tuple at a, its items in new pairs with their places -/
def Iten (K : PySem.W.Frag) (a : Addr) : It :=
  ⟨fun i H => ∃ xs x, SqT K H a xs ∧ xs[i]? = some x,
    fun i H v H' => ∃ T x, v = .ref T ∧ H T = none ∧ H' = upd H T (.tup [.int (i : Nat), x]) ∧ ∀ xs, SqT K H a xs → xs[i]? = some x,
    fun i H => ∃ xs, SqT K H a xs ∧ xs.length ≤ i⟩
theorem tup_ne_iter {h : Heap} {it a : Addr} {i : Nat} {its : Array Value} (h1 : h.IsTupleIter it a i) (h2 : h.IsTuple a its) : a ≠ it := by
  rintro rfl
  obtain ⟨o, e1, c1, _⟩ := h1
  obtain ⟨o', e2, c2, _⟩ := h2
  rw [e1] at e2
  cases e2
  rw [c1] at c2
  injection c2 with c2
  exact absurd c2 (by decide)
theorem tup_ne_enum {h : Heap} {e it a : Addr} {i : Int} {old : Value} {its : Array Value} (h1 : IsEnum h e it i old) (h2 : h.IsTuple a its) : e ≠ a := by
  rintro rfl
  obtain ⟨o', e2, c2, _⟩ := h2
  rw [show h.get? e = _ from h1] at e2
  cases e2
  injection c2 with c2
  exact absurd c2 (by decide)
theorem turn_enumT {P : Program} {w : World} {K : PySem.W.Frag} {elts : List Expr} {kk : Nat} {tpos : Pos} (a e it : Addr) :
    Turn P w K (.Tuple elts kk tpos) (Iten K a) [e, it] e (fun i h => (∃ old, IsEnum h e it ((i : Nat) : Int) old) ∧ h.IsTupleIter it a i ∧ e ≠ it) where
  mem := by simp
  obj := fun i h st b hb => by
    obtain ⟨⟨old, he⟩, ⟨o, ho, hc, hd⟩, _⟩ := st
    have e' : b = e ∨ b = it := by simpa using hb
    rcases e' with z | z
    · rw [z]; exact ⟨_, he, fun v q => nomatch q⟩
    · rw [z]; exact ⟨o, ho, fun v q => by rw [hd] at q; cases q⟩
  keep := fun i h h' st k => let ⟨⟨old, he⟩, hi, hne⟩ := st; ⟨⟨old, k e (by simp) _ he⟩, hi.at fun o q => k it (by simp) o q, hne⟩
  item := by
    intro X hP hw hK hc i pins s σ H E I hf st hg
    subst hP hw hK
    obtain ⟨⟨old, he⟩, hit, hne⟩ := st
    obtain ⟨xs, x, hq, hx⟩ := hg
    obtain ⟨its, rv, p, hz⟩ := I.tuple hq
    have pt : s.heap.IsTuple a its.toArray := p
    obtain ⟨u, hu, ru⟩ := rv.get hx
    have hel : e < s.heap.objs.size := Heap.lt_size he
    have hil : it < s.heap.objs.size := by obtain ⟨_, q, _⟩ := hit; exact Heap.lt_size q
    have hA : X.A.in1.handled = none := I.ok.hd hc
    have D := Draws.tuple (prog := X.prog) (w := X.w) hA it a (tup_ne_iter hit pt) its.toArray
    have hi : i < its.toArray.size := by
      rw [List.size_toArray]
      exact (List.getElem?_eq_some_iff.mp hu).1
    refine wpAny_pyNext_enum_itemC D he ⟨hit, pt⟩ hi hne (by simp [hne, tup_ne_enum he pt]) fun x' h' tk hP ho hs' hT hsz hk => ?_
    have ex : x' = u := by
      have h1 : its.toArray[i]? = some x' := hP
      rw [show its.toArray[i]? = some u by simpa using hu] at h1
      exact (Option.some.inj h1).symm
    subst ex
    refine ⟨_, rfl, wpAny_letOwnedTupleGo_enum (s := { s with heap := h', toks := tk + 1 }) ho fun h'' he' sb => ?_⟩
    have hT2 : h''.get? s.heap.objs.size = some { cls := .type "tuple", data := .seq #[.int i tk, x'] } := (sb.2 _ (Nat.ne_of_gt hel)).trans hT
    have new : ObjOk X.prog X.w (upd H s.heap.objs.size (.tup [.int (i : Nat), x])) h'' s.heap.objs.size (.tup [.int (i : Nat), x]) :=
      ⟨by show 2 ≤ sizeLine; decide, [.int i tk, x'], .cons ⟨_, rfl⟩ (.cons ru .nil), ⟨_, hT2, rfl, _, rfl⟩⟩
    have I1 : Inv X pins σ (upd H s.heap.objs.size (.tup [.int (i : Nat), x])) { s with heap := h'', toks := tk + 1 } :=
      I.turnedNew (ch := [e, it]) (fun b ob hb q => (sb.2 b (fun z => hb (by simp [z]))).trans (hk b ob (fun z => hb (by simp [z])) (fun z => hb (by simp [z])) q)) hf (Nat.le_refl _) new
    refine ⟨.ref s.heap.objs.size, _, I1, rfl, ⟨_, x, rfl, I.hok.fresh (Nat.le_refl _), rfl, fun ys hy => by rw [I.tuple_inj hy hq]; exact hx⟩, ⟨⟨x', ?_⟩, hs'.1.at fun o q => (sb.2 it (Ne.symm hne)).trans q, hne⟩, fun b hb => ?_⟩
    · have e1 : ((i + 1 : Nat) : Int) = (i : Int) + 1 := by omega
      rw [e1]; exact he'
    · have hb' : b < s.heap.objs.size := by
        have e' : b = e ∨ b = it := by simpa using hb
        rcases e' with z | z
        · rw [z]; exact hel
        · rw [z]; exact hil
      rw [upd_ne (Nat.ne_of_lt hb')]
      exact (hf b hb).1
  done := by
    intro X hP hw hK hc i pins s σ H E I hf st hg
    subst hP hw hK
    obtain ⟨⟨old, he⟩, hit, hne⟩ := st
    obtain ⟨xs, hq, hx⟩ := hg
    obtain ⟨its, rv, p, hz⟩ := I.tuple hq
    have pt : s.heap.IsTuple a its.toArray := p
    obtain ⟨f0, f1, f2, f3, f4, f5⟩ := hf it (by simp)
    have hl := rv.length
    have hA : X.A.in1.handled = none := I.ok.hd hc
    refine wpAny_pyNext_enum_endD (n := i) (P := fun _ _ => True) (St := fun j h => j = i ∧ h.IsTupleIter it a i ∧ h.IsTuple a its.toArray) (fp := [it, a]) ⟨fun j h st => ?_, fun j h h' st k => ?_, fun j s Q E hj st _ => ?_, fun s Q E st hE => ?_⟩ he ⟨rfl, hit, pt⟩ fun h' eb => ⟨rfl, I.turned (t' := s.toks) (fun b o hb q => eb b o hb q) f0 f1 f3 f4 f5⟩
    · obtain ⟨_, ⟨o, q, _⟩, _⟩ := st; exact ⟨o, q⟩
    · exact ⟨st.1, st.2.1.at fun o q => k it (by simp) o q, st.2.2.at fun o q => k a (by simp) o q⟩
    · exact absurd st.1 (Nat.ne_of_lt hj)
    · exact wpAny_nextOf_tuple_end hA st.2.1 st.2.2 (by simp; omega) hE
  self := fun A i s Q E st h => let ⟨⟨_, he⟩, _⟩ := st; wpAny_pyIter_enum he h
def iEnumT (K : PySem.W.Frag) (ta : TA) : TI := fun σ H R => ta σ H fun vs H1 => ∃ a xs, vs = [.ref a] ∧ SqT K H1 a xs ∧ R (Iten K a) H1
theorem pi_enumT {X : Cx} {e : Expr} {ta : TA} {p pos tpos : Pos} {elts : List Expr} {kk : Nat} (hg : Gl X "enumerate") (hm : X.mg "enumerate" = none) (ha : PA X [e] ta) (hs : starEach [e] X.env = [(false, eval e X.env)] := by rfl) :
    PI X (.Tuple elts kk tpos) (.Call (.Name "enumerate" p) [e] [] pos) (iEnumT X.K ta) := by
  refine ⟨fun pins s σ H R I h => ?_⟩
  refine Call_ (ld_blt I hg hm boot_enumerate (PyProof.Rows.callWith_type1 (thn (ha.run pos pins s σ H _ I h) fun us s1 ⟨vs, H1, I1, r1, q1⟩ => ?_) hs rfl))
  obtain ⟨a, xs, ex, hq, q⟩ := q1
  subst ex
  cases r1 with
  | cons r rr =>
    cases rr
    cases r
    obtain ⟨its, rv, p', hz⟩ := I1.tuple hq
    have pt : s1.heap.IsTuple a its.toArray := p'
    refine call_enum1 (begins_tuple a its.toArray) pt fun h' he hit hsz hk => wpAny_pyIter_enum he ?_
    have I2 : Inv X pins σ H1 { s1 with heap := h' } := I1.kept (t' := s1.toks) hk
    refine ⟨s1.heap.objs.size + 1, [s1.heap.objs.size + 1, s1.heap.objs.size], _, _, H1, rfl, I2, turn_enumT a (s1.heap.objs.size + 1) s1.heap.objs.size, ⟨⟨.none, he⟩, ⟨_, hit, rfl, rfl⟩, Nat.succ_ne_self _⟩, fun b hb => ?_, q⟩
    have e' : b = s1.heap.objs.size + 1 ∨ b = s1.heap.objs.size := by simpa using hb
    have hle : s1.heap.objs.size ≤ b := by
      rcases e' with z | z
      · rw [z]; exact Nat.le_add_right _ _
      · rw [z]; exact Nat.le_refl _
    exact I1.fpOk hle (I1.hok.fresh hle)
end MM
set_option autoImplicit false
set_option maxRecDepth 100000
set_option maxHeartbeats 4000000
/-! M4: more walks; for, while, comprehensions. -/
namespace MM
open PySem PySem.Spec PyProof.Rows L2 LamX NdefX
section
variable {g : G} {X : Cx} {tg e : Expr} {m : Ev → Mo D}
theorem iv_str (he : EV g X e m) : IV g X tg e (itemsS m) := by
  obtain ⟨t, p, s⟩ := he.ex
  refine ⟨_, pi_str p, fun av μ σ H R ρ st items st' rl er hm q => ?_⟩
  obtain ⟨d, st1, e1, hm⟩ := Mo.bind_some hm
  refine s av μ σ H _ ρ st d st1 rl er e1 fun v H1 μ1 x1 r1 q1 => ?_
  cases q1 with
  | str x =>
    obtain ⟨z1, z2⟩ := Mo.pure_some hm
    subst z1 z2
    refine ⟨_, rfl, q _ H1 μ1 [] [] x1 r1 .nil ⟨fun i H' hi k => ?_, fun H' k => ?_, fun av' μ' i H' H2 y d k hy hd hl => ?_⟩⟩
    · rw [List.length_map] at hi
      exact hi
    · rw [List.length_map]
      exact Nat.le_refl _
    · obtain ⟨e2, c, hc, hy⟩ := hy
      subst e2
      subst hy
      rw [List.getElem?_map, Array.getElem?_toList, hc] at hd
      cases hd
      exact ⟨.inl rfl, .str _⟩
  | _ => cases hm
theorem wk_range {K : PySem.W.Frag} {μ : List Addr} {H : Hp} {lo : Int} {n : Nat} : Wk K g (Itr lo n) μ H [] [] (rangeD lo n) := by
  have hl : (rangeD lo n).length = n := by simp [rangeD]
  refine ⟨fun i H' hi k => by rw [hl] at hi; exact hi, fun H' k => by rw [hl]; exact Nat.le_refl _, fun av' μ' i H' H2 y d k hy hd hr => ?_⟩
  obtain ⟨e2, hy⟩ := hy
  subst e2
  subst hy
  unfold rangeD at hd
  rw [List.getElem?_map] at hd
  by_cases hi : i < n
  · rw [List.getElem?_range hi] at hd
    cases hd
    exact ⟨.inl rfl, .int _⟩
  · rw [List.getElem?_eq_none (by simpa using hi)] at hd
    cases hd
variable {ml : Ev → Mo (List D)} {a b : Expr} {p pos : Pos}
theorem iv_range1 (hg : Gl X "range") (hm : X.mg "range" = none) (ha : AV g X [a] ml) (hs : starEach [a] X.env = [(false, eval a X.env)] := by rfl) : IV g X tg (.Call (.Name "range" p) [a] [] pos) (itemsR1 ml) := by
  obtain ⟨t, p0, s⟩ := ha.ex
  refine ⟨_, pi_range1 hg hm p0 hs, fun av μ σ H R ρ st items st' rl er hm q => ?_⟩
  obtain ⟨ds, st1, e1, hm⟩ := Mo.bind_some hm
  refine s av μ σ H _ ρ st ds st1 rl er e1 fun vs H1 μ1 x1 r1 q1 => ?_
  split at hm
  · split at hm
    · rename_i j hj
      obtain ⟨z1, z2⟩ := Mo.pure_some hm
      subst z1 z2
      cases q1 with
      | cons h1 h2 =>
        cases h1
        cases h2
        exact ⟨j, rfl, hj.1, hj.2, q _ H1 μ1 [] [] x1 r1 .nil wk_range⟩
    · cases hm
  · cases hm
theorem iv_range2 (hg : Gl X "range") (hm : X.mg "range" = none) (ha : AV g X [a, b] ml) (hs : starEach [a, b] X.env = [(false, eval a X.env), (false, eval b X.env)] := by rfl) (hs2 : starEach [b] X.env = [(false, eval b X.env)] := by rfl) : IV g X tg (.Call (.Name "range" p) [a, b] [] pos) (itemsR2 ml) := by
  obtain ⟨t, p0, s⟩ := ha.ex
  refine ⟨_, pi_range2 hg hm p0 hs hs2, fun av μ σ H R ρ st items st' rl er hm q => ?_⟩
  obtain ⟨ds, st1, e1, hm⟩ := Mo.bind_some hm
  refine s av μ σ H _ ρ st ds st1 rl er e1 fun vs H1 μ1 x1 r1 q1 => ?_
  split at hm
  · split at hm
    · rename_i i j hj
      obtain ⟨z1, z2⟩ := Mo.pure_some hm
      subst z1 z2
      cases q1 with
      | cons h1 h2 =>
        cases h1
        cases h2 with
        | cons h1 h2 =>
          cases h1
          cases h2
          exact ⟨i, j, rfl, hj, q _ H1 μ1 [] [] x1 r1 .nil wk_range⟩
    · cases hm
  · cases hm
/-- pairs of a place and an item -/
def enumD : Nat → List D → List D
  | _, [] => []
  | i, d :: r => .tup [.int (i : Int), d] :: enumD (i + 1) r
theorem enumD_get : ∀ {ds : List D} {n i : Nat}, (enumD n ds)[i]? = (ds[i]?).map fun d => .tup [.int ((n + i : Nat) : Int), d]
  | [], n, i => by simp [enumD]
  | d :: r, n, 0 => by simp [enumD]
  | d :: r, n, i + 1 => by
    simp only [enumD, List.getElem?_cons_succ]
    rw [enumD_get]
    congr 1
    funext x
    rw [show n + 1 + i = n + (i + 1) by omega]
theorem enumD_len : ∀ {ds : List D} {n : Nat}, (enumD n ds).length = ds.length
  | [], _ => rfl
  | d :: r, n => by rw [enumD, List.length_cons, List.length_cons, enumD_len]
def itemsET (m : Ev → Mo D) : Ev → Mo (List D) := fun ρ => (m ρ).bind fun d => match d with
  | .tup ds => Mo.pure (enumD 0 ds)
  | _ => Mo.fail
def itemsEL (m : Ev → Mo D) : Ev → Mo (List D) := fun ρ => (m ρ).bind fun d => match d with
  | .lst ds => Mo.pure (enumD 0 ds)
  | _ => Mo.fail
theorem iv_enumT {elts : List Expr} {kk : Nat} {tpos : Pos} (hg : Gl X "enumerate") (hm : X.mg "enumerate" = none) (ha : EV g X e m) (hs : starEach [e] X.env = [(false, eval e X.env)] := by rfl) : IV g X (.Tuple elts kk tpos) (.Call (.Name "enumerate" p) [e] [] pos) (itemsET m) := by
  obtain ⟨t, p0, s⟩ := ha.ex
  refine ⟨_, pi_enumT hg hm (pa_cons p0 pa_nil (by rw [hs]; rfl)) hs, fun av μ σ H R ρ st items st' rl er hm q => ?_⟩
  obtain ⟨d, st1, e1, hm⟩ := Mo.bind_some hm
  refine s av μ σ H _ ρ st d st1 rl er e1 fun v H1 μ1 x1 r1 q1 => ?_
  cases q1 with
  | @tup a xs ds hq l =>
    obtain ⟨z1, z2⟩ := Mo.pure_some hm
    subst z1 z2
    refine ⟨a, xs, rfl, hq, q _ H1 μ1 xs ds x1 r1 l ⟨fun i H' hi k => ?_, fun H' k => ⟨xs, sqT_keep hq k, by rw [l.length, enumD_len]; exact Nat.le_refl _⟩, fun av' μ' i H' H2 y d k hy hd hl => ?_⟩⟩
    · rw [enumD_len, ← l.length] at hi
      exact ⟨xs, xs[i], sqT_keep hq k, by simp [hi]⟩
    · obtain ⟨T, y', e2, nT, e3, hy⟩ := hy
      subst e2 e3
      rw [enumD_get] at hd
      cases hx : ds[i]? with
      | none => rw [hx] at hd; cases hd
      | some d' =>
        rw [hx] at hd
        cases hd
        obtain ⟨v', h1, h2⟩ := RpL.get hl hx
        have h3 := hy xs (sqT_keep hq k)
        rw [h1] at h3
        cases h3
        rw [Nat.zero_add]
        exact ⟨.inr ⟨T, _, nT, rfl⟩, .tup (SqT.of upd_same) (.cons (.int _) (.cons (Rp.mono (Ext.new nT) h2) .nil))⟩
  | _ => cases hm
theorem iv_enumL {elts : List Expr} {kk : Nat} {tpos : Pos} (hg : Gl X "enumerate") (hm : X.mg "enumerate" = none) (ha : EV g X e m) (hs : starEach [e] X.env = [(false, eval e X.env)] := by rfl) : IV g X (.Tuple elts kk tpos) (.Call (.Name "enumerate" p) [e] [] pos) (itemsEL m) := by
  obtain ⟨t, p0, s⟩ := ha.ex
  refine ⟨_, pi_enum hg hm (pa_cons p0 pa_nil (by rw [hs]; rfl)) hs, fun av μ σ H R ρ st items st' rl er hm q => ?_⟩
  obtain ⟨d, st1, e1, hm⟩ := Mo.bind_some hm
  refine s av μ σ H _ ρ st d st1 rl er e1 fun v H1 μ1 x1 r1 q1 => ?_
  cases q1 with
  | @lst a xs ds hq n1 n2 l =>
    obtain ⟨z1, z2⟩ := Mo.pure_some hm
    subst z1 z2
    have hk : ∀ H', (∀ b o, H1 b = some o → (b ∈ μ1 → Imm o) → (∀ ps, o ≠ .tbl ps) → H' b = some o) → SqL X.K H' a xs := fun H' k => sqL_keep (SqL.of hq) (fun _ => n2) k
    refine ⟨a, xs, rfl, SqL.of hq, q _ H1 μ1 xs ds x1 r1 l ⟨fun i H' hi k => ?_, fun H' k => ⟨xs, hk H' k, by rw [l.length, enumD_len]; exact Nat.le_refl _⟩, fun av' μ' i H' H2 y d k hy hd hl => ?_⟩⟩
    · rw [enumD_len, ← l.length] at hi
      exact ⟨xs, xs[i], hk H' k, by simp [hi]⟩
    · obtain ⟨T, y', e2, nT, e3, hy⟩ := hy
      subst e2 e3
      rw [enumD_get] at hd
      cases hx : ds[i]? with
      | none => rw [hx] at hd; cases hd
      | some d' =>
        rw [hx] at hd
        cases hd
        obtain ⟨v', h1, h2⟩ := RpL.get hl hx
        have h3 := hy xs (hk _ k)
        rw [h1] at h3
        cases h3
        rw [Nat.zero_add]
        exact ⟨.inr ⟨T, _, nT, rfl⟩, .tup (SqT.of upd_same) (.cons (.int _) (.cons (Rp.mono (Ext.new nT) h2) .nil))⟩
  | _ => cases hm
end

/-! ### for -/
def forM (gm : Ev → D → Mo Ev) (mb : Ev → Mo Out) : List D → Ev → Mo Out
  | [], ρ => Mo.pure (.nx ρ)
  | d :: r, ρ => (gm ρ d).bind fun ρ1 => (mb ρ1).bind fun o => match o with
    | .nx ρ2 => forM gm mb r ρ2
    | .ct ρ2 => forM gm mb r ρ2
    | .bk ρ2 => Mo.pure (.nx ρ2)
    | .rt d => Mo.pure (.rt d)
def yFor (mi : Ev → Mo (List D)) (gm : Ev → D → Mo Ev) (mb : Ev → Mo Out) : Ev → Mo Out := fun ρ => (mi ρ).bind fun items => forM gm mb items ρ
theorem drop_cons {α : Type} {l : List α} {i : Nat} (h : i < l.length) : l.drop i = l[i] :: l.drop (i + 1) := List.drop_eq_getElem_cons h
section
variable {g : G} {X : Cx} {tg iter : Expr} {pos : Pos}
theorem yld_step {K : PySem.W.Frag} {av μ μ1 : List Addr} {st : List Ob} {H H1 H2 : Hp} {J : It} {xs : List V} {src items : List D} {i : Nat} {x : V} {d : D} (w : Wk K g J μ H xs src items) (x1 : Ext μ μ1 H H1) (r : Rel K g av μ1 st H1) (l : RpL K g.ca av μ1 H1 xs src)
    (hy : J.yld i H1 x H2) (hd : items[i]? = some d) : Ext μ1 μ1 H1 H2 ∧ Rel K g av μ1 st H2 ∧ Rp K g.ca av μ1 H2 x d := by
  obtain ⟨h1, h2⟩ := w.yld av μ1 i H1 H2 x d x1.keep hy hd l
  rcases h1 with e | ⟨T, zs, nT, e⟩
  · subst e
    exact ⟨Ext.refl _ _, r, h2⟩
  · subst e
    exact ⟨Ext.new nT, r.new nT, h2⟩
theorem sv_for {body : List Stmt} {mi : Ev → Mo (List D)} {js : List Nat} {gm : Ev → D → Mo Ev} {mb : Ev → Mo Out} (hp : PassesOwn (model X.prog X.w) X.A X.env X.xe) (hc : X.calm = true) (hi : IV g X tg iter mi) (hg : GV g X tg js gm) (hb : BV g X body mb)
    (hs : ∀ x, foldedSetIterable iter X.env x = pure x := by intro _; rfl) : SV g X (.For tg iter body [] pos) (yFor mi gm mb) := by
  obtain ⟨ti, pi, si⟩ := hi.ex
  obtain ⟨tgt, pg, sg⟩ := hg.ex
  obtain ⟨tb, pb, sb⟩ := hb.ex
  refine ⟨_, ps_for hp hc pi pg pb hs, fun av μ σ H E ρ st o st' rl er hm q => ?_⟩
  obtain ⟨items, st1, e1, hm⟩ := Mo.bind_some hm
  refine si av μ σ H _ ρ st items st1 rl er e1 fun J H1 μ1 xs src x1 r1 l1 w => ?_
  refine ⟨fun i m σ2 H2 => m = items.length - i ∧ i ≤ items.length ∧ ∃ μ2 st2 ρ2, Ext μ1 μ2 H1 H2 ∧ Rel X.K g av μ2 st2 H2 ∧ EnvR X.K g av μ2 H2 σ2 ρ2 ∧ RpL X.K g.ca av μ2 H2 xs src ∧ forM gm mb (items.drop i) ρ2 st2 = some (o, st'),
    ⟨_, rfl, Nat.zero_le _, μ1, st1, ρ, Ext.refl _ _, r1, er.mono x1, l1, by rw [List.drop_zero]; exact hm⟩, ?_⟩
  rintro i m σ2 H2 ⟨rfl, hil, μ2, st2, ρ2, x2, r2, er2, l2, hm2⟩
  by_cases hlt : i < items.length
  · rw [drop_cons hlt] at hm2
    obtain ⟨ρ3, st3, e3, hm2⟩ := Mo.bind_some hm2
    obtain ⟨o4, st4, e4, hm2⟩ := Mo.bind_some hm2
    refine .inr ⟨w.go i H2 hlt x2.keep, fun σ' H' => ∃ μ' st'' ρ', Ext μ1 μ' H1 H' ∧ Rel X.K g av μ' st'' H' ∧ EnvR X.K g av μ' H' σ' ρ' ∧ RpL X.K g.ca av μ' H' xs src ∧ forM gm mb (items.drop (i + 1)) ρ' st'' = some (o, st'), fun σ' H' ⟨μ', st'', ρ', a1, a2, a3, a4, a5⟩ => ⟨_, by omega, rfl, hlt, μ', st'', ρ', a1, a2, a3, a4, a5⟩, fun x H3 hy => ?_⟩
    obtain ⟨x3, r3, p3⟩ := yld_step w x2 r2 l2 hy (List.getElem?_eq_getElem hlt)
    refine sg av μ2 σ2 H3 _ ρ2 st2 x _ ρ3 st3 r3 (er2.mono x3) p3 e3 fun σ4 H4 μ4 x4 r4 er4 _ => ?_
    refine sb av μ4 σ4 H4 _ ρ3 st3 o4 st4 r4 er4 e4 ?_
    have x04 : Ext μ1 μ4 H1 H4 := (x2.trans x3).trans x4
    have l4 : RpL X.K g.ca av μ4 H4 xs src := RpL.mono x4 (RpL.mono x3 l2)
    cases o4 with
    | nx ρ5 => exact fun σ5 H5 μ5 x5 r5 er5 => ⟨μ5, st4, ρ5, x04.trans x5, r5, er5, RpL.mono x5 l4, hm2⟩
    | ct ρ5 => exact fun σ5 H5 μ5 x5 r5 er5 => ⟨μ5, st4, ρ5, x04.trans x5, r5, er5, RpL.mono x5 l4, hm2⟩
    | bk ρ5 =>
      obtain ⟨z1, z2⟩ := Mo.pure_some hm2
      subst z1 z2
      exact fun σ5 H5 μ5 x5 r5 er5 => q σ5 H5 μ5 ((x1.trans x04).trans x5) r5 er5
    | rt d =>
      obtain ⟨z1, z2⟩ := Mo.pure_some hm2
      subst z1 z2
      exact fun v H5 μ5 x5 r5 p5 => q v H5 μ5 ((x1.trans x04).trans x5) r5 p5
  · have e : i = items.length := by omega
    subst e
    rw [List.drop_length] at hm2
    obtain ⟨z1, z2⟩ := Mo.pure_some hm2
    subst z1 z2
    exact .inl ⟨w.stop H2 x2.keep, q σ2 H2 μ2 (x1.trans x2) r2 er2⟩
end
/-! ### while -/
def whileM (c : Ev → Mo Bool) (mb : Ev → Mo Out) : Nat → Ev → Mo Out
  | 0, _ => Mo.fail
  | n + 1, ρ => (c ρ).bind fun b => if b = true then (mb ρ).bind fun o => match o with
    | .nx ρ2 => whileM c mb n ρ2
    | .ct ρ2 => whileM c mb n ρ2
    | .bk ρ2 => Mo.pure (.nx ρ2)
    | .rt d => Mo.pure (.rt d)
    else Mo.pure (.nx ρ)
def yWhile (n : Nat) (c : Ev → Mo Bool) (mb : Ev → Mo Out) : Ev → Mo Out := fun ρ => whileM c mb n ρ
theorem sv_while {g : G} {X : Cx} {ce : Expr} {pos : Pos} {body : List Stmt} {c : Ev → Mo Bool} {mb : Ev → Mo Out} (n : Nat) (hp : PassesOwn (model X.prog X.w) X.A X.env X.xe) (hc : TV g X ce c) (hb : BV g X body mb) : SV g X (.While ce body [] pos) (yWhile n c mb) := by
  obtain ⟨tc, pc, sc⟩ := hc.ex
  obtain ⟨tb, pb, sb⟩ := hb.ex
  refine ⟨_, ps_while hp pc pb, fun av μ σ H E ρ st o st' rl er hm q => ?_⟩
  refine ⟨fun k σ2 H2 => ∃ μ2 st2 ρ2, Ext μ μ2 H H2 ∧ Rel X.K g av μ2 st2 H2 ∧ EnvR X.K g av μ2 H2 σ2 ρ2 ∧ whileM c mb k ρ2 st2 = some (o, st'), ⟨n, μ, st, ρ, Ext.refl _ _, rl, er, hm⟩, ?_⟩
  rintro k σ2 H2 ⟨μ2, st2, ρ2, x2, r2, er2, hm2⟩
  cases k with
  | zero => cases hm2
  | succ k =>
    obtain ⟨b, st3, e3, hm2⟩ := Mo.bind_some hm2
    refine sc av μ2 σ2 H2 _ ρ2 st2 b st3 r2 er2 e3 fun H3 μ3 x3 r3 => ?_
    cases b with
    | false =>
      obtain ⟨z1, z2⟩ := Mo.pure_some hm2
      subst z1 z2
      exact q σ2 H3 μ3 (x2.trans x3) r3 (er2.mono x3)
    | true =>
      rw [if_pos rfl] at hm2
      obtain ⟨o4, st4, e4, hm2⟩ := Mo.bind_some hm2
      refine ⟨fun σ' H' => ∃ μ' st'' ρ', Ext μ μ' H H' ∧ Rel X.K g av μ' st'' H' ∧ EnvR X.K g av μ' H' σ' ρ' ∧ whileM c mb k ρ' st'' = some (o, st'), fun σ' H' h => ⟨k, Nat.lt_succ_self k, h⟩, ?_⟩
      refine sb av μ3 σ2 H3 _ ρ2 st3 o4 st4 r3 (er2.mono x3) e4 ?_
      have x03 := x2.trans x3
      cases o4 with
      | nx ρ5 => exact fun σ5 H5 μ5 x5 r5 er5 => ⟨μ5, st4, ρ5, x03.trans x5, r5, er5, hm2⟩
      | ct ρ5 => exact fun σ5 H5 μ5 x5 r5 er5 => ⟨μ5, st4, ρ5, x03.trans x5, r5, er5, hm2⟩
      | bk ρ5 =>
        obtain ⟨z1, z2⟩ := Mo.pure_some hm2
        subst z1 z2
        exact fun σ5 H5 μ5 x5 r5 er5 => q σ5 H5 μ5 (x03.trans x5) r5 er5
      | rt d =>
        obtain ⟨z1, z2⟩ := Mo.pure_some hm2
        subst z1 z2
        exact fun v H5 μ5 x5 r5 p5 => q v H5 μ5 (x03.trans x5) r5 p5
/-! ### comprehensions -/
def wipeE (ρ : Ev) : List Nat → Ev
  | [] => ρ
  | v :: vs => (wipeE ρ vs).set v none
theorem EnvR.wipe {K : PySem.W.Frag} {g : G} {av μ : List Addr} {H : Hp} {σ : L2.St} {ρ : Ev} (r : EnvR K g av μ H σ ρ) : ∀ vs : List Nat, EnvR K g av μ H (wipe σ vs) (wipeE ρ vs)
  | [] => r
  | v :: vs => by
    have ih := EnvR.wipe r vs
    unfold L2.wipe wipeE
    refine ⟨by rw [List.length_set, List.length_set, ih.len], fun i x h => ?_⟩
    by_cases e : v = i
    · subst e
      by_cases hl : v < (wipeE ρ vs).length
      · rw [List.getElem?_set_self hl] at h
        cases h
      · rw [List.getElem?_eq_none (by rw [List.length_set]; omega)] at h
        cases h
    · rw [List.getElem?_set_ne e] at h ⊢
      exact ih.at_ i x h
def compM (gm : Ev → D → Mo Ev) (mt : Ev → Mo Bool) (me : Ev → Mo D) : List D → Ev → Mo (List D)
  | [], _ => Mo.pure []
  | d :: r, ρ => (gm ρ d).bind fun ρ1 => (mt ρ1).bind fun b => if b = true then (me ρ1).bind fun y => (compM gm mt me r ρ).bind fun ys => Mo.pure (y :: ys) else compM gm mt me r ρ
def xComp (mi : Ev → Mo (List D)) (vs : List Nat) (gm : Ev → D → Mo Ev) (mt : Ev → Mo Bool) (me : Ev → Mo D) : Ev → Mo D := fun ρ => (mi ρ).bind fun items => if items.length ≤ 1000000 then (compM gm mt me items (wipeE ρ vs)).bind fun ds => Mo.pure (.lst ds) else Mo.fail
/-- the tests of a clause -/
structure TsV (g : G) (X : Cx) (ifs : List Expr) (m : Ev → Mo Bool) : Prop where
  ex : ∃ t, PTs X ifs t ∧ SemT X.K g t m
def tYesM : Ev → Mo Bool := fun _ => Mo.pure true
theorem tsv_nil {g : G} {X : Cx} : TsV g X [] tYesM := ⟨_, pts_nil, fun av μ σ H Q ρ st b st' rl er hm p => by
  obtain ⟨z1, z2⟩ := Mo.pure_some hm
  subst z1 z2
  exact p H μ (Ext.refl _ _) rl⟩
theorem tsv_one {g : G} {X : Cx} {c : Expr} {m : Ev → Mo Bool} (h : TV g X c m) : TsV g X [c] m := let ⟨t, p, s⟩ := h.ex; ⟨t, pts_one p, s⟩
section
variable {g : G} {X : Cx} {elt tg iter : Expr} {ifs : List Expr} {scope : Scope} {own : List (Str × Nat)} {pos : Pos} {mi : Ev → Mo (List D)} {js : List Nat} {gm : Ev → D → Mo Ev} {mt : Ev → Mo Bool} {me : Ev → Mo D}
/-- the parts of a block, whatever the block's context -/
structure BlkV (g : G) (X : Cx) (scope : Scope) (tg : Expr) (ifs : List Expr) (elt : Expr) (js : List Nat) (gm : Ev → D → Mo Ev) (mt : Ev → Mo Bool) (me : Ev → Mo D) : Prop where
  tg : ∃ t, (∀ (s : Shared) (H : Hp) (C : Addr) (cl : List (Str × Addr)) (fp : List Addr), PG (X.blk s H scope (compEnvC scope cl C X.env) fp) tg t) ∧ SemG X.K g t js gm
  ts : ∃ t, (∀ (s : Shared) (H : Hp) (C : Addr) (cl : List (Str × Addr)) (fp : List Addr), PTs (X.blk s H scope (compEnvC scope cl C X.env) fp) ifs t) ∧ SemT X.K g t mt
  el : ∃ t, (∀ (s : Shared) (H : Hp) (C : Addr) (cl : List (Str × Addr)) (fp : List Addr), PE (X.blk s H scope (compEnvC scope cl C X.env) fp) elt t) ∧ SemE X.K g t me
def TEof (K : PySem.W.Frag) (g : G) (m : Ev → Mo D) : TE := fun σ H Q => ∃ av μ ρ st d st', Rel K g av μ st H ∧ EnvR K g av μ H σ ρ ∧ m ρ st = some (d, st') ∧ Post K g av μ H d st' Q
theorem semOf {K : PySem.W.Frag} {m : Ev → Mo D} : SemE K g (TEof K g m) m := fun av μ σ H Q ρ st d st' r er hm p => ⟨av, μ, ρ, st, d, st', r, er, hm, p⟩
theorem EV.pe {X : Cx} {e : Expr} {m : Ev → Mo D} (h : EV g X e m) : PE X e (TEof X.K g m) := by
  obtain ⟨t, p, s⟩ := h.ex
  exact ⟨fun pins sh σ H Q I ⟨av, μ, ρ, st, d, st', r, er, hm, q⟩ => p.run pins sh σ H Q I (s av μ σ H Q ρ st d st' r er hm q)⟩
def TTof (K : PySem.W.Frag) (g : G) (m : Ev → Mo Bool) : TT := fun σ H Q => ∃ av μ ρ st d st', Rel K g av μ st H ∧ EnvR K g av μ H σ ρ ∧ m ρ st = some (d, st') ∧ PostB K g av μ H d st' Q
theorem semOfT {K : PySem.W.Frag} {m : Ev → Mo Bool} : SemT K g (TTof K g m) m := fun av μ σ H Q ρ st d st' r er hm p => ⟨av, μ, ρ, st, d, st', r, er, hm, p⟩
theorem TsV.pts {X : Cx} {ifs : List Expr} {m : Ev → Mo Bool} (h : TsV g X ifs m) : PTs X ifs (TTof X.K g m) := by
  obtain ⟨t, p, s⟩ := h.ex
  exact ⟨fun pins sh σ H Q I ⟨av, μ, ρ, st, d, st', r, er, hm, q⟩ => p.run pins sh σ H Q I (s av μ σ H Q ρ st d st' r er hm q)⟩
def TGof (K : PySem.W.Frag) (g : G) (js : List Nat) (gm : Ev → D → Mo Ev) : TG := fun v σ H Q => ∃ av μ ρ st d ρ' st', Rel K g av μ st H ∧ EnvR K g av μ H σ ρ ∧ Rp K g.ca av μ H v d ∧ gm ρ d st = some (ρ', st') ∧
  (∀ σ' H' μ', Ext μ μ' H H' → Rel K g av μ' st' H' → EnvR K g av μ' H' σ' ρ' → (∀ vs : List Nat, (∀ j ∈ js, j ∈ vs) → wipe σ' vs = wipe σ vs) → Q σ' H')
theorem semOfG {K : PySem.W.Frag} {js : List Nat} {gm : Ev → D → Mo Ev} : SemG K g (TGof K g js gm) js gm := fun av μ σ H Q ρ st v d ρ' st' r er rp hm p => ⟨av, μ, ρ, st, d, ρ', st', r, er, rp, hm, p⟩
theorem GV.pg {X : Cx} {e : Expr} {js : List Nat} {gm : Ev → D → Mo Ev} (h : GV g X e js gm) : PG X e (TGof X.K g js gm) := by
  obtain ⟨t, p, s⟩ := h.ex
  exact ⟨fun pins sh σ H v u Q I ru ⟨av, μ, ρ, st, d, ρ', st', r, er, rp, hm, q⟩ => p.run pins sh σ H v u Q I ru (s av μ σ H Q ρ st v d ρ' st' r er rp hm q)⟩
theorem BlkV.of (h1 : ∀ (s : Shared) (H : Hp) (C : Addr) (cl : List (Str × Addr)) (fp : List Addr), GV g (X.blk s H scope (compEnvC scope cl C X.env) fp) tg js gm)
    (h2 : ∀ (s : Shared) (H : Hp) (C : Addr) (cl : List (Str × Addr)) (fp : List Addr), TsV g (X.blk s H scope (compEnvC scope cl C X.env) fp) ifs mt)
    (h3 : ∀ (s : Shared) (H : Hp) (C : Addr) (cl : List (Str × Addr)) (fp : List Addr), EV g (X.blk s H scope (compEnvC scope cl C X.env) fp) elt me) : BlkV g X scope tg ifs elt js gm mt me :=
  ⟨⟨_, fun s H C cl fp => (h1 s H C cl fp).pg, semOfG⟩, ⟨_, fun s H C cl fp => (h2 s H C cl fp).pts, semOfT⟩, ⟨_, fun s H C cl fp => (h3 s H C cl fp).pe, semOf⟩⟩
theorem sem_lc {ti : TI} {tgt : TG} {tt : TT} {te : TE} {vs : List Nat} (si : SemI X.K g ti mi) (sg : SemG X.K g tgt js gm) (stt : SemT X.K g tt mt) (se : SemE X.K g te me) (hj : ∀ j ∈ js, j ∈ vs) : SemE X.K g (tLc ti tgt tt te vs) (xComp mi vs gm mt me) := by
  intro av μ σ H Q ρ st d st' rl er hm q
  obtain ⟨items, st1, e1, hm⟩ := Mo.bind_some hm
  split at hm
  · rename_i hlen
    obtain ⟨ds, st2, e2, hm⟩ := Mo.bind_some hm
    obtain ⟨z1, z2⟩ := Mo.pure_some hm
    subst z1 z2
    refine si av μ σ H _ ρ st items st1 rl er e1 fun J H1 μ1 xs src x1 r1 l1 w => ?_
    intro D0 nD
    refine ⟨fun i m H2 => m = items.length - i ∧ i ≤ items.length ∧ ∃ μ2 st2 acc ys, Ext μ1 μ2 H1 H2 ∧ Rel X.K g (D0 :: av) μ2 st2 H2 ∧ EnvR X.K g (D0 :: av) μ2 H2 (wipe σ vs) (wipeE ρ vs) ∧ RpL X.K g.ca (D0 :: av) μ2 H2 xs src ∧
      H2 D0 = some (.lst acc) ∧ acc.length ≤ i ∧ RpL X.K g.ca (D0 :: av) μ2 H2 acc ys ∧ (compM gm mt me (items.drop i) (wipeE ρ vs) st2).map (fun p => (ys ++ p.1, p.2)) = some (ds, st'), ⟨_, rfl, Nat.zero_le _, μ1, st1, [], [], Ext.new nD, r1.protect nD, ((er.mono x1).protect nD).wipe vs, RpL.mono (Ext.new nD) (RpL.avoid nD l1), upd_same, Nat.le_refl _, .nil, by rw [List.drop_zero, e2]; rfl⟩, ?_⟩
    rintro i m H2 ⟨rfl, hil, μ2, st2, acc, ys, x2, r2, er2, l2, hD, hacc, lacc, hm2⟩
    by_cases hlt : i < items.length
    · rw [drop_cons hlt] at hm2
      refine .inr ⟨w.go i H2 hlt x2.keep, fun H' => i + 1 ≤ items.length ∧ ∃ μ' st'' acc ys, Ext μ1 μ' H1 H' ∧ Rel X.K g (D0 :: av) μ' st'' H' ∧ EnvR X.K g (D0 :: av) μ' H' (wipe σ vs) (wipeE ρ vs) ∧ RpL X.K g.ca (D0 :: av) μ' H' xs src ∧
        H' D0 = some (.lst acc) ∧ acc.length ≤ i + 1 ∧ RpL X.K g.ca (D0 :: av) μ' H' acc ys ∧ (compM gm mt me (items.drop (i + 1)) (wipeE ρ vs) st'').map (fun p => (ys ++ p.1, p.2)) = some (ds, st'), fun H' h => ⟨_, by omega, rfl, h⟩, fun x H3 hy => ?_⟩
      obtain ⟨x3, r3, p3⟩ := yld_step w x2 r2 l2 hy (List.getElem?_eq_getElem hlt)
      cases hc : compM gm mt me (items[i] :: items.drop (i + 1)) (wipeE ρ vs) st2 with
      | none => rw [hc] at hm2; cases hm2
      | some pr =>
        obtain ⟨zs, stz⟩ := pr
        rw [hc] at hm2
        obtain ⟨ρ4, st4, e4, hc⟩ := Mo.bind_some hc
        obtain ⟨b, st5, e5, hc⟩ := Mo.bind_some hc
        refine sg (D0 :: av) μ2 (wipe σ vs) H3 _ (wipeE ρ vs) st2 x _ ρ4 st4 r3 (er2.mono x3) p3 e4 fun σ4 H4 μ4 x4 r4 er4 wp => ⟨(wp vs hj).trans wipe_wipe, ?_⟩
        refine stt (D0 :: av) μ4 σ4 H4 _ ρ4 st4 b st5 r4 er4 e5 fun H5 μ5 x5 r5 => ?_
        have x25 : Ext μ2 μ5 H2 H5 := (x3.trans x4).trans x5
        have x05 : Ext μ1 μ5 H1 H5 := x2.trans x25
        have keepD : ∀ {μ' : List Addr} {H' : Hp}, Ext μ2 μ' H2 H' → H' D0 = some (.lst acc) := fun x => x.keep D0 _ hD (fun z => absurd z (r2.avo D0 (by simp)).2) fun ps z => by cases z
        cases b with
        | true =>
          rw [if_pos rfl] at hc
          obtain ⟨y, st6, e6, hc⟩ := Mo.bind_some hc
          obtain ⟨ys', st7, e7, hc⟩ := Mo.bind_some hc
          obtain ⟨z1, z2⟩ := Mo.pure_some hc
          subst z1 z2
          refine se (D0 :: av) μ5 σ4 H5 _ ρ4 st5 y st6 r5 (er4.mono x5) e6 fun v H6 μ6 x6 r6 q6 => ?_
          have x26 := x25.trans x6
          have hD6 := keepD x26
          have m0 : D0 ∈ D0 :: av := by simp
          refine ⟨acc, hD6, Nat.lt_of_le_of_lt (Nat.le_trans hacc (Nat.le_trans (Nat.le_of_lt hlt) hlen)) (by rw [sizeLine_eq]; decide), hlt, μ6, st6, acc ++ [v], ys ++ [y], (x05.trans x6).over nD, r6.over m0 hD6 trivial, (er2.mono x26).over m0 hD6 trivial, RpL.over m0 hD6 trivial (RpL.mono x26 l2), upd_same, ?_, ?_, ?_⟩
          · rw [List.length_append]; exact Nat.succ_le_succ hacc
          · exact RpL.over m0 hD6 trivial (RpL.append (RpL.mono x26 lacc) (.cons q6 .nil))
          · rw [e7]
            rw [← hm2]
            simp
        | false =>
          refine ⟨hlt, μ5, st5, acc, ys, x05, r5, er2.mono x25, RpL.mono x25 l2, keepD x25, Nat.le_succ_of_le hacc, RpL.mono x25 lacc, ?_⟩
          have hc' : compM gm mt me (items.drop (i + 1)) (wipeE ρ vs) st5 = some (zs, stz) := hc
          rw [hc']
          exact hm2
    · have e : i = items.length := by omega
      subst e
      rw [List.drop_length] at hm2
      have hm3 : some (ys ++ [], st2) = some (ds, st') := hm2
      rw [List.append_nil] at hm3
      cases hm3
      have fw : ∀ a ∈ av, a ∈ D0 :: av := fun a h => List.mem_cons_of_mem _ h
      exact .inl ⟨w.stop H2 x2.keep, q _ H2 μ2 (x1.trans x2) (r2.fewer fw) (.lst hD (r1.fresh nD).1 (r2.avo D0 (by simp)).2 (RpL.fewer fw lacc))⟩
  · cases hm
theorem ev_lc (hc : X.calm = true) (hN : X.N.Nodup) (hi : IV g X tg iter mi) (ok : BlkOk X.N X.env.scope scope own) (B : BlkV g X scope tg ifs elt js gm mt me) (hj : ∀ j ∈ js, j ∈ own.map (·.2)) (hs : ∀ x, foldedSetIterable iter X.env x = pure x := by intro _; rfl) :
    EV g X (.ListComp elt [⟨tg, iter, ifs, 0⟩] scope pos) (xComp mi (own.map (·.2)) gm mt me) := by
  obtain ⟨ti, pi, si⟩ := hi.ex
  obtain ⟨tgt, pg, sg⟩ := B.tg
  obtain ⟨tt, pt, stt⟩ := B.ts
  obtain ⟨te, pe, se⟩ := B.el
  exact ⟨_, pe_lc hc hN pi ok pg pt pe hs, sem_lc si sg stt se hj⟩
theorem sv_setLc {i : Nat} {y : Str} {py spos : Pos} (hc : X.calm = true) (hN : X.N.Nodup) (hy : X.N[i]? = some y) (hyl : X.env.scope.names.lookup y = some .local)
    (hsw : swapsWith (.ListComp elt [⟨tg, iter, ifs, 0⟩] scope pos) (some (.Name y py)) spos.line X.env = pure true) (hi : IV g X tg iter mi) (ok : BlkOk X.N X.env.scope scope own) (B : BlkV g X scope tg ifs elt js gm mt me) (hj : ∀ j ∈ js, j ∈ own.map (·.2)) (hs : ∀ x, foldedSetIterable iter X.env x = pure x := by intro _; rfl) :
    SV g X (.Assign [.Name y py] (.ListComp elt [⟨tg, iter, ifs, 0⟩] scope pos) spos) (ySet i (xComp mi (own.map (·.2)) gm mt me)) := by
  obtain ⟨ti, pi, si⟩ := hi.ex
  obtain ⟨tgt, pg, sg⟩ := B.tg
  obtain ⟨tt, pt, stt⟩ := B.ts
  obtain ⟨te, pe, se⟩ := B.el
  refine ⟨_, ps_setLc hc hN hy hyl hsw pi ok pg pt pe hs, fun av μ σ H E ρ st o st' rl er hm p => ?_⟩
  obtain ⟨d, st1, e1, hm⟩ := Mo.bind_some hm
  obtain ⟨z1, z2⟩ := Mo.pure_some hm
  subst z1 z2
  exact sem_lc si sg stt se hj av μ σ H _ ρ st d _ rl er e1 fun v H' μ' x r q => p _ H' μ' x r ((er.mono x).set q i)
end
end MM
set_option autoImplicit false
set_option maxRecDepth 100000
set_option maxHeartbeats 4000000
/-! M5: operators by data: +, -, *, //, %, **, bits; ==, <, in, is. -/
namespace MM
open PySem PySem.Spec PyProof.Rows L2 LamX NdefX
section
variable {g : G} {X : Cx}
theorem lift2_some {f : D → D → Option D} {x y d : D} {st st' : List Ob} (h : lift2 f x y st = some (d, st')) : f x y = some d ∧ st' = st := by
  unfold lift2 at h
  cases e : f x y with
  | none => rw [e] at h; cases h
  | some z => rw [e] at h; cases h; exact ⟨rfl, rfl⟩
theorem opd_lift {ff : Value → Value → Sem Value} {f : D → D → Option D} {r : R2} (o : OpR X ff r)
    (s : ∀ (av μ : List Addr) (H : Hp) (Q : VK) (st : List Ob) (x y : V) (dx dy d : D), Rel X.K g av μ st H → Rp X.K g.ca av μ H x dx → Rp X.K g.ca av μ H y dy → f dx dy = some d → Post X.K g av μ H d st Q → r x y H Q) : OpD g X ff (lift2 f) :=
  ⟨r, o, fun av μ H Q st x y dx dy d st' rl rx ry hm p => by
    obtain ⟨e1, e2⟩ := lift2_some hm
    subst e2
    exact s av μ H Q _ x y dx dy d rl rx ry e1 p⟩
def dI (C : Int → Int → Prop) [∀ i j, Decidable (C i j)] (f : Int → Int → Int) : D → D → Option D
  | .int i, .int j => if C i j then some (.int (f i j)) else none
  | _, _ => none
theorem opd_I {ff : Value → Value → Sem Value} {C C' : Int → Int → Prop} [∀ i j, Decidable (C i j)] {f : Int → Int → Int} (o : OpR X ff (rI C' fun i j => .int (f i j))) (hC : ∀ i j, C i j → C' i j) : OpD g X ff (lift2 (dI C f)) :=
  opd_lift o fun av μ H Q st x y dx dy d rl rx ry hm p => by
    unfold dI at hm
    split at hm
    · split at hm
      · rename_i hc
        cases hm
        cases rx
        cases ry
        exact ⟨_, _, rfl, rfl, hC _ _ hc, p.here rl (.int _)⟩
      · cases hm
    · cases hm
def dI0 (f : Int → Int → Int) : D → D → Option D
  | .int i, .int j => some (.int (f i j))
  | _, _ => none
theorem opd_I0 {ff : Value → Value → Sem Value} {f : Int → Int → Int} (o : OpR X ff (rI0 fun i j => .int (f i j))) : OpD g X ff (lift2 (dI0 f)) :=
  opd_lift o fun av μ H Q st x y dx dy d rl rx ry hm p => by
    unfold dI0 at hm
    split at hm
    · cases hm
      cases rx
      cases ry
      exact ⟨_, _, rfl, rfl, p.here rl (.int _)⟩
    · cases hm
def dIB (f : Int → Int → Bool) : D → D → Option D
  | .int i, .int j => some (.bl (f i j))
  | _, _ => none
theorem opd_IB {ff : Value → Value → Sem Value} {f : Int → Int → Bool} (o : OpR X ff (rI0 fun i j => .bl (f i j))) : OpD g X ff (lift2 (dIB f)) :=
  opd_lift o fun av μ H Q st x y dx dy d rl rx ry hm p => by
    unfold dIB at hm
    split at hm
    · cases hm
      cases rx
      cases ry
      exact ⟨_, _, rfl, rfl, p.here rl (.bl _)⟩
    · cases hm
abbrev mSub : D → D → Mo D := lift2 (dI0 fun i j => i - j)
def cMul (i j : Int) : Prop := (-(2 ^ 64) < i ∧ i < 2 ^ 64) ∨ (-(2 ^ 64) < j ∧ j < 2 ^ 64)
instance (i j : Int) : Decidable (cMul i j) := by unfold cMul; infer_instance
abbrev mMul : D → D → Mo D := lift2 (dI cMul fun i j => i * j)
def cDiv (_ j : Int) : Prop := 0 < j ∧ j < 1073741824
instance (i j : Int) : Decidable (cDiv i j) := by unfold cDiv; infer_instance
abbrev mDiv : D → D → Mo D := lift2 (dI cDiv fun i j => i / j)
abbrev mMod : D → D → Mo D := lift2 (dI (fun _ j => 0 < j) fun i j => i % j)
def cPow (i j : Int) : Prop := 0 ≤ j ∧ j ≤ 1000 ∧ i.natAbs < 1000000
instance (i j : Int) : Decidable (cPow i j) := by unfold cPow; infer_instance
abbrev mPow : D → D → Mo D := lift2 (dI cPow fun i j => i ^ j.toNat)
abbrev mShl : D → D → Mo D := lift2 (dI cPow fun i j => i * 2 ^ j.toNat)
abbrev mShr : D → D → Mo D := lift2 (dI (fun _ j => 0 ≤ j) fun i j => i / 2 ^ j.toNat)
abbrev mAndI : D → D → Mo D := lift2 (dI0 fun i j => Builtin.bitAnd i j)
abbrev mOrI : D → D → Mo D := lift2 (dI0 fun i j => Builtin.bitOr i j)
abbrev mXorI : D → D → Mo D := lift2 (dI0 fun i j => Builtin.bitXor i j)
theorem od_sub : OpD g X (binaryOp .Sub) mSub := opd_I0 op_sub
theorem od_mul : OpD g X (binaryOp .Mult) mMul := opd_I op_mul fun i j h => h
theorem od_div : OpD g X (binaryOp .FloorDiv) mDiv := opd_I op_fdiv fun i j h => h
theorem od_mod : OpD g X (binaryOp .Mod) mMod := opd_I op_mod fun i j h => h
theorem od_pow : OpD g X (binaryOp .Pow) mPow := opd_I op_pow fun i j h => ⟨h.1, by have := h.2.1; omega, by have := h.2.2; omega⟩
theorem od_shl : OpD g X (binaryOp .LShift) mShl := opd_I op_shl fun i j h => ⟨h.1, by have := h.2.1; omega, by have := h.2.2; omega⟩
theorem od_shr : OpD g X (binaryOp .RShift) mShr := opd_I op_shr fun i j h => h
theorem od_and : OpD g X (binaryOp .BitAnd) mAndI := opd_I0 op_and
theorem od_or : OpD g X (binaryOp .BitOr) mOrI := opd_I0 op_or
theorem od_xor : OpD g X (binaryOp .BitXor) mXorI := opd_I0 op_xor
/-! ### + -/
def dAdd : D → D → Option D
  | .int i, .int j => some (.int (i + j))
  | .str x, .str y => if x.length + y.length ≤ 1000000 then some (.str (x ++ y)) else none
  | .lst xs, .lst ys => if xs.length + ys.length ≤ 1000000 then some (.lst (xs ++ ys)) else none
  | .tup xs, .tup ys => if xs.length + ys.length ≤ 1000000 then some (.tup (xs ++ ys)) else none
  | _, _ => none
abbrev mAdd : D → D → Mo D := lift2 dAdd
theorem or_lift {f f1 f2 : D → D → Option D} (h : ∀ x y d, f x y = some d → f1 x y = some d ∨ f2 x y = some d) : ∀ x y st r, lift2 f x y st = some r → lift2 f1 x y st = some r ∨ lift2 f2 x y st = some r := fun x y st r e => by
  obtain ⟨d, st'⟩ := r
  obtain ⟨e1, e2⟩ := lift2_some e
  subst e2
  rcases h x y d e1 with z | z
  · exact .inl (by unfold lift2; rw [z]; rfl)
  · exact .inr (by unfold lift2; rw [z]; rfl)
def dAddS : D → D → Option D
  | .str x, .str y => if x.length + y.length ≤ 1000000 then some (.str (x ++ y)) else none
  | _, _ => none
def dAddL : D → D → Option D
  | .lst xs, .lst ys => if xs.length + ys.length ≤ 1000000 then some (.lst (xs ++ ys)) else none
  | _, _ => none
def dAddT : D → D → Option D
  | .tup xs, .tup ys => if xs.length + ys.length ≤ 1000000 then some (.tup (xs ++ ys)) else none
  | _, _ => none
def dAddLT : D → D → Option D
  | .lst xs, .lst ys => if xs.length + ys.length ≤ 1000000 then some (.lst (xs ++ ys)) else none
  | .tup xs, .tup ys => if xs.length + ys.length ≤ 1000000 then some (.tup (xs ++ ys)) else none
  | _, _ => none
def dAddSLT : D → D → Option D
  | .str x, .str y => if x.length + y.length ≤ 1000000 then some (.str (x ++ y)) else none
  | .lst xs, .lst ys => if xs.length + ys.length ≤ 1000000 then some (.lst (xs ++ ys)) else none
  | .tup xs, .tup ys => if xs.length + ys.length ≤ 1000000 then some (.tup (xs ++ ys)) else none
  | _, _ => none
theorem od_addS : OpD g X (binaryOp .Add) (lift2 dAddS) := opd_lift op_add_str fun av μ H Q st x y dx dy d rl rx ry hm p => by
  unfold dAddS at hm
  split at hm
  · split at hm
    · rename_i hl
      cases hm
      cases rx
      cases ry
      exact ⟨_, _, rfl, rfl, Nat.le_trans hl line_le, p.here rl (.str _)⟩
    · cases hm
  · cases hm
theorem od_addL : OpD g X (binaryOp .Add) (lift2 dAddL) := opd_lift op_cat fun av μ H Q st x y dx dy d rl rx ry hm p => by
  unfold dAddL at hm
  split at hm
  · split at hm
    · rename_i hl
      cases hm
      cases rx with
      | lst h1 n1 m1 l1 =>
        cases ry with
        | lst h2 n2 m2 l2 => exact ⟨_, _, _, _, rfl, rfl, h1, h2, by rw [l1.length, l2.length]; exact Nat.le_trans hl line_le, fun q hq => p.newO rl hq (rp_newL rl hq (RpL.append l1 l2))⟩
    · cases hm
  · cases hm
theorem od_addT : OpD g X (binaryOp .Add) (lift2 dAddT) := opd_lift op_catA fun av μ H Q st x y dx dy d rl rx ry hm p => by
  unfold dAddT at hm
  split at hm
  · split at hm
    · rename_i hl
      cases hm
      cases rx with
      | tup h1 l1 =>
        cases ry with
        | tup h2 l2 =>
          refine ⟨_, _, _, _, rfl, rfl, h1, h2, by rw [l1.length, l2.length]; exact Nat.le_trans hl line_le, fun e => ?_, fun e e' => ?_, fun e e' q hq => p.newO rl hq (rp_newT rl hq (RpL.append l1 l2))⟩
          · rw [l1.nil_iff.mp e] at p
            exact p.here rl (.tup h2 l2)
          · rw [l2.nil_iff.mp e', List.append_nil] at p
            exact p.here rl (.tup h1 l1)
    · cases hm
  · cases hm
theorem od_add : OpD g X (binaryOp .Add) mAdd :=
  .or (m2 := lift2 dAddSLT) (opd_I0 op_add) (.or (m2 := lift2 dAddLT) od_addS (.or od_addL od_addT (or_lift fun x y d h => by
      unfold dAddLT at h
      split at h
      · exact .inl h
      · exact .inr h
      · cases h)) (or_lift fun x y d h => by
      unfold dAddSLT at h
      split at h
      · exact .inl h
      · exact .inr h
      · exact .inr h
      · cases h)) (or_lift fun x y d h => by
      unfold dAdd at h
      split at h
      · exact .inl h
      · exact .inr h
      · exact .inr h
      · exact .inr h
      · cases h)
/-! ### data of the library's own kind -/
end
mutual
def toPy : D → PyData
  | .non => .none
  | .bl b => .bool b
  | .int i => .int i
  | .str x => .str x
  | .tup ds => .tuple (toPys ds)
  | .lst ds => .list (toPys ds)
  | .ro ds => .list (toPys ds)
  | .ins _ _ _ => .none
  | .dct _ _ => .none
  | .loc _ => .none
  | .ty _ => .none
  | .cls _ => .none
def toPys : List D → List PyData
  | [] => []
  | d :: ds => toPy d :: toPys ds
end
mutual
def pyOk : D → Bool
  | .non => true
  | .bl _ => true
  | .int _ => true
  | .str x => PyData.strOk x
  | .tup ds => pyOks ds
  | .lst ds => pyOks ds
  | .ro ds => pyOks ds
  | .ins _ _ _ => false
  | .dct _ _ => false
  | .loc _ => false
  | .ty _ => false
  | .cls _ => false
def pyOks : List D → Bool
  | [] => true
  | d :: ds => pyOk d && pyOks ds
end
theorem toPys_map : ∀ ds : List D, toPys ds = ds.map toPy
  | [] => rfl
  | d :: ds => by rw [toPys, toPys_map, List.map_cons]
theorem pyOks_all : ∀ ds : List D, pyOks ds = ds.all pyOk
  | [] => rfl
  | d :: ds => by rw [pyOks, pyOks_all, List.all_cons]
mutual
theorem lay_of : ∀ d : D, pyOk d = true → (toPy d).canLay0 = true
  | .non, _ => by simp [toPy, PyData.canLay0]
  | .bl b, _ => by simp [toPy, PyData.canLay0]
  | .int i, _ => by simp [toPy, PyData.canLay0]
  | .str x, h => by simpa [toPy, PyData.canLay0, pyOk] using h
  | .tup ds, h => by rw [toPy, PyData.canLay0]; exact lays_of ds (by simpa [pyOk] using h)
  | .lst ds, h => by rw [toPy, PyData.canLay0]; exact lays_of ds (by simpa [pyOk] using h)
  | .ro ds, h => by rw [toPy, PyData.canLay0]; exact lays_of ds (by simpa [pyOk] using h)
  | .ins _ _ _, h => by simp [pyOk] at h
  | .dct _ _, h => by simp [pyOk] at h
  | .loc _, h => by simp [pyOk] at h
  | .ty _, h => by simp [pyOk] at h
  | .cls _, h => by simp [pyOk] at h
theorem lays_of : ∀ ds : List D, pyOks ds = true → PyData.canLayAll0 (toPys ds) = true
  | [], _ => by simp [toPys, PyData.canLayAll0]
  | d :: ds, h => by
    rw [pyOks, Bool.and_eq_true] at h
    rw [toPys, PyData.canLayAll0, lay_of d h.1, lays_of ds h.2]
    rfl
end
section
variable {K : PySem.W.Frag} {ca : Str → Addr} {av μ : List Addr} {H : Hp}
mutual
theorem dp_of : ∀ {v : V} {d : D}, Rp K ca av μ H v d → pyOk d = true → Dp K H v (toPy d)
  | _, _, .non, _ => by rw [toPy]; exact .non
  | _, _, .bl b, _ => by rw [toPy]; exact .bl b
  | _, _, .int i, _ => by rw [toPy]; exact .int i
  | _, _, .str x, _ => by rw [toPy]; exact .str x
  | _, _, .tup h l, e => by rw [toPy]; exact .tup h (dps_of l (by simpa [pyOk] using e))
  | _, _, .lst h n1 n2 l, e => by rw [toPy]; exact .lst (SqL.of h) (dps_of l (by simpa [pyOk] using e))
  | _, _, .ro h l, e => by rw [toPy]; exact .lst (ro_sqL h) (dps_of l (by simpa [pyOk] using e))
  | _, _, .ins _ _ _ _, e => by simp [pyOk] at e
  | _, _, .dct _ _ _ _, e => by simp [pyOk] at e
  | _, _, .loc _, e => by simp [pyOk] at e
  | _, _, .ty _, e => by simp [pyOk] at e
  | _, _, .cls _, e => by simp [pyOk] at e
theorem dps_of : ∀ {vs : List V} {ds : List D}, RpL K ca av μ H vs ds → pyOks ds = true → DpAll K H vs (toPys ds)
  | _, _, .nil, _ => by rw [toPys]; exact .nil
  | _, _, .cons h t, e => by
    rw [pyOks, Bool.and_eq_true] at e
    rw [toPys]
    exact .cons (dp_of h e.1) (dps_of t e.2)
end
end
/-- a list of the store as it stands -/
def res (st : List Ob) : D → D
  | .loc n => (match st[n]? with
    | some (.lst ds) => .lst ds
    | _ => .loc n)
  | d => d
def okD (d : D) : Bool := pyOk d && decide ((toPy d).depth ≤ 60)
theorem okD_shaped {d : D} (h : okD d = true) : SeqAt.shaped (toPy d) = true := by
  unfold okD at h
  rw [Bool.and_eq_true] at h
  unfold SeqAt.shaped
  rw [lay_of d h.1, Bool.true_and]
  have := of_decide_eq_true h.2
  exact decide_eq_true (by omega)
theorem dp_res {K : PySem.W.Frag} {g : G} {av μ : List Addr} {st : List Ob} {H : Hp} {v : V} {d : D} (r : Rel K g av μ st H) (h : Rp K g.ca av μ H v d) (o : okD (res st d) = true) : Dp K H v (toPy (res st d)) := by
  have o1 : pyOk (res st d) = true := by unfold okD at o; rw [Bool.and_eq_true] at o; exact o.1
  cases d with
  | loc n =>
    unfold res at o1 ⊢
    cases e : st[n]? with
    | none => simp only [e] at o1; simp [pyOk] at o1
    | some ob =>
      cases ob with
      | lst ds =>
        simp only [e] at o1 ⊢
        cases h with
        | loc hm =>
          cases r.obs n _ _ hm e with
          | lst h2 l2 =>
            rw [toPy]
            exact .lst (SqL.of h2) (dps_of l2 (by simpa [pyOk] using o1))
      | ins c ns ds => simp only [e] at o1; simp [pyOk] at o1
      | dK ks ds => simp only [e] at o1; simp [pyOk] at o1
  | _ => exact dp_of h o1
def mEq : D → D → Mo D := fun x y st => if okD (res st x) = true ∧ okD (res st y) = true then some (.bl (PyData.eqv (toPy (res st x)) (toPy (res st y))), st) else none
def mNe : D → D → Mo D := fun x y st => if okD (res st x) = true ∧ okD (res st y) = true then some (.bl (!PyData.eqv (toPy (res st x)) (toPy (res st y))), st) else none
section
variable {g : G} {X : Cx}
theorem od_eq (hu : X.A.units + 64 < cLine) : OpD g X (compareOp .Eq) mEq := ⟨_, op_eqD hu, fun av μ H Q st x y dx dy d st' rl rx ry hm p => by
  unfold mEq at hm
  split at hm
  · rename_i h
    cases hm
    exact ⟨_, _, dp_res rl rx h.1, dp_res rl ry h.2, okD_shaped h.1, okD_shaped h.2, p.here rl (.bl _)⟩
  · cases hm⟩
theorem od_ne (hu : X.A.units + 64 < cLine) : OpD g X (compareOp .NotEq) mNe := ⟨_, op_neD hu, fun av μ H Q st x y dx dy d st' rl rx ry hm p => by
  unfold mNe at hm
  split at hm
  · rename_i h
    cases hm
    exact ⟨_, _, dp_res rl rx h.1, dp_res rl ry h.2, okD_shaped h.1, okD_shaped h.2, p.here rl (.bl _)⟩
  · cases hm⟩
/-! ### <, > -/
theorem rc_lt_str {A : Around} {s : Shared} (a b : Str) (t u : Tok) : Ob.RcOp .Lt A s (.str a t) (.str b u) (decide (a.cps.toList < b.cps.toList)) := fun prog w E Q h => lt_str h
def lexLtS : List Str → List Str → Bool
  | [], [] => false
  | [], _ :: _ => true
  | _ :: _, [] => false
  | x :: xs, y :: ys => if x = y then lexLtS xs ys else decide (x.cps.toList < y.cps.toList)
theorem lexAt_S : ∀ (k i : Nat) (xs ys : List Str), k = min (xs.length - i) (ys.length - i) → i ≤ xs.length → i ≤ ys.length →
    _root_.Ob.lexAt (fun j => decide (xs.getD j Str.empty = ys.getD j Str.empty)) (fun j => decide ((xs.getD j Str.empty).cps.toList < (ys.getD j Str.empty).cps.toList)) (decide (xs.length < ys.length)) i k = lexLtS (xs.drop i) (ys.drop i)
  | 0, i, xs, ys, hk, h1, h2 => by
    rw [_root_.Ob.lexAt_zero]
    by_cases e1 : i = xs.length
    · by_cases e2 : i = ys.length
      · rw [e1, List.drop_length, ← e1, e2, List.drop_length]
        simp [lexLtS, ← e1, e2]
      · have hlt : i < ys.length := by omega
        rw [e1, List.drop_length, ← e1, List.drop_eq_getElem_cons hlt]
        simp only [lexLtS]
        exact decide_eq_true (by omega)
    · have hlt : i < xs.length := by omega
      have e2 : i = ys.length := by omega
      rw [show ys.drop i = [] from List.drop_eq_nil_of_le (by omega), List.drop_eq_getElem_cons hlt]
      simp only [lexLtS]
      exact decide_eq_false (by omega)
  | k + 1, i, xs, ys, hk, h1, h2 => by
    have l1 : i < xs.length := by omega
    have l2 : i < ys.length := by omega
    rw [_root_.Ob.lexAt_succ, List.drop_eq_getElem_cons l1, List.drop_eq_getElem_cons l2]
    have g1 : xs.getD i Str.empty = xs[i] := by simp [List.getD, l1]
    have g2 : ys.getD i Str.empty = ys[i] := by simp [List.getD, l2]
    rw [g1, g2]
    simp only [lexLtS]
    by_cases e : xs[i] = ys[i]
    · rw [if_pos (decide_eq_true e), if_pos e]
      exact lexAt_S k (i + 1) xs ys (by omega) l1 l2
    · rw [if_neg (by simp [e]), if_neg e]
def rLtS (K : PySem.W.Frag) : R2 := fun x y H Q => ∃ (a b : Addr) (xs ys : List Str), x = .ref a ∧ y = .ref b ∧ SqT K H a (xs.map V.str) ∧ SqT K H b (ys.map V.str) ∧ Q (.bl (lexLtS xs ys)) H
theorem strs_at' {its : List Value} {xs : List Str} (h : StrsAre its xs) {j : Nat} (h1 : j < its.toArray.size) : ∃ t, its.toArray[j] = .str (xs.getD j Str.empty) t := by
  have hl : its.length = xs.length := h.length
  have v : Vals (xs.map V.str) its := vals_of_strs h
  have hj : j < xs.length := by simp at h1; omega
  obtain ⟨u, hu, t, e⟩ := v.get (i := j) (x := .str xs[j]) (by simp [hj])
  have e2 : its[j]? = some its.toArray[j] := by simp at h1; simp [h1]
  rw [e2] at hu
  cases hu
  refine ⟨t, ?_⟩
  rw [e]
  simp [List.getD, hj]
theorem op_ltTS (hu : X.A.units < cLine) : OpR X (compareOp .Lt) (rLtS X.K) := by
  intro pins s σ H x y v u Q I rx ry h
  obtain ⟨a, b, xs, ys, rfl, rfl, ha, hb, q⟩ := h
  cases rx
  cases ry
  obtain ⟨its, r1, p1, _⟩ := I.tuple ha
  obtain ⟨its2, r2, p2, _⟩ := I.tuple hb
  have i1 : StrsAre its xs := Vals.strs r1
  have i2 : StrsAre its2 ys := Vals.strs r2
  have e1 : its.toArray.size = xs.length := by rw [List.size_toArray]; exact i1.length
  have e2 : its2.toArray.size = ys.length := by rw [List.size_toArray]; exact i2.length
  have R := _root_.Ob.RcOp.tuples_lt (A := X.A) (s := s) (e := fun j => decide (xs.getD j Str.empty = ys.getD j Str.empty)) (r := fun j => decide ((xs.getD j Str.empty).cps.toList < (ys.getD j Str.empty).cps.toList)) p1 p2 hu (fun j h1 h2 => by
    obtain ⟨t, et⟩ := strs_at' i1 h1
    obtain ⟨t', et'⟩ := strs_at' i2 h2
    rw [et, et']
    exact SeqAt.EqAt.str_str _ _ _ _) (fun j h1 h2 _ => by
    obtain ⟨t, et⟩ := strs_at' i1 h1
    obtain ⟨t', et'⟩ := strs_at' i2 h2
    rw [et, et']
    exact rc_lt_str _ _ _ _)
  rw [e1, e2, lexAt_S (min xs.length ys.length) 0 xs ys (by simp) (Nat.zero_le _) (Nat.zero_le _), List.drop_zero, List.drop_zero] at R
  have z : wpAny (model X.prog X.w) X.A (compareOp .Lt (.ref a) (.ref b)) (EP X pins σ Q) X.xe s := R X.prog X.w X.xe (EP X pins σ Q) ⟨.bl _, H, I, rfl, q⟩
  exact z
def asStr : D → Option Str
  | .str x => some x
  | _ => none
theorem strs_of {K : PySem.W.Frag} {ca : Str → Addr} {av μ : List Addr} {H : Hp} : ∀ {vs : List V} {ds : List D} {xs : List Str}, RpL K ca av μ H vs ds → ds.mapM asStr = some xs → vs = xs.map V.str
  | _, _, xs, .nil, e => by
    simp at e
    subst e
    rfl
  | _, d :: ds, xs, .cons h t, e => by
    rw [List.mapM_cons] at e
    cases d with
    | str x =>
      cases h
      cases e2 : ds.mapM asStr with
      | none => simp [asStr, e2] at e
      | some ys =>
        simp [asStr, e2] at e
        subst e
        rw [strs_of t e2]
        rfl
    | _ => simp [asStr] at e
def dLt : D → D → Option D
  | .int i, .int j => some (.bl (decide (i < j)))
  | .str x, .str y => some (.bl (decide (x.cps.toList < y.cps.toList)))
  | .tup xs, .tup ys => match xs.mapM asStr, ys.mapM asStr with
    | some as, some bs => some (.bl (lexLtS as bs))
    | _, _ => none
  | _, _ => none
def dLtS : D → D → Option D
  | .str x, .str y => some (.bl (decide (x.cps.toList < y.cps.toList)))
  | _, _ => none
def dLtT : D → D → Option D
  | .tup xs, .tup ys => match xs.mapM asStr, ys.mapM asStr with
    | some as, some bs => some (.bl (lexLtS as bs))
    | _, _ => none
  | _, _ => none
def dLtST : D → D → Option D
  | .str x, .str y => some (.bl (decide (x.cps.toList < y.cps.toList)))
  | .tup xs, .tup ys => match xs.mapM asStr, ys.mapM asStr with
    | some as, some bs => some (.bl (lexLtS as bs))
    | _, _ => none
  | _, _ => none
abbrev mLt : D → D → Mo D := lift2 dLt
theorem od_ltS : OpD g X (compareOp .Lt) (lift2 dLtS) := opd_lift op_lt_str fun av μ H Q st x y dx dy d rl rx ry hm p => by
  unfold dLtS at hm
  split at hm
  · cases hm
    cases rx
    cases ry
    exact ⟨_, _, rfl, rfl, p.here rl (.bl _)⟩
  · cases hm
theorem od_ltT (hu : X.A.units < cLine) : OpD g X (compareOp .Lt) (lift2 dLtT) := opd_lift (op_ltTS hu) fun av μ H Q st x y dx dy d rl rx ry hm p => by
  unfold dLtT at hm
  split at hm
  · split at hm
    · rename_i as bs e1 e2
      cases hm
      cases rx with
      | tup h1 l1 =>
        cases ry with
        | tup h2 l2 =>
          refine ⟨_, _, as, bs, rfl, rfl, ?_, ?_, p.here rl (.bl _)⟩
          · rw [← strs_of l1 e1]; exact h1
          · rw [← strs_of l2 e2]; exact h2
    · cases hm
  · cases hm
theorem od_lt (hu : X.A.units < cLine) : OpD g X (compareOp .Lt) mLt :=
  .or (m2 := lift2 dLtST) (opd_IB op_lt) (.or od_ltS (od_ltT hu) (or_lift fun x y d h => by
      unfold dLtST at h
      split at h
      · exact .inl h
      · exact .inr h
      · cases h)) (or_lift fun x y d h => by
      unfold dLt at h
      split at h
      · exact .inl h
      · exact .inr h
      · exact .inr h
      · cases h)
abbrev mLe : D → D → Mo D := lift2 (dIB fun i j => decide (i ≤ j))
abbrev mGt : D → D → Mo D := lift2 (dIB fun i j => decide (j < i))
abbrev mGe : D → D → Mo D := lift2 (dIB fun i j => decide (j ≤ i))
theorem od_le : OpD g X (compareOp .LtE) mLe := opd_IB op_le
theorem od_gt : OpD g X (compareOp .Gt) mGt := opd_IB op_gt
theorem od_ge : OpD g X (compareOp .GtE) mGe := opd_IB op_ge
/-! ### in, not in -/
def flatD : D → Bool
  | .non => true
  | .bl _ => true
  | .int _ => true
  | .str _ => true
  | _ => false
def eqFl : D → D → Bool
  | .non, .non => true
  | .bl a, .bl b => a == b
  | .bl a, .int b => (if a then 1 else 0) == b
  | .int a, .bl b => a == (if b then 1 else 0)
  | .int a, .int b => a == b
  | .str a, .str b => a == b
  | _, _ => false
theorem flat_of {K : PySem.W.Frag} {ca : Str → Addr} {av μ : List Addr} {H : Hp} {v : V} {d : D} (h : Rp K ca av μ H v d) (f : flatD d = true) : flatV v = true := by
  cases h <;> first | rfl | (simp [flatD] at f)
theorem eqFl_of {K : PySem.W.Frag} {ca : Str → Addr} {av μ : List Addr} {H : Hp} {v w : V} {d e : D} (h : Rp K ca av μ H v d) (h2 : Rp K ca av μ H w e) (f : flatD d = true) (f2 : flatD e = true) : eqV v w = eqFl d e := by
  cases h <;> first | (simp [flatD] at f; done) | (cases h2 <;> first | rfl | (simp [flatD] at f2; done))
theorem inFl_of {K : PySem.W.Frag} {ca : Str → Addr} {av μ : List Addr} {H : Hp} {w : V} {e : D} (h2 : Rp K ca av μ H w e) (f2 : flatD e = true) : ∀ {vs : List V} {ds : List D}, RpL K ca av μ H vs ds → ds.all flatD = true → vs.all flatV = true ∧ inV w vs = ds.any fun y => eqFl y e
  | _, _, .nil, _ => ⟨rfl, rfl⟩
  | _, _, .cons h t, f => by
    rw [List.all_cons, Bool.and_eq_true] at f
    obtain ⟨i1, i2⟩ := inFl_of h2 f2 t f.2
    refine ⟨by rw [List.all_cons, flat_of h f.1, i1]; rfl, ?_⟩
    unfold inV at i2 ⊢
    rw [List.any_cons, List.any_cons, i2, eqFl_of h h2 f.1 f2]
def seqItems (st : List Ob) (d : D) : Option (List D) := match res st d with
  | .tup ds => some ds
  | .lst ds => some ds
  | .ro ds => some ds
  | _ => none
theorem seq_of {K : PySem.W.Frag} {g : G} {av μ : List Addr} {st : List Ob} {H : Hp} {v : V} {d : D} {ds : List D} (r : Rel K g av μ st H) (h : Rp K g.ca av μ H v d) (e : seqItems st d = some ds) : ∃ p xs, v = .ref p ∧ (SqL K H p xs ∨ SqT K H p xs) ∧ RpL K g.ca av μ H xs ds := by
  unfold seqItems at e
  cases h with
  | tup h l => simp only [res] at e; cases e; exact ⟨_, _, rfl, .inr h, l⟩
  | lst h n1 n2 l => simp only [res] at e; cases e; exact ⟨_, _, rfl, .inl (SqL.of h), l⟩
  | ro h l => simp only [res] at e; cases e; exact ⟨_, _, rfl, .inl (ro_sqL h), l⟩
  | @loc n a hm =>
    unfold res at e
    cases e1 : st[n]? with
    | none => simp only [e1] at e; cases e
    | some ob =>
      cases ob with
      | lst ds =>
        simp only [e1] at e
        cases e
        cases r.obs n _ _ hm e1 with
        | lst h2 l2 => exact ⟨_, _, rfl, .inl (SqL.of h2), l2⟩
      | _ => simp only [e1] at e; cases e
  | _ => simp only [res] at e; cases e
def inB (st : List Ob) (x y : D) : Option Bool := match seqItems st y with
  | some ds => if flatD x = true ∧ ds.all flatD = true then some (ds.any fun z => eqFl z x) else none
  | none => match x, y with
    | .str a, .str b => if a.length = 1 then some (decide (a.cps.getD 0 0 ∈ b.cps.toList)) else none
    | _, _ => none
def mIn : D → D → Mo D := fun x y st => (inB st x y).map fun b => (.bl b, st)
def mNotIn : D → D → Mo D := fun x y st => (inB st x y).map fun b => (.bl (!b), st)
theorem one_sign {a : Str} (h : a.length = 1) : a = ⟨#[a.cps.getD 0 0]⟩ := by
  obtain ⟨c⟩ := a
  have hs : c.size = 1 := h
  congr 1
  apply Array.ext
  · simp [hs]
  · intro i h1 h2
    have : i = 0 := by omega
    subst this
    simp [Array.getD, hs]
theorem od_in : OpD g X (compareOp .In) mIn := ⟨_, OpR.or op_in_seq op_in_sign, fun av μ H Q st x y dx dy d st' rl rx ry hm p => by
  unfold mIn inB at hm
  cases e : seqItems st dy with
  | some ds =>
    simp only [e] at hm
    split at hm
    · rename_i h
      cases hm
      obtain ⟨q, xs, e1, hs, l⟩ := seq_of rl ry e
      obtain ⟨i1, i2⟩ := inFl_of rx h.1 l h.2
      refine .inl ⟨q, xs, e1, hs, flat_of rx h.1, i1, ?_⟩
      rw [i2]
      exact p.here rl (.bl _)
    · cases hm
  | none =>
    simp only [e] at hm
    split at hm
    · split at hm
      · rename_i a b _ h1
        cases hm
        cases rx
        cases ry
        exact .inr ⟨_, _, congrArg V.str (one_sign h1), rfl, p.here rl (.bl _)⟩
      · cases hm
    · cases hm⟩
theorem od_notIn : OpD g X (compareOp .NotIn) mNotIn := ⟨_, OpR.or op_notIn_seq op_notIn_sign, fun av μ H Q st x y dx dy d st' rl rx ry hm p => by
  unfold mNotIn inB at hm
  cases e : seqItems st dy with
  | some ds =>
    simp only [e] at hm
    split at hm
    · rename_i h
      cases hm
      obtain ⟨q, xs, e1, hs, l⟩ := seq_of rl ry e
      obtain ⟨i1, i2⟩ := inFl_of rx h.1 l h.2
      refine .inl ⟨q, xs, e1, hs, flat_of rx h.1, i1, ?_⟩
      rw [i2]
      exact p.here rl (.bl _)
    · cases hm
  | none =>
    simp only [e] at hm
    split at hm
    · split at hm
      · rename_i a b _ h1
        cases hm
        cases rx
        cases ry
        exact .inr ⟨_, _, congrArg V.str (one_sign h1), rfl, p.here rl (.bl _)⟩
      · cases hm
    · cases hm⟩
/-! ### is None, is True -/
def dIs : D → D → Option D
  | .bl a, .bl b => some (.bl (decide (a = b)))
  | x, .non => match x with
    | .non => some (.bl true)
    | _ => some (.bl false)
  | _, _ => none
theorem non_of {K : PySem.W.Frag} {ca : Str → Addr} {av μ : List Addr} {H : Hp} {v : V} {d : D} (h : Rp K ca av μ H v d) : decide (v = .non) = (match d with | .non => true | _ => false) := by
  cases h <;> rfl
end
end MM
set_option autoImplicit false
set_option maxRecDepth 100000
set_option maxHeartbeats 4000000
/-! M6: built-in functions and methods, items, slices, by data. -/
namespace MM
open PySem PySem.Spec PyProof.Rows L2 LamX NdefX
/-- a call of a built-in by values -/
def CallD (g : G) (X : Cx) (f : Value) (md : List D → Mo D) : Prop :=
  ∃ r, CallR X f r ∧ ∀ (av μ : List Addr) (H : Hp) (Q : VK) (st : List Ob) (xs : List V) (ds : List D) (d : D) (st' : List Ob), Rel X.K g av μ st H → RpL X.K g.ca av μ H xs ds → md ds st = some (d, st') → Post X.K g av μ H d st' Q → r xs H Q
def MtD (g : G) (X : Cx) (id : String) (T : String) (md : D → List D → Mo D) : Prop :=
  ∃ r, MtR X id r ∧ (∀ (av μ : List Addr) (H : Hp) (Q : VK) (st : List Ob) (x : V) (xs : List V) (dx : D) (ds : List D) (d : D) (st' : List Ob), Rel X.K g av μ st H → Rp X.K g.ca av μ H x dx → RpL X.K g.ca av μ H xs ds → md dx ds st = some (d, st') → Post X.K g av μ H d st' Q → r x xs H Q)
def xCall (md : List D → Mo D) (ml : Ev → Mo (List D)) : Ev → Mo D := fun ρ => (ml ρ).bind md
section
variable {g : G} {X : Cx} {e : Expr} {es : List Expr} {ml : Ev → Mo (List D)} {md : List D → Mo D} {p pos : Pos} {x : Str} {bid T : String}
theorem semCall {r : List V → Hp → VK → Prop} {t : TA}
    (s : ∀ (av μ : List Addr) (H : Hp) (Q : VK) (st : List Ob) (xs : List V) (ds : List D) (d : D) (st' : List Ob), Rel X.K g av μ st H → RpL X.K g.ca av μ H xs ds → md ds st = some (d, st') → Post X.K g av μ H d st' Q → r xs H Q)
    (sl : SemA X.K g t ml) : SemE X.K g (tCB r t) (xCall md ml) := fun av μ σ H Q ρ st d st' rl er hm p => by
  obtain ⟨ds, s1, h1, hm⟩ := Mo.bind_some hm
  exact sl av μ σ H _ ρ st ds s1 rl er h1 fun vs H1 μ1 e1 r1 q1 => s av μ1 H1 Q s1 vs ds d st' r1 q1 hm (p.mono e1)
theorem ev_callB (hc : CallD g X (.builtin bid) md) (hg : Gl X x) (hm : X.mg x = none) (hv : bootBuiltins x = some (.builtin bid)) (ha : AV g X (e :: es) ml) (hn : x ≠ "__name__" := by decide) (hdb : (x == ("__debug__" : Str)) = false := by decide)
    (he : starEach (e :: es) X.env = (false, eval e X.env) :: starEach es X.env := by rfl) (hpl : (backTo pos (starEach es X.env)).any (·.1) = false := by rfl) : EV g X (.Call (.Name x p) (e :: es) [] pos) (xCall md ml) := by
  obtain ⟨r, c, s⟩ := hc
  obtain ⟨t, pa, sl⟩ := ha.ex
  exact ⟨_, pe_callB c hg hm hv pa hn hdb he hpl, semCall s sl⟩
theorem ev_callTy (hc : CallD g X (.type T) md) (hg : Gl X x) (hm : X.mg x = none) (hv : bootBuiltins x = some (.type T)) (ha : AV g X (e :: es) ml) (hn : x ≠ "__name__" := by decide) (hdb : (x == ("__debug__" : Str)) = false := by decide)
    (he : starEach (e :: es) X.env = (false, eval e X.env) :: starEach es X.env := by rfl) (hpl : (backTo pos (starEach es X.env)).any (·.1) = false := by rfl) : EV g X (.Call (.Name x p) (e :: es) [] pos) (xCall md ml) := by
  obtain ⟨r, c, s⟩ := hc
  obtain ⟨t, pa, sl⟩ := ha.ex
  exact ⟨_, pe_callTy c hg hm hv pa hn hdb he hpl, semCall s sl⟩
/-- from the list of data, no change of the store -/
def liftL (f : List Ob → List D → Option D) : List D → Mo D := fun ds st => (f st ds).map fun d => (d, st)
theorem liftL_some {f : List Ob → List D → Option D} {ds : List D} {d : D} {st st' : List Ob} (h : liftL f ds st = some (d, st')) : f st ds = some d ∧ st' = st := by
  unfold liftL at h
  cases e : f st ds with
  | none => rw [e] at h; cases h
  | some z => rw [e] at h; cases h; exact ⟨rfl, rfl⟩
theorem calld {f : List Ob → List D → Option D} {fv : Value} {r : List V → Hp → VK → Prop} (c : CallR X fv r)
    (s : ∀ (av μ : List Addr) (H : Hp) (Q : VK) (st : List Ob) (xs : List V) (ds : List D) (d : D), Rel X.K g av μ st H → RpL X.K g.ca av μ H xs ds → f st ds = some d → Post X.K g av μ H d st Q → r xs H Q) : CallD g X fv (liftL f) :=
  ⟨r, c, fun av μ H Q st xs ds d st' rl rx hm p => by
    obtain ⟨e1, e2⟩ := liftL_some hm
    subst e2
    exact s av μ H Q _ xs ds d rl rx e1 p⟩
theorem rpl1 {K : PySem.W.Frag} {ca : Str → Addr} {av μ : List Addr} {H : Hp} {xs : List V} {d : D} (h : RpL K ca av μ H xs [d]) : ∃ x, xs = [x] ∧ Rp K ca av μ H x d := by
  cases h with
  | cons a b => cases b; exact ⟨_, rfl, a⟩
theorem rpl2 {K : PySem.W.Frag} {ca : Str → Addr} {av μ : List Addr} {H : Hp} {xs : List V} {d e : D} (h : RpL K ca av μ H xs [d, e]) : ∃ x y, xs = [x, y] ∧ Rp K ca av μ H x d ∧ Rp K ca av μ H y e := by
  cases h with
  | cons a b =>
    obtain ⟨y, rfl, h⟩ := rpl1 b
    exact ⟨_, _, rfl, a, h⟩
/-! ### len, int, abs, divmod, max, min, sum -/
def dLen (st : List Ob) : List D → Option D
  | [.str x] => if x.length ≤ 1000000 then some (.int x.length) else none
  | [d] => (match seqItems st d with
    | some ds => some (.int ds.length)
    | none => none)
  | _ => none
theorem cd_len : CallD g X (.builtin "len") (liftL dLen) := calld call_len fun av μ H Q st xs ds d rl rx hm p => by
  unfold dLen at hm
  split at hm
  · split at hm
    · rename_i y hy
      cases hm
      obtain ⟨v, rfl, h⟩ := rpl1 rx
      cases h
      exact ⟨_, _, rfl, ⟨Nat.le_trans hy line_le, rfl⟩, p.here rl (.int _)⟩
    · cases hm
  · split at hm
    · rename_i es e1
      cases hm
      obtain ⟨v, rfl, h⟩ := rpl1 rx
      obtain ⟨q, ys, rfl, hs, l⟩ := seq_of rl h e1
      rcases hs with hs | hs
      · exact ⟨_, _, rfl, .inl ⟨_, hs, rfl⟩, by rw [l.length]; exact p.here rl (.int _)⟩
      · exact ⟨_, _, rfl, .inr ⟨_, hs, rfl⟩, by rw [l.length]; exact p.here rl (.int _)⟩
    · cases hm
  · cases hm
def dInt (_ : List Ob) : List D → Option D
  | [.int i] => some (.int i)
  | [.bl b] => some (.int (if b then 1 else 0))
  | _ => none
theorem cd_int : CallD g X (.type "int") (liftL dInt) := calld call_int1 fun av μ H Q st xs ds d rl rx hm p => by
  unfold dInt at hm
  split at hm
  · cases hm
    obtain ⟨v, rfl, h⟩ := rpl1 rx
    cases h
    exact .inl ⟨_, rfl, p.here rl (.int _)⟩
  · cases hm
    obtain ⟨v, rfl, h⟩ := rpl1 rx
    cases h
    exact .inr ⟨_, rfl, p.here rl (.int _)⟩
  · cases hm
def dAbs (_ : List Ob) : List D → Option D
  | [.int i] => some (.int (if i < 0 then -i else i))
  | _ => none
theorem cd_abs : CallD g X (.builtin "abs") (liftL dAbs) := calld call_abs fun av μ H Q st xs ds d rl rx hm p => by
  unfold dAbs at hm
  split at hm
  · cases hm
    obtain ⟨v, rfl, h⟩ := rpl1 rx
    cases h
    exact ⟨_, rfl, p.here rl (.int _)⟩
  · cases hm
def dDivmod (_ : List Ob) : List D → Option D
  | [.int i, .int j] => if cDiv i j then some (.tup [.int (i / j), .int (i % j)]) else none
  | _ => none
theorem cd_divmod : CallD g X (.builtin "divmod") (liftL dDivmod) := calld call_divmod fun av μ H Q st xs ds d rl rx hm p => by
  unfold dDivmod at hm
  split at hm
  · split at hm
    · rename_i h
      cases hm
      obtain ⟨v, w, rfl, h1, h2⟩ := rpl2 rx
      cases h1
      cases h2
      exact ⟨_, _, rfl, h, fun q hq => p.newO rl hq (rp_newT rl hq (.cons (.int _) (.cons (.int _) .nil)))⟩
    · cases hm
  · cases hm
def asInt : D → Option Int
  | .int x => some x
  | _ => none
theorem ints_of {K : PySem.W.Frag} {ca : Str → Addr} {av μ : List Addr} {H : Hp} : ∀ {vs : List V} {ds : List D} {xs : List Int}, RpL K ca av μ H vs ds → ds.mapM asInt = some xs → vs = xs.map V.int
  | _, _, xs, .nil, e => by
    simp at e
    subst e
    rfl
  | _, d :: ds, xs, .cons h t, e => by
    rw [List.mapM_cons] at e
    cases d with
    | int x =>
      cases h
      cases e2 : ds.mapM asInt with
      | none => simp [asInt, e2] at e
      | some ys =>
        simp [asInt, e2] at e
        subst e
        rw [ints_of t e2]
        rfl
    | _ => simp [asInt] at e
def asBl : D → Option Bool
  | .bl x => some x
  | _ => none
theorem bls_of {K : PySem.W.Frag} {ca : Str → Addr} {av μ : List Addr} {H : Hp} : ∀ {vs : List V} {ds : List D} {xs : List Bool}, RpL K ca av μ H vs ds → ds.mapM asBl = some xs → vs = xs.map V.bl
  | _, _, xs, .nil, e => by
    simp at e
    subst e
    rfl
  | _, d :: ds, xs, .cons h t, e => by
    rw [List.mapM_cons] at e
    cases d with
    | bl x =>
      cases h
      cases e2 : ds.mapM asBl with
      | none => simp [asBl, e2] at e
      | some ys =>
        simp [asBl, e2] at e
        subst e
        rw [bls_of t e2]
        rfl
    | _ => simp [asBl] at e
def maxL : List Int → Int
  | [] => 0
  | x :: xs => xs.foldl max x
def minL : List Int → Int
  | [] => 0
  | x :: xs => xs.foldl min x
theorem foldl_max : ∀ (xs : List Int) (a : Int), (xs.foldl max a = a ∨ xs.foldl max a ∈ xs) ∧ a ≤ xs.foldl max a ∧ ∀ y ∈ xs, y ≤ xs.foldl max a
  | [], a => ⟨.inl rfl, Int.le_refl a, fun y h => by cases h⟩
  | x :: xs, a => by
    obtain ⟨h1, h2, h3⟩ := foldl_max xs (max a x)
    simp only [List.foldl_cons]
    refine ⟨?_, by omega, fun y hy => ?_⟩
    · rcases h1 with h1 | h1
      · rw [h1]
        by_cases c : a ≤ x
        · rw [Int.max_eq_right c]; exact .inr (by simp)
        · rw [Int.max_eq_left (by omega)]; exact .inl rfl
      · exact .inr (List.mem_cons_of_mem _ h1)
    · rcases List.mem_cons.mp hy with e | e
      · subst e; omega
      · exact h3 y e
theorem foldl_min : ∀ (xs : List Int) (a : Int), (xs.foldl min a = a ∨ xs.foldl min a ∈ xs) ∧ xs.foldl min a ≤ a ∧ ∀ y ∈ xs, xs.foldl min a ≤ y
  | [], a => ⟨.inl rfl, Int.le_refl a, fun y h => by cases h⟩
  | x :: xs, a => by
    obtain ⟨h1, h2, h3⟩ := foldl_min xs (min a x)
    simp only [List.foldl_cons]
    refine ⟨?_, by omega, fun y hy => ?_⟩
    · rcases h1 with h1 | h1
      · rw [h1]
        by_cases c : a ≤ x
        · rw [Int.min_eq_left c]; exact .inl rfl
        · rw [Int.min_eq_right (by omega)]; exact .inr (by simp)
      · exact .inr (List.mem_cons_of_mem _ h1)
    · rcases List.mem_cons.mp hy with e | e
      · subst e; omega
      · exact h3 y e
theorem maxL_spec {xs : List Int} {m : Int} (hm : m ∈ xs) (h : ∀ y ∈ xs, y ≤ m) : m = maxL xs := by
  cases xs with
  | nil => cases hm
  | cons x xs =>
    obtain ⟨h1, h2, h3⟩ := foldl_max xs x
    have e : maxL (x :: xs) = xs.foldl max x := rfl
    rw [e]
    have hle : xs.foldl max x ≤ m := by
      rcases h1 with h1 | h1
      · rw [h1]; exact h x (by simp)
      · exact h _ (List.mem_cons_of_mem _ h1)
    rcases List.mem_cons.mp hm with z | z
    · subst z; omega
    · have := h3 m z; omega
theorem minL_spec {xs : List Int} {m : Int} (hm : m ∈ xs) (h : ∀ y ∈ xs, m ≤ y) : m = minL xs := by
  cases xs with
  | nil => cases hm
  | cons x xs =>
    obtain ⟨h1, h2, h3⟩ := foldl_min xs x
    have e : minL (x :: xs) = xs.foldl min x := rfl
    rw [e]
    have hle : m ≤ xs.foldl min x := by
      rcases h1 with h1 | h1
      · rw [h1]; exact h x (by simp)
      · exact h _ (List.mem_cons_of_mem _ h1)
    rcases List.mem_cons.mp hm with z | z
    · subst z; omega
    · have := h3 m z; omega
def dMax2 (_ : List Ob) : List D → Option D
  | [.int i, .int j] => some (.int (if j > i then j else i))
  | _ => none
def dMin2 (_ : List Ob) : List D → Option D
  | [.int i, .int j] => some (.int (if j < i then j else i))
  | _ => none
theorem cd_max2 (hc : X.calm = true) : CallD g X (.builtin "max") (liftL dMax2) := calld (call_max2 hc) fun av μ H Q st xs ds d rl rx hm p => by
  unfold dMax2 at hm
  split at hm
  · cases hm
    obtain ⟨v, w, rfl, h1, h2⟩ := rpl2 rx
    cases h1
    cases h2
    exact ⟨_, _, rfl, p.here rl (.int _)⟩
  · cases hm
theorem cd_min2 (hc : X.calm = true) : CallD g X (.builtin "min") (liftL dMin2) := calld (call_min2 hc) fun av μ H Q st xs ds d rl rx hm p => by
  unfold dMin2 at hm
  split at hm
  · cases hm
    obtain ⟨v, w, rfl, h1, h2⟩ := rpl2 rx
    cases h1
    cases h2
    exact ⟨_, _, rfl, p.here rl (.int _)⟩
  · cases hm
/-- a list (no tuple) -/
def lstItems (st : List Ob) (d : D) : Option (List D) := match res st d with
  | .lst ds => some ds
  | .ro ds => some ds
  | _ => none
theorem lst_of {K : PySem.W.Frag} {av μ : List Addr} {st : List Ob} {H : Hp} {v : V} {d : D} {ds : List D} (r : Rel K g av μ st H) (h : Rp K g.ca av μ H v d) (e : lstItems st d = some ds) : ∃ p xs, v = .ref p ∧ SqL K H p xs ∧ RpL K g.ca av μ H xs ds := by
  unfold lstItems at e
  cases h with
  | lst h n1 n2 l => simp only [res] at e; cases e; exact ⟨_, _, rfl, SqL.of h, l⟩
  | ro h l => simp only [res] at e; cases e; exact ⟨_, _, rfl, ro_sqL h, l⟩
  | @loc n a hm =>
    unfold res at e
    cases e1 : st[n]? with
    | none => simp only [e1] at e; cases e
    | some ob =>
      cases ob with
      | lst ds =>
        simp only [e1] at e
        cases e
        cases r.obs n _ _ hm e1 with
        | lst h2 l2 => exact ⟨_, _, rfl, SqL.of h2, l2⟩
      | _ => simp only [e1] at e; cases e
  | _ => simp only [res] at e; cases e
def dSum (st : List Ob) : List D → Option D
  | [d] => ((lstItems st d).bind fun ds => ds.mapM asInt).map fun ns => .int ns.sum
  | _ => none
theorem cd_sum (hc : X.calm = true) : CallD g X (.builtin "sum") (liftL dSum) := calld (cr_sum hc) fun av μ H Q st xs ds d rl rx hm p => by
  unfold dSum at hm
  split at hm
  · rename_i d0
    obtain ⟨v, rfl, h⟩ := rpl1 rx
    cases e1 : lstItems st d0 with
    | none => rw [e1] at hm; cases hm
    | some es =>
      rw [e1] at hm
      cases e2 : es.mapM asInt with
      | none => simp [e2] at hm
      | some ns =>
        simp [e2] at hm
        subst hm
        obtain ⟨q, ys, rfl, hs, l⟩ := lst_of rl h e1
        exact ⟨q, ns, rfl, by rw [← ints_of l e2]; exact hs, p.here rl (.int _)⟩
  · cases hm
def dMaxL (st : List Ob) : List D → Option D
  | [d] => ((lstItems st d).bind fun ds => ds.mapM asInt).bind fun ns => if ns = [] then none else some (.int (maxL ns))
  | _ => none
def dMinL (st : List Ob) : List D → Option D
  | [d] => ((lstItems st d).bind fun ds => ds.mapM asInt).bind fun ns => if ns = [] then none else some (.int (minL ns))
  | _ => none
theorem cd_maxL (hc : X.calm = true) : CallD g X (.builtin "max") (liftL dMaxL) := calld (cr_max hc) fun av μ H Q st xs ds d rl rx hm p => by
  unfold dMaxL at hm
  split at hm
  · rename_i d0
    obtain ⟨v, rfl, h⟩ := rpl1 rx
    cases e1 : lstItems st d0 with
    | none => rw [e1] at hm; cases hm
    | some es =>
      rw [e1] at hm
      cases e2 : es.mapM asInt with
      | none => simp [e2] at hm
      | some ns =>
        simp [e2] at hm
        obtain ⟨hne, hm⟩ := hm
        subst hm
        obtain ⟨q, ys, rfl, hs, l⟩ := lst_of rl h e1
        exact ⟨q, ns, rfl, by rw [← ints_of l e2]; exact hs, List.length_pos_iff.mpr hne, fun m h1 h2 => by rw [maxL_spec h1 h2]; exact p.here rl (.int _)⟩
  · cases hm
theorem cd_minL (hc : X.calm = true) : CallD g X (.builtin "min") (liftL dMinL) := calld (cr_min hc) fun av μ H Q st xs ds d rl rx hm p => by
  unfold dMinL at hm
  split at hm
  · rename_i d0
    obtain ⟨v, rfl, h⟩ := rpl1 rx
    cases e1 : lstItems st d0 with
    | none => rw [e1] at hm; cases hm
    | some es =>
      rw [e1] at hm
      cases e2 : es.mapM asInt with
      | none => simp [e2] at hm
      | some ns =>
        simp [e2] at hm
        obtain ⟨hne, hm⟩ := hm
        subst hm
        obtain ⟨q, ys, rfl, hs, l⟩ := lst_of rl h e1
        exact ⟨q, ns, rfl, by rw [← ints_of l e2]; exact hs, List.length_pos_iff.mpr hne, fun m h1 h2 => by rw [minL_spec h1 h2]; exact p.here rl (.int _)⟩
  · cases hm
def dAll (st : List Ob) : List D → Option D
  | [d] => ((lstItems st d).bind fun ds => ds.mapM asBl).map fun bs => .bl (bs.all id)
  | _ => none
def dAny (st : List Ob) : List D → Option D
  | [d] => ((lstItems st d).bind fun ds => ds.mapM asBl).map fun bs => .bl (bs.any id)
  | _ => none
theorem cd_all (hc : X.calm = true) : CallD g X (.builtin "all") (liftL dAll) := calld (cr_all hc) fun av μ H Q st xs ds d rl rx hm p => by
  unfold dAll at hm
  split at hm
  · rename_i d0
    obtain ⟨v, rfl, h⟩ := rpl1 rx
    cases e1 : lstItems st d0 with
    | none => rw [e1] at hm; cases hm
    | some es =>
      rw [e1] at hm
      cases e2 : es.mapM asBl with
      | none => simp [e2] at hm
      | some ns =>
        simp [e2] at hm
        subst hm
        obtain ⟨q, ys, rfl, hs, l⟩ := lst_of rl h e1
        refine ⟨q, ns, rfl, by rw [← bls_of l e2]; exact hs, p.here rl ?_⟩
        have e3 : (ns.all fun x => x) = ns.all id := rfl
        first | exact .bl _ | (rw [e3]; exact .bl _)
  · cases hm
theorem cd_any (hc : X.calm = true) : CallD g X (.builtin "any") (liftL dAny) := calld (cr_any hc) fun av μ H Q st xs ds d rl rx hm p => by
  unfold dAny at hm
  split at hm
  · rename_i d0
    obtain ⟨v, rfl, h⟩ := rpl1 rx
    cases e1 : lstItems st d0 with
    | none => rw [e1] at hm; cases hm
    | some es =>
      rw [e1] at hm
      cases e2 : es.mapM asBl with
      | none => simp [e2] at hm
      | some ns =>
        simp [e2] at hm
        subst hm
        obtain ⟨q, ys, rfl, hs, l⟩ := lst_of rl h e1
        refine ⟨q, ns, rfl, by rw [← bls_of l e2]; exact hs, p.here rl ?_⟩
        exact .bl _
  · cases hm
/-! ### tuple(x), list(x), sorted(x) -/
def dTuple (st : List Ob) : List D → Option D
  | [d] => (seqItems st d).map .tup
  | _ => none
theorem cd_tuple : CallD g X (.type "tuple") (liftL dTuple) := calld call_tuple_of fun av μ H Q st xs ds d rl rx hm p => by
  unfold dTuple at hm
  split at hm
  · rename_i d0
    obtain ⟨v, rfl, h⟩ := rpl1 rx
    cases e1 : seqItems st d0 with
    | none => rw [e1] at hm; cases hm
    | some es =>
      rw [e1] at hm
      cases hm
      obtain ⟨q, ys, rfl, hs, l⟩ := seq_of rl h e1
      rcases hs with hs | hs
      · exact ⟨q, ys, rfl, .inl ⟨hs, fun b hb => p.newO rl hb (rp_newT rl hb l)⟩⟩
      · exact ⟨q, ys, rfl, .inr ⟨hs, p.here rl (.tup hs l)⟩⟩
  · cases hm
def dList (st : List Ob) : List D → Option D
  | [d] => (seqItems st d).map .lst
  | _ => none
theorem cd_list : CallD g X (.type "list") (liftL dList) := calld call_list_of fun av μ H Q st xs ds d rl rx hm p => by
  unfold dList at hm
  split at hm
  · rename_i d0
    obtain ⟨v, rfl, h⟩ := rpl1 rx
    cases e1 : seqItems st d0 with
    | none => rw [e1] at hm; cases hm
    | some es =>
      rw [e1] at hm
      cases hm
      obtain ⟨q, ys, rfl, hs, l⟩ := seq_of rl h e1
      exact ⟨q, ys, rfl, hs, fun b hb => p.newO rl hb (rp_newL rl hb l)⟩
  · cases hm
/-- a list that is to be changed -/
def mListM : List D → Mo D := fun ds st => match ds with
  | [d] => (seqItems st d).map fun es => (.loc st.length, st ++ [.lst es])
  | _ => none
theorem cd_listM : CallD g X (.type "list") mListM := ⟨_, call_list_of, fun av μ H Q st xs ds d st' rl rx hm p => by
  unfold mListM at hm
  split at hm
  · rename_i d0
    obtain ⟨v, rfl, h⟩ := rpl1 rx
    cases e1 : seqItems st d0 with
    | none => rw [e1] at hm; cases hm
    | some es =>
      rw [e1] at hm
      cases hm
      obtain ⟨q, ys, rfl, hs, l⟩ := seq_of rl h e1
      exact ⟨q, ys, rfl, hs, fun b hb => push_loc rl hb l p⟩
  · cases hm⟩
end
/-! ### sorted -/
open PySem.W in
theorem sorted_seq {prog : Program} {w : World} {A : Around} {E : Value → Shared → Prop} {s : Shared} {β : Type} {R : Value → β → Prop} {enc : β → PyData} {vs : List Value} {bs : List β} {l : Addr} {T : String} {o : Obj} {n : Nat} {Q : Value → Shared → Prop} (hT : T = "list" ∨ T = "tuple")
    (ho : s.heap.get? l = some o) (hc : o.cls = .type T) (hd : o.data = .seq vs.toArray n) (e : EachIs R vs bs) (er : EachIs (fun v b => ∃ as, Reads s.heap v (enc b) as) vs bs) (hal : AllAlike (bs.map enc)) (hk : Sortable (bs.map enc)) (hL : bs.length ≤ sizeLine)
    (hu : ∀ b, b ∈ bs → A.units + 2 + (enc b).depth < cLine)
    (h : ∀ (out : List Value) (c : Nat) (h1 h' : Heap), out.length = bs.length → EachIs R out (bs.mergeSort (dataLe false enc)) → (∀ b o, s.heap.get? b = some o → h1.get? b = some o) → (∀ b o, h1.get? b = some o → h'.get? b = some o) → h'.get? h1.objs.size = some (seqObj "list" (List.toArray out) c) → Q (.ref h1.objs.size) { s with heap := h' }) :
    wpAny (model prog w) A (call (.builtin "sorted") [.ref l]) Q E s := by
  have hz : vs.length ≤ sizeLine := by rw [e.length]; exact hL
  refine Calls.call_function_entry PyProof.Rows.kind_sorted PyProof.Rows.plain_sorted PyProof.Rows.entry_sorted (PyProof.Rows.args_sorted1 _) ?_
  unfold Builtin.«sorted»
  refine wpAny_bind (m := checkCount "sorted" 1 1 _) (wpAny_pure ?_)
  refine wpAny_bind (wpAny_collect_seq l hT ho hc hd (fun h1 hk1 => ?_) (by simpa using hz))
  refine wpAny_bind (wpAny_newList ?_ (by simpa using hz))
  have hoL : (h1.push (seqObj "list" vs.toArray 0)).get? h1.objs.size = some (seqObj "list" vs.toArray 0) := Heap.get?_push_size _ rfl
  show wpAny _ _ _ _ _ { s with heap := h1.push (seqObj "list" vs.toArray 0) }
  have er2 : EachIs (fun v b => ∃ as, Reads (sortingHeap (h1.push (seqObj "list" vs.toArray 0)) h1.objs.size vs) v (enc b) as) vs bs := er.mono fun _ _ ⟨as, r⟩ => ⟨as, PyProof.Rows.Reads.keeps (fun b o q => sortingHeap_old (Nat.ne_of_lt (Heap.lt_size (hk1 b o q))) (Heap.get?_push_of_some _ (hk1 b o q))) r⟩
  refine wpAny_bind (wpAny_holding (wpAny_call_entry PyProof.Rows.slot_list_sort ⟨_, hoL, rfl⟩ PyProof.Rows.entry_list_sort ?body (PyProof.Rows.args_list_sort _)))
  case body =>
    refine list_sort_vals (s := { s with heap := h1.push (seqObj "list" vs.toArray 0) }) (κ := dataKind (sortingHeap (h1.push (seqObj "list" vs.toArray 0)) h1.objs.size vs) (bs.map enc)) hoL (SortsAt.data (s := { s with heap := sortingHeap (h1.push (seqObj "list" vs.toArray 0)) h1.objs.size vs }) (each_map (R := fun v d => ∃ as, Reads (sortingHeap (h1.push (seqObj "list" vs.toArray 0)) h1.objs.size vs) v d as) enc er2) hal hk (bound_map hu)) hz ?_
    refine ⟨_, rfl, wpAny_pure ?_⟩
    obtain ⟨c, hc2⟩ := PyProof.Rows.sortedHeap_at (out := (sortVals (dataKind (sortingHeap (h1.push (seqObj "list" vs.toArray 0)) h1.objs.size vs) (bs.map enc)) false vs vs).toArray) hoL
    refine ⟨_, rfl, h _ c h1 _ (by rw [sortVals_length false rfl]; exact e.length) (sortVals_data false e er2 hal) hk1 (fun b o q1 => ?_) hc2⟩
    have hlt := Heap.lt_size q1
    rw [PyProof.Rows.sortedHeap_old (Nat.ne_of_lt hlt) (by rw [Heap.size_push]; exact Nat.lt_succ_of_lt hlt)]
    exact Heap.get?_push_of_some _ q1

theorem each_of {K : PySem.W.Frag} {X : Cx} {g : G} {av μ : List Addr} {H : Hp} {pins : List (Addr × Obj)} {σ : L2.St} {s : Shared} (I : Inv X pins σ H s) : ∀ {vs : List V} {us : List Value} {ds : List D}, RpL X.K g.ca av μ H vs ds → Vals vs us → pyOks ds = true →
    PySem.W.EachIs (fun u d => ∃ x, RelV x u ∧ Rp X.K g.ca av μ H x d) us ds ∧ PySem.W.EachIs (fun u d => ∃ as, Reads s.heap u (toPy d) as) us ds
  | _, _, _, .nil, r, _ => by cases r; exact ⟨.nil, .nil⟩
  | _, _, _, .cons h t, r, o => by
    cases r with
    | cons r1 r2 =>
      rw [pyOks, Bool.and_eq_true] at o
      obtain ⟨i1, i2⟩ := each_of (K := K) I t r2 o.2
      exact ⟨.cons ⟨_, r1, h⟩ i1, .cons (Dp.reads I _ _ _ (dp_of h o.1) r1) i2⟩
theorem each_back {K : PySem.W.Frag} {ca : Str → Addr} {av μ : List Addr} {H : Hp} : ∀ {us : List Value} {ds : List D}, PySem.W.EachIs (fun u d => ∃ x, RelV x u ∧ Rp K ca av μ H x d) us ds → ∃ vs, Vals vs us ∧ RpL K ca av μ H vs ds
  | _, _, .nil => ⟨[], .nil, .nil⟩
  | _, _, .cons ⟨x, r, h⟩ t => by
    obtain ⟨vs, h1, h2⟩ := each_back t
    exact ⟨x :: vs, .cons r h1, .cons h h2⟩
def alikeAllB (ds : List PyData) : Bool := ds.all fun d => ds.all fun e => PySem.W.alike d e
theorem alike_of {ds : List PyData} (h : alikeAllB ds = true) : PySem.W.AllAlike ds := fun d hd e he => List.all_eq_true.mp (List.all_eq_true.mp h d hd) e he
def isTupB : PyData → Bool
  | .tuple (_ :: _) => true
  | _ => false
def isOthB : PyData → Bool
  | .none => false
  | .tuple _ => false
  | _ => true
def sortableB (ds : List PyData) : Bool := ds.all isTupB || ds.all isOthB
theorem sortable_of {ds : List PyData} (h : sortableB ds = true) : PySem.W.Sortable ds := by
  unfold sortableB at h
  rw [Bool.or_eq_true] at h
  rcases h with h | h
  · refine .inl fun d hd => ?_
    have := List.all_eq_true.mp h d hd
    unfold isTupB at this
    split at this
    · exact ⟨_, _, rfl⟩
    · cases this
  · refine .inr fun d hd => ?_
    have := List.all_eq_true.mp h d hd
    refine ⟨fun e => ?_, fun xs e => ?_⟩ <;> (subst e; cases this)
def sortOk (ds : List D) : Bool := pyOks ds && (alikeAllB (ds.map toPy) && (sortableB (ds.map toPy) && (decide (ds.length ≤ 1000000) && ds.all fun d => decide ((toPy d).depth ≤ 60))))
def sortD (ds : List D) : List D := ds.mergeSort (PySem.W.dataLe false toPy)
def dSorted (st : List Ob) : List D → Option D
  | [d] => (match seqItems st d with
    | some ds => if sortOk ds = true then some (.lst (sortD ds)) else none
    | none => none)
  | _ => none
section
variable {g : G} {X : Cx}
def rSortD (K : PySem.W.Frag) (g : G) : List V → Hp → VK → Prop := fun xs H Q => ∃ p ys ds av μ, xs = [V.ref p] ∧ (SqL K H p ys ∨ SqT K H p ys) ∧ RpL K g.ca av μ H ys ds ∧ sortOk ds = true ∧ ∀ q zs, H q = none → RpL K g.ca av μ H zs (sortD ds) → Q (.ref q) (upd H q (.lst zs))
theorem call_sortD {k : Nat} (hr : Room k X.A) : CallR X (.builtin "sorted") (rSortD X.K g) := by
  intro pins s σ H xs us Q I r h
  obtain ⟨p, ys, ds, av, μ, rfl, hq, l, ok, q⟩ := h
  obtain ⟨u, rfl, rx⟩ := vals1 r
  cases rx
  unfold sortOk at ok
  simp only [Bool.and_eq_true] at ok
  obtain ⟨o1, o2, o3, o4, o5⟩ := ok
  have hlen : ds.length ≤ sizeLine := Nat.le_trans (of_decide_eq_true o4) line_le
  have core : ∀ {T : String} {o : Obj} {n : Nat} {its : List Value}, (T = "list" ∨ T = "tuple") → s.heap.get? p = some o → o.cls = .type T → o.data = .seq its.toArray n → Vals ys its → wpAny (model X.prog X.w) X.A (call (.builtin "sorted") [.ref p]) (EP X pins σ Q) X.xe s := fun {T o n its} hT ho hc hd rv => by
    obtain ⟨e1, e2⟩ := each_of (K := X.K) I l rv o1
    refine sorted_seq hT ho hc hd e1 e2 (alike_of o2) (sortable_of o3) hlen (fun b hb => ?_) fun out c h1 h' hl eo hk1 hk2 hat => ?_
    · have h1 := of_decide_eq_true (List.all_eq_true.mp o5 b hb)
      have h2 := hr.units
      omega
    · obtain ⟨zs, v1, v2⟩ := each_back eo
      have I0 : Inv X pins σ H { s with heap := h1 } := I.kept (t' := s.toks) hk1
      have na : H h1.objs.size = none := I0.hok.fresh (Nat.le_refl _)
      have I1 : Inv X pins σ (upd H h1.objs.size (.lst zs)) { s with heap := h' } := I0.laid (t' := s.toks) hk2 (Nat.le_refl _) (show ObjOk X.prog X.w _ h' _ (.lst zs) from ⟨by rw [v1.length, hl]; exact hlen, out, c, v1, hat⟩)
      exact ⟨.ref h1.objs.size, _, I1, rfl, q _ zs na v2⟩
  rcases hq with hq | hq
  · obtain ⟨its, r', pl, hz⟩ := I.list hq
    obtain ⟨o, ho, hc, n, hd⟩ := pl.isList
    exact core (.inl rfl) ho hc hd r'
  · obtain ⟨its, r', pl, hz⟩ := I.tuple hq
    obtain ⟨o, ho, hc, n, hd⟩ := pl
    exact core (.inr rfl) ho hc hd r'
theorem cd_sorted {k : Nat} (hr : Room k X.A) : CallD g X (.builtin "sorted") (liftL dSorted) := calld (call_sortD hr) fun av μ H Q st xs ds d rl rx hm p => by
  unfold dSorted at hm
  split at hm
  · rename_i d0
    obtain ⟨v, rfl, h⟩ := rpl1 rx
    cases e1 : seqItems st d0 with
    | none => rw [e1] at hm; cases hm
    | some es =>
      rw [e1] at hm
      simp only at hm
      split at hm
      · rename_i ok
        cases hm
        obtain ⟨q, ys, rfl, hs, l⟩ := seq_of rl h e1
        exact ⟨q, ys, es, av, μ, rfl, hs, l, ok, fun b zs hb l2 => p.newO rl hb (rp_newL rl hb l2)⟩
      · cases hm
  · cases hm
end
end MM
set_option autoImplicit false
set_option maxRecDepth 100000
set_option maxHeartbeats 4000000
/-! M7: items, slices, stores by place, methods of lists and texts, stars, isinstance, is. -/
namespace MM
open PySem PySem.Spec PyProof.Rows L2 LamX NdefX
section
variable {g : G} {X : Cx} {a b e : Expr} {ma mb : Ev → Mo D} {pos : Pos}
theorem atI_rp {K : PySem.W.Frag} {ca : Str → Addr} {av μ : List Addr} {H : Hp} {xs : List V} {ds : List D} {i : Int} {d : D} (l : RpL K ca av μ H xs ds) (h : atI ds i = some d) : ∃ v, atI xs i = some v ∧ Rp K ca av μ H v d := by
  unfold atI at h ⊢
  rw [l.length]
  cases e : ixN ds.length i with
  | none => rw [e] at h; cases h
  | some j =>
    rw [e] at h
    exact RpL.get l h
def dIx (st : List Ob) (x y : D) : Option D := match x, y with
  | .str z, .int i => if z.length ≤ 1000000 then (atI z.cps.toList i).map fun c => .str ⟨#[c]⟩ else none
  | x, .int i => (seqItems st x).bind fun ds => atI ds i
  | _, _ => none
def mIx : D → D → Mo D := fun x y st => (dIx st x y).map fun d => (d, st)
theorem ev_ix (ha : EV g X a ma) (hb : EV g X b mb) (hs : PlainIx b) : EV g X (.Subscript a b pos) (xBin mIx ma mb) := by
  obtain ⟨ta, pa, sa⟩ := ha.ex
  obtain ⟨tb, pb, sb⟩ := hb.ex
  refine ⟨_, pe_ix ix_seq pa pb hs, semBin (f := binaryOp .Add) (fun av μ H Q st x y dx dy d st' rl rx ry hm p => ?_) sa sb⟩
  unfold mIx at hm
  cases e : dIx st dx dy with
  | none => rw [e] at hm; cases hm
  | some d' =>
    rw [e] at hm
    cases hm
    unfold dIx at e
    split at e
    · split at e
      · rename_i z i hz
        cases rx
        cases ry
        cases e2 : atI z.cps.toList i with
        | none => rw [e2] at e; cases e
        | some c =>
          rw [e2] at e
          cases e
          exact .inr (.inr ⟨_, _, c, rfl, rfl, Nat.le_trans hz line_le, e2, p.here rl (.str _)⟩)
      · cases e
    · rename_i i hne
      cases ry
      cases e2 : seqItems st dx with
      | none => rw [e2] at e; cases e
      | some ds =>
        rw [e2] at e
        obtain ⟨q, ys, rfl, hq, l⟩ := seq_of rl rx e2
        obtain ⟨v, h1, h2⟩ := atI_rp l e
        rcases hq with hq | hq
        · exact .inl ⟨q, ys, i, v, rfl, rfl, hq, h1, p.here rl h2⟩
        · exact .inr (.inl ⟨q, ys, i, v, rfl, rfl, hq, h1, p.here rl h2⟩)
    · cases e
/-! ### slices -/
def SemO (K : PySem.W.Frag) (g : G) (t : TO) (m : Ev → Mo (Option Int)) : Prop := ∀ (av μ : List Addr) (σ : L2.St) (H : Hp) (Q : Option Int → Hp → Prop) (ρ : Ev) (st : List Ob) (o : Option Int) (st' : List Ob),
  Rel K g av μ st H → EnvR K g av μ H σ ρ → m ρ st = some (o, st') → (∀ H' μ', Ext μ μ' H H' → Rel K g av μ' st' H' → Q o H') → t σ H Q
structure OV (g : G) (X : Cx) (e : Option Expr) (m : Ev → Mo (Option Int)) : Prop where
  ex : ∃ t, PO X e t ∧ SemO X.K g t m
def oNone : Ev → Mo (Option Int) := fun _ => Mo.pure none
def oSome (m : Ev → Mo D) : Ev → Mo (Option Int) := fun ρ => (m ρ).bind fun d => match d with
  | .int i => Mo.pure (some i)
  | _ => Mo.fail
theorem ov_none : OV g X none oNone := ⟨_, po_none, fun av μ σ H Q ρ st o st' rl er hm p => by
  obtain ⟨z1, z2⟩ := Mo.pure_some hm
  subst z1 z2
  exact p H μ (Ext.refl _ _) rl⟩
theorem ov_some (h : EV g X e ma) : OV g X (some e) (oSome ma) := by
  obtain ⟨t, p0, s⟩ := h.ex
  refine ⟨_, po_some p0, fun av μ σ H Q ρ st o st' rl er hm p => ?_⟩
  obtain ⟨d, s1, h1, hm⟩ := Mo.bind_some hm
  refine s av μ σ H _ ρ st d s1 rl er h1 fun v H1 μ1 e1 r1 q1 => ?_
  split at hm
  · obtain ⟨z1, z2⟩ := Mo.pure_some hm
    subst z1 z2
    cases q1
    exact ⟨_, rfl, p H1 μ1 e1 r1⟩
  · cases hm
def cutD (xs : List D) (lo hi : Option Int) : List D := (xs.drop (HT.sIx xs.length 0 lo)).take (HT.sIx xs.length xs.length hi - HT.sIx xs.length 0 lo)
theorem cut_rp {K : PySem.W.Frag} {ca : Str → Addr} {av μ : List Addr} {H : Hp} {xs : List V} {ds : List D} {lo hi : Option Int} (l : RpL K ca av μ H xs ds) : RpL K ca av μ H (cutV xs lo hi) (cutD ds lo hi) := by
  unfold cutV cutD
  rw [l.length]
  exact RpL.take _ (RpL.drop _ l)
def dSlice (st : List Ob) (x : D) (lo hi : Option Int) : Option D := match x with
  | .str z => if z.length ≤ 1000000 then some (.str (cutS z lo hi)) else none
  | .tup ds => some (.tup (cutD ds lo hi))
  | x => (lstItems st x).map fun ds => .lst (cutD ds lo hi)
def xSlice (m : Ev → Mo D) (ml mh : Ev → Mo (Option Int)) : Ev → Mo D := fun ρ => (m ρ).bind fun x => (ml ρ).bind fun lo => (mh ρ).bind fun hi st => (dSlice st x lo hi).map fun d => (d, st)
theorem cut_whole {ds : List D} {lo hi : Option Int} (h : HT.sIx ds.length 0 lo = 0 ∧ HT.sIx ds.length ds.length hi = ds.length) : cutD ds lo hi = ds := by
  unfold cutD
  rw [h.1, h.2, List.drop_zero, Nat.sub_zero, List.take_length]
theorem ev_slice {lo hi : Option Expr} {p2 : Pos} {ml mh : Ev → Mo (Option Int)} (ha : EV g X a ma) (hl : OV g X lo ml) (hh : OV g X hi mh) : EV g X (.Subscript a (.Slice lo hi none p2) pos) (xSlice ma ml mh) := by
  obtain ⟨ta, pa, sa⟩ := ha.ex
  obtain ⟨tl, pl, sl⟩ := hl.ex
  obtain ⟨th, ph, sh⟩ := hh.ex
  refine ⟨_, pe_slice (SlR.or sl_list (SlR.or sl_tupA sl_str)) pa pl ph, fun av μ σ H Q ρ st d st' rl er hm p => ?_⟩
  obtain ⟨x, s1, h1, hm⟩ := Mo.bind_some hm
  obtain ⟨lo', s2, h2, hm⟩ := Mo.bind_some hm
  obtain ⟨hi', s3, h3, hm⟩ := Mo.bind_some hm
  refine sa av μ σ H _ ρ st x s1 rl er h1 fun v H1 μ1 e1 r1 q1 => ?_
  refine sl av μ1 σ H1 _ ρ s1 lo' s2 r1 (er.mono e1) h2 fun H2 μ2 e2 r2 => ?_
  refine sh av μ2 σ H2 _ ρ s2 hi' s3 r2 (er.mono (e1.trans e2)) h3 fun H3 μ3 e3 r3 => ?_
  have q3 := q1.mono (e2.trans e3)
  have p3 := p.mono ((e1.trans e2).trans e3)
  cases e : dSlice s3 x lo' hi' with
  | none => rw [e] at hm; cases hm
  | some d' =>
    rw [e] at hm
    cases hm
    unfold dSlice at e
    split at e
    · split at e
      · rename_i z hz
        cases e
        cases q3
        exact .inr (.inr ⟨_, rfl, Nat.le_trans hz line_le, p3.here r3 (.str _)⟩)
      · cases e
    · cases e
      cases q3 with
      | tup hq l =>
        refine .inr (.inl ⟨_, _, rfl, hq, fun hw => ?_, fun hw q hq2 => p3.newO r3 hq2 (rp_newT r3 hq2 (cut_rp l))⟩)
        rw [l.length] at hw
        rw [cut_whole hw] at p3
        exact p3.here r3 (.tup hq l)
    · cases e2 : lstItems st' x with
      | none => rw [e2] at e; cases e
      | some ds =>
        rw [e2] at e
        obtain ⟨q, ys, rfl, hq, l⟩ := lst_of r3 q3 e2
        cases e
        exact .inl ⟨q, ys, rfl, hq, fun z hz => p3.newO r3 hz (rp_newL r3 hz (cut_rp l))⟩
/-! ### o[i] = v, o a list of the store -/
def setLoc (o i v : D) : Mo Unit := fun st => match o, i with
  | .loc n, .int k => (match st[n]? with
    | some (.lst ds) => (ixN ds.length k).map fun j => ((), st.set n (.lst (ds.set j v)))
    | _ => none)
  | _, _ => none
def zSub (mo mi : Ev → Mo D) : Ev → D → Mo Ev := fun ρ v => (mo ρ).bind fun o => (mi ρ).bind fun i => (setLoc o i v).bind fun _ => Mo.pure ρ
theorem gv_sub (ha : EV g X a ma) (hb : EV g X b mb) (he : ∀ v, assign (.Subscript a b pos) X.env v = (do
      let ov ← holding [v] (eval a X.env)
      let iv ← holding [v, ov] (eval b X.env)
      standAt pos
      holding [v, ov, iv] (setItem ov iv v)
      release [v, ov, iv] []) := by intro _; rfl) : GV g X (.Subscript a b pos) [] (zSub ma mb) := by
  obtain ⟨ta, pa, sa⟩ := ha.ex
  obtain ⟨tb, pb, sb⟩ := hb.ex
  refine ⟨_, pg_sub pa pb set_list he, fun av μ σ H Q ρ st v d ρ' st' rl er rp hm q => ?_⟩
  obtain ⟨o, s1, h1, hm⟩ := Mo.bind_some hm
  obtain ⟨i, s2, h2, hm⟩ := Mo.bind_some hm
  obtain ⟨u, s3, h3, hm⟩ := Mo.bind_some hm
  obtain ⟨z1, z2⟩ := Mo.pure_some hm
  subst z1 z2
  refine sa av μ σ H _ ρ' st o s1 rl er h1 fun vo H1 μ1 e1 r1 q1 => ?_
  refine sb av μ1 σ H1 _ ρ' s1 i s2 r1 (er.mono e1) h2 fun vi H2 μ2 e2 r2 q2 => ?_
  unfold setLoc at h3
  split at h3
  · rename_i n k hm0
    split at h3
    · rename_i ds hds
      cases e : ixN ds.length k with
      | none => rw [e] at h3; cases h3
      | some j =>
        rw [e] at h3
        cases h3
        cases q2
        cases q1.mono e2 with
        | loc hn =>
          cases r2.obs n _ _ hn hds with
          | lst hH l =>
            refine ⟨_, _, k, j, rfl, rfl, hH, by rw [l.length]; exact e, ?_⟩
            refine q σ _ μ2 ((e1.trans e2).trans (Ext.write r2 hn)) (r2.write hn (.lst upd_same (RpL.set (Rp.mono (Ext.write r2 hn) (Rp.mono (e1.trans e2) rp)) j (RpL.mono (Ext.write r2 hn) l)))) (er.mono ((e1.trans e2).trans (Ext.write r2 hn))) fun vs hv => rfl
    · cases h3
  · cases h3
/-! ### methods -/
def tyD (T : String) (st : List Ob) (d : D) : Bool := match d with
  | .str _ => decide (T = "str")
  | d => decide (T = "list") && (lstItems st d).isSome
def xMt (T : String) (md : D → List D → Mo D) (mo : Ev → Mo D) (ml : Ev → Mo (List D)) : Ev → Mo D := fun ρ => (mo ρ).bind fun x st => if tyD T st x = true then ((ml ρ).bind fun ds => md x ds) st else none
theorem ty_of {K : PySem.W.Frag} {av μ : List Addr} {st : List Ob} {H : Hp} {v : V} {d : D} {T : String} (r : Rel K g av μ st H) (h : Rp K g.ca av μ H v d) (t : tyD T st d = true) : tyV K T v H := by
  unfold tyD at t
  split at t
  · cases h
    exact show T = "str" from of_decide_eq_true t
  · rw [Bool.and_eq_true] at t
    obtain ⟨t1, t2⟩ := t
    cases e : lstItems st d with
    | none => rw [e] at t2; cases t2
    | some ds =>
      obtain ⟨p, xs, rfl, hs, _⟩ := lst_of r h e
      exact .inl ⟨of_decide_eq_true t1, xs, hs⟩
variable {o : Expr} {es : List Expr} {mo : Ev → Mo D} {ml : Ev → Mo (List D)} {name : Str} {apos cpos : Pos} {T bid : String} {md : D → List D → Mo D}
theorem ev_bm (pa : PlainAttrs T) (slot : Slot T name bid) (hty : typeOf (.builtin bid) = pure (.type "method_descriptor")) (hm : MtD g X bid T md) (ho : EV g X o mo) (ha : AV g X (e :: es) ml)
    (hbase : attributeBase o name X.env (eval o X.env) = eval o X.env := by rfl)
    (hfew : ((backTo cpos (starEach (e :: es) X.env)).all (fun x => !x.1) && (backToKw cpos (keywordEach [] X.env)).all (fun x => x.1.isSome)
      && decide ((e :: es).length + ([] : List Keyword).length + (if ([] : List Keyword).isEmpty then 0 else 1) < 30)) = true := by rfl)
    (hline : (apos.endLine == cpos.line) = true := by rfl) (hs : starEach (e :: es) X.env = (false, eval e X.env) :: starEach es X.env := by rfl) (hplain : (backTo cpos (starEach es X.env)).any (·.1) = false := by rfl) :
    EV g X (.Call (.Attribute o name apos) (e :: es) [] cpos) (xMt T md mo ml) := by
  obtain ⟨r, m0, s0⟩ := hm
  obtain ⟨to, po, so⟩ := ho.ex
  obtain ⟨ta, pa', sa⟩ := ha.ex
  refine ⟨_, pe_bm pa slot hty m0 po pa' hbase hfew hline hs hplain, fun av μ σ H Q ρ st d st' rl er hm p => ?_⟩
  obtain ⟨x, s1, h1, hm⟩ := Mo.bind_some hm
  split at hm
  · rename_i ty
    obtain ⟨ds, s2, h2, hm⟩ := Mo.bind_some hm
    refine so av μ σ H _ ρ st x s1 rl er h1 fun v H1 μ1 e1 r1 q1 => ⟨ty_of r1 q1 ty, ?_⟩
    exact sa av μ1 σ H1 _ ρ s1 ds s2 r1 (er.mono e1) h2 fun vs H2 μ2 e2 r2 q2 => s0 av μ2 H2 Q s2 v vs x ds d st' r2 (q1.mono e2) q2 hm (p.mono (e1.trans e2))
  · cases hm
theorem ev_bm0 (pa : PlainAttrs T) (slot : Slot T name bid) (hty : typeOf (.builtin bid) = pure (.type "method_descriptor")) (hm : MtD g X bid T md) (ho : EV g X o mo)
    (hbase : attributeBase o name X.env (eval o X.env) = eval o X.env := by rfl) (hline : (apos.endLine == cpos.line) = true := by rfl) : EV g X (.Call (.Attribute o name apos) [] [] cpos) (xMt T md mo xNil) := by
  obtain ⟨r, m0, s0⟩ := hm
  obtain ⟨to, po, so⟩ := ho.ex
  refine ⟨_, pe_bm0 pa slot hty m0 po hbase hline, fun av μ σ H Q ρ st d st' rl er hm p => ?_⟩
  obtain ⟨x, s1, h1, hm⟩ := Mo.bind_some hm
  split at hm
  · rename_i ty
    obtain ⟨ds, s2, h2, hm⟩ := Mo.bind_some hm
    obtain ⟨z1, z2⟩ := Mo.pure_some h2
    subst z1 z2
    exact so av μ σ H _ ρ st x _ rl er h1 fun v H1 μ1 e1 r1 q1 => ⟨ty_of r1 q1 ty, s0 av μ1 H1 Q _ v [] x [] d st' r1 q1 .nil hm (p.mono e1)⟩
  · cases hm
def mAppend : D → List D → Mo D := fun x ds st => match x, ds with
  | .loc n, [y] => (match st[n]? with
    | some (.lst es) => if es.length ≤ 1000000 then some (.non, st.set n (.lst (es ++ [y]))) else none
    | _ => none)
  | _, _ => none
theorem md_append : MtD g X "list.append" "list" mAppend := ⟨_, mt_append, fun av μ H Q st x xs dx ds d st' rl rx rl2 hm p => by
  unfold mAppend at hm
  split at hm
  · rename_i n y
    split at hm
    · rename_i es hes
      split at hm
      · rename_i hlen
        cases hm
        obtain ⟨w, rfl, hw⟩ := rpl1 rl2
        cases rx with
        | loc hn =>
          cases rl.obs n _ _ hn hes with
          | lst hH l =>
            refine ⟨_, _, w, rfl, rfl, hH, by rw [l.length, sizeLine_eq]; omega, ?_⟩
            exact p _ _ μ (Ext.write rl hn) (rl.write hn (.lst upd_same (RpL.mono (Ext.write rl hn) (RpL.append l (.cons hw .nil))))) .non
      · cases hm
    · cases hm
  · cases hm⟩
def mPop0 : D → List D → Mo D := fun x ds st => match x, ds with
  | .loc n, [] => (match st[n]? with
    | some (.lst es) => (es[es.length - 1]?).map fun y => (y, st.set n (.lst es.dropLast))
    | _ => none)
  | _, _ => none
theorem md_pop0 : MtD g X "list.pop" "list" mPop0 := ⟨_, mt_pop, fun av μ H Q st x xs dx ds d st' rl rx rl2 hm p => by
  unfold mPop0 at hm
  split at hm
  · rename_i n
    split at hm
    · rename_i es hes
      cases e : es[es.length - 1]? with
      | none => rw [e] at hm; cases hm
      | some y =>
        rw [e] at hm
        cases hm
        cases rl2
        cases rx with
        | loc hn =>
          cases rl.obs n _ _ hn hes with
          | lst hH l =>
            obtain ⟨w, h1, h2⟩ := RpL.get l e
            refine ⟨_, _, w, rfl, rfl, hH, by rw [l.length]; exact h1, ?_⟩
            exact p _ _ μ (Ext.write rl hn) (rl.write hn (.lst upd_same (RpL.mono (Ext.write rl hn) (RpL.dropLast l)))) (Rp.mono (Ext.write rl hn) h2)
    · cases hm
  · cases hm⟩
def mPopAt : D → List D → Mo D := fun x ds st => match x, ds with
  | .loc n, [.int i] => (match st[n]? with
    | some (.lst es) => if 0 ≤ i ∧ i < 1000000 then (es[i.toNat]?).map fun y => (y, st.set n (.lst (es.eraseIdx i.toNat))) else none
    | _ => none)
  | _, _ => none
theorem md_popAt : MtD g X "list.pop" "list" mPopAt := ⟨_, mt_popAt, fun av μ H Q st x xs dx ds d st' rl rx rl2 hm p => by
  unfold mPopAt at hm
  split at hm
  · rename_i n i
    split at hm
    · rename_i es hes
      split at hm
      · rename_i hi
        cases e : es[i.toNat]? with
        | none => rw [e] at hm; cases hm
        | some y =>
          rw [e] at hm
          cases hm
          obtain ⟨w, rfl, hw⟩ := rpl1 rl2
          cases hw
          cases rx with
          | loc hn =>
            cases rl.obs n _ _ hn hes with
            | lst hH l =>
              obtain ⟨w, h1, h2⟩ := RpL.get l e
              have hk : i.toNat < es.length := (List.getElem?_eq_some_iff.mp e).1
              refine ⟨_, _, i, i.toNat, w, rfl, rfl, hH, by omega, by omega, ?_, h1, ?_⟩
              · have hx : ixN es.length i = some i.toNat := by
                  unfold ixN
                  rw [if_pos hi.1, if_pos (by omega)]
                rw [l.length]
                exact (ixN_seq hx).1
              · exact p _ _ μ (Ext.write rl hn) (rl.write hn (.lst upd_same (RpL.mono (Ext.write rl hn) (RpL.eraseIdx _ l)))) (Rp.mono (Ext.write rl hn) h2)
      · cases hm
    · cases hm
  · cases hm⟩
def mSplit : D → List D → Mo D := fun x ds st => match x, ds with
  | .str a, [.str b] => if (b.length == 0) = false ∧ a.length ≤ 1000000 then some (.lst ((Txt.split a b).map .str), st) else none
  | _, _ => none
theorem rpl_strs {K : PySem.W.Frag} {ca : Str → Addr} {av μ : List Addr} {H : Hp} : ∀ xs : List Str, RpL K ca av μ H (xs.map V.str) (xs.map D.str)
  | [] => .nil
  | x :: xs => .cons (.str x) (rpl_strs xs)
theorem md_split : MtD g X "str.split" "str" mSplit := ⟨_, mt_split, fun av μ H Q st x xs dx ds d st' rl rx rl2 hm p => by
  unfold mSplit at hm
  split at hm
  · split at hm
    · rename_i h
      cases hm
      obtain ⟨w, rfl, hw⟩ := rpl1 rl2
      cases hw
      cases rx
      exact ⟨_, _, rfl, rfl, h.1, by have := h.2; rw [sizeLine_eq]; omega, fun q hq => p.newO rl hq (rp_newL rl hq (rpl_strs _))⟩
    · cases hm
  · cases hm⟩
/-! ### a star in a display -/
def xStar (m : Ev → Mo D) (mr : Ev → Mo (List D)) : Ev → Mo (List D) := fun ρ => (m ρ).bind fun x st => match seqItems st x with
  | some ds => ((mr ρ).bind fun xs => Mo.pure (ds ++ xs)) st
  | none => none
theorem av_star {sp : Pos} (ha : EV g X e mo) (hb : AV g X es ml) (hs : starEach (.Starred e sp :: es) X.env = (true, eval e X.env) :: starEach es X.env := by rfl) : AV g X (.Starred e sp :: es) (xStar mo ml) := by
  obtain ⟨ta, pa, sa⟩ := ha.ex
  obtain ⟨tb, pb, sb⟩ := hb.ex
  refine ⟨_, StX.pa_star pa pb hs, fun av μ σ H Q ρ st d st' rl er hm p => ?_⟩
  obtain ⟨x, s1, h1, hm⟩ := Mo.bind_some hm
  cases e2 : seqItems s1 x with
  | none => rw [e2] at hm; cases hm
  | some ds =>
    rw [e2] at hm
    obtain ⟨xs, s2, h2, hm⟩ := Mo.bind_some hm
    obtain ⟨z1, z2⟩ := Mo.pure_some hm
    subst z1 z2
    refine sa av μ σ H _ ρ st x s1 rl er h1 fun v H1 μ1 e1 r1 q1 => ?_
    obtain ⟨q, ys, rfl, hq, l⟩ := seq_of r1 q1 e2
    refine ⟨q, ys, rfl, hq.symm, ?_⟩
    exact sb av μ1 σ H1 _ ρ s1 xs _ r1 (er.mono e1) h2 fun vs H2 μ2 e2 r2 q2 => p _ H2 μ2 (e1.trans e2) r2 (RpL.append (RpL.mono e2 l) q2)
end
end MM
set_option autoImplicit false
set_option maxRecDepth 100000
set_option maxHeartbeats 4000000
/-! M8: is, isinstance. -/
namespace MM
open PySem PySem.Spec PyProof.Rows L2 LamX NdefX
section
variable {g : G} {X : Cx}
def dIsN : D → D → Option D
  | .non, .non => some (.bl true)
  | _, .non => some (.bl false)
  | _, _ => none
def dIsB : D → D → Option D
  | .bl a, .bl b => some (.bl (decide (a = b)))
  | _, _ => none
def dIs2 : D → D → Option D
  | .bl a, .bl b => some (.bl (decide (a = b)))
  | .non, .non => some (.bl true)
  | _, .non => some (.bl false)
  | _, _ => none
abbrev mIs : D → D → Mo D := lift2 dIs2
theorem od_isB : OpD g X (compareOp .Is) (lift2 dIsB) := opd_lift op_is_bl fun av μ H Q st x y dx dy d rl rx ry hm p => by
    unfold dIsB at hm
    split at hm
    · cases hm
      cases rx
      cases ry
      exact ⟨_, _, rfl, rfl, p.here rl (.bl _)⟩
    · cases hm
theorem dIsN_ne {x : D} (h : x ≠ .non) : dIsN x .non = some (.bl false) := by
  cases x <;> first | rfl | exact absurd rfl h
theorem od_isN : OpD g X (compareOp .Is) (lift2 dIsN) := opd_lift op_isN fun av μ H Q st x y dx dy d rl rx ry hm p => by
    have hd := non_of rx
    unfold dIsN at hm
    split at hm
    · cases hm
      cases rx
      cases ry
      exact ⟨rfl, p.here rl (.bl _)⟩
    · cases hm
      cases ry
      refine ⟨rfl, ?_⟩
      rename_i hne
      have e : decide (x = .non) = false := by
        rw [hd]
        cases dx <;> first | rfl | exact absurd rfl (fun h => hne h)
      rw [e]
      exact p.here rl (.bl _)
    · cases hm
theorem or_is (x y d : D) (h : dIs2 x y = some d) : dIsB x y = some d ∨ dIsN x y = some d := by
  unfold dIs2 at h
  split at h
  · exact .inl h
  · exact .inr h
  · cases h
    rename_i hne
    exact .inr (dIsN_ne fun h => hne h)
  · cases h
theorem od_is : OpD g X (compareOp .Is) mIs := .or od_isB od_isN (or_lift or_is)
end
/-! ### isinstance -/
def tyNm (st : List Ob) : D → Option String
  | .non => some "NoneType"
  | .bl _ => some "bool"
  | .int _ => some "int"
  | .str _ => some "str"
  | .tup _ => some "tuple"
  | .lst _ => some "list"
  | .ro _ => some "list"
  | .dct _ _ => some "dict"
  | .loc n => (match st[n]? with
    | some (.lst _) => some "list"
    | some (.dK _ _) => some "dict"
    | _ => none)
  | _ => none
theorem tyX_of {K : PySem.W.Frag} {g : G} {av μ : List Addr} {st : List Ob} {H : Hp} {v : V} {d : D} {n : String} (r : Rel K g av μ st H) (h : Rp K g.ca av μ H v d) (e : tyNm st d = some n) : TyX K H v (.type n) := by
  cases h with
  | non => cases e; exact .base .non
  | bl b => cases e; exact .base (.bl b)
  | int i => cases e; exact .base (.int i)
  | str x => cases e; exact .base (.str x)
  | tup h l =>
    cases e
    rcases h with (h | ⟨o, h⟩) | ⟨o, its, k, h1, h2, _⟩
    · exact .base (.tup h)
    · exact .fTuple h
    · exact .kTuple h1 h2
  | lst h _ _ _ => cases e; exact .base (.lst h)
  | ro h _ =>
    cases e
    rcases h with ⟨o, h⟩ | (h | ⟨_, h⟩) | ⟨o, its, k, h1, h2, _⟩
    · exact .base (.frz h)
    · cases h
    · cases h
    · exact .kList h1 h2
  | ins h _ _ _ => cases e
  | dct h _ _ _ => cases e; exact .base (.dK h)
  | @loc n a hn =>
    cases e1 : st[n]? with
    | none => simp only [tyNm, e1] at e; cases e
    | some ob =>
      have ho := r.obs n a ob hn e1
      cases ob with
      | lst ds => simp only [tyNm, e1] at e; cases e; cases ho with | lst hH _ => exact .base (.lst hH)
      | dK ks ds => simp only [tyNm, e1] at e; cases e; cases ho with | dK hH _ => exact .base (.dK hH)
      | ins _ _ _ => simp only [tyNm, e1] at e; cases e
  | ty _ => cases e
  | cls _ => cases e
end MM
set_option autoImplicit false
set_option maxRecDepth 100000
set_option maxHeartbeats 4000000
/-! M9: isinstance. -/
namespace MM
open PySem PySem.Spec PyProof.Rows L2 LamX NdefX
/-- what isinstance asks of an own class's instances -/
structure InF (K : PySem.W.Frag) (C : Addr) : Prop where
  cl : Cls K C
  ha : PySem.W.findIn K (.ref C) "__class__" = some (some (.builtin "object.__class__"))
  hn : PySem.W.specialIn K (.builtin "object.__class__") "__get__" = some (some (.builtin "getset_descriptor.__get__"))
  htk : PySem.W.takesIn K (.builtin "object.__class__") = some true
  hm : PySem.W.mroIn K C (.type "object") = some true
def insCls (st : List Ob) : D → Option Str
  | .ins c _ _ => some c
  | .loc n => (match st[n]? with
    | some (.ins c _ _) => some c
    | _ => none)
  | _ => none
theorem insX_of {K : PySem.W.Frag} {g : G} {av μ : List Addr} {st : List Ob} {H : Hp} {v : V} {d : D} {c : Str} (r : Rel K g av μ st H) (h : Rp K g.ca av μ H v d) (e : insCls st d = some c) (F : InF K (g.ca c)) : TyX K H v (.ref (g.ca c)) := by
  cases h with
  | ins h _ _ _ => cases e; exact .base (.ins h F.cl F.ha F.hn F.htk F.hm)
  | @loc n a hn =>
    cases e1 : st[n]? with
    | none => simp only [insCls, e1] at e; cases e
    | some ob =>
      have ho := r.obs n a ob hn e1
      cases ob with
      | ins c' ns ds => simp only [insCls, e1] at e; cases e; cases ho with | ins hH _ => exact .base (.ins hH F.cl F.ha F.hn F.htk F.hm)
      | _ => simp only [insCls, e1] at e; cases e
  | _ => cases e
/-- the answers: tb says what is known of an own class's instances, nb which own classes kit values are never of -/
def dIsi (tb : Str → D → Option Bool) (nb : Str → Bool) (st : List Ob) : List D → Option D
  | [x, c] => (match tyNm st x with
    | some n => (match c with
      | .ty t => (kitB n t).map .bl
      | .cls c => if nb c = true then some (.bl false) else none
      | _ => none)
    | none => (insCls st x).bind fun k => (tb k c).map .bl)
  | _ => none
/-- tb and nb are right -/
structure IsiT (K : PySem.W.Frag) (g : G) (tb : Str → D → Option Bool) (nb : Str → Bool) : Prop where
  inf : ∀ k c b, tb k c = some b → InF K (g.ca k)
  ty : ∀ k t b, tb k (.ty t) = some b → PySem.W.kitOne K (.ref (g.ca k)) (.type t) = some b
  cls : ∀ k c b, tb k (.cls c) = some b → PySem.W.kitOne K (.ref (g.ca k)) (.ref (g.ca c)) = some b
  bi : ∀ n c, nb c = true → (n = "NoneType" ∨ n = "bool" ∨ n = "int" ∨ n = "str" ∨ n = "tuple" ∨ n = "list" ∨ n = "dict") → PySem.W.kitOne K (.type n) (.ref (g.ca c)) = some false
  only : ∀ k t b, tb k t = some b → (∃ n, t = .ty n) ∨ ∃ c, t = .cls c
theorem tyNm_mem {st : List Ob} {d : D} {n : String} (e : tyNm st d = some n) : n = "NoneType" ∨ n = "bool" ∨ n = "int" ∨ n = "str" ∨ n = "tuple" ∨ n = "list" ∨ n = "dict" := by
  cases d with
  | loc k =>
    cases e1 : st[k]? with
    | none => simp only [tyNm, e1] at e; cases e
    | some ob => cases ob <;> (simp only [tyNm, e1] at e; cases e) <;> simp
  | _ => cases e <;> simp
theorem cd_isi {g : G} {X : Cx} {tb : Str → D → Option Bool} {nb : Str → Bool} (I : IsiT X.K g tb nb) : CallD g X (.builtin "isinstance") (liftL (dIsi tb nb)) := calld call_isi fun av μ H Q st xs ds d rl rx hm p => by
  unfold dIsi at hm
  split at hm
  · rename_i x c
    obtain ⟨v, w, rfl, h1, h2⟩ := rpl2 rx
    cases e1 : tyNm st x with
    | some n =>
      simp only [e1] at hm
      split at hm
      · rename_i t
        cases e2 : kitB n t with
        | none => rw [e2] at hm; cases hm
        | some b =>
          rw [e2] at hm
          cases hm
          cases h2
          exact ⟨v, _, _, _, b, rfl, .ty t, tyX_of rl h1 e1, kit_ty e2, p.here rl (.bl _)⟩
      · rename_i c
        split at hm
        · rename_i e2
          cases hm
          cases h2
          exact ⟨v, _, _, _, false, rfl, .own _, tyX_of rl h1 e1, I.bi n c e2 (tyNm_mem e1), p.here rl (.bl _)⟩
        · cases hm
      · cases hm
    | none =>
      simp only [e1] at hm
      cases e2 : insCls st x with
      | none => rw [e2] at hm; cases hm
      | some k =>
        rw [e2] at hm
        cases e3 : tb k c with
        | none => simp [e3] at hm
        | some b =>
          simp [e3] at hm
          subst hm
          have F := I.inf k c b e3
          rcases I.only k c b e3 with ⟨n, rfl⟩ | ⟨c', rfl⟩
          · cases h2
            exact ⟨v, _, _, _, b, rfl, .ty n, insX_of rl h1 e2 F, I.ty k n b e3, p.here rl (.bl _)⟩
          · cases h2
            exact ⟨v, _, _, _, b, rfl, .own _, insX_of rl h1 e2 F, I.cls k c' b e3, p.here rl (.bl _)⟩
  · cases hm
end MM
set_option autoImplicit false
set_option maxRecDepth 100000
set_option maxHeartbeats 4000000
/-! M10: own functions: what a def promises, calls. -/
namespace MM
open PySem PySem.Spec PyProof.Rows L2 LamX NdefX
/-- arguments, closures among them -/
inductive RpAs (K : PySem.W.Frag) (g : G) (av μ : List Addr) (H : Hp) : List V → List A → Prop
  | nil : RpAs K g av μ H [] []
  | cons {v : V} {vs : List V} {x : A} {xs : List A} : RpA K g av μ H v x → RpAs K g av μ H vs xs → RpAs K g av μ H (v :: vs) (x :: xs)
section
variable {K : PySem.W.Frag} {g : G} {av μ : List Addr} {H : Hp}
theorem RpAs.length {vs : List V} {xs : List A} (h : RpAs K g av μ H vs xs) : vs.length = xs.length := by
  induction h with
  | nil => rfl
  | cons _ _ ih => rw [List.length_cons, List.length_cons, ih]
theorem RpAs.of : ∀ {vs : List V} {ds : List D}, RpL K g.ca av μ H vs ds → RpAs K g av μ H vs (ds.map .d)
  | _, _, .nil => .nil
  | _, _, .cons a b => .cons (show RpA K g av μ H _ (.d _) from a) (RpAs.of b)
theorem RpAs.append {vs ws : List V} {xs ys : List A} (h : RpAs K g av μ H vs xs) (t : RpAs K g av μ H ws ys) : RpAs K g av μ H (vs ++ ws) (xs ++ ys) := by
  induction h with
  | nil => exact t
  | cons a _ ih => exact .cons a ih
theorem RpAs.get {vs : List V} {xs : List A} (h : RpAs K g av μ H vs xs) : ∀ {i : Nat} {x : A}, xs[i]? = some x → ∃ v, vs[i]? = some v ∧ RpA K g av μ H v x := by
  induction h with
  | nil => intro i x e; simp at e
  | cons a _ ih =>
    intro i x e
    cases i with
    | zero => simp at e; subst e; exact ⟨_, rfl, a⟩
    | succ i => obtain ⟨v, h1, h2⟩ := ih (i := i) (by simpa using e); exact ⟨v, by simpa using h1, h2⟩
def startE (n : Nat) (as : List A) : Ev := as.map some ++ List.replicate (n - as.length) none
theorem startE_ok {N : List Str} {vs : List V} {as : List A} (h : RpAs K g av μ H vs as) : EnvR K g av μ H (L2.start N vs) (startE N.length as) := by
  have hl := h.length
  refine ⟨by simp [L2.start, startE, hl], fun i x e => ?_⟩
  unfold startE at e
  unfold L2.start
  by_cases hi : i < as.length
  · rw [List.getElem?_append_left (by simpa using hi), List.getElem?_map] at e
    cases e2 : as[i]? with
    | none => rw [e2] at e; cases e
    | some y =>
      rw [e2] at e
      cases e
      obtain ⟨v, h1, h2⟩ := h.get e2
      exact ⟨v, by rw [List.getElem?_append_left (by simpa [hl] using hi), List.getElem?_map, h1]; rfl, h2⟩
  · rw [List.getElem?_append_right (by simpa using Nat.le_of_not_lt hi)] at e
    have := List.mem_of_getElem? e
    simp at this
end
/-- what a body's end is to the caller -/
def endD : Out → Mo D
  | .rt d => Mo.pure d
  | .nx _ => Mo.pure .non
  | _ => Mo.fail
def runF (n : Nat) (m : Ev → Mo Out) : List A → Mo D := fun as => (m (startE n as)).bind endD
/-- the promise of a def whose calls answer as md says -/
def SpG (K : PySem.W.Frag) (g : G) (n : Nat) (md : List A → Mo D) : Sp := fun vs H Q _ => vs.length = n ∧ ∃ av μ st as d st', Rel K g av μ st H ∧ RpAs K g av μ H vs as ∧ md as st = some (d, st') ∧ Post K g av μ H d st' Q
section
variable {P : Program} {w : World} {K : PySem.W.Frag} {mg : Str → Option Value} {base : Heap} {g : G}
theorem body_ok {X : Cx} {body : List Stmt} {m : Ev → Mo Out} {vs : List V} {H : Hp} {Q : VK} {as : List A} {d : D} {av μ : List Addr} {st st' : List Ob} {N : List Str} (hb : BV g X body m) (rl : Rel X.K g av μ st H) (ra : RpAs X.K g av μ H vs as) (hm : runF N.length m as st = some (d, st')) (p : Post X.K g av μ H d st' Q) :
    ∃ t, PSs X body t ∧ t { nx := fun _ H' => Q .non H', rt := Q } (L2.start N vs) H := by
  obtain ⟨t, pt, s⟩ := hb.ex
  refine ⟨t, pt, ?_⟩
  obtain ⟨o, s1, h1, hm⟩ := Mo.bind_some hm
  refine s av μ _ H _ _ st o s1 rl (startE_ok ra) h1 ?_
  cases o with
  | rt d' =>
    obtain ⟨z1, z2⟩ := Mo.pure_some hm
    subst z1 z2
    exact fun v H' μ' x r q => p v H' μ' x r q
  | nx ρ' =>
    obtain ⟨z1, z2⟩ := Mo.pure_some hm
    subst z1 z2
    exact fun σ' H' μ' x r q => p _ H' μ' x r .non
  | bk _ => cases hm
  | ct _ => cases hm
/-- a def by its body -/
theorem fn_ok {x qual : Str} {params : Arguments} {body : List Stmt} {scope : Scope} {dvs : List V} {kws : List (Str × V)} {f : Addr} {fd : FuncData} {N ps : List Str} {k : Nat} {m : Ev → Mo Out}
    (F : FunD K x qual params body scope dvs kws f fd) (S : FnScope N ps scope)
    (hb : ∀ (cdv : Value) (A : Around) (outer : List Env) (s : Shared) (H : Hp) (E : XK), Room k (A.deeper (envOfC qual scope s.heap.objs.size f cdv)) → BV g (cxOf C8.CX0 P w K mg base N qual scope f cdv A outer s H E) body m) :
    FnOk P w K mg base C8.CX0 (k + 1) f fd ps (SpG K g ps.length (runF N.length m)) :=
  FunD.ok F S (fun vs H Q E h => h.1) fun cdv A outer s H vs Q E hr h => by
    obtain ⟨_, av, μ, st, as, d, st', rl, ra, hm, p⟩ := h
    exact body_ok (hb cdv A outer s H E hr) rl ra hm p
/-- a def that may be called by its name -/
structure Cal (P : Program) (w : World) (K : PySem.W.Frag) (mg : Str → Option Value) (base : Heap) (g : G) (k : Nat) (x : Str) (n : Nat) (md : List A → Mo D) : Prop where
  ex : ∃ (f : Addr) (fd : FuncData) (ps : List Str), FnOk P w K mg base C8.CX0 k f fd ps (SpG K g n md) ∧ mg x = some (.ref f) ∧ PySem.W.keepIn K (.ref f) = true ∧ Binds K fd ps []
theorem cal_of {x : Str} {params : Arguments} {body : List Stmt} {scope : Scope} {f : Addr} {fd : FuncData} {N ps : List Str} {k n : Nat} {m : Ev → Mo Out}
    (F : FunD K x x params body scope [] [] f fd) (hm : mg x = some (.ref f)) (hs : C8.scC N ps scope = true) (hn : ps.length = n)
    (hbd : ∀ (kV doc pm : Value) (an : Option Addr) (cdv ct : Value) (us : List Value), us.length = ps.length → bindArgs (PySem.W.fnOf x x params body scope .none kV doc pm an cdv ct) ⟨us, []⟩ = pure (ps.zip us))
    (hb : ∀ (cdv : Value) (A : Around) (outer : List Env) (s : Shared) (H : Hp) (E : XK), Room k (A.deeper (envOfC x scope s.heap.objs.size f cdv)) → BV g (cxOf C8.CX0 P w K mg base N x scope f cdv A outer s H E) body m) :
    Cal P w K mg base g (k + 1) x n (runF N.length m) := by
  subst hn
  exact ⟨f, fd, ps, fn_ok F (C8.fnScope_by hs) hb, hm, F.kp, F.bindsN hbd⟩
end
section
variable {g : G} {X : Cx} {k j n : Nat} {x : Str} {md : List A → Mo D} {p pos : Pos} {e : Expr} {es : List Expr} {ml : Ev → Mo (List D)}
/-- a call whose arguments are data -/
def xFn (n : Nat) (md : List A → Mo D) (ml : Ev → Mo (List D)) : Ev → Mo D := fun ρ => (ml ρ).bind fun ds => if ds.length = n then md (ds.map .d) else Mo.fail
theorem ev_call (c : Cal X.prog X.w X.K X.mg X.base g k x n md) (hr : Room j X.A) (hk : k ≤ j) (hg : Gl X x) (ha : AV g X (e :: es) ml)
    (hdb : (x == ("__debug__" : Str)) = false := by decide) (he : starEach (e :: es) X.env = (false, eval e X.env) :: starEach es X.env := by rfl) (hpl : (backTo pos (starEach es X.env)).any (·.1) = false := by rfl) :
    EV g X (.Call (.Name x p) (e :: es) [] pos) (xFn n md ml) := by
  obtain ⟨f, fd, ps, F, hm, kp, b⟩ := c.ex
  obtain ⟨t, pa, sl⟩ := ha.ex
  refine ⟨_, pe_call (E := C8.E0) F (hr.mono hk) hg hm kp b .nil C8.pass0 pa hdb he hpl, fun av μ σ H Q ρ st d st' rl er hm p => ?_⟩
  obtain ⟨ds, s1, h1, hm⟩ := Mo.bind_some hm
  split at hm
  · rename_i hn
    refine sl av μ σ H _ ρ st ds s1 rl er h1 fun vs H1 μ1 e1 r1 q1 => ?_
    rw [List.append_nil]
    exact ⟨by rw [q1.length]; exact hn, av, μ1, s1, _, d, st', r1, RpAs.of q1, hm, p.mono e1⟩
  · cases hm
theorem ev_call0 (c : Cal X.prog X.w X.K X.mg X.base g k x 0 md) (hr : Room j X.A) (hk : k ≤ j) (hg : Gl X x) (hdb : (x == ("__debug__" : Str)) = false := by decide) :
    EV g X (.Call (.Name x p) [] [] pos) (xFn 0 md xNil) := by
  obtain ⟨f, fd, ps, F, hm, kp, b⟩ := c.ex
  refine ⟨_, pe_call0 (E := C8.E0) F (hr.mono hk) hg hm kp b .nil C8.pass0 hdb, fun av μ σ H Q ρ st d st' rl er hm p => ?_⟩
  obtain ⟨ds, s1, h1, hm⟩ := Mo.bind_some hm
  obtain ⟨z1, z2⟩ := Mo.pure_some h1
  subst z1 z2
  exact ⟨rfl, av, μ, _, [], d, st', rl, .nil, hm, p⟩
end
end MM
set_option autoImplicit false
set_option maxRecDepth 100000
set_option maxHeartbeats 4000000
/-! M11: a lambda handed to a def, called there. -/
namespace MM
open PySem PySem.Spec PyProof.Rows L2 LamX NdefX
/-! ### arguments one behind another, the rest told -/
structure LV (g : G) (X : Cx) (es : List Expr) (m : Ev → Mo (List D)) : Prop where
  run : ∀ (pos : Pos) (pins : List (Addr × Obj)) (s : Shared) (σ : L2.St) (H : Hp) (rest : List (Bool × Sem Value)) (R : List Value → Shared → Prop) (av μ : List Addr) (ρ : Ev) (st : List Ob) (ds : List D) (st' : List Ob), Inv X pins σ H s →
    Rel X.K g av μ st H → EnvR X.K g av μ H σ ρ → m ρ st = some (ds, st') →
    (∀ us vs H' μ' s1, Vals vs us → Inv X pins σ H' s1 → Ext μ μ' H H' → Rel X.K g av μ' st' H' → RpL X.K g.ca av μ' H' vs ds → wpAny (model X.prog X.w) X.A (spliced rest) (fun ws s2 => R (us ++ ws) s2) X.xe s1) →
    wpAny (model X.prog X.w) X.A (spliced (backTo pos (starEach es X.env) ++ rest)) R X.xe s
section
variable {g : G} {X : Cx} {e : Expr} {es : List Expr} {me : Ev → Mo D} {ml : Ev → Mo (List D)}
theorem lv_nil : LV g X [] xNil := ⟨fun pos pins s σ H rest R av μ ρ st ds st' I rl er hm h => by
  obtain ⟨z1, z2⟩ := Mo.pure_some hm
  subst z1 z2
  exact h [] [] H μ s .nil I (Ext.refl _ _) rl .nil⟩
theorem lv_cons (ha : EV g X e me) (hb : LV g X es ml) (hs : starEach (e :: es) X.env = (false, eval e X.env) :: starEach es X.env := by rfl) : LV g X (e :: es) (xCons me ml) := by
  obtain ⟨ta, pa, sa⟩ := ha.ex
  refine ⟨fun pos pins s σ H rest R av μ ρ st ds st' I rl er hm h => ?_⟩
  obtain ⟨x, s1, h1, hm⟩ := Mo.bind_some hm
  obtain ⟨xs, s2, h2, hm⟩ := Mo.bind_some hm
  obtain ⟨z1, z2⟩ := Mo.pure_some hm
  subst z1 z2
  rw [hs]
  show wpAny _ _ (spliced ((false, eval e X.env) :: (backTo pos (starEach es X.env) ++ rest))) _ _ s
  refine Calls.spliced_cons (thn (pa.run pins s σ H (fun v H1 => ∃ μ1, Ext μ μ1 H H1 ∧ Rel X.K g av μ1 s1 H1 ∧ Rp X.K g.ca av μ1 H1 v x) I (sa av μ σ H _ ρ st x s1 rl er h1 fun v H1 μ1 e1 r1 q1 => ⟨μ1, e1, r1, q1⟩)) fun u sh ⟨v, H1, I1, r1, μ1, e1, rl1, q1⟩ => ?_)
  refine hb.run pos pins sh σ H1 rest _ av μ1 ρ s1 xs _ I1 rl1 (er.mono e1) h2 fun us vs H2 μ2 sh2 r2 I2 e2 rl2 q2 => ?_
  exact h (u :: us) (v :: vs) H2 μ2 sh2 (.cons r1 r2) I2 (e1.trans e2) rl2 (.cons (q1.mono e2) q2)
end
/-! ### what hangs on the classes' addresses and the tables alone -/
section
variable {K : PySem.W.Frag} {g g' : G} {av μ : List Addr} {st : List Ob} {H : Hp}
theorem Rel.sw (h1 : g'.ca = g.ca) (h2 : g'.T = g.T) (r : Rel K g av μ st H) : Rel K g' av μ st H := ⟨r.len, r.nd, r.avo, by rw [h1]; exact r.obs, by rw [h2]; exact r.tab⟩
theorem envR_data {vs : List V} {ds : List D} {n : Nat} (h : RpL K g.ca av μ H vs ds) : EnvR K g av μ H (vs.map some ++ List.replicate (n - vs.length) none) (startE n (ds.map .d)) := by
  have := startE_ok (N := List.replicate n "") (RpAs.of (g := g) h)
  unfold L2.start at this
  rwa [List.length_replicate] at this
end
/-- the reading of a whole by its mirror -/
theorem EV.mk' {g : G} {X : Cx} {e : Expr} {m : Ev → Mo D} (h : ∀ (pins : List (Addr × Obj)) (s : Shared) (σ : L2.St) (H : Hp) (Q : VK) (av μ : List Addr) (ρ : Ev) (st : List Ob) (d : D) (st' : List Ob), Inv X pins σ H s → Rel X.K g av μ st H → EnvR X.K g av μ H σ ρ → m ρ st = some (d, st') → Post X.K g av μ H d st' Q →
    wpAny (model X.prog X.w) X.A (eval e X.env) (EP X pins σ Q) X.xe s) : EV g X e m := ⟨TEof X.K g m, ⟨fun pins s σ H Q I ⟨av, μ, ρ, st, d, st', rl, er, hm, p⟩ => h pins s σ H Q av μ ρ st d st' I rl er hm p⟩, semOf⟩
/-! ### the lambda is made -/
section
variable {X : Cx} {pins : List (Addr × Obj)} {σ : L2.St} {H : Hp} {s : Shared}
theorem lam_makeN {T : List NTab} {nm : Nat → Nat → Str} {c P : Addr} {params : Arguments} {body : Expr} {scope : Scope} {pos : Pos} {E : Value → Shared → Prop} {Q : Value → Shared → Prop} (I : Inv X pins σ H s) (TB : TabB X.base X.mg c P) (hcode : X.env.code = .ref c)
    (hm : (P, nm) ∈ T) (hn : nm pos.line pos.col = X.env.qual ++ "<lambda>") (hu : ∀ p ∈ T, p.1 = P → p.2 = nm) (hT : TabsN T H) (hdef : defaultsOf params X.env = ([], [])) (hfree : ∀ y ∈ scope.names, y.2 = .free → ∃ c, X.env.cells.lookup y.1 = some c)
    (h : ∀ (f c' : Addr) (pm ctv : Value) (H1 : Hp) (s' : Shared), Inv X pins σ H1 s' → ExtN H H1 → (∀ b, H1 b = none → H b = none) → TabsN T H1 →
      s'.heap.get? f = some (PySem.W.kla_obj "<lambda>" (X.env.qual ++ "<lambda>") params body scope (cloFrom X.env.cells scope.names []) pm c' ctv) → H1 f = none → f ∉ frs X.stack → H1 c' = some (CodeO c' (X.env.qual ++ "<lambda>")) → Q (.ref f) s') :
    wpAny (model X.prog X.w) X.A (eval (.Lambda params body scope pos) X.env) Q E s := by
  obtain ⟨ps, hP, ht, ha⟩ := (show TabN H P nm from hT _ hm)
  refine PySem.W.kla_eval hdef ?_
  have bP : s.heap.BuiltinsAt X.mg P := TB.bm.keeps I.bk
  have hP' : s.heap.get? P = some { cls := .none, data := .fields ps } := I.hok P _ hP
  have nofr : ∀ f, s.heap.objs.size ≤ f → f ∉ frs X.stack := fun f hf z => by
    rcases List.mem_cons.mp (I.stkSub _ z) with e | e
    · have h1 := I.lt
      rw [← e] at h1
      exact Nat.lt_irrefl _ (Nat.lt_of_lt_of_le h1 hf)
    · exact I.nofs hf e
  cases hc : codeAmong pos ps.toList with
  | none =>
    refine PySem.W.kla_makeFunction (mg := X.mg) (c := c) (P := P) (ps := ps) (closure_ok hfree) I.ok.glob (I.mod.glob.keeps I.bk) hcode (TB.code.keeps I.bk) hP' ht hc TB.gP bP fun c' ctv h' tk hx hge hlt hrec htb => ?_
    obtain ⟨c2, oc, vs, t, e2, hoc, hd, hv⟩ := hrec
    cases e2
    have hsz : s.heap.objs.size ≤ h'.objs.size := Nat.le_trans hge (Nat.le_of_lt hlt)
    have nC : H c' = none := I.hok.fresh hge
    have I1 := inv_table (t' := tk) (more := #[rawInt pos.line, rawInt pos.col, .ref c']) (h' := h'.push (PySem.W.kla_obj "<lambda>" (X.env.qual ++ "<lambda>") params body scope (cloFrom X.env.cells scope.names []) ((X.mg "__name__").getD .none) c' ctv)) I hP
      (fun b o hb e => Heap.get?_push_of_some _ (hx b o hb e)) (Heap.get?_push_of_some _ htb) hge ⟨oc, vs, t, Heap.get?_push_of_some _ hoc, hd, hv⟩
    have hE : ExtN H (upd (upd H P (.tbl (ps ++ #[rawInt pos.line, rawInt pos.col, .ref c']))) c' (CodeO c' (X.env.qual ++ "<lambda>"))) := fun b o e n => by
      rw [upd_ne (ne_of_none e nC), upd_ne (fun z => n ps (Option.some.inj (e.symm.trans (by rw [z]; exact hP))))]
      exact e
    have eL : (ps ++ #[rawInt pos.line, rawInt pos.col, .ref c']).toList = ps.toList ++ [rawInt pos.line, rawInt pos.col, .ref c'] := by simp
    refine h h'.objs.size c' ((X.mg "__name__").getD .none) ctv _ _ I1 hE (fun b e => upd_none (upd_none e)) (fun p hp => ?_) (Heap.get?_push_size _ rfl) ?_ (nofr _ hsz) upd_same
    · by_cases hb : p.1 = P
      · rw [hu p hp hb, hb]
        refine ⟨_, by rw [upd_ne (ne_of_none hP nC), upd_same], by rw [eL]; exact PySem.TriplesOk_snoc _ _ _ _ ht, fun p' cv hcv => ?_⟩
        rw [eL] at hcv
        rcases among_app2 _ ht hcv with z | ⟨z, z1, z2⟩
        · obtain ⟨c0, e1, e2⟩ := ha p' cv z
          exact ⟨c0, e1, hE _ _ e2 codeO_ne⟩
        · refine ⟨c', z, ?_⟩
          rw [← z1, ← z2, hn]
          exact upd_same
      · obtain ⟨ps', a1, a2, a3⟩ := hT p hp
        refine ⟨ps', by rw [upd_ne (ne_of_none a1 nC), upd_ne hb]; exact a1, a2, fun p' cv hcv => ?_⟩
        obtain ⟨c0, e1, e2⟩ := a3 p' cv hcv
        exact ⟨c0, e1, hE _ _ e2 codeO_ne⟩
    · have n1 : h'.objs.size ≠ c' := Nat.ne_of_gt hlt
      have n2 : h'.objs.size ≠ P := Nat.ne_of_gt (Nat.lt_of_lt_of_le (Heap.lt_size hP') hsz)
      rw [upd_ne n1, upd_ne n2]
      exact I.hok.fresh hsz
  | some cv =>
    obtain ⟨c', e, hco⟩ := ha pos cv hc
    subst e
    rw [hn] at hco
    refine PySem.W.kla_makeFunctionHit (mg := X.mg) (c := c) (P := P) (ps := ps) (closure_ok hfree) I.ok.glob (I.mod.glob.keeps I.bk) hcode (TB.code.keeps I.bk) hP' ht hc bP fun ctv h' tk hx hsz => ?_
    have I1 : Inv X pins σ H { s with heap := h'.push (PySem.W.kla_obj "<lambda>" (X.env.qual ++ "<lambda>") params body scope (cloFrom X.env.cells scope.names []) ((X.mg "__name__").getD .none) c' ctv), toks := tk } := I.kept fun b o e => Heap.get?_push_of_some _ (hx b o e)
    exact h h'.objs.size c' ((X.mg "__name__").getD .none) ctv H _ I1 (ExtN.refl H) (fun _ e => e) hT (Heap.get?_push_size _ rfl) (I.hok.fresh hsz) (nofr _ hsz) hco
end
/-! ### the lambda is called -/
/-- the words of a lambda as Nested has them -/
abbrev lamNF (X : Cx) (params : Arguments) (scope : Scope) (c' : Addr) : NF := ⟨"<lambda>", X.env.qual ++ "<lambda>", params, [], scope, cloFrom X.env.cells scope.names [], c'⟩
theorem cells_later {Z : Cx} {cl : List (Str × Addr)} {fr : List Str} {ws : List (Option V)} {pins : List (Addr × Obj)} {σ : L2.St} {H : Hp} {s : Shared} (C : CellsAt cl fr ws Z.s_0.heap Z.H_0) (hx : Z.ex = []) (I : L2.Inv Z pins σ H s) : CellsAt cl fr ws s.heap H := by
  have nx : ∀ c : Addr, c ∉ Z.ex := fun c => by rw [hx]; simp
  have kp : ∀ y c, cl.lookup y = some c → ∀ v, Z.s_0.heap.IsCell c v → s.heap.IsCell c v := fun y c e v ⟨o, ho, hd⟩ => by
    obtain ⟨sl, q⟩ := I.base.any ho (C.all y c e).1 (nx c)
    exact ⟨_, q, hd⟩
  refine ⟨C.len, fun y c e => ?_, C.inj, fun i y e => ?_⟩
  · obtain ⟨n, v, z⟩ := C.all y c e
    refine ⟨?_, v, kp y c e v z⟩
    obtain ⟨o, ho, _⟩ := z
    exact I.base.free c o ho n (nx c)
  · obtain ⟨c, hc, hv⟩ := C.has i y e
    refine ⟨c, hc, fun v ev => ?_⟩
    obtain ⟨u, r, z⟩ := hv v ev
    exact ⟨u, r, kp y c hc _ z⟩
theorem pe_actN {Z : Cx} {f : Addr} {params : Arguments} {body : Expr} {F : NF} {pm ctv : Value} {N ps fr : List Str} {ws : List (Option V)} {k i : Nat} {a : Str} {p1 p2 : Pos} {e : Expr} {es : List Expr} {t : TA} {tb : TE}
    (hf : Z.s_0.heap.get? f = some (PySem.W.kla_obj "<lambda>" F.qual params body F.scope F.cl pm F.c ctv)) (hfn : Z.H_0 f = none) (hfr : f ∉ Z.fs) (hx : Z.ex = []) (C : CellsAt F.cl fr ws Z.s_0.heap Z.H_0) (S : NScope N ps fr F.scope)
    (hbind : ∀ us : List Value, us.length = ps.length → bindArgs (PySem.W.kla_fn "<lambda>" F.qual params body F.scope F.cl pm (.ref F.c) ctv) ⟨us, []⟩ = pure (ps.zip us)) (hr : Room (k + 1) Z.A)
    (hbody : ∀ (A : Around) (outer : List Env) (s : Shared) (H : Hp), Room k (A.deeper (envF F f s.heap.objs.size)) → PE (ncx C8.CX0 Z.prog Z.w Z.K Z.mg Z.base N F f A outer s H C8.E0) body tb)
    (hN : Z.N[i]? = some a) (hv : Vis Z.env.scope a) (ha : PA Z (e :: es) t) (hd : (a == ("__debug__" : Str)) = false := by decide) (hcd : (a == ("__classdict__" : Str)) = false := by decide)
    (he : starEach (e :: es) Z.env = (false, eval e Z.env) :: starEach es Z.env := by rfl) (hpl : (backTo p2 (starEach es Z.env)).any (·.1) = false := by rfl) :
    PE Z (.Call (.Name a p1) (e :: es) [] p2) (fun σZ HZ Q => σZ[i]? = some (some (.ref f)) ∧ t σZ HZ fun vs H1 => vs.length = ps.length ∧ H1 F.c = some (CodeO F.c F.qual) ∧ tb (startF N vs ws) H1 Q) := by
  refine ⟨fun pinsZ sZ σZ HZ Q IZ h => ?_⟩
  obtain ⟨hs, ht⟩ := h
  have at_ : ∀ {s1 : Shared} {H1 : Hp}, L2.Inv Z pinsZ σZ H1 s1 → s1.heap.get? f = some (PySem.W.kla_obj "<lambda>" F.qual params body F.scope F.cl pm F.c ctv) := fun I1 => I1.base.keep f _ hf hfn hfr (fun z => by rw [hx] at z; cases z)
  refine wpAny_Call_Name_kw (thn ((pe_var (pos := p1) (i := i) hN hv hd hcd).run pinsZ sZ σZ HZ (fun v H1 => v = .ref f ∧ H1 = HZ) IZ ⟨.ref f, hs, rfl, rfl⟩) fun u s1 ⟨v, H1, I1, r1, q1⟩ => ?_)
  obtain ⟨ev, eH⟩ := q1
  subst ev
  rw [eH] at I1
  obtain rfl : u = Value.ref f := r1
  refine PySem.W.callWith_F (first := []) ⟨_, _, _, _, at_ I1⟩ (thn (ha.run p2 pinsZ s1 σZ HZ _ I1 ht) fun us s2 ⟨vs, H2, I2, r, hl, hc, q⟩ => ⟨⟨_, _, _, _, at_ I2⟩, ?_⟩) he hpl
  show wpAny _ _ (call (.ref f) us) _ _ _
  obtain ⟨⟨oc, vs', t', hoc, hdc, hvc⟩, _, _⟩ := I2.hok F.c _ hc
  have C2 := cells_later C hx I2
  have rc : codeAny (model Z.prog Z.w) Z.A (.call (.ref f) ⟨us, []⟩) (CR C8.CX0 Z.stack Z.prog Z.w H2 s2 Q C8.E0) s2 := by
    refine PySem.W.kla_callFunE hr.depth (at_ I2) rfl S.co S.gen rfl ⟨F.c, oc, vs', t', rfl, hoc, hdc, hvc⟩ ?_
    rw [hbind us (by rw [← r.length]; exact hl)]
    refine wpAny_pure (wpAny_newFunctionEnv S.nocell (fun ⟨n, _⟩ hy => S.par n (List.of_mem_zip hy).1) (fun h₁ hns hsb => ⟨I2.nolimit.fresh _ hsb, ?_⟩) S.kind)
    show codeAny _ _ (.expr body (envF F f s2.heap.objs.size)) _ _
    have kp : ∀ b o, s2.heap.get? b = some o → h₁.get? b = some o := fun b o e => hsb.extBut b o (Nat.ne_of_lt (Heap.lt_size e)) (Heap.get?_push_of_some _ e)
    have J : L2.Inv (ncx C8.CX0 Z.prog Z.w Z.K Z.mg Z.base N F f Z.A Z.stack s2 H2 C8.E0) [] (startF N vs ws) H2 { s2 with heap := h₁, toks := s2.toks + (ps.zip us).length } := inv_startN S hr.hd I2.env0 hl r C2 hns kp
    refine PySem.W.kla_codeExpr (wpAny_mono ((hbody _ _ s2 H2 (hr.deeper _)).run [] _ _ H2 Q J q) (fun v s' hq => ?_) fun e s' hq => hq)
    obtain ⟨w', H', J', rv, q'⟩ := hq
    exact ⟨w', H', J'.os, J'.bare, J'.base, J'.hok, rv, q'⟩
  refine wpAny_call (codeAny_mono rc fun r' s' hq => ?_)
  cases r' with
  | error e => exact (show False from hq).elim
  | ok fl =>
    cases fl with
    | ret u => exact I2.after hq
    | next => exact False.elim hq
    | brk => exact False.elim hq
    | cont => exact False.elim hq
/-! ### a def called with a lambda as its last argument -/
def capsOf (ρ : Ev) : List Nat → Option (List D)
  | [] => some []
  | j :: js => match ρ[j]? with
    | some (some (.d x)) => (capsOf ρ js).map (x :: ·)
    | _ => none
theorem caps_ok {K : PySem.W.Frag} {g : G} {av μ : List Addr} {H : Hp} {σ : L2.St} {ρ : Ev} (er : EnvR K g av μ H σ ρ) : ∀ {js : List Nat} {caps : List D}, capsOf ρ js = some caps → ∃ vs : List V, js.map (slotAt σ) = vs.map some ∧ RpL K g.ca av μ H vs caps
  | [], _, h => by cases h; exact ⟨[], rfl, .nil⟩
  | j :: js, caps, h => by
    unfold capsOf at h
    split at h
    · rename_i x hx
      cases e : capsOf ρ js with
      | none => rw [e] at h; cases h
      | some r =>
        rw [e] at h
        cases h
        obtain ⟨vs, h1, h2⟩ := caps_ok er e
        obtain ⟨v, q1, q2⟩ := er.at_ j _ hx
        exact ⟨v :: vs, by rw [List.map_cons, List.map_cons, h1, slotAt_of q1], .cons q2 h2⟩
    · cases h
def xLam (i n np : Nat) (ml : Ev → Mo D) (mm : Ev → Mo (List D)) : Ev → Mo D := fun ρ st => match ρ[i]? with
  | some (some (.clo _ caps)) => ((mm ρ).bind fun ds => if ds.length = np then ml (startE n ((ds ++ caps).map .d)) else Mo.fail) st
  | _ => none
theorem xLam_some {i n np : Nat} {ml : Ev → Mo D} {mm : Ev → Mo (List D)} {ρ : Ev} {st : List Ob} {r : D × List Ob} (h : xLam i n np ml mm ρ st = some r) : ∃ k caps ds s1, ρ[i]? = some (some (.clo k caps)) ∧ mm ρ st = some (ds, s1) ∧ ds.length = np ∧ ml (startE n ((ds ++ caps).map .d)) s1 = some r := by
  unfold xLam at h
  split at h
  · rename_i k caps hc
    obtain ⟨ds, s1, h1, h2⟩ := Mo.bind_some (r := r.1) (s' := r.2) h
    split at h2
    · rename_i hl
      exact ⟨k, caps, ds, s1, hc, h1, hl, h2⟩
    · cases h2
  · cases h
def xLamCall (np : Nat) (js : List Nat) (ml : Ev → Mo (List D)) (md : List A → Mo D) : Ev → Mo D := fun ρ => match capsOf ρ js with
  | some caps => (ml ρ).bind fun ds => if ds.length + 1 = np then md (ds.map .d ++ [.clo 0 caps]) else Mo.fail
  | none => Mo.fail
theorem ev_lamcall {g : G} {X : Cx} {x a : Str} {pg : Arguments} {bg : List Stmt} {sg : Scope} {fg : Addr} {fd : FuncData} {Ng psg : List Str} {k i : Nat} {es es0 : List Expr} {e0 : Expr} {ml : Ev → Mo (List D)} {params : Arguments} {body : Expr} {scope : Scope} {lpos p pos : Pos}
    {c P : Addr} {nm : Nat → Nat → Str} {N ps fr : List Str} {js : List Nat} {mlam : Ev → Mo D} {mG : Ev → Mo Out}
    (Fg : FunD X.K x x pg bg sg [] [] fg fd) (hm : X.mg x = some (.ref fg)) (hs : C8.scC Ng psg sg = true)
    (hbd : ∀ (kV doc pm : Value) (an : Option Addr) (cdv ct : Value) (us : List Value), us.length = psg.length → bindArgs (PySem.W.fnOf x x pg bg sg .none kV doc pm an cdv ct) ⟨us, []⟩ = pure (psg.zip us))
    (hg : Gl X x) (hr : Room (k + 2) X.A) (hlast : ((e0 :: es0).dropLast, (e0 :: es0).getLast?) = (es, some (.Lambda params body scope lpos))) (hL : LV g X es ml)
    (TB : TabB X.base X.mg c P) (hcode : X.env.code = .ref c) (hmT : (P, nm) ∈ g.T) (hn : nm lpos.line lpos.col = X.env.qual ++ "<lambda>") (hu : ∀ p ∈ g.T, p.1 = P → p.2 = nm)
    (hS : nscB N ps fr scope = true) (hnd : ndefB X.env.scope scope fr = true) (hjs : js.map (fun j => X.N[j]?) = fr.map some) (hdef : defaultsOf params X.env = ([], []))
    (hbind : ∀ (q : Str) (cl : List (Str × Addr)) (pm cv ctv : Value) (us : List Value), us.length = ps.length → bindArgs (PySem.W.kla_fn "<lambda>" q params body scope cl pm cv ctv) ⟨us, []⟩ = pure (ps.zip us))
    (hbody : ∀ (A : Around) (outer : List Env) (s : Shared) (H : Hp) (f c' : Addr), Room k (A.deeper (envF (lamNF X params scope c') f s.heap.objs.size)) → EV g (ncx C8.CX0 X.prog X.w X.K X.mg X.base N (lamNF X params scope c') f A outer s H C8.E0) body mlam)
    (hNa : Ng[i]? = some a) (hva : Vis sg a)
    (hG : ∀ (clo : Hp → Nat → V → List (Addr × V) → Prop) (cloK : ∀ (H H' : Hp) k v cs, clo H k v cs → (∀ b o, H b = some o → Imm o → H' b = some o) → clo H' k v cs) (cdg : Value) (s : Shared) (H : Hp),
      Room (k + 1) (cxOf C8.CX0 X.prog X.w X.K X.mg X.base Ng x sg fg cdg X.A X.stack s H C8.E0).A →
      (∀ (e : Expr) (es : List Expr) (mm : Ev → Mo (List D)) (p1 p2 : Pos), AV ⟨g.ca, g.T, clo, cloK⟩ (cxOf C8.CX0 X.prog X.w X.K X.mg X.base Ng x sg fg cdg X.A X.stack s H C8.E0) (e :: es) mm →
        starEach (e :: es) (cxOf C8.CX0 X.prog X.w X.K X.mg X.base Ng x sg fg cdg X.A X.stack s H C8.E0).env = (false, eval e (cxOf C8.CX0 X.prog X.w X.K X.mg X.base Ng x sg fg cdg X.A X.stack s H C8.E0).env) :: starEach es (cxOf C8.CX0 X.prog X.w X.K X.mg X.base Ng x sg fg cdg X.A X.stack s H C8.E0).env →
        (backTo p2 (starEach es (cxOf C8.CX0 X.prog X.w X.K X.mg X.base Ng x sg fg cdg X.A X.stack s H C8.E0).env)).any (·.1) = false →
        EV ⟨g.ca, g.T, clo, cloK⟩ (cxOf C8.CX0 X.prog X.w X.K X.mg X.base Ng x sg fg cdg X.A X.stack s H C8.E0) (.Call (.Name a p1) (e :: es) [] p2) (xLam i N.length ps.length mlam mm)) →
      BV ⟨g.ca, g.T, clo, cloK⟩ (cxOf C8.CX0 X.prog X.w X.K X.mg X.base Ng x sg fg cdg X.A X.stack s H C8.E0) bg mG)
    (hl : starEach (e0 :: es0) X.env = starEach es X.env ++ [(false, eval (.Lambda params body scope lpos) X.env)] := by rfl)
    (hdb : (x == ("__debug__" : Str)) = false := by decide) (hd : (a == ("__debug__" : Str)) = false := by decide) (hcd : (a == ("__classdict__" : Str)) = false := by decide)
    (he : starEach (e0 :: es0) X.env = (false, eval e0 X.env) :: starEach es0 X.env := by rfl) (hpl : (backTo pos (starEach es0 X.env)).any (·.1) = false := by rfl) :
    EV g X (.Call (.Name x p) (e0 :: es0) [] pos) (xLamCall psg.length js ml (runF Ng.length mG)) := by
  refine EV.mk' fun pins s σ H Q av μ ρ st d st' I rl er hm' p' => ?_
  unfold xLamCall at hm'
  cases ec : capsOf ρ js with
  | none => rw [ec] at hm'; cases hm'
  | some caps =>
    rw [ec] at hm'
    obtain ⟨ds, s1, h1, hm'⟩ := Mo.bind_some hm'
    split at hm'
    · rename_i hlen
      obtain ⟨oc, od, dV, kV, doc, pm, an, cdv, ct, osl, rfl, lk, hcd', _, _⟩ := Fg.ex
      have hb0 := Fg.bindsN hbd
      have S := nscope_by hS
      refine wpAny_Call_Name_kw (ld_glob I hg hm ?_ hdb)
      refine PySem.W.callWith_K (h₀ := X.base) I.ok.mod.kin Fg.kp ?_ he hpl
      rw [hl]
      have eB : backTo pos (starEach es X.env ++ [(false, eval (.Lambda params body scope lpos) X.env)]) = backTo pos (starEach es X.env) ++ [(false, eval (.Lambda params body scope lpos) X.env)] := by
        unfold backTo
        rw [List.map_append]
        rfl
      rw [eB]
      refine hL.run pos pins s σ H _ _ av μ ρ st ds s1 I rl er h1 fun us vs H1 μ1 sh1 r1 I1 e1 rl1 q1 => ?_
      have hfree : ∀ y ∈ scope.names, y.2 = .free → ∃ c, X.env.cells.lookup y.1 = some c := fun y hy e => (ndef_free hnd y hy e).elim (fun z => I.ok.has _ (.inl z)) fun z => I.ok.has _ (.inr z)
      refine Calls.spliced_cons (lam_makeN I1 TB hcode hmT hn hu rl1.tab hdef hfree fun f c' pm' ctv H2 s2 I2 eN th T2 hf hfn hfr hco => ?_)
      refine Calls.spliced_nil ⟨I2.kIn, ?_⟩
      show wpAny _ _ (call (.ref fg) (us ++ [Value.ref f])) _ _ _
      have e2 : Ext μ1 μ1 H1 H2 := ⟨⟨[], by simp, fun _ h => by cases h⟩, fun b o hb _ ht => eN b o hb ht, th⟩
      obtain ⟨cv, hcv, rcv⟩ := caps_ok (er.mono (e1.trans e2)) ec
      have CA : CellsAt (cloFrom X.env.cells scope.names []) fr (js.map (slotAt σ)) s2.heap H2 := cells_of I2 (Caps.made I2.ok (ndef_free hnd) (ndef_fr hnd) hjs)
      have rl2 : Rel X.K g av μ1 s1 H2 := ⟨rl1.len, rl1.nd, fun b hb => ⟨fun z => (rl1.avo b hb).1 (th b z), (rl1.avo b hb).2⟩, fun n b ob x1 x2 => (rl1.obs n b ob x1 x2).mono e2 fun o ho => eN b o ho (by
        obtain ⟨u, hu1, hu2⟩ := (rl1.obs n b ob x1 x2).vol
        rw [ho] at hu1
        cases hu1
        exact hu2.tbl), T2⟩
      let CS : List (Addr × V) := cv.map fun v => (0, v)
      let clo : Hp → Nat → V → List (Addr × V) → Prop := fun H _ v cs => v = .ref f ∧ H c' = some (CodeO c' (X.env.qual ++ "<lambda>")) ∧ cs = CS
      have cloK : ∀ (H H' : Hp) k v cs, clo H k v cs → (∀ b o, H b = some o → Imm o → H' b = some o) → clo H' k v cs := fun H H' k v cs h q => ⟨h.1, q _ _ h.2.1 trivial, h.2.2⟩
      have eCS : CS.map (·.2) = cv := by
        show (cv.map fun v => ((0 : Addr), v)).map (·.2) = cv
        rw [List.map_map]
        exact List.map_id _
      have l1 : (us ++ [Value.ref f]).length = psg.length := by
        rw [List.length_append, ← r1.length, q1.length]
        exact hlen
      have l2 : (vs ++ [V.ref f]).length = psg.length := by
        rw [List.length_append, q1.length]
        exact hlen
      have rv : Vals (vs ++ [V.ref f]) (us ++ [Value.ref f]) := r1.append (.cons rfl .nil)
      have hr2 : Room ((k + 1) + 1) X.A := hr
      have rc : codeAny (model X.prog X.w) X.A (.call (.ref fg) ⟨us ++ [.ref f], []⟩) (CR C8.CX0 X.stack X.prog X.w H2 s2 Q C8.E0) s2 := by
        refine run_ofS (N := Ng) (ps := psg) (us := us ++ [.ref f]) (vs := vs ++ [.ref f]) lk hcd' (C8.fnScope_by hs) hr2 I2.env0 (by simpa using hb0 s2 (us ++ [.ref f]) I2.kIn (by simpa using l1)) rv l2 fun hr' => ?_
        have rl3 : Rel X.K ⟨g.ca, g.T, clo, cloK⟩ av μ1 s1 H2 := Rel.sw (g := g) rfl rfl rl2
        have rf : RpA X.K ⟨g.ca, g.T, clo, cloK⟩ av μ1 H2 (V.ref f) (.clo 0 caps) := ⟨CS, ⟨rfl, hco, rfl⟩, by rw [eCS]; exact rcv⟩
        have ra : RpAs X.K ⟨g.ca, g.T, clo, cloK⟩ av μ1 H2 (vs ++ [V.ref f]) (ds.map .d ++ [.clo 0 caps]) := (RpAs.of (g := ⟨g.ca, g.T, clo, cloK⟩) (RpL.mono e2 q1)).append (.cons rf .nil)
        have pz : Post X.K ⟨g.ca, g.T, clo, cloK⟩ av μ1 H2 d st' Q := fun v H' μ' x r q => (p'.mono (e1.trans e2)) v H' μ' x (Rel.sw (g := ⟨g.ca, g.T, clo, cloK⟩) (g' := g) rfl rfl r) q
        refine body_ok (g := ⟨g.ca, g.T, clo, cloK⟩) (hG clo cloK cdv s2 H2 hr' fun e es mm p1 p2 hA hst hpl2 => ?_) rl3 ra hm' pz
        obtain ⟨ta, pa, sa⟩ := hA.ex
        refine ⟨_, pe_actN (F := lamNF X params scope c') (i := i) (ws := js.map (slotAt σ)) (k := k) (tb := TEof X.K g mlam) hf hfn hfr rfl CA S (hbind _ _ _ _ _) hr' (fun A outer s H hr3 => (hbody A outer s H f c' hr3).pe) hNa hva pa hd hcd hst hpl2, fun av' μ' σZ HZ QZ ρZ stZ dZ stZ' rZ erZ hmZ pZ => ?_⟩
        obtain ⟨kZ, caps', dsZ, sZ1, hcaps, hZ1, hlZ, hmZ⟩ := xLam_some hmZ
        obtain ⟨v, z1, cs, ⟨z2, z3, z4⟩, z5⟩ := erZ.at_ i _ hcaps
        subst z2
        refine ⟨z1, ?_⟩
        refine sa av' μ' σZ HZ _ ρZ stZ dsZ sZ1 rZ erZ hZ1 fun vsZ HZ1 μZ1 eZ1 rZ1 qZ1 => ⟨by rw [qZ1.length]; exact hlZ, eZ1.imm _ _ z3 trivial, ?_⟩
        rw [z4, eCS] at z5
        have rAll : RpL X.K g.ca av' μZ1 HZ1 (vsZ ++ cv) (dsZ ++ caps') := RpL.append qZ1 (RpL.mono eZ1 z5)
        refine ⟨av', μZ1, _, sZ1, dZ, stZ', Rel.sw (g := ⟨g.ca, g.T, clo, cloK⟩) (g' := g) rfl rfl rZ1, ?_, hmZ, fun v H' μ'' x r q => (pZ.mono eZ1) v H' μ'' x (Rel.sw (K := X.K) (g := g) (g' := ⟨g.ca, g.T, clo, cloK⟩) rfl rfl r) q⟩
        have q := envR_data (g := g) (n := N.length) rAll
        have es : (vsZ ++ cv).map some ++ List.replicate (N.length - (vsZ ++ cv).length) none = startF N vsZ (js.map (slotAt σ)) := by
          unfold startF
          rw [hcv, List.map_append, List.append_assoc, List.length_append, List.length_map, Nat.sub_sub]
        rw [es] at q
        exact q
      refine wpAny_call (codeAny_mono rc fun r' s' hq => ?_)
      cases r' with
      | error e => exact (show False from hq).elim
      | ok fl =>
        cases fl with
        | ret u => exact I2.after hq
        | next => exact False.elim hq
        | brk => exact False.elim hq
        | cont => exact False.elim hq
    · cases hm'
end MM
set_option autoImplicit false
set_option maxRecDepth 100000
set_option maxHeartbeats 4000000
/-! M12: instances: made, their fields and properties, own == and !=, truth. -/
namespace MM
open PySem PySem.Spec PyProof.Rows L2 LamX NdefX
/-! ### freezing: what a call made new is told as a datum -/
mutual
/-- the places of the store that it has are below n -/
def D.lo (n : Nat) : D → Bool
  | .tup ds => D.loL n ds
  | .lst ds => D.loL n ds
  | .ro ds => D.loL n ds
  | .ins _ _ ds => D.loL n ds
  | .dct _ ds => D.loL n ds
  | .loc k => decide (k < n)
  | _ => true
def D.loL (n : Nat) : List D → Bool
  | [] => true
  | d :: r => D.lo n d && D.loL n r
end
section
variable {K : PySem.W.Frag} {g : G} {ca : Str → Addr} {av μ μ' r : List Addr} {H : Hp} {st : List Ob}
mutual
theorem Rp.shrink : ∀ {v : V} {d : D}, Rp K ca av (μ ++ r) H v d → D.lo μ.length d = true → Rp K ca av μ H v d
  | _, _, .non, _ => .non
  | _, _, .bl b, _ => .bl b
  | _, _, .int i, _ => .int i
  | _, _, .str x, _ => .str x
  | _, _, .ty x, _ => .ty x
  | _, _, .cls x, _ => .cls x
  | _, _, .tup h l, e => .tup h (RpL.shrink l (by simpa [D.lo] using e))
  | _, _, .lst h n1 n2 l, e => .lst h n1 (fun z => n2 (List.mem_append_left _ z)) (RpL.shrink l (by simpa [D.lo] using e))
  | _, _, .ro h l, e => .ro h (RpL.shrink l (by simpa [D.lo] using e))
  | _, _, .ins h n1 n2 l, e => .ins h n1 (fun z => n2 (List.mem_append_left _ z)) (RpL.shrink l (by simpa [D.lo] using e))
  | _, _, .dct h n1 n2 l, e => .dct h n1 (fun z => n2 (List.mem_append_left _ z)) (RpL.shrink l (by simpa [D.lo] using e))
  | _, _, .loc h, e => .loc (by
      have hn := of_decide_eq_true (show decide _ = true by simpa only [D.lo] using e)
      rw [List.getElem?_append_left hn] at h
      exact h)
theorem RpL.shrink : ∀ {vs : List V} {ds : List D}, RpL K ca av (μ ++ r) H vs ds → D.loL μ.length ds = true → RpL K ca av μ H vs ds
  | _, _, .nil, _ => .nil
  | _, _, .cons h t, e => by
    simp only [D.loL, Bool.and_eq_true] at e
    exact .cons (Rp.shrink h e.1) (RpL.shrink t e.2)
end
def Ob.lo (n : Nat) : Ob → Bool
  | .lst ds => D.loL n ds
  | .ins _ _ ds => D.loL n ds
  | .dK _ ds => D.loL n ds
theorem RpO.shrink {a : Addr} {ob : Ob} (h : RpO K ca av (μ ++ r) H a ob) (e : Ob.lo μ.length ob = true) : RpO K ca av μ H a ob := by
  cases h with
  | lst h l => exact .lst h (RpL.shrink l e)
  | ins h l => exact .ins h (RpL.shrink l e)
  | dK h l => exact .dK h (RpL.shrink l e)
theorem Rel.shrink (h : Rel K g av (μ ++ r) st H) (e : (st.take μ.length).all (Ob.lo μ.length) = true) : Rel K g av μ (st.take μ.length) H := by
  have hl := h.len
  rw [List.length_append] at hl
  refine ⟨by rw [List.length_take]; omega, (List.nodup_append.mp h.nd).1, fun a ha => ⟨(h.avo a ha).1, fun z => (h.avo a ha).2 (List.mem_append_left _ z)⟩, fun n a ob h1 h2 => ?_, h.tab⟩
  have hn : n < μ.length := (List.getElem?_eq_some_iff.mp h1).1
  have h3 : st[n]? = some ob := by rw [List.getElem?_take_of_lt hn] at h2; exact h2
  exact (h.obs n a ob (by rw [List.getElem?_append_left hn]; exact h1) h3).shrink (List.all_eq_true.mp e ob (List.mem_of_getElem? h2))
mutual
/-- the datum with the store's objects from n on written into it -/
def frzD (st : List Ob) (n : Nat) : Nat → D → Option D
  | 0, _ => none
  | k + 1, .loc i => if i < n then some (.loc i) else (match st[i]? with
    | some (.lst ds) => (frzL st n k ds).map .lst
    | some (.ins c ns ds) => (frzL st n k ds).map (.ins c ns)
    | some (.dK ks ds) => (frzL st n k ds).map (.dct ks)
    | none => none)
  | k + 1, .tup ds => if D.loL n ds = true then some (.tup ds) else (frzL st n k ds).map .tup
  | k + 1, d => if D.lo n d = true then some d else none
def frzL (st : List Ob) (n : Nat) : Nat → List D → Option (List D)
  | 0, _ => none
  | _ + 1, [] => some []
  | k + 1, d :: ds => (frzD st n k d).bind fun e => (frzL st n k ds).map (e :: ·)
end
theorem frz_ok (h : Rel K g av (μ ++ r) st H) : ∀ k : Nat, (∀ {v : V} {d e : D}, Rp K g.ca av (μ ++ r) H v d → frzD st μ.length k d = some e → Rp K g.ca av μ H v e) ∧ (∀ {vs : List V} {ds es : List D}, RpL K g.ca av (μ ++ r) H vs ds → frzL st μ.length k ds = some es → RpL K g.ca av μ H vs es)
  | 0 => ⟨fun _ z => by simp [frzD] at z, fun _ z => by simp [frzL] at z⟩
  | k + 1 => by
    obtain ⟨ih1, ih2⟩ := frz_ok h k
    have other : ∀ {v : V} {d e : D}, Rp K g.ca av (μ ++ r) H v d → (if D.lo μ.length d = true then some d else none) = some e → Rp K g.ca av μ H v e := fun {v d e} p z => by
      split at z
      · cases z
        exact Rp.shrink p (by assumption)
      · cases z
    refine ⟨fun {v d e} p z => ?_, fun {vs ds es} p z => ?_⟩
    · cases d with
      | loc i =>
        simp only [frzD] at z
        split at z
        · cases z
          exact Rp.shrink p (by simp only [D.lo]; exact decide_eq_true (by assumption))
        · rename_i hi
          cases p with
          | @loc _ a hn =>
            have n2 : a ∉ av := fun q => (h.avo a q).2 (List.mem_of_getElem? hn)
            have n1 : a ∉ μ := fun q => by
              rw [List.getElem?_append_right (by omega)] at hn
              exact (List.nodup_append.mp h.nd).2.2 a q a (List.mem_of_getElem? hn) rfl
            cases eo : st[i]? with
            | none => rw [eo] at z; cases z
            | some ob =>
              rw [eo] at z
              have ho := h.obs i a ob hn eo
              cases ob with
              | lst ds =>
                cases e2 : frzL st μ.length k ds with
                | none => simp [e2] at z
                | some es =>
                  simp [e2] at z
                  subst z
                  cases ho with
                  | lst hH l => exact .lst hH n2 n1 (ih2 l e2)
              | ins c ns ds =>
                cases e2 : frzL st μ.length k ds with
                | none => simp [e2] at z
                | some es =>
                  simp [e2] at z
                  subst z
                  cases ho with
                  | ins hH l => exact .ins hH n2 n1 (ih2 l e2)
              | dK ks ds =>
                cases e2 : frzL st μ.length k ds with
                | none => simp [e2] at z
                | some es =>
                  simp [e2] at z
                  subst z
                  cases ho with
                  | dK hH l => exact .dct hH n2 n1 (ih2 l e2)
      | tup ds =>
        simp only [frzD] at z
        split at z
        · rename_i hlo
          cases z
          exact Rp.shrink p (by simpa only [D.lo] using hlo)
        · cases e2 : frzL st μ.length k ds with
          | none => simp [e2] at z
          | some es =>
            simp [e2] at z
            subst z
            cases p with
            | tup hs l => exact .tup hs (ih2 l e2)
      | _ => exact other p (by simpa only [frzD] using z)
    · cases p with
      | nil =>
        simp only [frzL] at z
        cases z
        exact .nil
      | @cons v vs d ds p q =>
        simp only [frzL] at z
        cases e1 : frzD st μ.length k d with
        | none => rw [e1] at z; cases z
        | some e =>
          rw [e1] at z
          cases e2 : frzL st μ.length k ds with
          | none => simp [e2] at z
          | some es' =>
            simp [e2] at z
            subst z
            exact .cons (ih1 p e1) (ih2 q e2)
end
theorem frz_lo {st : List Ob} {n k : Nat} {d : D} (h : D.lo n d = true) : frzD st n (k + 1) d = some d := by
  cases d with
  | loc i => simp only [frzD]; rw [if_pos (of_decide_eq_true (by simpa only [D.lo] using h))]
  | tup ds => simp only [frzD]; rw [if_pos (by simpa only [D.lo] using h)]
  | _ => simp only [frzD]; rw [if_pos h]
/-- a part whose answer is told as a datum, its new objects forgotten -/
def frzM (k : Nat) (m : Mo D) : Mo D := fun st => match m st with
  | some (d, st') => if (st'.take st.length).all (Ob.lo st.length) = true then (frzD st' st.length k d).map fun e => (e, st'.take st.length) else none
  | none => none
theorem frzM_some {k : Nat} {m : Mo D} {st st'' : List Ob} {e : D} (h : frzM k m st = some (e, st'')) : ∃ d st', m st = some (d, st') ∧ (st'.take st.length).all (Ob.lo st.length) = true ∧ frzD st' st.length k d = some e ∧ st'' = st'.take st.length := by
  unfold frzM at h
  split at h
  · rename_i d st' hm
    split at h
    · rename_i hl
      cases e2 : frzD st' st.length k d with
      | none => rw [e2] at h; cases h
      | some x =>
        rw [e2] at h
        cases h
        exact ⟨d, st', hm, hl, e2, rfl⟩
    · cases h
  · cases h
theorem Post.frz {K : PySem.W.Frag} {g : G} {av μ : List Addr} {H : Hp} {d e : D} {st st' : List Ob} {Q : VK} {k : Nat} (hn : μ.length = st.length) (p : Post K g av μ H e (st'.take st.length) Q) (hl : (st'.take st.length).all (Ob.lo st.length) = true) (he : frzD st' st.length k d = some e) : Post K g av μ H d st' Q := fun v H' μ' x r q => by
  obtain ⟨⟨rr, er, hr⟩, kp, th⟩ := x
  subst er
  rw [← hn] at hl he p
  exact p v H' μ ⟨⟨[], by simp, fun _ z => by cases z⟩, kp, th⟩ (Rel.shrink r hl) ((frz_ok r k).1 q he)
def xFrz (k : Nat) (m : Ev → Mo D) : Ev → Mo D := fun ρ => frzM k (m ρ)
theorem ev_frz {g : G} {X : Cx} {e : Expr} {m : Ev → Mo D} (k : Nat) (h : EV g X e m) : EV g X e (xFrz k m) := by
  obtain ⟨t, p0, s0⟩ := h.ex
  refine ⟨t, p0, fun av μ σ H Q ρ st d st' rl er hm p => ?_⟩
  obtain ⟨d1, st1, h1, h2, h3, rfl⟩ := frzM_some hm
  exact s0 av μ σ H Q ρ st d1 st1 rl er h1 (Post.frz rl.len p h2 h3)
end MM
set_option autoImplicit false
set_option maxRecDepth 100000
set_option maxHeartbeats 4000000
/-! M13: promises weakened; instances: made, their fields and properties. -/
namespace MM
open PySem PySem.Spec PyProof.Rows L2 LamX NdefX
section
variable {P : Program} {w : World} {K : PySem.W.Frag} {mg : Str → Option Value} {base : Heap} {g : G} {k n : Nat} {x : Str} {md md' : List A → Mo D}
theorem spG_imp (h : ∀ as st r, as.length = n → md' as st = some r → md as st = some r) : ∀ vs H Q E, SpG K g n md' vs H Q E → SpG K g n md vs H Q E := fun vs H Q E ⟨hl, av, μ, st, as, d, st', rl, ra, hm, p⟩ => ⟨hl, av, μ, st, as, d, st', rl, ra, h as st _ (by rw [← ra.length]; exact hl) hm, p⟩
theorem spG_frz (j : Nat) : ∀ vs H Q E, SpG K g n (fun as => frzM j (md as)) vs H Q E → SpG K g n md vs H Q E := fun vs H Q E ⟨hl, av, μ, st, as, d, st', rl, ra, hm, p⟩ => by
  obtain ⟨d1, st1, h1, h2, h3, rfl⟩ := frzM_some hm
  exact ⟨hl, av, μ, st, as, d1, st1, rl, ra, h1, Post.frz rl.len p h2 h3⟩
theorem Cal.imp (c : Cal P w K mg base g k x n md) (h : ∀ as st r, as.length = n → md' as st = some r → md as st = some r) : Cal P w K mg base g k x n md' := by
  obtain ⟨f, fd, ps, F, h1, h2, h3⟩ := c.ex
  exact ⟨f, fd, ps, F.imp (spG_imp h), h1, h2, h3⟩
theorem Cal.frz (c : Cal P w K mg base g k x n md) (j : Nat) : Cal P w K mg base g k x n (fun as => frzM j (md as)) := by
  obtain ⟨f, fd, ps, F, h1, h2, h3⟩ := c.ex
  exact ⟨f, fd, ps, F.imp (spG_frz j), h1, h2, h3⟩
theorem Cal.mono {j : Nat} (c : Cal P w K mg base g k x n md) (h : k ≤ j) : Cal P w K mg base g j x n md := by
  obtain ⟨f, fd, ps, F, h1, h2, h3⟩ := c.ex
  exact ⟨f, fd, ps, F.mono h, h1, h2, h3⟩
end
/-! ### fields -/
def look1 (f : Str) : List Str → List D → Option D
  | n :: ns, d :: ds => if n = f then some d else look1 f ns ds
  | _, _ => none
def put1 (f : Str) (v : D) : List Str → List D → List D
  | n :: ns, d :: ds => if n = f then v :: ds else d :: put1 f v ns ds
  | _, _ => [v]
def putN (f : Str) : List Str → List Str
  | n :: ns => if n = f then n :: ns else n :: putN f ns
  | [] => [f]
section
variable {K : PySem.W.Frag} {g : G} {ca : Str → Addr} {av μ : List Addr} {H : Hp} {st : List Ob}
theorem look1_ok : ∀ {fs : List (Str × V)} {ds : List D} {f : Str} {d : D}, RpL K ca av μ H (fs.map (·.2)) ds → look1 f (fs.map (·.1)) ds = some d → ∃ v, fs.lookup f = some v ∧ Rp K ca av μ H v d
  | [], _, _, _, h, e => by cases h; cases e
  | (n, v) :: fs, _, f, d, h, e => by
    cases h with
    | cons h t =>
      simp only [List.map_cons, look1] at e
      by_cases hn : n = f
      · subst hn
        simp at e
        subst e
        exact ⟨v, by simp [List.lookup], h⟩
      · rw [if_neg hn] at e
        obtain ⟨u, h1, h2⟩ := look1_ok t e
        refine ⟨u, ?_, h2⟩
        have : (f == n) = false := by simpa using fun z => hn z.symm
        simp [List.lookup, this, h1]
theorem put1_ok {v : V} {d : D} (hv : Rp K ca av μ H v d) : ∀ {fs : List (Str × V)} {ds : List D} {f : Str}, RpL K ca av μ H (fs.map (·.2)) ds → RpL K ca av μ H ((putF f v fs).map (·.2)) (put1 f d (fs.map (·.1)) ds) ∧ (putF f v fs).map (·.1) = putN f (fs.map (·.1))
  | [], _, f, h => by
    cases h
    exact ⟨.cons hv .nil, rfl⟩
  | (n, u) :: fs, _, f, h => by
    cases h with
    | cons h t =>
      by_cases hn : n = f
      · subst hn
        simp only [putF, List.map_cons, put1, putN, if_true]
        exact ⟨.cons hv t, trivial⟩
      · obtain ⟨q1, q2⟩ := put1_ok hv (f := f) t
        simp only [putF, List.map_cons, put1, putN, if_neg hn]
        exact ⟨.cons h q1, by rw [q2]⟩
/-- an instance: its class, its fields -/
def insOf (st : List Ob) : D → Option (Str × List Str × List D)
  | .ins c ns ds => some (c, ns, ds)
  | .loc n => (match st[n]? with
    | some (.ins c ns ds) => some (c, ns, ds)
    | _ => none)
  | _ => none
theorem ins_of (r : Rel K g av μ st H) {v : V} {d : D} {c : Str} {ns : List Str} {ds : List D} (h : Rp K g.ca av μ H v d) (e : insOf st d = some (c, ns, ds)) : ∃ a dx fs, v = .ref a ∧ H a = some (.ins (g.ca c) dx fs) ∧ ns = fs.map (·.1) ∧ RpL K g.ca av μ H (fs.map (·.2)) ds := by
  cases h with
  | ins h _ _ l =>
    cases e
    exact ⟨_, _, _, rfl, h, rfl, l⟩
  | @loc n a hn =>
    cases e1 : st[n]? with
    | none => simp only [insOf, e1] at e; cases e
    | some ob =>
      have ho := r.obs n a ob hn e1
      cases ob with
      | ins c' ns' ds' =>
        simp only [insOf, e1] at e
        cases e
        cases ho with
        | ins hH l => exact ⟨_, _, _, rfl, hH, rfl, l⟩
      | _ => simp only [insOf, e1] at e; cases e
  | _ => cases e
end
section
variable {g : G} {X : Cx} {e o : Expr} {f c : Str} {pos pos' : Pos} {me mo : Ev → Mo D}
def dFld (c f : Str) (st : List Ob) (x : D) : Option D := match insOf st x with
  | some (c', ns, ds) => if c' = c then look1 f ns ds else none
  | none => none
def xFld (c f : Str) (m : Ev → Mo D) : Ev → Mo D := fun ρ => (m ρ).bind fun x st => (dFld c f st x).map fun d => (d, st)
theorem dFld_some {st : List Ob} {x d : D} (h : dFld c f st x = some d) : ∃ ns ds, insOf st x = some (c, ns, ds) ∧ look1 f ns ds = some d := by
  unfold dFld at h
  split at h
  · rename_i c' ns ds hi
    split at h
    · rename_i hc
      subst hc
      exact ⟨ns, ds, hi, h⟩
    · cases h
  · cases h
theorem ev_fld (hc : Cls X.K (g.ca c)) (hn : NoAttr X.K (g.ca c) f) (he : EV g X e me) (hb : attributeBase e f X.env (eval e X.env) = eval e X.env := by rfl) : EV g X (.Attribute e f pos) (xFld c f me) := by
  obtain ⟨t, p0, s0⟩ := he.ex
  refine ⟨_, pe_fld p0 hb, fun av μ σ H Q ρ st d st' rl er hm p => ?_⟩
  obtain ⟨x, s1, h1, hm⟩ := Mo.bind_some hm
  refine s0 av μ σ H _ ρ st x s1 rl er h1 fun v H1 μ1 e1 r1 q1 => ?_
  cases e2 : dFld c f s1 x with
  | none => rw [e2] at hm; cases hm
  | some d' =>
    rw [e2] at hm
    cases hm
    obtain ⟨ns, ds, hi, hl⟩ := dFld_some e2
    obtain ⟨a, dx, fs, rfl, hH, rfl, l⟩ := ins_of r1 q1 hi
    obtain ⟨u, hu, ru⟩ := look1_ok l hl
    exact ⟨a, _, dx, fs, u, rfl, hH, hc, hn, hu, (p.mono e1).here r1 ru⟩
/-- o.f = value, o in the store -/
def ySetF (c f : Str) (mo mv : Ev → Mo D) : Ev → Mo Out := fun ρ => (mv ρ).bind fun v => (mo ρ).bind fun o st => match o with
  | .loc n => (match st[n]? with
    | some (.ins c' ns ds) => if c' = c ∧ ns.length < 1000 then some (.nx ρ, st.set n (.ins c (putN f ns) (put1 f v ns ds))) else none
    | _ => none)
  | _ => none
theorem sv_fld (hc : Cls X.K (g.ca c)) (hn : NoAttr X.K (g.ca c) f) (ho : EV g X o mo) (he : EV g X e me) (hs : swapsWith e (some (.Attribute o f pos')) pos.line X.env = pure false := by rfl) : SV g X (.Assign [.Attribute o f pos'] e pos) (ySetF c f mo me) := by
  obtain ⟨to, po, so⟩ := ho.ex
  obtain ⟨te, pe, se⟩ := he.ex
  refine ⟨_, ps_fld po pe hs, fun av μ σ H E ρ st out st' rl er hm p => ?_⟩
  obtain ⟨v, s1, h1, hm⟩ := Mo.bind_some hm
  obtain ⟨x, s2, h2, hm⟩ := Mo.bind_some hm
  refine se av μ σ H _ ρ st v s1 rl er h1 fun vv H1 μ1 e1 r1 q1 => ?_
  refine so av μ1 σ H1 _ ρ s1 x s2 r1 (er.mono e1) h2 fun vo H2 μ2 e2 r2 q2 => ?_
  split at hm
  · rename_i n
    split at hm
    · rename_i c' ns ds hst
      split at hm
      · rename_i hcl
        obtain ⟨rfl, hlen⟩ := hcl
        cases hm
        cases q2 with
        | @loc _ a hn2 =>
          cases r2.obs n _ _ hn2 hst with
          | @ins dx _ fv _ hH l =>
            refine ⟨a, _, dx, fv, rfl, hH, hc, hn, by simpa using hlen, ?_⟩
            have xw : Ext μ2 μ2 H2 (upd H2 a (.ins (g.ca c') dx (putF f vv fv))) := Ext.write r2 hn2
            obtain ⟨w1, w2⟩ := put1_ok (f := f) (Rp.mono xw (Rp.mono e2 q1)) (RpL.mono xw l)
            have ro : RpO X.K g.ca av μ2 (upd H2 a (.ins (g.ca c') dx (putF f vv fv))) a (.ins c' ((putF f vv fv).map (·.1)) (put1 f v (fv.map (·.1)) ds)) := .ins upd_same w1
            rw [w2] at ro
            exact p σ _ μ2 ((e1.trans e2).trans xw) (r2.write hn2 ro) (er.mono ((e1.trans e2).trans xw))
      · cases hm
    · cases hm
  · cases hm
end
end MM
set_option autoImplicit false
set_option maxRecDepth 100000
set_option maxHeartbeats 4000000
/-! M14: properties, constructors, own == and !=, truth of instances. -/
namespace MM
open PySem PySem.Spec PyProof.Rows L2 LamX NdefX
/-! ### properties -/
structure PropC (P : Program) (w : World) (K : PySem.W.Frag) (mg : Str → Option Value) (base : Heap) (g : G) (k : Nat) (c f : Str) (md : List A → Mo D) : Prop where
  ex : ∃ (p ga : Addr) (fd : FuncData) (ps : List Str), PropOf K (g.ca c) f p ga ∧ FnOk P w K mg base C8.CX0 k ga fd ps (SpG K g 1 md) ∧ Binds K fd ps []
  cl : Cls K (g.ca c)
def xProp (c : Str) (md : List A → Mo D) (m : Ev → Mo D) : Ev → Mo D := fun ρ => (m ρ).bind fun x st => match insOf st x with
  | some (c', _, _) => if c' = c then md [.d x] st else none
  | none => none
section
variable {g : G} {X : Cx} {e o : Expr} {f c x : Str} {p pos : Pos} {me : Ev → Mo D} {ml : Ev → Mo (List D)} {k j n : Nat} {md : List A → Mo D} {es : List Expr}
theorem ev_prop (P : PropC X.prog X.w X.K X.mg X.base g k c f md) (hr : Room j X.A) (hk : k + 1 ≤ j) (he : EV g X e me) (hb : attributeBase e f X.env (eval e X.env) = eval e X.env := by rfl) : EV g X (.Attribute e f pos) (xProp c md me) := by
  obtain ⟨pp, ga, fd, ps, hp, F, b⟩ := P.ex
  obtain ⟨t, p0, s0⟩ := he.ex
  refine ⟨_, pe_prop (E := C8.E0) p0 P.cl hp F (hr.mono hk) b .nil C8.pass0 hb, fun av μ σ H Q ρ st d st' rl er hm p => ?_⟩
  obtain ⟨xd, s1, h1, hq⟩ := Mo.bind_some hm
  refine s0 av μ σ H _ ρ st xd s1 rl er h1 fun v H1 μ1 e1 r1 q1 => ?_
  split at hq
  · rename_i c' ns ds hi
    split at hq
    · rename_i hc
      subst hc
      obtain ⟨a, dx, fs, rfl, hH, _, l⟩ := ins_of r1 q1 hi
      exact ⟨a, dx, fs, rfl, hH, rfl, av, μ1, s1, [.d xd], d, st', r1, .cons q1 .nil, hq, p.mono e1⟩
    · cases hq
  · cases hq
/-! ### constructors -/
structure MakC (P : Program) (w : World) (K : PySem.W.Frag) (mg : Str → Option Value) (base : Heap) (g : G) (k : Nat) (x c : Str) (n : Nat) (md : List A → Mo D) : Prop where
  ex : ∃ (f : Addr) (fd : FuncData) (ps : List Str), Mk K (g.ca c) f ∧ FnOk P w K mg base C8.CX0 k f fd ps (SpG K g (n + 1) md) ∧ mg x = some (.ref (g.ca c)) ∧ Binds K fd ps []
def mkM (c : Str) (n : Nat) (md : List A → Mo D) : List D → Mo D := fun ds st => if ds.length = n then (match md (.d (.loc st.length) :: ds.map .d) (st ++ [.ins c [] []]) with
  | some (.non, st') => some (.loc st.length, st')
  | _ => none) else none
def xMake (c : Str) (n : Nat) (md : List A → Mo D) (ml : Ev → Mo (List D)) : Ev → Mo D := fun ρ => (ml ρ).bind (mkM c n md)
theorem make_sem {K : PySem.W.Frag} {av μ : List Addr} {st st' : List Ob} {H : Hp} {vs : List V} {ds : List D} {d : D} {Q : VK} {E : XK} (rl : Rel K g av μ st H) (rs : RpL K g.ca av μ H vs ds) (hm : mkM c n md ds st = some (d, st')) (p : Post K g av μ H d st' Q) :
    ∀ x dx, H x = none → H dx = none → dx ≠ x → SpG K g (n + 1) md (.ref x :: vs) (upd (upd H dx (.own x)) x (.ins (g.ca c) dx [])) (fun v H2 => v = .non ∧ Q (.ref x) H2) E := fun x dx nx ndx hne => by
  unfold mkM at hm
  split at hm
  · rename_i hl
    split at hm
    · rename_i st2 h2
      cases hm
      have e1 : Ext μ μ H (upd H dx (.own x)) := Ext.new ndx
      have r1 := rl.new (o := .own x) ndx
      have nx1 : upd H dx (.own x) x = none := by rw [upd_ne (fun z => hne z.symm)]; exact nx
      obtain ⟨r2, e2⟩ := r1.push (o := .ins (g.ca c) dx []) (ob := .ins c [] []) nx1 (RpO.ins (fv := []) upd_same .nil)
      have lx : (μ ++ [x])[st.length]? = some x := by
        rw [← rl.len, List.getElem?_append_right (Nat.le_refl _), Nat.sub_self]
        rfl
      refine ⟨by rw [List.length_cons, rs.length, hl], av, μ ++ [x], _, .d (.loc st.length) :: ds.map .d, .non, _, r2, .cons (show RpA K g av (μ ++ [x]) _ _ (.d _) from .loc lx) (RpAs.of (RpL.mono (e1.trans e2) rs)), h2, fun v H' μ' x' r' q' => ?_⟩
      cases q'
      refine ⟨rfl, p _ H' μ' ((e1.trans e2).trans x') r' (.loc ?_)⟩
      obtain ⟨⟨rr, er, _⟩, _, _⟩ := x'
      rw [er, List.getElem?_append_left (List.getElem?_eq_some_iff.mp lx).1]
      exact lx
    · cases hm
  · cases hm
theorem ev_make (M : MakC X.prog X.w X.K X.mg X.base g k x c n md) (hr : Room j X.A) (hk : k + 1 ≤ j) (hg : Gl X x) (ha : AV g X (e :: es) ml)
    (hdb : (x == ("__debug__" : Str)) = false := by decide) (he : starEach (e :: es) X.env = (false, eval e X.env) :: starEach es X.env := by rfl) (hpl : (backTo pos (starEach es X.env)).any (·.1) = false := by rfl) :
    EV g X (.Call (.Name x p) (e :: es) [] pos) (xMake c n md ml) := by
  obtain ⟨f, fd, ps, Mf, F, hm, b⟩ := M.ex
  obtain ⟨t, pa, sl⟩ := ha.ex
  refine ⟨_, pe_make (E := C8.E0) Mf F (hr.mono hk) hg hm b .nil C8.pass0 pa hdb he hpl, fun av μ σ H Q ρ st d st' rl er hm p => ?_⟩
  obtain ⟨ds, s1, h1, hm⟩ := Mo.bind_some hm
  refine sl av μ σ H _ ρ st ds s1 rl er h1 fun vs H1 μ1 e1 r1 q1 => ?_
  rw [List.append_nil]
  exact make_sem r1 q1 hm (p.mono e1)
/-! keywords -/
structure KV (g : G) (X : Cx) (kws : List Keyword) (m : Ev → Mo (List D)) : Prop where
  ex : ∃ t, PK X kws t ∧ SemA X.K g t m
theorem kv_nil : KV g X [] xNil := ⟨_, pk_nil, fun av μ σ H Q ρ st d st' rl er hm p => by
  obtain ⟨z1, z2⟩ := Mo.pure_some hm
  subst z1 z2
  exact p [] H μ (Ext.refl _ _) rl .nil⟩
theorem kv_cons {kws : List Keyword} {nm : Option Str} {kpos : Pos} (ha : EV g X e me) (hb : KV g X kws ml) : KV g X (⟨nm, e, kpos⟩ :: kws) (xCons me ml) := by
  obtain ⟨ta, pa, sa⟩ := ha.ex
  obtain ⟨tb, pb, sb⟩ := hb.ex
  refine ⟨_, pk_cons pa pb, fun av μ σ H Q ρ st d st' rl er hm p => ?_⟩
  obtain ⟨x, s1, h1, hm⟩ := Mo.bind_some hm
  obtain ⟨xs, s2, h2, hm⟩ := Mo.bind_some hm
  obtain ⟨z1, z2⟩ := Mo.pure_some hm
  subst z1 z2
  refine sa av μ σ H _ ρ st x s1 rl er h1 fun v H1 μ1 e1 r1 q1 => ?_
  refine sb av μ1 σ H1 _ ρ s1 xs _ r1 (er.mono e1) h2 fun vs H2 μ2 e2 r2 q2 => ?_
  exact p _ H2 μ2 (e1.trans e2) r2 (.cons (q1.mono e2) q2)
def pick {α : Type} (is : List Nat) (xs : List α) : List α := is.filterMap (xs[·]?)
theorem pick_vals {vs : List V} {us : List Value} (r : Vals vs us) (is : List Nat) : Vals (pick is vs) (pick is us) := by
  have gt : ∀ {vs : List V} {us : List Value}, Vals vs us → ∀ i : Nat, (vs[i]? = none ∧ us[i]? = none) ∨ ∃ v u, vs[i]? = some v ∧ us[i]? = some u ∧ L2.RelV v u := by
    intro vs us r
    induction r with
    | nil => intro i; exact .inl ⟨by simp, by simp⟩
    | cons h _ ih =>
      intro i
      cases i with
      | zero => exact .inr ⟨_, _, rfl, rfl, h⟩
      | succ i => simpa using ih i
  induction is with
  | nil => exact .nil
  | cons i is ih =>
    unfold pick at ih ⊢
    rw [List.filterMap_cons, List.filterMap_cons]
    rcases gt r i with ⟨h1, h2⟩ | ⟨v, u, h1, h2, h3⟩
    · rw [h1, h2]; exact ih
    · rw [h1, h2]; exact .cons h3 ih
theorem pick_rp {K : PySem.W.Frag} {ca : Str → Addr} {av μ : List Addr} {H : Hp} {vs : List V} {ds : List D} (r : RpL K ca av μ H vs ds) (is : List Nat) : RpL K ca av μ H (pick is vs) (pick is ds) := by
  have gt : ∀ {vs : List V} {ds : List D}, RpL K ca av μ H vs ds → ∀ i : Nat, (vs[i]? = none ∧ ds[i]? = none) ∨ ∃ v u, vs[i]? = some v ∧ ds[i]? = some u ∧ Rp K ca av μ H v u := by
    intro vs
    induction vs with
    | nil => intro ds r i; cases r; exact .inl ⟨by simp, by simp⟩
    | cons v vs ih =>
      intro ds r i
      cases r with
      | cons h t =>
        cases i with
        | zero => exact .inr ⟨_, _, rfl, rfl, h⟩
        | succ i => simpa using ih t i
  induction is with
  | nil => exact .nil
  | cons i is ih =>
    unfold pick at ih ⊢
    rw [List.filterMap_cons, List.filterMap_cons]
    rcases gt r i with ⟨h1, h2⟩ | ⟨v, u, h1, h2, h3⟩
    · rw [h1, h2]; exact ih
    · rw [h1, h2]; exact .cons h3 ih
structure MakK (P : Program) (w : World) (K : PySem.W.Frag) (mg : Str → Option Value) (base : Heap) (g : G) (k : Nat) (x c : Str) (n : Nat) (ks : List Str) (is : List Nat) (md : List A → Mo D) : Prop where
  ex : ∃ (f : Addr) (fd : FuncData) (ps : List Str), Mk K (g.ca c) f ∧ FnOk P w K mg base C8.CX0 k f fd ps (SpG K g (n + 1) md) ∧ mg x = some (.ref (g.ca c)) ∧ KBn K fd ps 1 ks (fun us ws => us ++ pick is ws) (fun vs zs => vs ++ pick is zs)
theorem kbn_of {K : PySem.W.Frag} {nm qual : Str} {params : Arguments} {body : List Stmt} {scope : Scope} {f : Addr} {fd : FuncData} {ps ks : List Str} {is : List Nat} (F : FunD K nm qual params body scope [] [] f fd)
    (h : ∀ (kV doc pm : Value) (an : Option Addr) (cdv ct : Value) (us ws : List Value), us.length = 1 → ws.length = ks.length → bindArgs (PySem.W.fnOf nm qual params body scope .none kV doc pm an cdv ct) ⟨us, ks.zip ws⟩ = pure (ps.zip (us ++ pick is ws))) :
    KBn K fd ps 1 ks (fun us ws => us ++ pick is ws) (fun vs zs => vs ++ pick is zs) := by
  obtain ⟨oc, od, dV, kV, doc, pm, an, cdv, ct, osl, rfl, lk, hcd, hD, hK⟩ := F.ex
  rcases hD with ⟨_, rfl⟩ | ⟨e, _⟩
  · exact ⟨fun s us ws _ l1 l2 => .of_eq (h kV doc pm an cdv ct us ws l1 l2), fun r1 r2 => r1.append (pick_vals r2 is)⟩
  · exact absurd rfl e
def xMakeK (c : Str) (n m : Nat) (is : List Nat) (md : List A → Mo D) (ml : Ev → Mo (List D)) : Ev → Mo D := fun ρ => (ml ρ).bind fun ds => if ds.length = m then mkM c n md (pick is ds) else Mo.fail
theorem ev_makeK {kws : List Keyword} {ks : List Str} {is : List Nat} (M : MakK X.prog X.w X.K X.mg X.base g k x c n ks is md) (hr : Room j X.A) (hk : k + 1 ≤ j) (hg : Gl X x) (ha : KV g X kws ml)
    (hall : (backToKw pos (keywordEach kws X.env)).all (·.1.isSome) = true := by rfl) (hks : (backToKw pos (keywordEach kws X.env)).filterMap (·.1) = ks := by rfl) (hdb : (x == ("__debug__" : Str)) = false := by decide)
    (hpl : ((backTo pos (starEach [] X.env)).any (·.1) || (backToKw pos (keywordEach kws X.env)).any (·.1.isNone)) = false := by rfl) :
    EV g X (.Call (.Name x p) [] kws pos) (xMakeK c n ks.length is md ml) := by
  obtain ⟨f, fd, ps, Mf, F, hm, b⟩ := M.ex
  obtain ⟨t, pa, sl⟩ := ha.ex
  refine ⟨_, pe_makeK0 (E := C8.E0) Mf F (hr.mono hk) hg hm b C8.pass0 pa hall hks hdb hpl, fun av μ σ H Q ρ st d st' rl er hm p => ?_⟩
  obtain ⟨ds, s1, h1, hm⟩ := Mo.bind_some hm
  split at hm
  · rename_i hl
    refine sl av μ σ H _ ρ st ds s1 rl er h1 fun vs H1 μ1 e1 r1 q1 => ⟨rfl, by rw [q1.length]; exact hl, ?_⟩
    exact make_sem r1 (pick_rp q1 is) hm (p.mono e1)
  · cases hm
end
end MM
set_option autoImplicit false
set_option maxRecDepth 100000
set_option maxHeartbeats 4000000
/-! M15: own == and !=, truth of instances. -/
namespace MM
open PySem PySem.Spec PyProof.Rows L2 LamX NdefX
/-- what == asks of an own class -/
structure EqF (K : PySem.W.Frag) (C f : Addr) : Prop where
  eq : PySem.W.findIn K (.ref C) "__eq__" = some (some (.ref f))
  fn : PySem.W.isFn K (.ref f) = true
structure EqC (P : Program) (w : World) (K : PySem.W.Frag) (mg : Str → Option Value) (base : Heap) (g : G) (k : Nat) (c : Str) (md : List A → Mo D) : Prop where
  ex : ∃ (f : Addr) (fd : FuncData) (ps : List Str), EqF K (g.ca c) f ∧ FnOk P w K mg base C8.CX0 k f fd ps (SpG K g 2 md) ∧ Binds K fd ps []
section
variable {g : G} {X : Cx} {k n : Nat} {md : List A → Mo D} {c : Str}
/-- f(x, y) by the own def; A: where -/
theorem run_eq {pins : List (Addr × Obj)} {σ : L2.St} {H : Hp} {s : Shared} {A : Around} {f a b : Addr} {fd : FuncData} {ps : List Str} {Q : VK} {R : Value → Shared → Prop} {E' : Value → Shared → Prop}
    (F : FnOk X.prog X.w X.K X.mg X.base C8.CX0 k f fd ps (SpG X.K g 2 md)) (hb : Binds X.K fd ps []) (hr : Room k A) (hA : A.frames = X.A.frames) (I : L2.Inv X pins σ H s)
    (hsp : SpG X.K g 2 md [.ref a, .ref b] H Q C8.E0) (hR : ∀ u s', EP X pins σ Q u s' → R u s') : wpAny (model X.prog X.w) A (call (.ref f) [.ref a, .ref b]) R E' s := by
  have e0 : Env0 X.prog X.w X.K X.mg X.base A X.stack s H := by
    have e := I.env0
    exact ⟨by rw [hA]; exact e.frames, e.mod, e.bs, e.bsz, e.funs, e.frf, e.hok, e.bare⟩
  have hl := F.len _ _ _ _ hsp
  have r2 : Vals [V.ref a, V.ref b] [Value.ref a, Value.ref b] := .cons rfl (.cons rfl .nil)
  refine wpAny_call (codeAny_mono (F.run A X.stack s H ⟨[.ref a, .ref b], []⟩ [.ref a, .ref b] [.ref a, .ref b] _ C8.E0 hr e0 (by
    have := hb s [.ref a, .ref b] I.kIn (by simpa using hl)
    simpa using this) r2 hsp) fun r s' hq => ?_)
  cases r with
  | error e => exact (show False from hq).elim
  | ok fl =>
    cases fl with
    | ret w => exact hR w s' (I.after hq)
    | next => exact False.elim hq
    | brk => exact False.elim hq
    | cont => exact False.elim hq
/-- the own == of two instances of c -/
def mEqOwn (c : Str) (md : List A → Mo D) : D → D → Mo D := fun x y st => match insOf st x, insOf st y with
  | some (c1, _, _), some (c2, _, _) => if c1 = c ∧ c2 = c then (match md [.d x, .d y] st with
    | some (.bl b, st') => some (.bl b, st')
    | _ => none) else none
  | _, _ => none
theorem mEqOwn_some {x y d : D} {st st' : List Ob} (h : mEqOwn c md x y st = some (d, st')) : ∃ ns1 ds1 ns2 ds2 b, insOf st x = some (c, ns1, ds1) ∧ insOf st y = some (c, ns2, ds2) ∧ md [.d x, .d y] st = some (.bl b, st') ∧ d = .bl b := by
  unfold mEqOwn at h
  split at h
  · rename_i c1 ns1 ds1 c2 ns2 ds2 h1 h2
    split at h
    · rename_i hc
      obtain ⟨rfl, rfl⟩ := hc
      split at h
      · rename_i b st2 hm
        cases h
        exact ⟨_, _, _, _, b, h1, h2, hm, rfl⟩
      · cases h
    · cases h
  · cases h
theorem od_eqOwn (C : EqC X.prog X.w X.K X.mg X.base g k c md) (hr : Room k X.A) : OpD g X (compareOp .Eq) (mEqOwn c md) := by
  obtain ⟨f, fd, ps, hf, F, hb⟩ := C.ex
  refine ⟨fun x y H Q => ∃ a b dx dy fs gs, x = .ref a ∧ y = .ref b ∧ H a = some (.ins (g.ca c) dx fs) ∧ H b = some (.ins (g.ca c) dy gs) ∧ SpG X.K g 2 md [.ref a, .ref b] H (fun v H' => (∃ k, v = .bl k) ∧ Q v H') C8.E0, ?_, fun av μ H Q st x y dx dy d st' rl rx ry hm p => ?_⟩
  · intro pins s σ H x y v u Q I rx ry ⟨a, b, dx, dy, fs, gs, ex, ey, ha, hb', hsp⟩
    subst ex ey
    cases rx
    cases ry
    obtain ⟨mA, J, _⟩ := ins_get I.hok ha
    obtain ⟨mB, J', _⟩ := ins_get I.hok hb'
    obtain ⟨od, J, _⟩ := J.look
    obtain ⟨od', J', _⟩ := J'.look
    obtain ⟨m, hF⟩ := I.fr
    show wpAny _ _ (richCompare .Eq _ _) _ _ _
    refine PySem.W.cmp_K (op := .Eq) (tb := .ref (g.ca c)) hr.units0 hF I.ok.mod.kin J J'.type (by simp [PySem.W.notFirst]) hf.eq hf.fn ?_
    refine run_eq F hb hr rfl I hsp fun u s' ⟨z, H', I', rz, ⟨kk, ez⟩, q⟩ => ?_
    subst ez
    cases rz
    exact ⟨.bl kk, H', I', rfl, q⟩
  · obtain ⟨ns1, ds1, ns2, ds2, b, i1, i2, hq, rfl⟩ := mEqOwn_some hm
    obtain ⟨a1, dx1, fs1, rfl, h1, _, _⟩ := ins_of rl rx i1
    obtain ⟨a2, dx2, fs2, rfl, h2, _, _⟩ := ins_of rl ry i2
    exact ⟨a1, a2, dx1, dx2, fs1, fs2, rfl, rfl, h1, h2, rfl, av, μ, st, [.d dx, .d dy], _, st', rl, .cons rx (.cons ry .nil), hq, fun v H' μ' x r q => by
      cases q
      exact ⟨⟨b, rfl⟩, p (.bl b) H' μ' x r (.bl b)⟩⟩
/-! ### != by the own == -/
/-- what != asks, besides -/
structure NeF (K : PySem.W.Frag) (C : Addr) : Prop where
  ne : PySem.W.findIn K (.ref C) "__ne__" = some (some (.builtin "object.__ne__"))
  hm : PySem.W.mroIn K C (.type "object") = some true
section
variable {prog : Program} {w : World} {A : Around} {E : Value → Shared → Prop} {s : Shared} {K : PySem.W.Frag} {x C L f : Addr} {h₀ : Heap} {m : Str → Option Value} {ox : Obj} {od : Option Obj} {name : Str} {b tb : Value}
theorem ifBound_KB {M : Model} {id : String} {args : List Value} {Q : Option Value → Shared → Prop} (X : K.In s.heap) (I : PySem.W.InstAt s.heap x ox C od) (hs : PySem.W.findIn K (.ref C) name = some (some (.builtin id))) (S : ∀ self, bindSpecial (.builtin id) self = pure (.builtin id, [self]))
    (h : wpAny M A (call (.builtin id) (.ref x :: args)) (fun v => Q (some v)) E s) : wpAny M A (callSpecialIfBound? (.ref x) name args) Q E s := by
  simp only [callSpecialIfBound?, bindSpecialIfBound?]
  refine wpAny_holding (wpAny_bind (wpAny_bind (wpAny_bind (I.type.here ((PySem.W.looks_findIn X hs).here ?_)))))
  simp only [S]
  refine wpAny_bind (wpAny_askSetting (wpAny_ite ?_))
  have fin : wpAny M A (call (.builtin id) ([.ref x] ++ args) >>= fun v => pure (some v)) Q E s := wpAny_bind (wpAny_mono h (fun v s' h' => wpAny_pure h') fun _ _ h' => h')
  split
  · exact wpAny_bind (wpAny_pure (wpAny_pure fin))
  · exact wpAny_tryCatch (wpAny_bind (wpAny_pure (wpAny_pure fin)))
theorem check_KB {M : Model} {id owner n : String} {rest : List Value} {Q : Unit → Shared → Prop} (X : K.In s.heap) (I : PySem.W.InstAt s.heap x ox C od) (hm : PySem.W.mroIn K C (.type owner) = some true) (hk : builtinKind id = some .slot) (hs : splitId id = some (owner, n))
    (ha : argsOk id ⟨.ref x :: rest, []⟩) (hq : Q () s) : wpAny M A (checkBuiltinCall id ⟨.ref x :: rest, []⟩) Q E s := by
  simp only [checkBuiltinCall, hk, hs]
  refine wpAny_bind ?_
  unfold isInstance
  refine wpAny_bind (I.type.here ((PySem.W.looks_mroIn X hm).here ?_))
  cases hsig : Manifest.signature? id with
  | none => exact wpAny_pure hq
  | some sig =>
    simp only [argsOk, hsig] at ha
    have h2 : Bind.checkArgs id sig ⟨.ref x :: rest, []⟩ = pure () := ha
    show wpAny M A (Bind.checkArgs id sig ⟨.ref x :: rest, []⟩) Q E _
    rw [h2]; exact wpAny_pure hq
end
/-- != is the own == turned round -/
def mNeOwn (c : Str) (md : List A → Mo D) : D → D → Mo D := fun x y st => match mEqOwn c md x y st with
  | some (.bl b, st') => some (.bl (!b), st')
  | _ => none
theorem ne_run {pins : List (Addr × Obj)} {σ : L2.St} {H : Hp} {s : Shared} {f a b dx dy : Addr} {fd : FuncData} {ps : List Str} {Q : VK} {fs gs : List (Str × V)}
    (F : FnOk X.prog X.w X.K X.mg X.base C8.CX0 k f fd ps (SpG X.K g 2 md)) (hb : Binds X.K fd ps []) (hr : Room (k + 1) X.A) (hf : EqF X.K (g.ca c) f) (hn : NeF X.K (g.ca c)) (I : L2.Inv X pins σ H s)
    (ha : H a = some (.ins (g.ca c) dx fs)) (hb' : H b = some (.ins (g.ca c) dy gs)) (hsp : SpG X.K g 2 md [.ref a, .ref b] H (fun v H' => ∃ k, v = .bl k ∧ Q (.bl (!k)) H') C8.E0) :
    wpAny (model X.prog X.w) X.A (richCompare .NotEq (.ref a) (.ref b)) (EP X pins σ Q) X.xe s := by
  obtain ⟨mA, J, _⟩ := ins_get I.hok ha
  obtain ⟨mB, J', _⟩ := ins_get I.hok hb'
  obtain ⟨od, J, _⟩ := J.look
  obtain ⟨od', J', _⟩ := J'.look
  have one : wpAny (model X.prog X.w) X.A (tryCompare (.ref a) "__ne__" (.ref b)) (fun r s' => ∃ v, r = some v ∧ EP X pins σ Q v s') X.xe s := by
    unfold tryCompare
    refine wpAny_bind (m := callSpecialIfBound? (.ref a) (Str.ofString "__ne__") [.ref b]) (ifBound_KB I.kIn J hn.ne PySem.F.cmp_object.ne.bind (wpAny_call (codeAny_call_builtin PySem.F.cmp_object.ne.plain PySem.F.cmpEntry_ne (check_KB I.kIn J hn.hm PySem.F.cmpKind_ne PySem.F.cmpSplit_ne (PySem.F.cmpArgs_ne _ _) ?_))))
    unfold Builtin.«object.__ne__»
    refine wpAny_bind (wpAny_pure ?_)
    refine wpAny_bind (m := cRoomFor "comparison" [Value.ref a, Value.ref b]) (wpAny_cRoomFor (hr.in1).units0 ?_)
    refine wpAny_bind (m := callSpecialIfBound? (.ref a) (Str.ofString "__eq__") [.ref b]) (PySem.W.ifBound_K I.kIn J hf.eq hf.fn (run_eq F hb hr.in1 rfl I hsp ?_))
    rintro u s' ⟨z, H', I', rz, kk, ez, q⟩
    subst ez
    cases rz
    refine wpAny_bind (m := truthy (.bool kk)) (wpAny_truthy_bool ?_)
    exact wpAny_pure (wpAny_pure ⟨_, rfl, .bl (!kk), H', I', rfl, q⟩)
  unfold richCompare
  simp only [oneThing_ref]
  refine wpAny_holding (wpAny_bind (wpAny_cRoomFor hr.units0 ?_))
  refine wpAny_bind (J.type.here (wpAny_bind (J'.type.here ?_)))
  rw [show (Value.ref (g.ca c) != Value.ref (g.ca c)) = false from by simp]
  simp only [Bool.false_eq_true, if_false]
  refine wpAny_bind (wpAny_pure ?_)
  simp only [Bool.false_eq_true, if_false]
  refine wpAny_bind (wpAny_mono one (fun r s' z => ?_) fun _ _ e => e)
  obtain ⟨v, rfl, hq⟩ := z
  exact wpAny_pure hq
theorem od_neOwn (C : EqC X.prog X.w X.K X.mg X.base g k c md) (hn : NeF X.K (g.ca c)) (hr : Room (k + 1) X.A) : OpD g X (compareOp .NotEq) (mNeOwn c md) := by
  obtain ⟨f, fd, ps, hf, F, hb⟩ := C.ex
  refine ⟨fun x y H Q => ∃ a b dx dy fs gs, x = .ref a ∧ y = .ref b ∧ H a = some (.ins (g.ca c) dx fs) ∧ H b = some (.ins (g.ca c) dy gs) ∧ SpG X.K g 2 md [.ref a, .ref b] H (fun v H' => ∃ k, v = .bl k ∧ Q (.bl (!k)) H') C8.E0, ?_, fun av μ H Q st x y dx dy d st' rl rx ry hm p => ?_⟩
  · intro pins s σ H x y v u Q I rx ry ⟨a, b, dx, dy, fs, gs, ex, ey, ha, hb', hsp⟩
    subst ex ey
    cases rx
    cases ry
    exact ne_run F hb hr hf hn I ha hb' hsp
  · unfold mNeOwn at hm
    split at hm
    · rename_i b0 st2 h0
      cases hm
      obtain ⟨ns1, ds1, ns2, ds2, b, i1, i2, hq, eb⟩ := mEqOwn_some h0
      cases eb
      obtain ⟨a1, dx1, fs1, rfl, h1, _, _⟩ := ins_of rl rx i1
      obtain ⟨a2, dx2, fs2, rfl, h2, _, _⟩ := ins_of rl ry i2
      exact ⟨a1, a2, dx1, dx2, fs1, fs2, rfl, rfl, h1, h2, rfl, av, μ, st, [.d dx, .d dy], _, _, rl, .cons rx (.cons ry .nil), hq, fun v H' μ' x r q => by
        cases q
        exact ⟨b0, rfl, p (.bl (!b0)) H' μ' x r (.bl _)⟩⟩
    · cases hm
/-! ### truth of an instance -/
structure TruF (K : PySem.W.Frag) (C : Addr) : Prop where
  b : PySem.W.findIn K (.ref C) "__bool__" = some none
  l : PySem.W.findIn K (.ref C) "__len__" = some none
def asIns (c : Str) (m : Ev → Mo D) : Ev → Mo Bool := fun ρ => (m ρ).bind fun x st => match insOf st x with
  | some (c', _, _) => if c' = c then some (true, st) else none
  | none => none
theorem tv_ins {a : Expr} {ma : Ev → Mo D} (hf : TruF X.K (g.ca c)) (ha : EV g X a ma) (he : ∀ whole, isTrue a X.env whole = (do let v ← whole; standAt a.pos; holding [v] (truthy v)) := by intro _; rfl) : TV g X a (asIns c ma) := by
  obtain ⟨t, p0, s0⟩ := ha.ex
  refine ⟨fun σ H Q => t σ H fun x H' => ∃ b dx fs, x = .ref b ∧ H' b = some (.ins (g.ca c) dx fs) ∧ Q true H', ⟨fun pins s σ H Q I h => ?_⟩, fun av μ σ H Q ρ st b st' rl er hm p => ?_⟩
  · refine isTrue_plain (thn (p0.run pins s σ H _ I h) fun v s1 ⟨x, H1, I1, r1, b, dx, fs, ex, hb, q⟩ => ?_) (he _)
    subst ex
    cases r1
    obtain ⟨mA, J, _⟩ := ins_get I1.hok hb
    obtain ⟨od, J, _⟩ := J.look
    obtain ⟨m, hF⟩ := I1.fr
    exact PySem.W.truthy_K0 hF I1.ok.mod.kin J hf.b hf.l ⟨H1, I1, q⟩
  · obtain ⟨x, s1, h1, hz⟩ := Mo.bind_some hm
    refine s0 av μ σ H _ ρ st x s1 rl er h1 fun v H1 μ1 e1 r1 q1 => ?_
    split at hz
    · rename_i c' ns ds hi
      split at hz
      · rename_i hc
        subst hc
        cases hz
        obtain ⟨a, dx, fs, rfl, hH, _, l⟩ := ins_of r1 q1 hi
        exact ⟨a, dx, fs, rfl, hH, p H1 μ1 e1 r1⟩
      · cases hz
    · cases hz
end
end MM
set_option autoImplicit false
set_option maxRecDepth 100000
set_option maxHeartbeats 4000000
/-! M16: dicts: of pairs, an item, the keys. -/
namespace MM
open PySem PySem.Spec PyProof.Rows L2 LamX NdefX
def keyD : D → Option L2.Key
  | .int i => some (.inl i)
  | .str x => some (.inr x)
  | _ => none
def kD : L2.Key → D
  | .inl i => .int i
  | .inr x => .str x
abbrev KD := List (L2.Key × D)
def valD (kds : KD) (k : L2.Key) : Option D := (kds.find? fun kv => decide (kv.1 = k)).map (·.2)
def putD (kds : KD) (k : L2.Key) (v : D) : KD := if (kds.any fun kv => decide (kv.1 = k)) = true then kds.map (fun kv => if kv.1 = k then (kv.1, v) else kv) else kds ++ [(k, v)]
def mergeD (kds more : KD) : KD := more.foldl (fun acc kv => putD acc kv.1 kv.2) kds
section
variable {K : PySem.W.Frag} {g : G} {ca : Str → Addr} {av μ : List Addr} {H : Hp} {st : List Ob}
inductive KvR (K : PySem.W.Frag) (ca : Str → Addr) (av μ : List Addr) (H : Hp) : List (L2.Key × V) → KD → Prop
  | nil : KvR K ca av μ H [] []
  | cons {k : L2.Key} {v : V} {d : D} {r : List (L2.Key × V)} {s : KD} : Rp K ca av μ H v d → KvR K ca av μ H r s → KvR K ca av μ H ((k, v) :: r) ((k, d) :: s)
theorem KvR.keys {kvs : List (L2.Key × V)} {kds : KD} (h : KvR K ca av μ H kvs kds) : kvs.map (·.1) = kds.map (·.1) := by
  induction h with
  | nil => rfl
  | cons _ _ ih => rw [List.map_cons, List.map_cons, ih]
theorem KvR.vals {kvs : List (L2.Key × V)} {kds : KD} (h : KvR K ca av μ H kvs kds) : RpL K ca av μ H (kvs.map (·.2)) (kds.map (·.2)) := by
  induction h with
  | nil => exact .nil
  | cons a _ ih => exact .cons a ih
theorem KvR.of : ∀ {kvs : List (L2.Key × V)} {ds : List D}, RpL K ca av μ H (kvs.map (·.2)) ds → KvR K ca av μ H kvs ((kvs.map (·.1)).zip ds)
  | [], _, h => by cases h; exact .nil
  | (k, v) :: r, _, h => by
    cases h with
    | cons a t => exact .cons a (KvR.of t)
theorem KvR.any {k : L2.Key} {kvs : List (L2.Key × V)} {kds : KD} (h : KvR K ca av μ H kvs kds) : (kvs.any fun kv => decide (kv.1 = k)) = kds.any fun kv => decide (kv.1 = k) := by
  induction h with
  | nil => rfl
  | cons _ _ ih => rw [List.any_cons, List.any_cons, ih]
theorem KvR.app {kvs kvs2 : List (L2.Key × V)} {kds kds2 : KD} (h : KvR K ca av μ H kvs kds) (h2 : KvR K ca av μ H kvs2 kds2) : KvR K ca av μ H (kvs ++ kvs2) (kds ++ kds2) := by
  induction h with
  | nil => exact h2
  | cons a _ ih => exact .cons a ih
theorem KvR.put {k : L2.Key} {v : V} {d : D} {kvs : List (L2.Key × V)} {kds : KD} (h : KvR K ca av μ H kvs kds) (hv : Rp K ca av μ H v d) : KvR K ca av μ H (putK kvs k v) (putD kds k d) := by
  unfold putK putD
  rw [h.any]
  split
  · rename_i hh
    clear hh
    induction h with
    | nil => exact .nil
    | @cons k' _ _ _ _ a _ ih =>
      rw [List.map_cons, List.map_cons]
      by_cases e : k' = k
      · rw [if_pos e, if_pos e]; exact .cons hv ih
      · rw [if_neg e, if_neg e]; exact .cons a ih
  · exact h.app (.cons hv .nil)
theorem KvR.merge {more : List (L2.Key × V)} {mds : KD} (h2 : KvR K ca av μ H more mds) : ∀ {kvs : List (L2.Key × V)} {kds : KD}, KvR K ca av μ H kvs kds → KvR K ca av μ H (mergeK kvs more) (mergeD kds mds) := by
  induction h2 with
  | nil => exact fun h => h
  | cons a _ ih => exact fun h => ih (h.put a)
theorem KvR.get {k : L2.Key} {d : D} {kvs : List (L2.Key × V)} {kds : KD} (h : KvR K ca av μ H kvs kds) (e : valD kds k = some d) : ∃ v, valV kvs k = some v ∧ Rp K ca av μ H v d := by
  induction h with
  | nil => cases e
  | @cons k' v d' r s a _ ih =>
    by_cases hk : k' = k
    · subst hk
      have : d' = d := by simpa [valD] using e
      subst this
      exact ⟨v, by simp [valV], a⟩
    · have e' : valD s k = some d := by simpa [valD, hk] using e
      obtain ⟨u, h1, h2⟩ := ih e'
      exact ⟨u, by simpa [valV, hk] using h1, h2⟩
theorem key_of {v : V} {d : D} {k : L2.Key} (h : Rp K ca av μ H v d) (e : keyD d = some k) : v = kV k := by
  cases h <;> first | (cases e; rfl) | cases e
theorem kD_rp (k : L2.Key) : Rp K ca av μ H (kV k) (kD k) := by
  cases k with
  | inl i => exact .int i
  | inr x => exact .str x
def dctOf (st : List Ob) : D → Option (List L2.Key × List D)
  | .dct ks ds => some (ks, ds)
  | .loc n => (match st[n]? with
    | some (.dK ks ds) => some (ks, ds)
    | _ => none)
  | _ => none
theorem dct_of (r : Rel K g av μ st H) {v : V} {d : D} {ks : List L2.Key} {ds : List D} (h : Rp K g.ca av μ H v d) (e : dctOf st d = some (ks, ds)) : ∃ a kvs, v = .ref a ∧ H a = some (.dK kvs) ∧ ks = kvs.map (·.1) ∧ RpL K g.ca av μ H (kvs.map (·.2)) ds := by
  cases h with
  | dct h _ _ l =>
    cases e
    exact ⟨_, _, rfl, h, rfl, l⟩
  | @loc n a hn =>
    cases e1 : st[n]? with
    | none => simp only [dctOf, e1] at e; cases e
    | some ob =>
      have ho := r.obs n a ob hn e1
      cases ob with
      | dK ks' ds' =>
        simp only [dctOf, e1] at e
        cases e
        cases ho with
        | dK hH l => exact ⟨_, _, rfl, hH, rfl, l⟩
      | _ => simp only [dctOf, e1] at e; cases e
  | _ => cases e
end
section
variable {g : G} {X : Cx} {a b : Expr} {ma mb : Ev → Mo D} {pos : Pos}
def dGetD (st : List Ob) (x y : D) : Option D := (dctOf st x).bind fun p => (keyD y).bind fun k => valD (p.1.zip p.2) k
def mGetD : D → D → Mo D := fun x y st => (dGetD st x y).map fun d => (d, st)
theorem ev_dget (hu : X.A.units + 64 < cLine) (ha : EV g X a ma) (hb : EV g X b mb) (hs : NoSl b) : EV g X (.Subscript a b pos) (xBin mGetD ma mb) := by
  obtain ⟨ta, pa, sa⟩ := ha.ex
  obtain ⟨tb, pb, sb⟩ := hb.ex
  refine ⟨_, pe_dget (by omega) pa pb hs, fun av μ σ H Q ρ st d st' rl er hm p => ?_⟩
  obtain ⟨dx, s1, h1, hm⟩ := Mo.bind_some hm
  obtain ⟨dy, s2, h2, hm⟩ := Mo.bind_some hm
  refine sa av μ σ H _ ρ st dx s1 rl er h1 fun x H1 μ1 e1 r1 q1 => ?_
  refine sb av μ1 σ H1 _ ρ s1 dy s2 r1 (er.mono e1) h2 fun y H2 μ2 e2 r2 q2 => ?_
  unfold mGetD at hm
  cases e : dGetD s2 dx dy with
  | none => rw [e] at hm; cases hm
  | some d' =>
    rw [e] at hm
    cases hm
    unfold dGetD at e
    obtain ⟨⟨ks, ds⟩, e3, e⟩ := Option.bind_eq_some_iff.mp e
    obtain ⟨k, e4, e⟩ := Option.bind_eq_some_iff.mp e
    obtain ⟨ad, kvs, rfl, hH, rfl, l⟩ := dct_of r2 (q1.mono e2) e3
    obtain ⟨v, h5, h6⟩ := (KvR.of l).get e
    have := key_of q2 e4
    subst this
    exact ⟨ad, v, rfl, by rw [← h5]; exact DGet.k hH, (p.mono (e1.trans e2)).here r2 h6⟩
/-- dict(list of pairs) -/
def pairsD : List D → Option KD
  | [] => some []
  | .tup [k, v] :: r => (keyD k).bind fun k => (pairsD r).map ((k, v) :: ·)
  | _ => none
def dDict (st : List Ob) (x : D) : Option KD := (lstItems st x).bind fun ds => (pairsD ds).map fun kds => mergeD [] kds
def mDictP : List D → Mo D := fun ds st => match ds with
  | [x] => (dDict st x).map fun kds => (.loc st.length, st ++ [.dK (kds.map (·.1)) (kds.map (·.2))])
  | _ => none
theorem pairs_ok {K : PySem.W.Frag} {ca : Str → Addr} {av μ : List Addr} {H : Hp} : ∀ {vs : List V} {ds : List D} {kds : KD}, RpL K ca av μ H vs ds → pairsD ds = some kds → ∃ (ps : List Addr) (kvs : List (L2.Key × V)), vs = ps.map V.ref ∧ Paired (fun p kv => SqT K H p [kV kv.1, kv.2]) ps kvs ∧ KvR K ca av μ H kvs kds
  | _, _, _, .nil, e => by cases e; exact ⟨[], [], rfl, .nil, .nil⟩
  | _, _, _, .cons (v := v) (d := d) h t, e => by
    unfold pairsD at e
    split at e
    · rename_i heq
      cases heq
    · rename_i k y r heq
      cases heq
      obtain ⟨kk, e1, e⟩ := Option.bind_eq_some_iff.mp e
      obtain ⟨kds', e2, e⟩ := Option.map_eq_some_iff.mp e
      subst e
      obtain ⟨ps, kvs, rfl, hp, hk⟩ := pairs_ok t e2
      cases h with
      | tup hs l =>
        obtain ⟨x1, x2, rfl, a1, a2⟩ := rpl2 l
        have := key_of a1 e1
        subst this
        exact ⟨_ :: ps, (kk, x2) :: kvs, rfl, .cons hs hp, .cons a2 hk⟩
    · cases e
theorem cd_dictP (hc : X.calm = true) : CallD g X (.type "dict") mDictP := ⟨_, call_dictP hc, fun av μ H Q st xs ds d st' rl rx hm p => by
  unfold mDictP at hm
  split at hm
  · rename_i x
    cases e : dDict st x with
    | none => rw [e] at hm; cases hm
    | some kds =>
      rw [e] at hm
      cases hm
      unfold dDict at e
      obtain ⟨is, e1, e⟩ := Option.bind_eq_some_iff.mp e
      obtain ⟨kds0, e2, e⟩ := Option.map_eq_some_iff.mp e
      subst e
      obtain ⟨v, rfl, hv⟩ := rpl1 rx
      obtain ⟨q, ys, rfl, hq, l⟩ := lst_of rl hv e1
      obtain ⟨ps, kvs, rfl, hp, hk⟩ := pairs_ok l e2
      refine ⟨q, ps, kvs, rfl, hq, hp, fun z hz => ?_⟩
      have x0 : Ext μ (μ ++ [z]) H (upd H z (.dK (mergeK [] kvs))) := ⟨⟨[z], rfl, fun a ha => by rw [List.mem_singleton.mp ha]; exact hz⟩, fun b u h _ _ => upd_some hz h, fun b h => upd_thr h⟩
      have hm2 : KvR X.K g.ca av μ H (mergeK [] kvs) (mergeD [] kds0) := hk.merge .nil
      have ro : RpO X.K g.ca av (μ ++ [z]) (upd H z (.dK (mergeK [] kvs))) z (.dK ((mergeK [] kvs).map (·.1)) ((mergeD [] kds0).map (·.2))) := .dK upd_same (RpL.mono x0 hm2.vals)
      rw [hm2.keys] at ro
      obtain ⟨r2, e2'⟩ := rl.push hz ro
      refine p _ _ (μ ++ [z]) e2' r2 (.loc ?_)
      rw [← rl.len, List.getElem?_append_right (Nat.le_refl _), Nat.sub_self]
      rfl
  · cases hm⟩
/-- list(dict) -/
def dListD (st : List Ob) : List D → Option D
  | [x] => (dctOf st x).map fun p => .lst (p.1.map kD)
  | _ => none
theorem keys_rp {K : PySem.W.Frag} {ca : Str → Addr} {av μ : List Addr} {H : Hp} : ∀ ks : List L2.Key, RpL K ca av μ H (ks.map kV) (ks.map kD)
  | [] => .nil
  | k :: ks => .cons (kD_rp k) (keys_rp ks)
theorem cd_listD (hc : X.calm = true) : CallD g X (.type "list") (liftL dListD) := calld (call_list_dK hc) fun av μ H Q st xs ds d rl rx hm p => by
  unfold dListD at hm
  split at hm
  · rename_i x
    obtain ⟨⟨ks, vs⟩, e1, e⟩ := Option.map_eq_some_iff.mp hm
    subst e
    obtain ⟨v, rfl, hv⟩ := rpl1 rx
    obtain ⟨ad, kvs, rfl, hH, rfl, l⟩ := dct_of rl hv e1
    refine ⟨ad, kvs, rfl, hH, fun q hq => p.newO rl hq (rp_newL rl hq ?_)⟩
    have := keys_rp (K := X.K) (ca := g.ca) (av := av) (μ := μ) (H := H) (kvs.map (·.1))
    rw [List.map_map] at this
    exact this
  · cases hm
end
end MM
set_option autoImplicit false
set_option maxRecDepth 100000
set_option maxHeartbeats 4000000
/-! M17: chains, globals, three names at once, minus, a text repeated. -/
namespace MM
open PySem PySem.Spec PyProof.Rows L2 LamX NdefX
section
variable {g : G} {X : Cx} {a b c e : Expr} {ma mb mc : Ev → Mo D} {pos : Pos}
def xChain (m1 m2 : D → D → Mo D) (ma mb mc : Ev → Mo D) : Ev → Mo D := fun ρ => (ma ρ).bind fun x => (mb ρ).bind fun y => (m1 x y).bind fun r => match r with
  | .bl k => if k = true then (mc ρ).bind fun z => m2 y z else Mo.pure (.bl false)
  | _ => Mo.fail
theorem sem_chain {m1 m2 : D → D → Mo D} {r r' : R2} {ta tb tc : TE}
    (s1 : ∀ (av μ : List Addr) (H : Hp) (Q : VK) (st : List Ob) (x y : V) (dx dy d : D) (st' : List Ob), Rel X.K g av μ st H → Rp X.K g.ca av μ H x dx → Rp X.K g.ca av μ H y dy → m1 dx dy st = some (d, st') → Post X.K g av μ H d st' Q → r x y H Q)
    (s2 : ∀ (av μ : List Addr) (H : Hp) (Q : VK) (st : List Ob) (x y : V) (dx dy d : D) (st' : List Ob), Rel X.K g av μ st H → Rp X.K g.ca av μ H x dx → Rp X.K g.ca av μ H y dy → m2 dx dy st = some (d, st') → Post X.K g av μ H d st' Q → r' x y H Q)
    (sa : SemE X.K g ta ma) (sb : SemE X.K g tb mb) (sc : SemE X.K g tc mc) : SemE X.K g (tChain r r' ta tb tc) (xChain m1 m2 ma mb mc) := fun av μ σ H Q ρ st d st' rl er hm p => by
  obtain ⟨dx, st1, h1, hm⟩ := Mo.bind_some hm
  obtain ⟨dy, st2, h2, hm⟩ := Mo.bind_some hm
  obtain ⟨dr, st3, h3, hm⟩ := Mo.bind_some hm
  refine sa av μ σ H _ ρ st dx st1 rl er h1 fun x H1 μ1 e1 r1 q1 => ?_
  refine sb av μ1 σ H1 _ ρ st1 dy st2 r1 (er.mono e1) h2 fun y H2 μ2 e2 r2 q2 => ?_
  refine s1 av μ2 H2 _ st2 x y dx dy dr st3 r2 (q1.mono e2) q2 h3 fun z H3 μ3 e3 r3 q3 => ?_
  cases dr with
  | bl k =>
    cases q3
    refine ⟨k, rfl, ?_⟩
    cases k with
    | true =>
      rw [if_pos rfl]
      obtain ⟨dz, st4, h4, hm⟩ := Mo.bind_some hm
      refine sc av μ3 σ H3 _ ρ st3 dz st4 r3 (er.mono ((e1.trans e2).trans e3)) h4 fun w H4 μ4 e4 r4 q4 => ?_
      exact s2 av μ4 H4 Q st4 y w dy dz d st' r4 (q2.mono (e3.trans e4)) q4 hm (p.mono (((e1.trans e2).trans e3).trans e4))
    | false =>
      rw [if_neg (by decide)]
      obtain ⟨z1, z2⟩ := Mo.pure_some hm
      subst z1 z2
      exact p _ H3 μ3 ((e1.trans e2).trans e3) r3 (.bl false)
  | _ => cases hm
theorem ev_chain {op op' : CmpOp} {m1 m2 : D → D → Mo D} (h1 : OpD g X (compareOp op) m1) (h2 : OpD g X (compareOp op') m2) (ha : EV g X a ma) (hb : EV g X b mb) (hc : EV g X c mc) (hm : lastMarks [op, op'] [b, c] = false := by with_unfolding_all rfl) :
    EV g X (.Compare a [op, op'] [b, c] pos) (xChain m1 m2 ma mb mc) := by
  obtain ⟨r1, o1, s1⟩ := h1
  obtain ⟨r2, o2, s2⟩ := h2
  obtain ⟨ta, pa, sa⟩ := ha.ex
  obtain ⟨tb, pb, sb⟩ := hb.ex
  obtain ⟨tc, pc, sc⟩ := hc.ex
  exact ⟨_, pe_chain o1 o2 pa pb pc hm, sem_chain s1 s2 sa sb sc⟩
theorem tv_chain {op op' : CmpOp} {m1 m2 : D → D → Mo D} (h1 : OpD g X (compareOp op) m1) (h2 : OpD g X (compareOp op') m2) (ha : EV g X a ma) (hb : EV g X b mb) (hc : EV g X c mc) (hm : lastMarks [op, op'] [b, c] = false := by with_unfolding_all rfl) :
    TV g X (.Compare a [op, op'] [b, c] pos) (asB (xChain m1 m2 ma mb mc)) := by
  obtain ⟨r1, o1, s1⟩ := h1
  obtain ⟨r2, o2, s2⟩ := h2
  obtain ⟨ta, pa, sa⟩ := ha.ex
  obtain ⟨tb, pb, sb⟩ := hb.ex
  obtain ⟨tc, pc, sc⟩ := hc.ex
  exact ⟨_, pt_chain o1 o2 pa pb pc hm, semB (sem_chain s1 s2 sa sb sc)⟩
/-! ### names of the module -/
theorem ev_ty {x : Str} {T : String} (hg : Gl X x) (hm : X.mg x = none) (hv : bootBuiltins x = some (.type T)) (hn : x ≠ "__name__" := by decide) (hd : (x == ("__debug__" : Str)) = false := by decide) : EV g X (.Name x pos) (xC (.ty T)) :=
  ev_c (pe_bltn hg hm hv (v := .ty T) rfl hn hd) fun _ _ _ => .ty T
theorem ev_cls {x c : Str} (hg : Gl X x) (hm : X.mg x = some (.ref (g.ca c))) (hd : (x == ("__debug__" : Str)) = false := by decide) : EV g X (.Name x pos) (xC (.cls c)) :=
  ev_c (pe_glob hg hm (v := .ref (g.ca c)) rfl hd) fun _ _ _ => .cls c
theorem ev_gint {x : Str} {i : Int} (hg : Gl X x) (hm : ∃ t, X.mg x = some (.int i t)) (hd : (x == ("__debug__" : Str)) = false := by decide) : EV g X (.Name x pos) (xC (.int i)) := by
  obtain ⟨t, hm⟩ := hm
  exact ev_c (pe_glob hg hm (v := .int i) ⟨t, rfl⟩ hd) fun _ _ _ => .int i
theorem ev_gstr {x : Str} {i : Str} (hg : Gl X x) (hm : ∃ t, X.mg x = some (.str i t)) (hd : (x == ("__debug__" : Str)) = false := by decide) : EV g X (.Name x pos) (xC (.str i)) := by
  obtain ⟨t, hm⟩ := hm
  exact ev_c (pe_glob hg hm (v := .str i) ⟨t, rfl⟩ hd) fun _ _ _ => .str i
/-- a tuple of texts -/
theorem ev_gtup {x : Str} {ts : List Str} (hg : Gl X x) (hm : ∃ a, X.mg x = some (.ref a) ∧ ∀ H, SqT X.K H a (ts.map V.str)) (hd : (x == ("__debug__" : Str)) = false := by decide) : EV g X (.Name x pos) (xC (.tup (ts.map D.str))) := by
  obtain ⟨a, hm, hs⟩ := hm
  exact ev_c (pe_glob hg hm (v := .ref a) rfl hd) fun av μ H => .tup (hs H) (rpl_strs ts)
/-! ### minus -/
def dNeg : D → Option D
  | .int i => some (.int (-i))
  | _ => none
def xNeg (m : Ev → Mo D) : Ev → Mo D := fun ρ => (m ρ).bind fun x st => (dNeg x).map fun d => (d, st)
theorem ev_neg (ha : EV g X a ma) : EV g X (.UnaryOp .USub a pos) (xNeg ma) := by
  obtain ⟨ta, pa, sa⟩ := ha.ex
  refine ⟨_, pe_un un_neg pa, fun av μ σ H Q ρ st d st' rl er hm p => ?_⟩
  obtain ⟨x, s1, h1, hm⟩ := Mo.bind_some hm
  refine sa av μ σ H _ ρ st x s1 rl er h1 fun v H1 μ1 e1 r1 q1 => ?_
  cases x with
  | int i =>
    cases hm
    cases q1
    exact ⟨i, rfl, (p.mono e1).here r1 (.int _)⟩
  | _ => cases hm
/-! ### a text repeated -/
def strRep (n : Nat) (x : Str) : Str := ⟨(List.replicate n x.cps).foldl (· ++ ·) #[]⟩
def dRepS : D → D → Option D
  | .str x, .int i => if 2 ≤ i ∧ i ≤ 1000 ∧ 1 ≤ x.length ∧ x.length ≤ 1000 then some (.str (strRep i.toNat x)) else none
  | _, _ => none
theorem op_repS : OpR X (binaryOp .Mult) (fun x y H Q => ∃ z i, x = .str z ∧ y = .int i ∧ 2 ≤ i ∧ i ≤ 1000 ∧ 1 ≤ z.length ∧ z.length ≤ 1000 ∧ Q (.str (strRep i.toNat z)) H) := by
  intro pins s σ H x y v u Q I rx ry ⟨z, i, ex, ey, h1, h2, h3, h4, q⟩
  subst ex ey
  obtain ⟨t, rfl⟩ := rx
  obtain ⟨t', rfl⟩ := ry
  have hz : sizeLine = 16777216 := sizeLine_eq
  have hle : z.length * i.toNat ≤ 1000000 := by
    have : i.toNat ≤ 1000 := by omega
    exact Nat.le_trans (Nat.mul_le_mul h4 this) (by decide)
  have hlen : (strRep i.toNat z).length = z.length * i.toNat := by
    have gen : ∀ (n : Nat) (acc : Array Nat), ((List.replicate n z.cps).foldl (· ++ ·) acc).size = acc.size + z.cps.size * n := by
      intro n
      induction n with
      | zero => intro acc; simp
      | succ n ih =>
        intro acc
        rw [List.replicate_succ, List.foldl_cons, ih, Array.size_append, Nat.mul_succ]
        omega
    have := gen i.toNat #[]
    simpa [strRep, Str.length] using this
  refine PySem.P.mul_str (by
    rw [decide_eq_false (by omega), decide_eq_false (by omega)]; rfl) (fun _ _ => ?_) (fun _ _ => ?_) ?_
  · have : (z.length : Int) * i ≤ 2 ^ 63 - 1 := by
      have e : ((z.length * i.toNat : Nat) : Int) = (z.length : Int) * i := by
        rw [Int.natCast_mul, Int.toNat_of_nonneg (by omega)]
      omega
    exact Int.not_lt.mpr (Int.le_ediv_of_mul_le (by omega) this)
  · first | unfold PySem.Builtin.Str.tooLong | unfold Builtin.Str.tooLong
    simp only [decide_eq_false_iff_not]
    omega
  · rw [if_neg (by omega), if_neg (by
      simp only [Bool.or_eq_true, beq_iff_eq]
      omega)]
    refine ⟨by rw [hz]; show (strRep i.toNat z).length ≤ _; omega, ?_⟩
    exact ⟨.str (strRep i.toNat z), H, I.tok _, ⟨_, rfl⟩, q⟩
theorem od_repS : OpD g X (binaryOp .Mult) (lift2 dRepS) := opd_lift op_repS fun av μ H Q st x y dx dy d rl rx ry hm p => by
  unfold dRepS at hm
  split at hm
  · split at hm
    · rename_i h
      cases hm
      cases rx
      cases ry
      exact ⟨_, _, rfl, rfl, h.1, h.2.1, h.2.2.1, h.2.2.2, p.here rl (.str _)⟩
    · cases hm
  · cases hm
/-! ### three names at once -/
def yPar3 (i j l : Nat) (m : Ev → Mo (List D)) : Ev → Mo Out := fun ρ => (m ρ).bind fun ds => match ds with
  | [a, b, c] => Mo.pure (.nx (((ρ.set i (some (.d a))).set j (some (.d b))).set l (some (.d c))))
  | _ => Mo.fail
theorem sv_par3 {i j l : Nat} {x y z : Str} {m : Ev → Mo (List D)} {px py pz pt : Pos} {kt : Nat} {k2 : Nat} {pt2 : Pos} (hc : X.calm = true) (hN : X.N.Nodup) (hi : X.N[i]? = some x) (hj : X.N[j]? = some y) (hl : X.N[l]? = some z) (hij : i ≠ j) (hil : i ≠ l) (hjl : j ≠ l)
    (hx : X.env.scope.names.lookup x = some .local) (hy : X.env.scope.names.lookup y = some .local) (hz : X.env.scope.names.lookup z = some .local) (ha : AV g X [a, b, c] m)
    (hw : swappedStores [.Tuple [.Name x px, .Name y py, .Name z pz] kt pt] (.Tuple [a, b, c] k2 pt2) X.env = pure (some [x, y, z]) := by rfl)
    (hs : swapsWithSole [.Tuple [.Name x px, .Name y py, .Name z pz] kt pt] (.Tuple [a, b, c] k2 pt2) pos.line X.env = pure false := by rfl) :
    SV g X (.Assign [.Tuple [.Name x px, .Name y py, .Name z pz] kt pt] (.Tuple [a, b, c] k2 pt2) pos) (yPar3 i j l m) := by
  obtain ⟨t, p, s⟩ := ha.ex
  refine ⟨_, ps_par3 hc hN hi hj hl hij hil hjl hx hy hz p hw hs, fun av μ σ H E ρ st o st' rl er hm q => ?_⟩
  obtain ⟨ds, st1, e1, hm⟩ := Mo.bind_some hm
  refine s av μ σ H _ ρ st ds st1 rl er e1 fun vs H1 μ1 x1 r1 q1 => ?_
  cases q1 with
  | nil => cases hm
  | cons p1 q1 =>
    cases q1 with
    | nil => cases hm
    | cons p2 q1 =>
      cases q1 with
      | nil => cases hm
      | cons p3 q1 =>
        cases q1 with
        | nil =>
          obtain ⟨z1, z2⟩ := Mo.pure_some hm
          subst z1 z2
          exact ⟨_, _, _, rfl, q _ H1 μ1 x1 r1 ((((er.mono x1).set p1 i).set p2 j).set p3 l)⟩
        | cons _ _ => cases hm
end
/-! a row of so many items -/
theorem len0 {α : Type} {P : List α → Prop} (h : P []) : ∀ us : List α, us.length = 0 → P us := fun us e => by
  match us, e with
  | [], _ => exact h
theorem len1 {α : Type} {P : List α → Prop} (h : ∀ a0 : α, P [a0]) : ∀ us : List α, us.length = 1 → P us := fun us e => by
  match us, e with
  | [a0], _ => exact h a0
theorem len2 {α : Type} {P : List α → Prop} (h : ∀ a0 a1 : α, P [a0, a1]) : ∀ us : List α, us.length = 2 → P us := fun us e => by
  match us, e with
  | [a0, a1], _ => exact h a0 a1
theorem len3 {α : Type} {P : List α → Prop} (h : ∀ a0 a1 a2 : α, P [a0, a1, a2]) : ∀ us : List α, us.length = 3 → P us := fun us e => by
  match us, e with
  | [a0, a1, a2], _ => exact h a0 a1 a2
theorem len4 {α : Type} {P : List α → Prop} (h : ∀ a0 a1 a2 a3 : α, P [a0, a1, a2, a3]) : ∀ us : List α, us.length = 4 → P us := fun us e => by
  match us, e with
  | [a0, a1, a2, a3], _ => exact h a0 a1 a2 a3
theorem len5 {α : Type} {P : List α → Prop} (h : ∀ a0 a1 a2 a3 a4 : α, P [a0, a1, a2, a3, a4]) : ∀ us : List α, us.length = 5 → P us := fun us e => by
  match us, e with
  | [a0, a1, a2, a3, a4], _ => exact h a0 a1 a2 a3 a4
theorem len6 {α : Type} {P : List α → Prop} (h : ∀ a0 a1 a2 a3 a4 a5 : α, P [a0, a1, a2, a3, a4, a5]) : ∀ us : List α, us.length = 6 → P us := fun us e => by
  match us, e with
  | [a0, a1, a2, a3, a4, a5], _ => exact h a0 a1 a2 a3 a4 a5
theorem len7 {α : Type} {P : List α → Prop} (h : ∀ a0 a1 a2 a3 a4 a5 a6 : α, P [a0, a1, a2, a3, a4, a5, a6]) : ∀ us : List α, us.length = 7 → P us := fun us e => by
  match us, e with
  | [a0, a1, a2, a3, a4, a5, a6], _ => exact h a0 a1 a2 a3 a4 a5 a6
theorem len8 {α : Type} {P : List α → Prop} (h : ∀ a0 a1 a2 a3 a4 a5 a6 a7 : α, P [a0, a1, a2, a3, a4, a5, a6, a7]) : ∀ us : List α, us.length = 8 → P us := fun us e => by
  match us, e with
  | [a0, a1, a2, a3, a4, a5, a6, a7], _ => exact h a0 a1 a2 a3 a4 a5 a6 a7
theorem len9 {α : Type} {P : List α → Prop} (h : ∀ a0 a1 a2 a3 a4 a5 a6 a7 a8 : α, P [a0, a1, a2, a3, a4, a5, a6, a7, a8]) : ∀ us : List α, us.length = 9 → P us := fun us e => by
  match us, e with
  | [a0, a1, a2, a3, a4, a5, a6, a7, a8], _ => exact h a0 a1 a2 a3 a4 a5 a6 a7 a8
end MM
set_option autoImplicit false
set_option maxRecDepth 100000
set_option maxHeartbeats 4000000
/-! MLh: the head's hook with property getters; promises from the head's facts. -/
namespace MM
open PySem PySem.Spec PyProof.Rows L2 LamX NdefX
/-- a property's getter: the class, the name, the def's words -/
structure GetD where
  cls : Str
  f : Str
  name : Str
  qual : Str
  params : Arguments
  body : List Stmt
  scope : Scope
def gAd (K : PySem.W.Frag) (c f : Str) : Addr := match PySem.W.recIn K (He.ma K (He.ga K c) f) "property" with
  | some (.ref a :: _) => a
  | _ => 0
def fnWA (K : PySem.W.Frag) (a : Addr) : He.FnW := match K.lookup a with
  | some ⟨_, _, .func fd, _⟩ => some (fd.name, fd.qualname, fd.params, fd.body, fd.scope, fd.globals, fd.closure, fd.builtins)
  | _ => none
def GetD.val (d : GetD) : He.FnW := some (d.name, d.qual, d.params, .stmts d.body, d.scope, mainGlobals, [], builtinsNs)
def GetD.fok (K : PySem.W.Frag) (d : GetD) : Bool := PySem.W.keepIn K (.ref (gAd K d.cls d.f)) && (match K.lookup (gAd K d.cls d.f) with
  | some ⟨_, _, .func fd, _⟩ => PySem.W.codeIn K fd.code d.qual && (He.dflB K fd.defaults [] && He.kwdB K fd.kwdefaults [])
  | _ => false)
def GetD.pok (K : PySem.W.Frag) (d : GetD) : Bool := He.eqO (PySem.W.findIn K (.ref (He.ga K d.cls)) d.f) (some (some (.ref (He.ma K (He.ga K d.cls) d.f)))) && (He.eqO (PySem.W.specialIn K (.ref (He.ma K (He.ga K d.cls) d.f)) "__get__") (some (some (.builtin "property.__get__"))) &&
  (decide (PySem.W.takesIn K (.ref (He.ma K (He.ga K d.cls) d.f)) = some true) && (match PySem.W.recIn K (He.ma K (He.ga K d.cls) d.f) "property" with
  | some (.ref _ :: _) => true
  | _ => false)))
theorem getD_fun {K : PySem.W.Frag} {d : GetD} (e : fnWA K (gAd K d.cls d.f) = d.val) (c : d.fok K = true) : ∃ fd, FunD K d.name d.qual d.params d.body d.scope [] [] (gAd K d.cls d.f) fd := by
  obtain ⟨kp, c2⟩ := He.ba c
  unfold fnWA at e
  cases q : K.lookup (gAd K d.cls d.f) with
  | none =>
    rw [q] at c2
    cases c2
  | some o =>
    obtain ⟨oc, od, dt, osl⟩ := o
    rw [q] at c2 e
    cases dt with
    | func fd =>
      obtain ⟨n1, n2, n3, n4, n5, n6, n7, n8, n9, n10, n11, n12, n13, n14, n15⟩ := fd
      have e2 : (some (n1, n2, n3, n4, n5, n6, n7, n15) : He.FnW) = some (d.name, d.qual, d.params, .stmts d.body, d.scope, mainGlobals, [], builtinsNs) := e
      simp only [Option.some.injEq, Prod.mk.injEq] at e2
      obtain ⟨h1, h2, h3, h4, h5, h6, h7, h8⟩ := e2
      subst h1 h2 h3 h4 h5 h6 h7 h8
      obtain ⟨k1, k2⟩ := He.ba (show (PySem.W.codeIn K n13 d.qual && (He.dflB K n8 [] && He.kwdB K n9 [])) = true from c2)
      obtain ⟨k3, k4⟩ := He.ba k2
      exact ⟨_, ⟨oc, od, n8, n9, n10, n11, n12, n13, n14, osl, rfl, q, k1, He.dflB_ok k3, He.kwdB_ok k4⟩, kp⟩
    | _ => cases c2
theorem getD_prop {K : PySem.W.Frag} {d : GetD} (c : d.pok K = true) : PropOf K (He.ga K d.cls) d.f (He.ma K (He.ga K d.cls) d.f) (gAd K d.cls d.f) := by
  obtain ⟨h1, h2⟩ := He.ba c
  obtain ⟨h3, h4⟩ := He.ba h2
  obtain ⟨h5, h6⟩ := He.ba h4
  refine ⟨He.eqO_ok h1, He.eqO_ok h3, of_decide_eq_true h5, ?_⟩
  unfold gAd
  cases e : PySem.W.recIn K (He.ma K (He.ga K d.cls) d.f) "property" with
  | none => rw [e] at h6; cases h6
  | some l =>
    rw [e] at h6
    cases l with
    | nil => cases h6
    | cons v r =>
      cases v with
      | ref a => exact ⟨r, rfl⟩
      | _ => cases h6
/-! ### the hook -/
abbrev AlP : Type := He.AlX × (Bool × List He.FnW)
def obsG (gs : List GetD) (K : PySem.W.Frag) : Bool × List He.FnW := (gs.all fun d => d.fok K && d.pok K, gs.map fun d => fnWA K (gAd K d.cls d.f))
structure SaysP (fa : List He.Fa) (fn : List He.DefD) (tf : List He.Defn) (gs : List GetD) (ex : PySem.W.Frag → Bool) (w : World) (h : Heap) (K : PySem.W.Frag) : Prop where
  x : He.SaysX fa fn [] tf ex w h K
  g : obsG gs K = (true, gs.map GetD.val)
def obsP (n : Nat) (fa : List He.Fa) (fn : List He.DefD) (tf : List He.Defn) (gs : List GetD) (ex : PySem.W.Frag → Bool) (g : Addr → Option Obj) : AlP := (He.obsX n fa fn [] tf ex g, obsG gs (He.frT g (He.asD g n)))
def hookP (n : Nat) (fa : List He.Fa) (fn : List He.DefD) (tf : List He.Defn) (gs : List GetD) (ex : PySem.W.Frag → Bool) : PySem.W.Hook where
  α := AlP
  obs := fun s => obsP n fa fn tf gs ex s.heap.get?
  val := fun w => (He.valX fn [] w, (true, gs.map GetD.val))
  says := fun w h => ∃ K : PySem.W.Frag, K.In h ∧ SaysP fa fn tf gs ex w h K
  of := fun _ _ e => ⟨_, He.frT_in, He.saysX_of (congrArg Prod.fst e), congrArg Prod.snd e⟩
  keeps := fun _ _ _ ⟨K, hK, c⟩ k => ⟨K, PySem.W.Frag.In.keeps hK k, ⟨⟨c.x.t, c.x.more, c.x.hd, c.x.out, fun p hp => k _ _ (c.x.empty p hp)⟩, c.g⟩⟩
theorem obsP_eq {n : Nat} {fa : List He.Fa} {fn : List He.DefD} {tf : List He.Defn} {gs : List GetD} {ex : PySem.W.Frag → Bool} {g : Addr → Option Obj} {s : Shared} (h : ∀ a, g a = s.heap.get? a) : obsP n fa fn tf gs ex g = (hookP n fa fn tf gs ex).obs s := by
  have e : g = s.heap.get? := funext h
  rw [e] <;> rfl
section
variable {fa : List He.Fa} {fn : List He.DefD} {tf : List He.Defn} {gs : List GetD} {ex : PySem.W.Frag → Bool} {w : World} {h : Heap} {K : PySem.W.Frag}
theorem SaysP.getter (c : SaysP fa fn tf gs ex w h K) {d : GetD} (hd : d ∈ gs) : (∃ fd, FunD K d.name d.qual d.params d.body d.scope [] [] (gAd K d.cls d.f) fd) ∧ PropOf K (He.ga K d.cls) d.f (He.ma K (He.ga K d.cls) d.f) (gAd K d.cls d.f) := by
  have e1 : (gs.all fun d => d.fok K && d.pok K) = true := congrArg Prod.fst c.g
  have e2 : (gs.map fun d => fnWA K (gAd K d.cls d.f)) = gs.map GetD.val := congrArg Prod.snd c.g
  obtain ⟨h1, h2⟩ := He.ba (List.all_eq_true.mp e1 d hd)
  exact ⟨getD_fun (List.map_inj_left.mp e2 d hd) h1, getD_prop h2⟩
theorem SaysP.fact (c : SaysP fa fn tf gs ex w h K) {f : He.Fa} (hf : f ∈ fa) : f.ok K = true := He.SaysD.facts (congrArg Prod.fst c.x.t) hf
theorem SaysP.def_ (c : SaysP fa fn tf gs ex w h K) {d : He.DefD} (hd : d ∈ fn) : ∃ fd, FunD K d.name d.qual d.params d.body d.scope (d.dvs K) (d.kws K) (He.fAd K d.at_) fd := He.SaysD.defs (congrArg Prod.fst c.x.t) hd
end
/-! ### promises -/
section
variable {P : Program} {w : World} {K : PySem.W.Frag} {mg : Str → Option Value} {base : Heap} {g : G}
/-- a def that makes lambdas: its code object is told -/
theorem fn_okC {pp : Str × Option Str} {x qual : Str} {params : Arguments} {body : List Stmt} {scope : Scope} {fd : FuncData} {N ps : List Str} {k : Nat} {m : Ev → Mo Out}
    (F : FunD K x qual params body scope [] [] (He.fAd K pp) fd) (S : FnScope N ps scope)
    (hb : ∀ (A : Around) (outer : List Env) (s : Shared) (H : Hp) (E : XK), Room k (A.deeper (envOfC qual scope s.heap.objs.size (He.fAd K pp) (.ref (He.codeOf K pp)))) → BV g (cxOf C8.CX0 P w K mg base N qual scope (He.fAd K pp) (.ref (He.codeOf K pp)) A outer s H E) body m) :
    FnOk P w K mg base C8.CX0 (k + 1) (He.fAd K pp) fd ps (SpG K g ps.length (runF N.length m)) := by
  obtain ⟨oc, od, dV, kV, doc, pm, an, cdv, ct, osl, rfl, lk, hcd, _, _⟩ := F.ex
  obtain ⟨c, hc⟩ := He.codeIn_ref hcd
  have e : cdv = .ref (He.codeOf K pp) := by
    rw [He.codeOf_eq lk hc]
    exact hc
  subst e
  exact fn_of lk hcd S (fun vs H Q E h => h.1) fun A outer s H vs Q E hr h => by
    obtain ⟨_, av, μ, st, as, d, st', rl, ra, hm, p⟩ := h
    exact body_ok (hb A outer s H E hr) rl ra hm p
theorem cal_ofC {pp : Str × Option Str} {x : Str} {params : Arguments} {body : List Stmt} {scope : Scope} {fd : FuncData} {N ps : List Str} {k n : Nat} {m : Ev → Mo Out}
    (F : FunD K x x params body scope [] [] (He.fAd K pp) fd) (hm : mg x = some (.ref (He.fAd K pp))) (hs : C8.scC N ps scope = true) (hn : ps.length = n)
    (hbd : ∀ (kV doc pm : Value) (an : Option Addr) (cdv ct : Value) (us : List Value), us.length = ps.length → bindArgs (PySem.W.fnOf x x params body scope .none kV doc pm an cdv ct) ⟨us, []⟩ = pure (ps.zip us))
    (hb : ∀ (A : Around) (outer : List Env) (s : Shared) (H : Hp) (E : XK), Room k (A.deeper (envOfC x scope s.heap.objs.size (He.fAd K pp) (.ref (He.codeOf K pp)))) → BV g (cxOf C8.CX0 P w K mg base N x scope (He.fAd K pp) (.ref (He.codeOf K pp)) A outer s H E) body m) :
    Cal P w K mg base g (k + 1) x n (runF N.length m) := by
  subst hn
  exact ⟨_, fd, ps, fn_okC F (C8.fnScope_by hs) hb, hm, F.kp, F.bindsN hbd⟩
theorem prop_of {c f x qual : Str} {params : Arguments} {body : List Stmt} {scope : Scope} {p ga : Addr} {fd : FuncData} {N ps : List Str} {k : Nat} {m : Ev → Mo Out}
    (F : FunD K x qual params body scope [] [] ga fd) (hp : PropOf K (g.ca c) f p ga) (hc : Cls K (g.ca c)) (hs : C8.scC N ps scope = true) (hn : ps.length = 1)
    (hbd : ∀ (kV doc pm : Value) (an : Option Addr) (cdv ct : Value) (us : List Value), us.length = ps.length → bindArgs (PySem.W.fnOf x qual params body scope .none kV doc pm an cdv ct) ⟨us, []⟩ = pure (ps.zip us))
    (hb : ∀ (cdv : Value) (A : Around) (outer : List Env) (s : Shared) (H : Hp) (E : XK), Room k (A.deeper (envOfC qual scope s.heap.objs.size ga cdv)) → BV g (cxOf C8.CX0 P w K mg base N qual scope ga cdv A outer s H E) body m) :
    PropC P w K mg base g (k + 1) c f (runF N.length m) := by
  have := fn_ok (g := g) F (C8.fnScope_by hs) hb
  rw [hn] at this
  exact ⟨⟨p, ga, fd, ps, hp, this, F.bindsN hbd⟩, hc⟩
theorem mak_of {x c nm qual : Str} {params : Arguments} {body : List Stmt} {scope : Scope} {f : Addr} {fd : FuncData} {N ps : List Str} {k n : Nat} {m : Ev → Mo Out}
    (F : FunD K nm qual params body scope [] [] f fd) (M : Mk K (g.ca c) f) (hm : mg x = some (.ref (g.ca c))) (hs : C8.scC N ps scope = true) (hn : ps.length = n + 1)
    (hbd : ∀ (kV doc pm : Value) (an : Option Addr) (cdv ct : Value) (us : List Value), us.length = ps.length → bindArgs (PySem.W.fnOf nm qual params body scope .none kV doc pm an cdv ct) ⟨us, []⟩ = pure (ps.zip us))
    (hb : ∀ (cdv : Value) (A : Around) (outer : List Env) (s : Shared) (H : Hp) (E : XK), Room k (A.deeper (envOfC qual scope s.heap.objs.size f cdv)) → BV g (cxOf C8.CX0 P w K mg base N qual scope f cdv A outer s H E) body m) :
    MakC P w K mg base g (k + 1) x c n (runF N.length m) := by
  have := fn_ok (g := g) F (C8.fnScope_by hs) hb
  rw [hn] at this
  exact ⟨f, fd, ps, M, this, hm, F.bindsN hbd⟩
theorem makK_of {x c nm qual : Str} {params : Arguments} {body : List Stmt} {scope : Scope} {f : Addr} {fd : FuncData} {N ps ks : List Str} {is : List Nat} {k n : Nat} {m : Ev → Mo Out}
    (F : FunD K nm qual params body scope [] [] f fd) (M : Mk K (g.ca c) f) (hm : mg x = some (.ref (g.ca c))) (hs : C8.scC N ps scope = true) (hn : ps.length = n + 1)
    (hbd : ∀ (kV doc pm : Value) (an : Option Addr) (cdv ct : Value) (us ws : List Value), us.length = 1 → ws.length = ks.length → bindArgs (PySem.W.fnOf nm qual params body scope .none kV doc pm an cdv ct) ⟨us, ks.zip ws⟩ = pure (ps.zip (us ++ pick is ws)))
    (hb : ∀ (cdv : Value) (A : Around) (outer : List Env) (s : Shared) (H : Hp) (E : XK), Room k (A.deeper (envOfC qual scope s.heap.objs.size f cdv)) → BV g (cxOf C8.CX0 P w K mg base N qual scope f cdv A outer s H E) body m) :
    MakK P w K mg base g (k + 1) x c n ks is (runF N.length m) := by
  have := fn_ok (g := g) F (C8.fnScope_by hs) hb
  rw [hn] at this
  exact ⟨f, fd, ps, M, this, hm, kbn_of F hbd⟩
theorem eq_of {c nm qual : Str} {params : Arguments} {body : List Stmt} {scope : Scope} {f : Addr} {fd : FuncData} {N ps : List Str} {k : Nat} {m : Ev → Mo Out}
    (F : FunD K nm qual params body scope [] [] f fd) (M : EqF K (g.ca c) f) (hs : C8.scC N ps scope = true) (hn : ps.length = 2)
    (hbd : ∀ (kV doc pm : Value) (an : Option Addr) (cdv ct : Value) (us : List Value), us.length = ps.length → bindArgs (PySem.W.fnOf nm qual params body scope .none kV doc pm an cdv ct) ⟨us, []⟩ = pure (ps.zip us))
    (hb : ∀ (cdv : Value) (A : Around) (outer : List Env) (s : Shared) (H : Hp) (E : XK), Room k (A.deeper (envOfC qual scope s.heap.objs.size f cdv)) → BV g (cxOf C8.CX0 P w K mg base N qual scope f cdv A outer s H E) body m) :
    EqC P w K mg base g (k + 1) c (runF N.length m) := by
  have := fn_ok (g := g) F (C8.fnScope_by hs) hb
  rw [hn] at this
  exact ⟨f, fd, ps, M, this, F.bindsN hbd⟩
variable {k j n : Nat} {c f x : Str} {md md' : List A → Mo D} {ks : List Str} {is : List Nat}
theorem PropC.imp (o : PropC P w K mg base g k c f md) (hk : k ≤ j) (h : ∀ as st r, as.length = 1 → md' as st = some r → md as st = some r) : PropC P w K mg base g j c f md' := by
  obtain ⟨p, ga, fd, ps, hp, F, b⟩ := o.ex
  exact ⟨⟨p, ga, fd, ps, hp, (F.imp (spG_imp h)).mono hk, b⟩, o.cl⟩
theorem MakC.imp (o : MakC P w K mg base g k x c n md) (hk : k ≤ j) (h : ∀ as st r, as.length = n + 1 → md' as st = some r → md as st = some r) : MakC P w K mg base g j x c n md' := by
  obtain ⟨f, fd, ps, M, F, hm, b⟩ := o.ex
  exact ⟨f, fd, ps, M, (F.imp (spG_imp h)).mono hk, hm, b⟩
theorem MakK.imp (o : MakK P w K mg base g k x c n ks is md) (hk : k ≤ j) (h : ∀ as st r, as.length = n + 1 → md' as st = some r → md as st = some r) : MakK P w K mg base g j x c n ks is md' := by
  obtain ⟨f, fd, ps, M, F, hm, b⟩ := o.ex
  exact ⟨f, fd, ps, M, (F.imp (spG_imp h)).mono hk, hm, b⟩
theorem EqC.imp (o : EqC P w K mg base g k c md) (hk : k ≤ j) (h : ∀ as st r, as.length = 2 → md' as st = some r → md as st = some r) : EqC P w K mg base g j c md' := by
  obtain ⟨f, fd, ps, M, F, b⟩ := o.ex
  exact ⟨f, fd, ps, M, (F.imp (spG_imp h)).mono hk, b⟩
theorem PropC.frz (o : PropC P w K mg base g k c f md) (i : Nat) : PropC P w K mg base g k c f (fun as => frzM i (md as)) := by
  obtain ⟨p, ga, fd, ps, hp, F, b⟩ := o.ex
  exact ⟨⟨p, ga, fd, ps, hp, F.imp (spG_frz i), b⟩, o.cl⟩
theorem MakC.frz (o : MakC P w K mg base g k x c n md) (i : Nat) : MakC P w K mg base g k x c n (fun as => frzM i (md as)) := by
  obtain ⟨f, fd, ps, M, F, hm, b⟩ := o.ex
  exact ⟨f, fd, ps, M, F.imp (spG_frz i), hm, b⟩
theorem MakK.frz (o : MakK P w K mg base g k x c n ks is md) (i : Nat) : MakK P w K mg base g k x c n ks is (fun as => frzM i (md as)) := by
  obtain ⟨f, fd, ps, M, F, hm, b⟩ := o.ex
  exact ⟨f, fd, ps, M, F.imp (spG_frz i), hm, b⟩
theorem EqC.frz (o : EqC P w K mg base g k c md) (i : Nat) : EqC P w K mg base g k c (fun as => frzM i (md as)) := by
  obtain ⟨f, fd, ps, M, F, b⟩ := o.ex
  exact ⟨f, fd, ps, M, F.imp (spG_frz i), b⟩
theorem PropC.mono (o : PropC P w K mg base g k c f md) (h : k ≤ j) : PropC P w K mg base g j c f md := o.imp h fun _ _ _ _ e => e
theorem MakC.mono (o : MakC P w K mg base g k x c n md) (h : k ≤ j) : MakC P w K mg base g j x c n md := o.imp h fun _ _ _ _ e => e
theorem MakK.mono (o : MakK P w K mg base g k x c n ks is md) (h : k ≤ j) : MakK P w K mg base g j x c n ks is md := o.imp h fun _ _ _ _ e => e
theorem EqC.mono (o : EqC P w K mg base g k c md) (h : k ≤ j) : EqC P w K mg base g j c md := o.imp h fun _ _ _ _ e => e
/-- a def that is never asked -/
theorem cal_none {x : Str} {params : Arguments} {body : List Stmt} {scope : Scope} {f : Addr} {fd : FuncData} {ps : List Str}
    (F : FunD K x x params body scope [] [] f fd) (hm : mg x = some (.ref f)) (hn : ps.length = n)
    (hbd : ∀ (kV doc pm : Value) (an : Option Addr) (cdv ct : Value) (us : List Value), us.length = ps.length → bindArgs (PySem.W.fnOf x x params body scope .none kV doc pm an cdv ct) ⟨us, []⟩ = pure (ps.zip us)) :
    Cal P w K mg base g k x n (fun _ _ => none) :=
  ⟨f, fd, ps, ⟨fun vs H Q E h => h.1.trans hn.symm, fun A outer s H args us vs Q E _ _ _ _ ⟨_, av, μ, st, as, d, st', _, _, e, _⟩ => by cases e⟩, hm, F.kp, F.bindsN hbd⟩
/-- the law's promise from what its mirror answers -/
theorem law_sp {md : List A → Mo D} {H : Hp} {a : Addr} {ns : List Int} {E : XK} (hT : TabsN g.T H) (hS : SqL K H a (ns.map V.int)) (hm : ∀ d : D, d = .ro (ns.map D.int) ∨ d = .lst (ns.map D.int) → ∃ st', md [.d d] [] = some (.bl true, st')) : SpG K g 1 md [.ref a] H (fun v _ => v = .bl true) E := by
  have hints : ∀ l : List Int, RpL K g.ca [] [] H (l.map V.int) (l.map D.int) := fun l => by
    induction l with
    | nil => exact .nil
    | cons i l ih => exact .cons (.int i) ih
  have rel : Rel K g [] [] [] H := ⟨rfl, .nil, fun b hb => (by cases hb), fun n b ob h1 _ => (by simp at h1), hT⟩
  have fin : ∀ d : D, Rp K g.ca [] [] H (.ref a) d → (∃ st', md [.d d] [] = some (.bl true, st')) → SpG K g 1 md [.ref a] H (fun v _ => v = .bl true) E := fun d rp ⟨st', e⟩ =>
    ⟨rfl, [], [], [], [.d d], .bl true, st', rel, .cons rp .nil, e, fun v H' μ' x r q => by cases q; rfl⟩
  rcases hS with (h | ⟨o, h⟩) | h
  · exact fin (.lst (ns.map D.int)) (.lst h (by simp) (by simp) (hints ns)) (hm _ (.inr rfl))
  · exact fin (.ro (ns.map D.int)) (.ro (.inl ⟨o, h⟩) (hints ns)) (hm _ (.inl rfl))
  · exact fin (.ro (ns.map D.int)) (.ro (.inr (.inr h)) (hints ns)) (hm _ (.inl rfl))
end
end MM
set_option autoImplicit false
set_option maxRecDepth 100000
set_option maxHeartbeats 4000000
/-! MX1: own errors whose __init__ says super().__init__() and stores one field. -/
namespace MM
open PySem PySem.Spec PyProof.Rows L2 LamX NdefX
theorem sup_eval (env : Env) (q1 q2 q3 q4 : Pos) (h : (q3.endLine == q4.line) = true) : eval (.Call (.Attribute (.Call (.Name "super" q1) [] [] q2) "__init__" q3) [] [] q4) env = (do
      let ov ← attributeBase (.Call (.Name "super" q1) [] [] q2) "__init__" env (eval (.Call (.Name "super" q1) [] [] q2) env)
      standAt q3.atName
      let (f, first) ← holding [ov] (getMethod ov "__init__" (do return (← importBound (.Call (.Name "super" q1) [] [] q2) env).getD true))
      callWith q4 f first (backTo q4 (starEach [] env)) []) := by
  have h1 : methodCallPos true (.Call (.Name "super" q1) [] [] q2) env q3 q4 = pure q4 := by
    unfold methodCallPos
    rw [h]
    rfl
  have h2 : ∀ ov, methodCall (.Call (.Name "super" q1) [] [] q2) "__init__" q3 q4 env ov 0 [] [] = (do
      let (f, first) ← holding [ov] (getMethod ov "__init__" (do return (← importBound (.Call (.Name "super" q1) [] [] q2) env).getD true))
      callWith q4 f first [] []) := fun ov => by
    unfold methodCall
    show (do
      let (f, first) ← holding [ov] (calleeOf true _ env ov "__init__")
      let callPos ← methodCallPos true (.Call (.Name "super" q1) [] [] q2) env q3 q4
      callWith callPos f first [] []) = _
    rw [h1]
    rfl
  show (do
    let ov ← attributeBase (.Call (.Name "super" q1) [] [] q2) "__init__" env (eval (.Call (.Name "super" q1) [] [] q2) env)
    standAt q3.atName
    methodCall (.Call (.Name "super" q1) [] [] q2) "__init__" q3 q4 env ov 0 [] []) = _
  simp only [h2]
  rfl
/-- the words of such an __init__, field f -/
def exA (f : Str) (p1 p2 : Pos) : Arguments := { posonlyargs := [], args := [{ arg := "self", annotation := none, pos := p1 }, { arg := f, annotation := none, pos := p2 }], vararg := none, kwonlyargs := [], kw_defaults := [], kwarg := none, defaults := [] }
def exB (f : Str) (q1 q2 q3 q4 q5 q6 q7 q8 q9 : Pos) : List Stmt := [.Expr (.Call (.Attribute (.Call (.Name "super" q1) [] [] q2) "__init__" q3) [] [] q4) q5, .Assign [.Attribute (.Name "self" q6) f q7] (.Name f q8) q9]
def exS (f : Str) : Scope := { kind := .function, names := [("self", .local), (f, .local), ("__class__", .free), ("super", .globalImplicit)], isGenerator := false, isCoroutine := false, more := [] }
/-- what the written part says of such a class at C, its __init__ at fI, its cell at cc -/
structure SupTxt (K : PySem.W.Frag) (prog : Program) (f : Str) (C fI cc : Addr) : Prop where
  cls : ∃ nm q N bs bm sn sub ab col dd k0 k1 k2 k3 k5, K.lookup C = some (excClassObj nm q C N bs bm true sn sub ab col dd k0 k1 k2 k3 k5 "ValueError.__new__") ∧ PySem.HandSPX.refsVE bm = true
  ini : ∃ bmB, PySem.ExcBaseFacts "ValueError" "ValueError.__new__" "ValueError.__init__" bmB ∧ PySem.W.excInitIn K C bmB "ValueError.__new__" = true
  sup : PySem.W.ks_superIn K C C "__init__" = some (some (.builtin "ValueError.__init__"))
  veC : PySem.W.subIn K (.ref C) (.type "ValueError") = some true
  any : PySem.W.nsIn K cStatics "thirdparty.any" = some none
  selfC : PySem.W.mroIn K C (.ref C) = some true
  sa : PySem.W.findIn K (.ref C) "__setattr__" = some (some (.builtin "object.__setattr__"))
  no : PySem.W.findIn K (.ref C) f = some none
  iC : PySem.W.findIn K (.ref C) "__init__" = some (some (.ref fI))
  tI : PySem.W.typeIn K (.ref fI) = some (.type "function")
  kC : PySem.W.keepIn K (.ref C) = true
  exC : PySem.W.subIn K (.ref C) (.type "BaseException") = some true
  tyC : PySem.W.typeIn K (.ref C) = some (.type "type")
  cell : ∃ cl cld csl, K.lookup cc = some ⟨cl, cld, .cell (some (.ref C)), csl⟩
  top : (prog.main.scope.names.lookup ("super" : Str)).isSome = false
  fn : ∃ (oc : Value) (od : Option Addr) (qn : Str) (doc pm ct : Value) (an : Option Addr) (cda : Addr) (osl : Array (Option Value)) (p1 p2 q1 q2 q3 q4 q5 q6 q7 q8 q9 : Pos),
    K.lookup fI = some ⟨oc, od, .func ⟨"__init__", qn, exA f p1 p2, .stmts (exB f q1 q2 q3 q4 q5 q6 q7 q8 q9), exS f, mainGlobals, [("__class__", cc)], .none, .none, doc, pm, an, .ref cda, ct, builtinsNs⟩, osl⟩ ∧ PySem.W.codeIn K (.ref cda) qn = true ∧ (q3.endLine == q4.line) = true ∧
    ∃ ccl cdd vs ccs file tf, K.lookup cda = some ⟨ccl, cdd, .fields vs, ccs⟩ ∧ vs[2]? = some (.str file tf) ∧ ((prog.main.file : Str) == file) = true
/-- what the state around says -/
structure SupW (K : PySem.W.Frag) (mg : Str → Option Value) (h : Heap) : Prop where
  glob : h.Ns mainGlobals mg
  blt : ∃ mb, h.Ns builtinsNs mb ∧ ∀ x : Str, x ≠ "__name__" → mb x = bootBuiltins x
  noS : mg "super" = none
structure SupEnd (h h' : Heap) (x C dx : Addr) (f : Str) (v : Value) : Prop where
  keep : ∀ b o, h.get? b = some o → h'.get? b = some o
  obj : ∃ t, h'.get? x = some { cls := .ref C, dict := some dx, data := .fields #[.ref t, .none, .none, .none, .bool false, .none] }
  dbig : h.objs.size ≤ dx
  dne : dx ≠ x
  ns : h'.Ns1 dx (fun y => if y = f then some v else none)
open PySem.W PySem.Calls PySem.HandSPX
section
variable {prog : Program} {w : World} {A : Around} {E : Value → Shared → Prop} {R : Result → Shared → Prop} {s : Shared} {K : Frag} {mg : Str → Option Value} {C fI cc : Addr}
theorem sup_init_given (T : SupTxt K prog "given" C fI cc) {h₀ : Heap} {x t0 : Addr} {v : Value} (X₀ : K.In h₀) (W₀ : SupW K mg h₀) (hlim : s.heap.NoLimit) (k₀ : ∀ b o, h₀.get? b = some o → s.heap.get? b = some o) (hx : s.heap.get? x = some (HandSPX.excO C t0)) (hn0 : h₀.get? x = none) (hbig : h₀.objs.size ≤ s.heap.objs.size) (hroom : A.depth < recursionLimit)
    (hq : ∀ h' tk dx, SupEnd h₀ h' x C dx "given" v → R (.ok (.ret .none)) { s with heap := h', toks := tk }) :
    codeAny (model prog w) A (.call (.ref fI) ⟨[.ref x, v], []⟩) R s := by
  obtain ⟨oc, od, qn, doc, pm, ct, an, cda, osl, p1, p2, q1, q2, q3, q4, q5, q6, q7, q8, q9, ho, hcd, hln, ccl, cdd, vs, ccs, file, tf, hcode, hvs, hfile⟩ := T.fn
  obtain ⟨nm, q, N, bs, bm, sn, sub, ab, col, dd, k0, k1, k2, k3, k5, hC, hbm⟩ := T.cls
  obtain ⟨cl, cld, csl, hcell⟩ := T.cell
  obtain ⟨bmB, FB, hB⟩ := T.ini
  have hcl : clsIn K C = some { name := nm, bases := bs, mro := .ref C :: bm, ns := N, qualname := q, hasDict := true, slotNames := sn, subclasses := sub, abstract := ab, collection := col, hasDel := false } := by unfold clsIn; rw [hC] <;> rfl
  have X : K.In s.heap := X₀.keeps k₀
  refine ks_codeAny_call_defAt (body := exB "given" q1 q2 q3 q4 q5 q6 q7 q8 q9) (binds := [("self", .ref x), ("given", v)]) hroom (X _ _ ho) rfl hlim (codeRec_of X hcd) rfl (BindsTo.of_eq (by first | rfl | with_unfolding_all rfl)) (show ∀ x ∈ (exS "given").names, x.2 ≠ .cell by decide) (fun p hp => ?_) (fun h₁ hns k => ?_) rfl rfl rfl
  · rcases List.mem_cons.mp hp with rfl | hp
    · rfl
    · rcases List.mem_singleton.mp hp with rfl
      rfl
  have hxL : x ≠ s.heap.objs.size := Nat.ne_of_lt (Heap.lt_size hx)
  have F : Fr h₀ s.heap.objs.size h₁ (fun y => ([("self", .ref x), ("given", v)] : List (Str × Value)).reverse.lookup y) := ⟨hns, fun b o e => k b o (k₀ b o e), hbig⟩
  have N1 : News h₀ s.heap.objs.size h₁ [(x, excObj C t0 none .none)] := fun p hp => by
    rcases List.mem_singleton.mp hp with rfl
    exact ⟨k _ _ hx, hxL, hn0⟩
  refine ks_wpAt_execs_cons (ks_wpAt_Expr_any (ks_wpAt_MethodCall ?_ (sup_eval _ _ _ _ _ hln)) rfl (by rfl))
  have hD : h₁.get? C = some _ := F.keep _ _ (X₀ _ _ hC)
  refine ks_wpAt_super_base rfl rfl (by decide) rfl (F.keep _ _ (X₀ _ _ ho)) rfl rfl rfl (F.keep _ _ (X₀ _ _ hcode)) rfl hvs hfile T.top ?_
  obtain ⟨mb, hb1, hb2⟩ := W₀.blt
  refine ks_loadName_global rfl rfl (loadGlobal_builtin (W₀.glob.keeps F.keep) W₀.noS (hb1.keeps F.keep) ((hb2 _ (by decide)).trans (by first | rfl | exact PyProof.Rows.Boot.«super» | decide +kernel)) ⟨rfl, ?_⟩)
  refine wpAny_loadName_free rfl rfl rfl ⟨_, F.keep _ _ (X₀ _ _ hcell), rfl⟩ ?_
  refine wpAny_loadName_local rfl rfl hns (v := .ref x) (by first | rfl | with_unfolding_all rfl | kernel_rfl) ?_
  refine ks_wpAny_isType_cls hD rfl ⟨rfl, ?_⟩
  refine ks_wpAny_call_super hD rfl (N1 (x, excObj C t0 none .none) (by simp)).1 rfl (fun c e => by cases e) (looks_mroIn (X₀.keeps F.keep) T.selfC) (fun h2 e k2 => ?_)
  have lx : x < h₁.objs.size := Heap.lt_size (N1 (x, excObj C t0 none .none) (by simp)).1
  obtain ⟨F2, N2, l2⟩ := ks_newsPush (s := { s with heap := h₁, toks := s.toks + 2 }) (o := ks_superObj C x C) F N1 rfl e k2
  refine kxs_method kxs_ValueError F2 X₀ N2 (so := h₁.objs.size) (x := x) (C := C) (D := C) (ox := excObj C t0 none .none) (odx := none) (by simp) ⟨(N2 (x, excObj C t0 none .none) (by simp)).1, rfl, rfl, trivial⟩ T.any T.sup T.veC (by decide) (fun qa h3 F3 N3 l3 => ?_)
  have lq := l3 (x, excObj C t0 none .none) (by simp)
  refine kxs_callWith0 (i := "ValueError.__init__") (x := x) N3 (by simp) (kxs_call F3 X₀ N3 FB hB (by simp) (UpdF.tail (Nat.ne_of_gt lq) (UpdF.tail (Nat.ne_of_gt lx) (UpdF.head fun _ h => nomatch h))) (by simp) (fun t' h4 F4 N4 l4 => ?_))
  show PySem.wpAt _ _ _ (execs [.Assign [.Attribute (.Name "self" q6) "given" q7] (.Name "given" q8) q9] _) _ _ _
  refine ks_wpAt_execs_cons (wpAt_of_wpAny (plainObj_wpAny_Assign_Attribute ?_))
  refine wpAny_Name (wpAny_loadName_local rfl rfl F4.ns (v := v) (by first | rfl | with_unfolding_all rfl | kernel_rfl) ?_) (by decide)
  refine wpAny_Name (wpAny_loadName_local rfl rfl F4.ns (v := .ref x) (by first | rfl | with_unfolding_all rfl | kernel_rfl) ?_) (by decide)
  have X4 : K.In h4 := X₀.keeps F4.keep
  have hx4 : h4.get? x = some (excObj C t' none .none) := (N4 (x, excObj C t' none .none) (by simp)).1
  refine set_plain X4 (ox := excObj C t' none .none) (od := none) ⟨hx4, rfl, rfl, trivial⟩ T.sa ?_
  refine exc_osa X4 hx4 hcl (show HandSPX.refsVE (.ref C :: bm) = true from hbm) rfl T.no (fun h5 tk5 dx k5 dn dne hx5 hn5 => ?_)
  refine wpAt_of_wpAny (wpAny_execs_nil (hq h5 _ dx ⟨fun b o hb => ?_, ⟨_, hx5⟩, ?_, dne, hn5⟩))
  · exact k5 b o (fun z => by rw [z, hn0] at hb; cases hb) (F4.keep b o hb)
  · refine Nat.le_trans (Nat.le_of_lt ?_) dn
    refine Nat.lt_of_le_of_lt hbig ?_
    obtain ⟨oL, es, ep, hL, _⟩ := F4.ns
    exact Heap.lt_size hL
end
section
variable {prog : Program} {w : World} {A : Around} {E : Value → Shared → Prop} {R : Result → Shared → Prop} {s : Shared} {K : Frag} {mg : Str → Option Value} {C fI cc : Addr}
theorem sup_init_index (T : SupTxt K prog "index" C fI cc) {h₀ : Heap} {x t0 : Addr} {v : Value} (X₀ : K.In h₀) (W₀ : SupW K mg h₀) (hlim : s.heap.NoLimit) (k₀ : ∀ b o, h₀.get? b = some o → s.heap.get? b = some o) (hx : s.heap.get? x = some (HandSPX.excO C t0)) (hn0 : h₀.get? x = none) (hbig : h₀.objs.size ≤ s.heap.objs.size) (hroom : A.depth < recursionLimit)
    (hq : ∀ h' tk dx, SupEnd h₀ h' x C dx "index" v → R (.ok (.ret .none)) { s with heap := h', toks := tk }) :
    codeAny (model prog w) A (.call (.ref fI) ⟨[.ref x, v], []⟩) R s := by
  obtain ⟨oc, od, qn, doc, pm, ct, an, cda, osl, p1, p2, q1, q2, q3, q4, q5, q6, q7, q8, q9, ho, hcd, hln, ccl, cdd, vs, ccs, file, tf, hcode, hvs, hfile⟩ := T.fn
  obtain ⟨nm, q, N, bs, bm, sn, sub, ab, col, dd, k0, k1, k2, k3, k5, hC, hbm⟩ := T.cls
  obtain ⟨cl, cld, csl, hcell⟩ := T.cell
  obtain ⟨bmB, FB, hB⟩ := T.ini
  have hcl : clsIn K C = some { name := nm, bases := bs, mro := .ref C :: bm, ns := N, qualname := q, hasDict := true, slotNames := sn, subclasses := sub, abstract := ab, collection := col, hasDel := false } := by unfold clsIn; rw [hC] <;> rfl
  have X : K.In s.heap := X₀.keeps k₀
  refine ks_codeAny_call_defAt (body := exB "index" q1 q2 q3 q4 q5 q6 q7 q8 q9) (binds := [("self", .ref x), ("index", v)]) hroom (X _ _ ho) rfl hlim (codeRec_of X hcd) rfl (BindsTo.of_eq (by first | rfl | with_unfolding_all rfl)) (show ∀ x ∈ (exS "index").names, x.2 ≠ .cell by decide) (fun p hp => ?_) (fun h₁ hns k => ?_) rfl rfl rfl
  · rcases List.mem_cons.mp hp with rfl | hp
    · rfl
    · rcases List.mem_singleton.mp hp with rfl
      rfl
  have hxL : x ≠ s.heap.objs.size := Nat.ne_of_lt (Heap.lt_size hx)
  have F : Fr h₀ s.heap.objs.size h₁ (fun y => ([("self", .ref x), ("index", v)] : List (Str × Value)).reverse.lookup y) := ⟨hns, fun b o e => k b o (k₀ b o e), hbig⟩
  have N1 : News h₀ s.heap.objs.size h₁ [(x, excObj C t0 none .none)] := fun p hp => by
    rcases List.mem_singleton.mp hp with rfl
    exact ⟨k _ _ hx, hxL, hn0⟩
  refine ks_wpAt_execs_cons (ks_wpAt_Expr_any (ks_wpAt_MethodCall ?_ (sup_eval _ _ _ _ _ hln)) rfl (by rfl))
  have hD : h₁.get? C = some _ := F.keep _ _ (X₀ _ _ hC)
  refine ks_wpAt_super_base rfl rfl (by decide) rfl (F.keep _ _ (X₀ _ _ ho)) rfl rfl rfl (F.keep _ _ (X₀ _ _ hcode)) rfl hvs hfile T.top ?_
  obtain ⟨mb, hb1, hb2⟩ := W₀.blt
  refine ks_loadName_global rfl rfl (loadGlobal_builtin (W₀.glob.keeps F.keep) W₀.noS (hb1.keeps F.keep) ((hb2 _ (by decide)).trans (by first | rfl | exact PyProof.Rows.Boot.«super» | decide +kernel)) ⟨rfl, ?_⟩)
  refine wpAny_loadName_free rfl rfl rfl ⟨_, F.keep _ _ (X₀ _ _ hcell), rfl⟩ ?_
  refine wpAny_loadName_local rfl rfl hns (v := .ref x) (by first | rfl | with_unfolding_all rfl | kernel_rfl) ?_
  refine ks_wpAny_isType_cls hD rfl ⟨rfl, ?_⟩
  refine ks_wpAny_call_super hD rfl (N1 (x, excObj C t0 none .none) (by simp)).1 rfl (fun c e => by cases e) (looks_mroIn (X₀.keeps F.keep) T.selfC) (fun h2 e k2 => ?_)
  have lx : x < h₁.objs.size := Heap.lt_size (N1 (x, excObj C t0 none .none) (by simp)).1
  obtain ⟨F2, N2, l2⟩ := ks_newsPush (s := { s with heap := h₁, toks := s.toks + 2 }) (o := ks_superObj C x C) F N1 rfl e k2
  refine kxs_method kxs_ValueError F2 X₀ N2 (so := h₁.objs.size) (x := x) (C := C) (D := C) (ox := excObj C t0 none .none) (odx := none) (by simp) ⟨(N2 (x, excObj C t0 none .none) (by simp)).1, rfl, rfl, trivial⟩ T.any T.sup T.veC (by decide) (fun qa h3 F3 N3 l3 => ?_)
  have lq := l3 (x, excObj C t0 none .none) (by simp)
  refine kxs_callWith0 (i := "ValueError.__init__") (x := x) N3 (by simp) (kxs_call F3 X₀ N3 FB hB (by simp) (UpdF.tail (Nat.ne_of_gt lq) (UpdF.tail (Nat.ne_of_gt lx) (UpdF.head fun _ h => nomatch h))) (by simp) (fun t' h4 F4 N4 l4 => ?_))
  show PySem.wpAt _ _ _ (execs [.Assign [.Attribute (.Name "self" q6) "index" q7] (.Name "index" q8) q9] _) _ _ _
  refine ks_wpAt_execs_cons (wpAt_of_wpAny (plainObj_wpAny_Assign_Attribute ?_))
  refine wpAny_Name (wpAny_loadName_local rfl rfl F4.ns (v := v) (by first | rfl | with_unfolding_all rfl | kernel_rfl) ?_) (by decide)
  refine wpAny_Name (wpAny_loadName_local rfl rfl F4.ns (v := .ref x) (by first | rfl | with_unfolding_all rfl | kernel_rfl) ?_) (by decide)
  have X4 : K.In h4 := X₀.keeps F4.keep
  have hx4 : h4.get? x = some (excObj C t' none .none) := (N4 (x, excObj C t' none .none) (by simp)).1
  refine set_plain X4 (ox := excObj C t' none .none) (od := none) ⟨hx4, rfl, rfl, trivial⟩ T.sa ?_
  refine exc_osa X4 hx4 hcl (show HandSPX.refsVE (.ref C :: bm) = true from hbm) rfl T.no (fun h5 tk5 dx k5 dn dne hx5 hn5 => ?_)
  refine wpAt_of_wpAny (wpAny_execs_nil (hq h5 _ dx ⟨fun b o hb => ?_, ⟨_, hx5⟩, ?_, dne, hn5⟩))
  · exact k5 b o (fun z => by rw [z, hn0] at hb; cases hb) (F4.keep b o hb)
  · refine Nat.le_trans (Nat.le_of_lt ?_) dn
    refine Nat.lt_of_le_of_lt hbig ?_
    obtain ⟨oL, es, ep, hL, _⟩ := F4.ns
    exact Heap.lt_size hL
end
/-- C(e): its one field is e's -/
def tMkX (C : Addr) (f : Str) (ta : TA) : L2.St → Hp → XK → Prop := fun σ H Q => ta σ H fun vs H1 => ∃ v, vs = [v] ∧ ∀ d, H1 d = none → Q (.ref C) (some d) (upd H1 d (.xd [(f, v)]))
section
variable {X : Cx} {C fI cc : Addr}
theorem relO_given {v : V} {v' : Value} (r : RelV v v') (y : Str) : RelO (List.lookup y [(("given" : Str), v)]) (if y = "given" then some v' else none) := by
  by_cases hw : y = "given"
  · subst hw
    rw [if_pos rfl, show List.lookup ("given" : Str) [(("given" : Str), v)] = some v by simp [List.lookup]]
    exact r
  · have qw : (y == ("given" : Str)) = false := by simpa using hw
    rw [if_neg hw, show List.lookup y [(("given" : Str), v)] = none by simp [List.lookup, qw]]
    trivial
theorem pmk_given {x : Str} {a : Expr} {ta : TA} {p pos : Pos} {k : Nat} (T : SupTxt X.K X.prog "given" C fI cc) (hm : X.mg x = some (.ref C)) (hs : X.mg "super" = none) (hr : Room k X.A) (ha : PA X [a] ta) (hg : Gl X x) (hdb : (x == ("__debug__" : Str)) = false := by decide)
    (he : starEach (a :: []) X.env = (false, eval a X.env) :: starEach [] X.env := by rfl) (hpl : (backTo pos (starEach [] X.env)).any (·.1) = false := by rfl) :
    PMk X (.Call (.Name x p) [a] [] pos) (tMkX C "given" ta) := by
  intro pins s σ H Q I h
  refine wpAny_Call_Name_kw (ld_glob I hg hm ?_ hdb)
  refine PySem.W.callWith_K (h₀ := X.base) I.ok.mod.kin T.kC (thn (ha.run pos pins s σ H _ I h) fun us s1 hh => ?_) he hpl
  obtain ⟨vs, H1, I1, r1, v, ev, q1⟩ := hh
  subst ev
  refine ⟨I1.kIn, ?_⟩
  cases r1 with
  | cons rv rn =>
    rename_i v' us'
    cases rn
    show wpAny _ _ (call (.ref C) [v']) _ _ _
    obtain ⟨nm, q, N, bs, bm, sn, sub, ab, col, dd, k0, k1, k2, k3, k5, hC, hbm⟩ := T.cls
    have hlim := I1.nolimit
    have W1 : SupW X.K X.mg s1.heap := ⟨I.mod.glob.keeps I1.bk, let ⟨mb, h1, h2⟩ := I.mod.blt; ⟨mb, h1.keeps I1.bk, h2⟩, hs⟩
    obtain ⟨hp, g, dr, tk, os⟩ := s1
    have kk : ∀ b o, hp.get? b = some o → ((hp.push (PySem.W.kdv_tup [v'])).push (HandSPX.excO C hp.objs.size)).get? b = some o := fun b o e => Heap.get?_push_of_some _ (Heap.get?_push_of_some _ e)
    have hget : ((hp.push (PySem.W.kdv_tup [v'])).push (HandSPX.excO C hp.objs.size)).get? (hp.objs.size + 1) = some (HandSPX.excO C hp.objs.size) := by heap_get
    refine wpAny_call (HandSPX.call_own F.excBase_ValueError (fun Y => HandSPX.refsVE_contains Y bm hbm) (I1.kIn _ _ hC) (looks_findIn I1.kIn T.iC) (fun self => bind_fn I1.kIn self T.tI) (by rw [sizeLine_eq]; exact (by decide : 1 ≤ 16777216)) ?_)
    refine sup_init_given (s := ⟨(hp.push (PySem.W.kdv_tup [v'])).push (HandSPX.excO C hp.objs.size), g, dr, tk, os⟩) T I1.kIn W1 (hlim.keeps kk) kk hget ?_ ?_ ?_ fun h' tk' dx M => ?_
    · show hp.get? (hp.objs.size + 1) = none
      cases e : hp.get? (hp.objs.size + 1) with
      | none => rfl
      | some o => exact absurd (Nat.lt_of_succ_lt (Heap.lt_size e)) (Nat.lt_irrefl _)
    · show hp.objs.size ≤ ((hp.push _).push _).objs.size
      rw [Heap.size_push, Heap.size_push]
      omega
    · show X.A.depth + 1 < recursionLimit
      have := hr.dp
      omega
    obtain ⟨t, hx⟩ := M.obj
    refine ⟨rfl, ?_⟩
    show MkP X pins σ Q (.ref (hp.objs.size + 1)) ⟨h', g, dr, tk', os⟩
    have hns := M.ns
    obtain ⟨G', g1, g2⟩ := restrict h' fun b => decide (b ≠ hp.objs.size + 1)
    have gk : ∀ b, b ≠ hp.objs.size + 1 → G'.get? b = h'.get? b := fun b hb => g1 b (decide_eq_true hb)
    have ge : G'.get? (hp.objs.size + 1) = none := g2 _ (by simp)
    have old : ∀ b o, hp.get? b = some o → G'.get? b = some o := fun b o q => (gk b (Nat.ne_of_lt (Nat.lt_succ_of_lt (Heap.lt_size q)))).trans (M.keep b o q)
    have ob : ObjOk X.prog X.w (upd H1 dx (.xd [(("given" : Str), v)])) G' dx (.xd [(("given" : Str), v)]) := ⟨_, hns.at (fun o q => (gk dx M.dne).trans q), fun y => relO_given rv y⟩
    have J : Inv X pins σ (upd H1 dx (.xd [(("given" : Str), v)])) ⟨G', g, dr, tk', os⟩ := I1.laid (t' := tk') old M.dbig ob
    refine ⟨hp.objs.size + 1, _, _, ⟨G', g, dr, tk', os⟩, _, .ref C, some dx, rfl, J, fun b o q => ?_, ge, hx, ⟨rfl, rfl⟩, rfl, rfl, ?_, rfl, I1.bare, raises_own T.exC T.tyC, q1 dx (I1.hok.fresh M.dbig)⟩
    · by_cases hb : b = hp.objs.size + 1
      · have q' : G'.get? b = some o := q
        rw [hb, ge] at q'; cases q'
      · exact (gk b hb).symm.trans q
    · rw [upd_ne (Ne.symm M.dne)]
      exact I1.hok.fresh (Nat.le_succ _)
end
section
variable {X : Cx} {C fI cc : Addr}
theorem relO_index {v : V} {v' : Value} (r : RelV v v') (y : Str) : RelO (List.lookup y [(("index" : Str), v)]) (if y = "index" then some v' else none) := by
  by_cases hw : y = "index"
  · subst hw
    rw [if_pos rfl, show List.lookup ("index" : Str) [(("index" : Str), v)] = some v by simp [List.lookup]]
    exact r
  · have qw : (y == ("index" : Str)) = false := by simpa using hw
    rw [if_neg hw, show List.lookup y [(("index" : Str), v)] = none by simp [List.lookup, qw]]
    trivial
theorem pmk_index {x : Str} {a : Expr} {ta : TA} {p pos : Pos} {k : Nat} (T : SupTxt X.K X.prog "index" C fI cc) (hm : X.mg x = some (.ref C)) (hs : X.mg "super" = none) (hr : Room k X.A) (ha : PA X [a] ta) (hg : Gl X x) (hdb : (x == ("__debug__" : Str)) = false := by decide)
    (he : starEach (a :: []) X.env = (false, eval a X.env) :: starEach [] X.env := by rfl) (hpl : (backTo pos (starEach [] X.env)).any (·.1) = false := by rfl) :
    PMk X (.Call (.Name x p) [a] [] pos) (tMkX C "index" ta) := by
  intro pins s σ H Q I h
  refine wpAny_Call_Name_kw (ld_glob I hg hm ?_ hdb)
  refine PySem.W.callWith_K (h₀ := X.base) I.ok.mod.kin T.kC (thn (ha.run pos pins s σ H _ I h) fun us s1 hh => ?_) he hpl
  obtain ⟨vs, H1, I1, r1, v, ev, q1⟩ := hh
  subst ev
  refine ⟨I1.kIn, ?_⟩
  cases r1 with
  | cons rv rn =>
    rename_i v' us'
    cases rn
    show wpAny _ _ (call (.ref C) [v']) _ _ _
    obtain ⟨nm, q, N, bs, bm, sn, sub, ab, col, dd, k0, k1, k2, k3, k5, hC, hbm⟩ := T.cls
    have hlim := I1.nolimit
    have W1 : SupW X.K X.mg s1.heap := ⟨I.mod.glob.keeps I1.bk, let ⟨mb, h1, h2⟩ := I.mod.blt; ⟨mb, h1.keeps I1.bk, h2⟩, hs⟩
    obtain ⟨hp, g, dr, tk, os⟩ := s1
    have kk : ∀ b o, hp.get? b = some o → ((hp.push (PySem.W.kdv_tup [v'])).push (HandSPX.excO C hp.objs.size)).get? b = some o := fun b o e => Heap.get?_push_of_some _ (Heap.get?_push_of_some _ e)
    have hget : ((hp.push (PySem.W.kdv_tup [v'])).push (HandSPX.excO C hp.objs.size)).get? (hp.objs.size + 1) = some (HandSPX.excO C hp.objs.size) := by heap_get
    refine wpAny_call (HandSPX.call_own F.excBase_ValueError (fun Y => HandSPX.refsVE_contains Y bm hbm) (I1.kIn _ _ hC) (looks_findIn I1.kIn T.iC) (fun self => bind_fn I1.kIn self T.tI) (by rw [sizeLine_eq]; exact (by decide : 1 ≤ 16777216)) ?_)
    refine sup_init_index (s := ⟨(hp.push (PySem.W.kdv_tup [v'])).push (HandSPX.excO C hp.objs.size), g, dr, tk, os⟩) T I1.kIn W1 (hlim.keeps kk) kk hget ?_ ?_ ?_ fun h' tk' dx M => ?_
    · show hp.get? (hp.objs.size + 1) = none
      cases e : hp.get? (hp.objs.size + 1) with
      | none => rfl
      | some o => exact absurd (Nat.lt_of_succ_lt (Heap.lt_size e)) (Nat.lt_irrefl _)
    · show hp.objs.size ≤ ((hp.push _).push _).objs.size
      rw [Heap.size_push, Heap.size_push]
      omega
    · show X.A.depth + 1 < recursionLimit
      have := hr.dp
      omega
    obtain ⟨t, hx⟩ := M.obj
    refine ⟨rfl, ?_⟩
    show MkP X pins σ Q (.ref (hp.objs.size + 1)) ⟨h', g, dr, tk', os⟩
    have hns := M.ns
    obtain ⟨G', g1, g2⟩ := restrict h' fun b => decide (b ≠ hp.objs.size + 1)
    have gk : ∀ b, b ≠ hp.objs.size + 1 → G'.get? b = h'.get? b := fun b hb => g1 b (decide_eq_true hb)
    have ge : G'.get? (hp.objs.size + 1) = none := g2 _ (by simp)
    have old : ∀ b o, hp.get? b = some o → G'.get? b = some o := fun b o q => (gk b (Nat.ne_of_lt (Nat.lt_succ_of_lt (Heap.lt_size q)))).trans (M.keep b o q)
    have ob : ObjOk X.prog X.w (upd H1 dx (.xd [(("index" : Str), v)])) G' dx (.xd [(("index" : Str), v)]) := ⟨_, hns.at (fun o q => (gk dx M.dne).trans q), fun y => relO_index rv y⟩
    have J : Inv X pins σ (upd H1 dx (.xd [(("index" : Str), v)])) ⟨G', g, dr, tk', os⟩ := I1.laid (t' := tk') old M.dbig ob
    refine ⟨hp.objs.size + 1, _, _, ⟨G', g, dr, tk', os⟩, _, .ref C, some dx, rfl, J, fun b o q => ?_, ge, hx, ⟨rfl, rfl⟩, rfl, rfl, ?_, rfl, I1.bare, raises_own T.exC T.tyC, q1 dx (I1.hok.fresh M.dbig)⟩
    · by_cases hb : b = hp.objs.size + 1
      · have q' : G'.get? b = some o := q
        rw [hb, ge] at q'; cases q'
      · exact (gk b hb).symm.trans q
    · rw [upd_ne (Ne.symm M.dne)]
      exact I1.hok.fresh (Nat.le_succ _)
end
end MM
set_option autoImplicit false
set_option maxRecDepth 100000
set_option maxHeartbeats 4000000
/-! MX2: parts that may raise an own error. -/
namespace MM
open PySem PySem.Spec PyProof.Rows L2 LamX NdefX
/-- an error: its class, the name of its one field, what stands there -/
structure Ex where
  c : Str
  f : Str
  x : D
inductive Rs (α : Type) where
  | ok (a : α)
  | ex (e : Ex)
inductive OutX where
  | o (o : Out)
  | ex (e : Ex) (ρ : Ev)
def ExR (K : PySem.W.Frag) (g : G) (av μ : List Addr) (H : Hp) (cls : Value) (d : Option Addr) (e : Ex) : Prop := cls = .ref (g.ca e.c) ∧ ∃ dd v, d = some dd ∧ H dd = some (.xd [(e.f, v)]) ∧ Rp K g.ca av μ H v e.x
def PostE (K : PySem.W.Frag) (g : G) (av μ : List Addr) (H : Hp) (e : Ex) (ρ : Ev) (st' : List Ob) (W : WX) : Prop := ∀ cls d σ' H' μ', Ext μ μ' H H' → Rel K g av μ' st' H' → EnvR K g av μ' H' σ' ρ → ExR K g av μ' H' cls d e → W cls d σ' H'
def PostC (K : PySem.W.Frag) (g : G) (av μ : List Addr) (H : Hp) (e : Ex) (st' : List Ob) (E : XK) : Prop := ∀ cls d H' μ', Ext μ μ' H H' → Rel K g av μ' st' H' → ExR K g av μ' H' cls d e → E cls d H'
def PostR (K : PySem.W.Frag) (g : G) (av μ : List Addr) (H : Hp) (ρ : Ev) (r : Rs D) (st' : List Ob) (Q : VK) (W : WX) : Prop := match r with
  | .ok d => Post K g av μ H d st' Q
  | .ex e => PostE K g av μ H e ρ st' W
def PostRL (K : PySem.W.Frag) (g : G) (av μ : List Addr) (H : Hp) (ρ : Ev) (r : Rs (List D)) (st' : List Ob) (Q : List V → Hp → Prop) (W : WX) : Prop := match r with
  | .ok ds => PostL K g av μ H ds st' Q
  | .ex e => PostE K g av μ H e ρ st' W
def PostRC (K : PySem.W.Frag) (g : G) (av μ : List Addr) (H : Hp) (r : Rs D) (st' : List Ob) (Q : VK) (E : XK) : Prop := match r with
  | .ok d => Post K g av μ H d st' Q
  | .ex e => PostC K g av μ H e st' E
def PostSx (K : PySem.W.Frag) (g : G) (av μ : List Addr) (H : Hp) (o : OutX) (st' : List Ob) (E : Ends) (W : WX) : Prop := match o with
  | .o o => PostS K g av μ H o st' E
  | .ex e ρ => PostE K g av μ H e ρ st' W
section
variable {K : PySem.W.Frag} {g : G} {av μ μ1 : List Addr} {H H1 : Hp} {e : Ex} {ρ : Ev} {st' : List Ob} {W : WX} {Q : VK} {QL : List V → Hp → Prop} {E : XK} {En : Ends} {r : Rs D} {rl : Rs (List D)} {o : OutX}
theorem PostE.mono (p : PostE K g av μ H e ρ st' W) (x : Ext μ μ1 H H1) : PostE K g av μ1 H1 e ρ st' W := fun cls d σ' H' μ' x' r er z => p cls d σ' H' μ' (x.trans x') r er z
theorem PostC.mono (p : PostC K g av μ H e st' E) (x : Ext μ μ1 H H1) : PostC K g av μ1 H1 e st' E := fun cls d H' μ' x' r z => p cls d H' μ' (x.trans x') r z
theorem PostR.mono (p : PostR K g av μ H ρ r st' Q W) (x : Ext μ μ1 H H1) : PostR K g av μ1 H1 ρ r st' Q W := by
  cases r with
  | ok d => exact Post.mono p x
  | ex e => exact PostE.mono p x
theorem PostRL.mono (p : PostRL K g av μ H ρ rl st' QL W) (x : Ext μ μ1 H H1) : PostRL K g av μ1 H1 ρ rl st' QL W := by
  cases rl with
  | ok d => exact PostL.mono p x
  | ex e => exact PostE.mono p x
theorem PostRC.mono (p : PostRC K g av μ H r st' Q E) (x : Ext μ μ1 H H1) : PostRC K g av μ1 H1 r st' Q E := by
  cases r with
  | ok d => exact Post.mono p x
  | ex e => exact PostC.mono p x
theorem PostSx.mono (p : PostSx K g av μ H o st' En W) (x : Ext μ μ1 H H1) : PostSx K g av μ1 H1 o st' En W := by
  cases o with
  | o d => exact PostS.mono p x
  | ex e => exact PostE.mono p x
end
def SemEx (K : PySem.W.Frag) (g : G) (t : TE) (W : WX) (m : Ev → Mo (Rs D)) : Prop := ∀ (av μ : List Addr) (σ : L2.St) (H : Hp) (Q : VK) (ρ : Ev) (st : List Ob) (r : Rs D) (st' : List Ob),
  Rel K g av μ st H → EnvR K g av μ H σ ρ → m ρ st = some (r, st') → PostR K g av μ H ρ r st' Q W → t σ H Q
def SemAx (K : PySem.W.Frag) (g : G) (t : TA) (W : WX) (m : Ev → Mo (Rs (List D))) : Prop := ∀ (av μ : List Addr) (σ : L2.St) (H : Hp) (Q : List V → Hp → Prop) (ρ : Ev) (st : List Ob) (r : Rs (List D)) (st' : List Ob),
  Rel K g av μ st H → EnvR K g av μ H σ ρ → m ρ st = some (r, st') → PostRL K g av μ H ρ r st' Q W → t σ H Q
def SemSx (K : PySem.W.Frag) (g : G) (t : TS) (W : WX) (m : Ev → Mo OutX) : Prop := ∀ (av μ : List Addr) (σ : L2.St) (H : Hp) (E : Ends) (ρ : Ev) (st : List Ob) (o : OutX) (st' : List Ob),
  Rel K g av μ st H → EnvR K g av μ H σ ρ → m ρ st = some (o, st') → PostSx K g av μ H o st' E W → t E σ H
structure EX (g : G) (X : Cx) (W : WX) (e : Expr) (m : Ev → Mo (Rs D)) : Prop where
  ex : ∃ t, PE X e t ∧ SemEx X.K g t W m
structure AX (g : G) (X : Cx) (W : WX) (es : List Expr) (m : Ev → Mo (Rs (List D))) : Prop where
  ex : ∃ t, PA X es t ∧ SemAx X.K g t W m
structure SX (g : G) (X : Cx) (W : WX) (s : Stmt) (m : Ev → Mo OutX) : Prop where
  ex : ∃ t, PS X s t ∧ SemSx X.K g t W m
structure BX (g : G) (X : Cx) (W : WX) (s : List Stmt) (m : Ev → Mo OutX) : Prop where
  ex : ∃ t, PSs X s t ∧ SemSx X.K g t W m
/-! ### mirrors -/
def vLift {α : Type} (m : Ev → Mo α) : Ev → Mo (Rs α) := fun ρ => (m ρ).bind fun d => Mo.pure (.ok d)
def rsB {α β : Type} (m : Mo (Rs α)) (f : α → Mo (Rs β)) : Mo (Rs β) := m.bind fun r => match r with
  | .ok a => f a
  | .ex e => Mo.pure (.ex e)
def vCons (ma : Ev → Mo (Rs D)) (mr : Ev → Mo (Rs (List D))) : Ev → Mo (Rs (List D)) := fun ρ => rsB (ma ρ) fun x => rsB (mr ρ) fun xs => Mo.pure (.ok (x :: xs))
def vTup (m : Ev → Mo (Rs (List D))) : Ev → Mo (Rs D) := fun ρ => rsB (m ρ) fun xs => if xs.length ≤ 1000000 then Mo.pure (.ok (.tup xs)) else Mo.fail
def vIf (mc : Ev → Mo Bool) (ma mb : Ev → Mo (Rs D)) : Ev → Mo (Rs D) := fun ρ => (mc ρ).bind fun b => if b = true then ma ρ else mb ρ
def vFn (n : Nat) (md : List A → Mo (Rs D)) (ml : Ev → Mo (Rs (List D))) : Ev → Mo (Rs D) := fun ρ => rsB (ml ρ) fun ds => if ds.length = n then md (ds.map .d) else Mo.fail
/-- o.m(..) -/
def vMt (c f : Str) (n : Nat) (md : List A → Mo (Rs D)) (mo : Ev → Mo D) (ml : Ev → Mo (Rs (List D))) : Ev → Mo (Rs D) := fun ρ => (mo ρ).bind fun x st => match insOf st x with
  | some (c', ns, _) => if c' = c ∧ f ∉ ns then (rsB (ml ρ) fun ds => if ds.length = n then md (.d x :: ds.map .d) else Mo.fail) st else none
  | none => none
def mkMx (c : Str) (n : Nat) (md : List A → Mo (Rs D)) : List D → Mo (Rs D) := fun ds st => if ds.length = n then (match md (.d (.loc st.length) :: ds.map .d) (st ++ [.ins c [] []]) with
  | some (.ok .non, st') => some (.ok (.loc st.length), st')
  | some (.ex e, st') => some (.ex e, st')
  | _ => none) else none
def vMake (c : Str) (n : Nat) (md : List A → Mo (Rs D)) (ml : Ev → Mo (Rs (List D))) : Ev → Mo (Rs D) := fun ρ => rsB (ml ρ) (mkMx c n md)
def zLift (m : Ev → Mo Out) : Ev → Mo OutX := fun ρ => (m ρ).bind fun o => Mo.pure (.o o)
def zSeq (m n : Ev → Mo OutX) : Ev → Mo OutX := fun ρ => (m ρ).bind fun r => match r with
  | .o (.nx ρ') => n ρ'
  | r => Mo.pure r
def rsO (ρ : Ev) (m : Mo (Rs D)) (f : D → Mo OutX) : Mo OutX := m.bind fun r => match r with
  | .ok d => f d
  | .ex e => Mo.pure (.ex e ρ)
def zRaise (c f : Str) (m : Ev → Mo D) : Ev → Mo OutX := fun ρ => (m ρ).bind fun d => Mo.pure (.ex ⟨c, f, d⟩ ρ)
def zIf (c : Ev → Mo Bool) (m n : Ev → Mo OutX) : Ev → Mo OutX := fun ρ => (c ρ).bind fun b => if b = true then m ρ else n ρ
def zRet (m : Ev → Mo (Rs D)) : Ev → Mo OutX := fun ρ => rsO ρ (m ρ) fun d => Mo.pure (.o (.rt d))
def zDrop (m : Ev → Mo (Rs D)) : Ev → Mo OutX := fun ρ => rsO ρ (m ρ) fun _ => Mo.pure (.o (.nx ρ))
def zSet (i : Nat) (m : Ev → Mo (Rs D)) : Ev → Mo OutX := fun ρ => rsO ρ (m ρ) fun d => Mo.pure (.o (.nx (ρ.set i (some (.d d)))))
def forX (gm : Ev → D → Mo Ev) (mb : Ev → Mo OutX) : List D → Ev → Mo OutX
  | [], ρ => Mo.pure (.o (.nx ρ))
  | d :: r, ρ => (gm ρ d).bind fun ρ1 => (mb ρ1).bind fun o => match o with
    | .o (.nx ρ2) => forX gm mb r ρ2
    | .o (.ct ρ2) => forX gm mb r ρ2
    | .o (.bk ρ2) => Mo.pure (.o (.nx ρ2))
    | r => Mo.pure r
def zFor (mi : Ev → Mo (List D)) (gm : Ev → D → Mo Ev) (mb : Ev → Mo OutX) : Ev → Mo OutX := fun ρ => (mi ρ).bind fun items => forX gm mb items ρ
theorem rsB_some {α β : Type} {m : Mo (Rs α)} {f : α → Mo (Rs β)} {s s' : List Ob} {r : Rs β} (h : rsB m f s = some (r, s')) : (∃ a s1, m s = some (.ok a, s1) ∧ f a s1 = some (r, s')) ∨ ∃ e, m s = some (.ex e, s') ∧ r = .ex e := by
  obtain ⟨a, s1, h1, h2⟩ := Mo.bind_some h
  cases a with
  | ok a => exact .inl ⟨a, s1, h1, h2⟩
  | ex e =>
    obtain ⟨z1, z2⟩ := Mo.pure_some h2
    subst z1 z2
    exact .inr ⟨e, h1, rfl⟩
theorem rsO_some {ρ : Ev} {m : Mo (Rs D)} {f : D → Mo OutX} {s s' : List Ob} {r : OutX} (h : rsO ρ m f s = some (r, s')) : (∃ a s1, m s = some (.ok a, s1) ∧ f a s1 = some (r, s')) ∨ ∃ e, m s = some (.ex e, s') ∧ r = .ex e ρ := by
  obtain ⟨a, s1, h1, h2⟩ := Mo.bind_some h
  cases a with
  | ok a => exact .inl ⟨a, s1, h1, h2⟩
  | ex e =>
    obtain ⟨z1, z2⟩ := Mo.pure_some h2
    subst z1 z2
    exact .inr ⟨e, h1, rfl⟩
/-! ### expressions -/
section
variable {g : G} {X : Cx} {W : WX} {e a b o : Expr} {es : List Expr} {m ma mb : Ev → Mo (Rs D)} {ml : Ev → Mo (Rs (List D))} {pos p apos : Pos}
theorem ex_lift {m : Ev → Mo D} (h : EV g X e m) : EX g X W e (vLift m) := by
  obtain ⟨t, p0, s⟩ := h.ex
  refine ⟨t, p0, fun av μ σ H Q ρ st r st' rl er hm p => ?_⟩
  obtain ⟨d, s1, h1, hm⟩ := Mo.bind_some hm
  obtain ⟨z1, z2⟩ := Mo.pure_some hm
  subst z1 z2
  exact s av μ σ H Q ρ st d _ rl er h1 p
theorem ax_lift {m : Ev → Mo (List D)} (h : AV g X es m) : AX g X W es (vLift m) := by
  obtain ⟨t, p0, s⟩ := h.ex
  refine ⟨t, p0, fun av μ σ H Q ρ st r st' rl er hm p => ?_⟩
  obtain ⟨d, s1, h1, hm⟩ := Mo.bind_some hm
  obtain ⟨z1, z2⟩ := Mo.pure_some hm
  subst z1 z2
  exact s av μ σ H Q ρ st d _ rl er h1 p
theorem ax_cons (ha : EX g X W a ma) (hb : AX g X W es ml) (hs : starEach (a :: es) X.env = (false, eval a X.env) :: starEach es X.env := by rfl) : AX g X W (a :: es) (vCons ma ml) := by
  obtain ⟨ta, pa, sa⟩ := ha.ex
  obtain ⟨tb, pb, sb⟩ := hb.ex
  refine ⟨_, pa_cons pa pb hs, fun av μ σ H Q ρ st r st' rl er hm p => ?_⟩
  rcases rsB_some hm with ⟨x, s1, h1, hm⟩ | ⟨e, h1, rfl⟩
  · refine sa av μ σ H _ ρ st _ s1 rl er h1 fun v H1 μ1 e1 r1 q1 => ?_
    rcases rsB_some hm with ⟨xs, s2, h2, hm⟩ | ⟨e, h2, rfl⟩
    · obtain ⟨z1, z2⟩ := Mo.pure_some hm
      subst z1 z2
      exact sb av μ1 σ H1 _ ρ s1 _ _ r1 (er.mono e1) h2 fun vs H2 μ2 e2 r2 q2 => p _ H2 μ2 (e1.trans e2) r2 (.cons (q1.mono e2) q2)
    · exact sb av μ1 σ H1 _ ρ s1 _ _ r1 (er.mono e1) h2 (PostE.mono p e1)
  · exact sa av μ σ H _ ρ st _ _ rl er h1 p
theorem ex_tup {k : Nat} (h : AX g X W es ml) : EX g X W (.Tuple es k pos) (vTup ml) := by
  obtain ⟨t, p0, s⟩ := h.ex
  refine ⟨_, pe_tup p0, fun av μ σ H Q ρ st r st' rl er hm p => ?_⟩
  rcases rsB_some hm with ⟨xs, s1, h1, hm⟩ | ⟨e, h1, rfl⟩
  · split at hm
    · rename_i hl
      obtain ⟨z1, z2⟩ := Mo.pure_some hm
      subst z1 z2
      refine s av μ σ H _ ρ st _ _ rl er h1 fun vs H1 μ1 e1 r1 q1 => ⟨by rw [q1.length]; exact Nat.le_trans hl line_le, fun q hq => ?_⟩
      exact (Post.mono p e1).newO r1 hq (rp_newT r1 hq q1)
    · cases hm
  · exact s av μ σ H _ ρ st _ _ rl er h1 p
theorem ex_if {c : Expr} {na : Ev → Mo Bool} (hc : TV g X c na) (ha : EX g X W a ma) (hb : EX g X W b mb) : EX g X W (.IfExp c a b pos) (vIf na ma mb) := by
  obtain ⟨tc, pc, sc⟩ := hc.ex
  obtain ⟨ta, pa, sa⟩ := ha.ex
  obtain ⟨tb, pb, sb⟩ := hb.ex
  refine ⟨_, pe_ifExp pc pa pb, fun av μ σ H Q ρ st d st' rl er hm p => ?_⟩
  obtain ⟨k, s1, h1, hm⟩ := Mo.bind_some hm
  refine sc av μ σ H _ ρ st k s1 rl er h1 fun H1 μ1 e1 r1 => ?_
  cases k with
  | true => exact sa av μ1 σ H1 Q ρ s1 d st' r1 (er.mono e1) hm (p.mono e1)
  | false => exact sb av μ1 σ H1 Q ρ s1 d st' r1 (er.mono e1) hm (p.mono e1)
end
/-! ### statements -/
section
variable {g : G} {X : Cx} {W : WX} {s : Stmt} {rest : List Stmt} {e : Expr} {m : Ev → Mo (Rs D)} {m1 m2 : Ev → Mo OutX} {pos : Pos}
theorem sx_lift {m : Ev → Mo Out} (h : SV g X s m) : SX g X W s (zLift m) := by
  obtain ⟨t, p0, s0⟩ := h.ex
  refine ⟨t, p0, fun av μ σ H E ρ st r st' rl er hm p => ?_⟩
  obtain ⟨d, s1, h1, hm⟩ := Mo.bind_some hm
  obtain ⟨z1, z2⟩ := Mo.pure_some hm
  subst z1 z2
  exact s0 av μ σ H E ρ st d _ rl er h1 p
theorem bx_lift {m : Ev → Mo Out} (h : BV g X rest m) : BX g X W rest (zLift m) := by
  obtain ⟨t, p0, s0⟩ := h.ex
  refine ⟨t, p0, fun av μ σ H E ρ st r st' rl er hm p => ?_⟩
  obtain ⟨d, s1, h1, hm⟩ := Mo.bind_some hm
  obtain ⟨z1, z2⟩ := Mo.pure_some hm
  subst z1 z2
  exact s0 av μ σ H E ρ st d _ rl er h1 p
theorem bx_nil : BX g X W [] (zLift yNil) := bx_lift bv_nil
theorem bx_one (h : SX g X W s m1) : BX g X W [s] m1 := let ⟨t, p, q⟩ := h.ex; ⟨t, pss_one p, q⟩
theorem bx_cons (h1 : SX g X W s m1) (h2 : BX g X W rest m2) : BX g X W (s :: rest) (zSeq m1 m2) := by
  obtain ⟨t1, p1, s1⟩ := h1.ex
  obtain ⟨t2, p2, s2⟩ := h2.ex
  refine ⟨_, pss_cons p1 p2, fun av μ σ H E ρ st o st' rl er hm p => ?_⟩
  obtain ⟨o1, st1, e1, hm⟩ := Mo.bind_some hm
  refine s1 av μ σ H _ ρ st o1 st1 rl er e1 ?_
  cases o1 with
  | ex e ρ1 =>
    obtain ⟨z1, z2⟩ := Mo.pure_some hm
    subst z1 z2
    exact p
  | o o1 =>
    cases o1 with
    | nx ρ1 => exact fun σ' H' μ' x r q => s2 av μ' σ' H' E ρ1 st1 o st' r q hm (p.mono x)
    | rt d =>
      obtain ⟨z1, z2⟩ := Mo.pure_some hm
      subst z1 z2
      exact fun v H' μ' x r q => p v H' μ' x r q
    | bk d =>
      obtain ⟨z1, z2⟩ := Mo.pure_some hm
      subst z1 z2
      exact fun v H' μ' x r q => p v H' μ' x r q
    | ct d =>
      obtain ⟨z1, z2⟩ := Mo.pure_some hm
      subst z1 z2
      exact fun v H' μ' x r q => p v H' μ' x r q
theorem sx_if {ce : Expr} {c : Ev → Mo Bool} {a b : List Stmt} (hc : TV g X ce c) (ha : BX g X W a m1) (hb : BX g X W b m2) : SX g X W (.If ce a b pos) (zIf c m1 m2) := by
  obtain ⟨tc, pc, sc⟩ := hc.ex
  obtain ⟨ta, pa, sa⟩ := ha.ex
  obtain ⟨tb, pb, sb⟩ := hb.ex
  refine ⟨_, ps_if pc pa pb, fun av μ σ H E ρ st o st' rl er hm p => ?_⟩
  obtain ⟨k, s1, h1, hm⟩ := Mo.bind_some hm
  refine sc av μ σ H _ ρ st k s1 rl er h1 fun H1 μ1 e1 r1 => ?_
  cases k with
  | true => exact sa av μ1 σ H1 E ρ s1 o st' r1 (er.mono e1) hm (p.mono e1)
  | false => exact sb av μ1 σ H1 E ρ s1 o st' r1 (er.mono e1) hm (p.mono e1)
theorem sx_ret (h : EX g X W e m) : SX g X W (.Return (some e) pos) (zRet m) := by
  obtain ⟨t, p0, s0⟩ := h.ex
  refine ⟨_, ps_ret p0, fun av μ σ H E ρ st o st' rl er hm p => ?_⟩
  rcases rsO_some hm with ⟨d, st1, e1, hm⟩ | ⟨e, h1, rfl⟩
  · obtain ⟨z1, z2⟩ := Mo.pure_some hm
    subst z1 z2
    exact s0 av μ σ H _ ρ st _ _ rl er e1 fun v H' μ' x r q => p v H' μ' x r q
  · exact s0 av μ σ H _ ρ st _ _ rl er h1 p
theorem sx_drop (h : EX g X W e m) (hs : swapsWith e none pos.line X.env = pure false := by rfl) : SX g X W (.Expr e pos) (zDrop m) := by
  obtain ⟨t, p0, s0⟩ := h.ex
  refine ⟨_, ps_expr p0 hs, fun av μ σ H E ρ st o st' rl er hm p => ?_⟩
  rcases rsO_some hm with ⟨d, st1, e1, hm⟩ | ⟨e, h1, rfl⟩
  · obtain ⟨z1, z2⟩ := Mo.pure_some hm
    subst z1 z2
    exact s0 av μ σ H _ ρ st _ _ rl er e1 fun v H' μ' x r q => p σ H' μ' x r (er.mono x)
  · exact s0 av μ σ H _ ρ st _ _ rl er h1 p
theorem sx_set {i : Nat} {x : Str} {pos' : Pos} (hN : X.N.Nodup) (hi : X.N[i]? = some x) (hx : Loc X.env.scope x) (he : EX g X W e m) (hs : swapsWith e (some (.Name x pos')) pos.line X.env = pure false := by rfl) (hf : X.fn x = true ∨ X.env.scope.names.lookup x = some .local := by first | exact .inl rfl | exact .inr rfl) :
    SX g X W (.Assign [.Name x pos'] e pos) (zSet i m) := by
  obtain ⟨t, p0, s0⟩ := he.ex
  refine ⟨_, ps_set hN hi hx p0 hs hf, fun av μ σ H E ρ st o st' rl er hm p => ?_⟩
  rcases rsO_some hm with ⟨d, st1, e1, hm⟩ | ⟨e, h1, rfl⟩
  · obtain ⟨z1, z2⟩ := Mo.pure_some hm
    subst z1 z2
    exact s0 av μ σ H _ ρ st _ _ rl er e1 fun v H' μ' x r q => p _ H' μ' x r ((er.mono x).set q i)
  · exact s0 av μ σ H _ ρ st _ _ rl er h1 p
/-- raise C(e) -/
theorem sx_raise {c f x : Str} {a : Expr} {ma : Ev → Mo D} {p pos2 : Pos} (hc : X.calm = true) (tk : Takes X W) (hp : ∀ ta, PA X [a] ta → PMk X (.Call (.Name x p) [a] [] pos) (tMkX (g.ca c) f ta)) (ha : EV g X a ma)
    (hs : starEach [a] X.env = (false, eval a X.env) :: starEach [] X.env := by rfl) : SX g X W (.Raise (some (.Call (.Name x p) [a] [] pos)) none pos2) (zRaise c f ma) := by
  obtain ⟨t, p0, s0⟩ := (av_cons ha av_nil hs).ex
  refine ⟨_, ps_raise hc tk (hp _ p0), fun av μ σ H E ρ st o st' rl er hm p => ?_⟩
  obtain ⟨d, s1, h1, hm⟩ := Mo.bind_some hm
  obtain ⟨z1, z2⟩ := Mo.pure_some hm
  subst z1 z2
  refine s0 av μ σ H _ ρ st [d] _ rl er (by show Mo.bind _ _ _ = _; unfold Mo.bind; rw [h1]; rfl) fun vs H1 μ1 e1 r1 q1 => ?_
  obtain ⟨v, rfl, rv⟩ := rpl1 q1
  exact ⟨v, rfl, fun dd hd => p _ _ σ _ μ1 (e1.trans (Ext.new hd)) (r1.new hd) (er.mono (e1.trans (Ext.new hd))) ⟨rfl, dd, v, rfl, upd_same, rv.mono (Ext.new hd)⟩⟩
theorem sx_for {tg iter : Expr} {body : List Stmt} {mi : Ev → Mo (List D)} {js : List Nat} {gm : Ev → D → Mo Ev} {mb : Ev → Mo OutX} (hp : PassesOwn (model X.prog X.w) X.A X.env X.xe) (hc : X.calm = true) (hi : IV g X tg iter mi) (hg : GV g X tg js gm) (hb : BX g X W body mb)
    (hs : ∀ x, foldedSetIterable iter X.env x = pure x := by intro _; rfl) : SX g X W (.For tg iter body [] pos) (zFor mi gm mb) := by
  obtain ⟨ti, pi, si⟩ := hi.ex
  obtain ⟨tgt, pg, sg⟩ := hg.ex
  obtain ⟨tb, pb, sb⟩ := hb.ex
  refine ⟨_, ps_for hp hc pi pg pb hs, fun av μ σ H E ρ st o st' rl er hm q => ?_⟩
  obtain ⟨items, st1, e1, hm⟩ := Mo.bind_some hm
  refine si av μ σ H _ ρ st items st1 rl er e1 fun J H1 μ1 xs src x1 r1 l1 w => ?_
  refine ⟨fun i m σ2 H2 => m = items.length - i ∧ i ≤ items.length ∧ ∃ μ2 st2 ρ2, Ext μ1 μ2 H1 H2 ∧ Rel X.K g av μ2 st2 H2 ∧ EnvR X.K g av μ2 H2 σ2 ρ2 ∧ RpL X.K g.ca av μ2 H2 xs src ∧ forX gm mb (items.drop i) ρ2 st2 = some (o, st'),
    ⟨_, rfl, Nat.zero_le _, μ1, st1, ρ, Ext.refl _ _, r1, er.mono x1, l1, by rw [List.drop_zero]; exact hm⟩, ?_⟩
  rintro i m σ2 H2 ⟨rfl, hil, μ2, st2, ρ2, x2, r2, er2, l2, hm2⟩
  by_cases hlt : i < items.length
  · rw [drop_cons hlt] at hm2
    obtain ⟨ρ3, st3, e3, hm2⟩ := Mo.bind_some hm2
    obtain ⟨o4, st4, e4, hm2⟩ := Mo.bind_some hm2
    refine .inr ⟨w.go i H2 hlt x2.keep, fun σ' H' => ∃ μ' st'' ρ', Ext μ1 μ' H1 H' ∧ Rel X.K g av μ' st'' H' ∧ EnvR X.K g av μ' H' σ' ρ' ∧ RpL X.K g.ca av μ' H' xs src ∧ forX gm mb (items.drop (i + 1)) ρ' st'' = some (o, st'), fun σ' H' ⟨μ', st'', ρ', a1, a2, a3, a4, a5⟩ => ⟨_, by omega, rfl, hlt, μ', st'', ρ', a1, a2, a3, a4, a5⟩, fun x H3 hy => ?_⟩
    obtain ⟨x3, r3, p3⟩ := yld_step w x2 r2 l2 hy (List.getElem?_eq_getElem hlt)
    refine sg av μ2 σ2 H3 _ ρ2 st2 x _ ρ3 st3 r3 (er2.mono x3) p3 e3 fun σ4 H4 μ4 x4 r4 er4 _ => ?_
    refine sb av μ4 σ4 H4 _ ρ3 st3 o4 st4 r4 er4 e4 ?_
    have x04 : Ext μ1 μ4 H1 H4 := (x2.trans x3).trans x4
    have l4 : RpL X.K g.ca av μ4 H4 xs src := RpL.mono x4 (RpL.mono x3 l2)
    cases o4 with
    | ex e5 ρ5 =>
      obtain ⟨z1, z2⟩ := Mo.pure_some hm2
      subst z1 z2
      exact PostE.mono q (x1.trans x04)
    | o o4 =>
      cases o4 with
      | nx ρ5 => exact fun σ5 H5 μ5 x5 r5 er5 => ⟨μ5, st4, ρ5, x04.trans x5, r5, er5, RpL.mono x5 l4, hm2⟩
      | ct ρ5 => exact fun σ5 H5 μ5 x5 r5 er5 => ⟨μ5, st4, ρ5, x04.trans x5, r5, er5, RpL.mono x5 l4, hm2⟩
      | bk ρ5 =>
        obtain ⟨z1, z2⟩ := Mo.pure_some hm2
        subst z1 z2
        exact fun σ5 H5 μ5 x5 r5 er5 => q σ5 H5 μ5 ((x1.trans x04).trans x5) r5 er5
      | rt d =>
        obtain ⟨z1, z2⟩ := Mo.pure_some hm2
        subst z1 z2
        exact fun v H5 μ5 x5 r5 p5 => q v H5 μ5 ((x1.trans x04).trans x5) r5 p5
  · have e : i = items.length := by omega
    subst e
    rw [List.drop_length] at hm2
    obtain ⟨z1, z2⟩ := Mo.pure_some hm2
    subst z1 z2
    exact .inl ⟨w.stop H2 x2.keep, q σ2 H2 μ2 (x1.trans x2) r2 er2⟩
end
end MM
set_option autoImplicit false
set_option maxRecDepth 100000
set_option maxHeartbeats 4000000
/-! MX3: calls of own defs, methods, makings that may raise; by place and by name. -/
namespace MM
open PySem PySem.Spec PyProof.Rows L2 LamX NdefX
section
variable {X : Cx} {CX : CXT} {k n : Nat} {f C : Addr} {fd : FuncData} {ps ks : List Str} {sp : Sp} {E : L2.St → XK} {x m : Str} {p pos apos : Pos} {e o : Expr} {es : List Expr} {kws : List Keyword} {to : TE} {t tk : TA} {gg : List Value → List Value → List Value} {gV : List V → List V → List V}
/-- a def runs: the wish may look at the slots -/
theorem go_fn {pins : List (Addr × Obj)} {σ : L2.St} {H : Hp} {s : Shared} {Q : VK} {us all : List Value} {kw : List (Str × Value)} {vs : List V} (F : FnOk X.prog X.w X.K X.mg X.base CX k f fd ps sp) (hr : Room k X.A) (hx : PassesAt CX X σ (E σ))
    (I : Inv X pins σ H s) (b : BindsTo s fd ⟨us, kw⟩ (ps.zip all)) (r : Vals vs all) (h : sp vs H Q (E σ)) : wpAny (model X.prog X.w) X.A (call (.ref f) us kw) (EP X pins σ Q) X.xe s :=
  wpAny_call (codeAny_mono (F.run X.A X.stack s H ⟨us, kw⟩ all vs Q (E σ) hr I.env0 b r h) fun res s' z => match res, z with
    | .error er, z => hx pins H s er s' I z
    | .ok (.ret u), z => I.after z
    | .ok .next, z => False.elim z
    | .ok .brk, z => False.elim z
    | .ok .cont, z => False.elim z)
theorem bind_pos {s : Shared} {us : List Value} {vs : List V} {σ : L2.St} {H : Hp} {Q : VK} (F : FnOk X.prog X.w X.K X.mg X.base CX k f fd ps sp) (hb : Binds X.K fd ps []) (X0 : X.K.In s.heap) (r : Vals vs us) (h : sp vs H Q (E σ)) : BindsTo s fd ⟨us, []⟩ (ps.zip us) := by
  have l := F.len _ _ _ _ h
  have z := hb s us X0 (by rw [List.append_nil, ← r.length]; exact l)
  rwa [List.append_nil] at z
/-- f() -/
theorem pe_fn0 (F : FnOk X.prog X.w X.K X.mg X.base CX k f fd ps sp) (hr : Room k X.A) (hg : Gl X x) (hm : X.mg x = some (.ref f)) (hk : PySem.W.keepIn X.K (.ref f) = true) (hb : Binds X.K fd ps []) (hx : ∀ σ, PassesAt CX X σ (E σ)) (hdb : (x == ("__debug__" : Str)) = false := by decide) :
    PE X (.Call (.Name x p) [] [] pos) (fun σ H Q => sp [] H Q (E σ)) :=
  ⟨fun pins s σ H Q I h => wpAny_Call_Name_kw (ld_glob I hg hm (PySem.W.callWith_K0 I.kIn hk (go_fn (E := E) F hr (hx σ) I (bind_pos (E := E) F hb I.kIn .nil h) .nil h)) hdb)⟩
/-- f(k = v, ..) -/
theorem pe_fnK (F : FnOk X.prog X.w X.K X.mg X.base CX k f fd ps sp) (hr : Room k X.A) (hg : Gl X x) (hm : X.mg x = some (.ref f)) (hk : PySem.W.keepIn X.K (.ref f) = true) (hb : KBn X.K fd ps 0 ks gg gV) (hx : ∀ σ, PassesAt CX X σ (E σ)) (hkw : PK X kws tk)
    (hall : (backToKw pos (keywordEach kws X.env)).all (·.1.isSome) = true := by rfl) (hks : (backToKw pos (keywordEach kws X.env)).filterMap (·.1) = ks := by rfl) (hdb : (x == ("__debug__" : Str)) = false := by decide)
    (hpl : ((backTo pos (starEach [] X.env)).any (·.1) || (backToKw pos (keywordEach kws X.env)).any (·.1.isNone)) = false := by rfl) :
    PE X (.Call (.Name x p) [] kws pos) (fun σ H Q => tk σ H fun zs H1 => zs.length = ks.length ∧ sp (gV [] zs) H1 Q (E σ)) := by
  refine ⟨fun pins s σ H Q I h => wpAny_Call_Name_kw (ld_glob I hg hm ?_ hdb)⟩
  refine PySem.W.callWith_KW0 (h₀ := X.base) I.ok.mod.kin hk hall (thn (hkw.run pos pins s σ H _ I h) fun ws s2 ⟨zs, H2, J, rz, l2, q⟩ => ⟨J.kIn, ?_⟩) hpl
  rw [hks]
  exact go_fn (E := E) F hr (hx σ) J (hb.to _ [] ws J.kIn rfl (rz.length.symm.trans l2)) (hb.rel .nil rz) q
/-- o.m(e, ..) -/
theorem pe_mt {pl : Sem Bool} (he : PE X o to) (c : Cls X.K C) (hm : Meth X.K C m f) (F : FnOk X.prog X.w X.K X.mg X.base CX k f fd ps sp) (hr : Room k X.A) (hb : Binds X.K fd ps []) (hx : ∀ σ, PassesAt CX X σ (E σ)) (ha : PA X (e :: es) t)
    (hst : starEach (e :: es) X.env = (false, eval e X.env) :: starEach es X.env := by rfl) (hpl : (backTo pos (starEach es X.env)).any (·.1) = false := by rfl)
    (ht : eval (.Call (.Attribute o m apos) (e :: es) [] pos) X.env = (do
      let ov ← eval o X.env
      standAt apos.atName
      let (f, first) ← holding [ov] (getMethod ov m pl)
      callWith pos f first (backTo pos (starEach (e :: es) X.env)) (backToKw pos (keywordEach [] X.env))) := by rfl) :
    PE X (.Call (.Attribute o m apos) (e :: es) [] pos) (fun σ H Q => to σ H fun x H1 => ∃ a dx fs, x = .ref a ∧ H1 a = some (.ins C dx fs) ∧ fs.lookup m = none ∧ t σ H1 fun vs H2 => sp (x :: vs) H2 Q (E σ)) := by
  refine ⟨fun pins s σ H Q I h => PySem.W.methodCall_KW (pl := pl) (thn (he.run pins s σ H _ I h) fun u s1 ⟨x, H1, J, rx, a, dx, fs, ex, ea, l, q⟩ => ?_) ht⟩
  cases ex
  have eu : u = Value.ref a := rx
  cases eu
  refine getmeth_ok J ea c hm l (PySem.W.callWith_K (h₀ := X.base) (first := [.ref a]) I.ok.mod.kin hm.kp (thn (ha.run pos pins s1 σ H1 _ J q) fun us s2 ⟨vs, H2, J2, r, q2⟩ => ⟨J2.kIn, ?_⟩) hst hpl)
  have rr : Vals (V.ref a :: vs) (Value.ref a :: us) := .cons rfl r
  exact go_fn (E := E) F hr (hx σ) J2 (bind_pos (E := E) F hb J2.kIn rr q2) rr q2
/-- o.m() -/
theorem pe_mt0 {pl : Sem Bool} (he : PE X o to) (c : Cls X.K C) (hm : Meth X.K C m f) (F : FnOk X.prog X.w X.K X.mg X.base CX k f fd ps sp) (hr : Room k X.A) (hb : Binds X.K fd ps []) (hx : ∀ σ, PassesAt CX X σ (E σ))
    (ht : eval (.Call (.Attribute o m apos) [] [] pos) X.env = (do
      let ov ← eval o X.env
      standAt apos.atName
      let (f, first) ← holding [ov] (getMethod ov m pl)
      callWith pos f first (backTo pos (starEach [] X.env)) (backToKw pos (keywordEach [] X.env))) := by rfl) :
    PE X (.Call (.Attribute o m apos) [] [] pos) (fun σ H Q => to σ H fun x H1 => ∃ a dx fs, x = .ref a ∧ H1 a = some (.ins C dx fs) ∧ fs.lookup m = none ∧ sp [x] H1 Q (E σ)) := by
  refine ⟨fun pins s σ H Q I h => PySem.W.methodCall_KW (pl := pl) (thn (he.run pins s σ H _ I h) fun u s1 ⟨x, H1, J, rx, a, dx, fs, ex, ea, l, q⟩ => ?_) ht⟩
  cases ex
  have eu : u = Value.ref a := rx
  cases eu
  have rr : Vals [V.ref a] [Value.ref a] := .cons rfl .nil
  exact getmeth_ok J ea c hm l (PySem.W.callWith_K0 (first := [.ref a]) J.kIn hm.kp (go_fn (E := E) F hr (hx σ) J (bind_pos (E := E) F hb J.kIn rr q) rr q))
/-- o.m(k = v, ..) -/
theorem pe_mtK {pl : Sem Bool} (he : PE X o to) (c : Cls X.K C) (hm : Meth X.K C m f) (F : FnOk X.prog X.w X.K X.mg X.base CX k f fd ps sp) (hr : Room k X.A) (hb : KBn X.K fd ps 1 ks gg gV) (hx : ∀ σ, PassesAt CX X σ (E σ)) (hkw : PK X kws tk)
    (hall : (backToKw pos (keywordEach kws X.env)).all (·.1.isSome) = true := by rfl) (hks : (backToKw pos (keywordEach kws X.env)).filterMap (·.1) = ks := by rfl)
    (hpl : ((backTo pos (starEach [] X.env)).any (·.1) || (backToKw pos (keywordEach kws X.env)).any (·.1.isNone)) = false := by rfl)
    (ht : eval (.Call (.Attribute o m apos) [] kws pos) X.env = (do
      let ov ← eval o X.env
      standAt apos.atName
      let (f, first) ← holding [ov] (getMethod ov m pl)
      callWith pos f first (backTo pos (starEach [] X.env)) (backToKw pos (keywordEach kws X.env))) := by rfl) :
    PE X (.Call (.Attribute o m apos) [] kws pos) (fun σ H Q => to σ H fun x H1 => ∃ a dx fs, x = .ref a ∧ H1 a = some (.ins C dx fs) ∧ fs.lookup m = none ∧ tk σ H1 fun zs H2 => zs.length = ks.length ∧ sp (gV [x] zs) H2 Q (E σ)) := by
  refine ⟨fun pins s σ H Q I h => PySem.W.methodCall_KW (pl := pl) (thn (he.run pins s σ H _ I h) fun u s1 ⟨x, H1, J, rx, a, dx, fs, ex, ea, l, q⟩ => ?_) ht⟩
  cases ex
  have eu : u = Value.ref a := rx
  cases eu
  refine getmeth_ok J ea c hm l (PySem.W.callWith_KW0 (first := [.ref a]) (h₀ := X.base) I.ok.mod.kin hm.kp hall (thn (hkw.run pos pins s1 σ H1 _ J q) fun ws s2 ⟨zs, H2, J2, rz, l2, q2⟩ => ⟨J2.kIn, ?_⟩) hpl)
  rw [hks]
  exact go_fn (E := E) F hr (hx σ) J2 (hb.to _ [.ref a] ws J2.kIn rfl (rz.length.symm.trans l2)) (hb.rel (vs := [V.ref a]) (.cons rfl .nil) rz) q2
/-- C(..): what __init__ does with the new one -/
theorem go_mk {pins : List (Addr × Obj)} {σ : L2.St} {H : Hp} {s : Shared} {Q : VK} {us : List Value} {kw : List (Str × Value)} {vs : Addr → List V} {all : Addr → List Value} (M : Mk X.K C f) (F : FnOk X.prog X.w X.K X.mg X.base CX k f fd ps sp) (hr : Room (k + 1) X.A)
    (hx : ∀ (pins : List (Addr × Obj)) (H1 : Hp) (s1 : Shared) (er : Value) (s' : Shared), Inv X pins σ H1 s1 → CX X.stack H1 s1 (E σ) er s' → X.xe er s') (I : Inv X pins σ H s)
    (b : ∀ (s1 : Shared) (a : Addr), X.K.In s1.heap → (all a).length = ps.length → BindsTo s1 fd ⟨.ref a :: us, kw⟩ (ps.zip (all a))) (r : ∀ a, Vals (vs a) (all a))
    (h : ∀ x dx, H x = none → H dx = none → dx ≠ x → sp (vs x) (upd (upd H dx (.own x)) x (.ins C dx [])) (fun v H2 => v = .non ∧ Q (.ref x) H2) (E σ)) :
    wpAny (model X.prog X.w) X.A (call (.ref C) us kw) (EP X pins σ Q) X.xe s := by
  have h1 := h (s.heap.objs.size + 1) s.heap.objs.size (I.hok.fresh (Nat.le_succ _)) (I.hok.fresh (Nat.le_refl _)) (Nat.ne_of_lt (Nat.lt_succ_self _))
  have J := Inv.made (C := C) I
  have l : (all (s.heap.objs.size + 1)).length = ps.length := by rw [← (r _).length]; exact F.len _ _ _ _ h1
  refine wpAny_call (make_map (f := f) I.kIn M.makes M.init (beq_iff_eq.mp M.fn) (codeAny_mono (F.run _ X.stack _ _ _ _ _ _ (E σ) (hr.make C us kw) (J.env0.make C us kw) (b _ _ J.kIn l) (r _) h1) fun res s' z => ?_))
  match res, z with
  | .error er, z => exact hx pins _ _ er s' J z
  | .ok (.ret u), z =>
    obtain ⟨v, H', J2, rv, ev, q⟩ := J.after z
    cases ev
    exact ⟨rv, ⟨V.ref (s.heap.objs.size + 1), H', J2, rfl, q⟩⟩
  | .ok .next, z => exact False.elim z
  | .ok .brk, z => exact False.elim z
  | .ok .cont, z => exact False.elim z
abbrev tMk (C : Addr) (sp : Sp) (E : L2.St → XK) (vs : Addr → List V) (σ : L2.St) (H : Hp) (Q : VK) : Prop := ∀ x dx, H x = none → H dx = none → dx ≠ x → sp (vs x) (upd (upd H dx (.own x)) x (.ins C dx [])) (fun v H2 => v = .non ∧ Q (.ref x) H2) (E σ)
theorem pe_mk (M : Mk X.K C f) (F : FnOk X.prog X.w X.K X.mg X.base CX k f fd ps sp) (hr : Room (k + 1) X.A) (hg : Gl X x) (hm : X.mg x = some (.ref C)) (hb : Binds X.K fd ps []) (hx : ∀ σ, PassesAt CX X σ (E σ)) (ha : PA X (e :: es) t)
    (hdb : (x == ("__debug__" : Str)) = false := by decide) (he : starEach (e :: es) X.env = (false, eval e X.env) :: starEach es X.env := by rfl) (hpl : (backTo pos (starEach es X.env)).any (·.1) = false := by rfl) :
    PE X (.Call (.Name x p) (e :: es) [] pos) (fun σ H Q => t σ H fun vs H1 => tMk C sp E (fun a => .ref a :: vs) σ H1 Q) := by
  refine ⟨fun pins s σ H Q I h => wpAny_Call_Name_kw (ld_glob I hg hm ?_ hdb)⟩
  refine PySem.W.callWith_K (h₀ := X.base) I.ok.mod.kin M.kp (thn (ha.run pos pins s σ H _ I h) fun us s1 ⟨vs, H1, J, r, q⟩ => ⟨J.kIn, ?_⟩) he hpl
  exact go_mk (E := E) (vs := fun a => .ref a :: vs) (all := fun a => .ref a :: us) M F hr (hx σ) J (fun s1 a X1 l => by have z := hb s1 (.ref a :: us) X1 (by rw [List.append_nil]; exact l); rwa [List.append_nil] at z) (fun a => .cons rfl r) q
theorem pe_mkK (M : Mk X.K C f) (F : FnOk X.prog X.w X.K X.mg X.base CX k f fd ps sp) (hr : Room (k + 1) X.A) (hg : Gl X x) (hm : X.mg x = some (.ref C)) (hb : KBn X.K fd ps 1 ks gg gV) (hx : ∀ σ, PassesAt CX X σ (E σ)) (hkw : PK X kws tk)
    (hall : (backToKw pos (keywordEach kws X.env)).all (·.1.isSome) = true := by rfl) (hks : (backToKw pos (keywordEach kws X.env)).filterMap (·.1) = ks := by rfl) (hdb : (x == ("__debug__" : Str)) = false := by decide)
    (hpl : ((backTo pos (starEach [] X.env)).any (·.1) || (backToKw pos (keywordEach kws X.env)).any (·.1.isNone)) = false := by rfl) :
    PE X (.Call (.Name x p) [] kws pos) (fun σ H Q => tk σ H fun zs H1 => zs.length = ks.length ∧ tMk C sp E (fun a => gV [.ref a] zs) σ H1 Q) := by
  refine ⟨fun pins s σ H Q I h => wpAny_Call_Name_kw (ld_glob I hg hm ?_ hdb)⟩
  refine PySem.W.callWith_KW0 (h₀ := X.base) I.ok.mod.kin M.kp hall (thn (hkw.run pos pins s σ H _ I h) fun ws s2 ⟨zs, H2, J, rz, l2, q⟩ => ⟨J.kIn, ?_⟩) hpl
  rw [hks]
  exact go_mk (E := E) (vs := fun a => gV [.ref a] zs) (all := fun a => gg [.ref a] ws) M F hr (hx σ) J (fun s1 a X1 l => hb.to _ [.ref a] ws X1 rfl (rz.length.symm.trans l2)) (fun a => hb.rel (.cons rfl .nil) rz) q
end
end MM
set_option autoImplicit false
set_option maxRecDepth 100000
set_option maxHeartbeats 4000000
/-! MX4: promises of defs that may raise; their calls. -/
namespace MM
open PySem PySem.Spec PyProof.Rows L2 LamX NdefX
def endX : OutX → Mo (Rs D)
  | .o (.rt d) => Mo.pure (.ok d)
  | .o (.nx _) => Mo.pure (.ok .non)
  | .ex e _ => Mo.pure (.ex e)
  | _ => Mo.fail
def runX (n : Nat) (m : Ev → Mo OutX) : List A → Mo (Rs D) := fun as => (m (startE n as)).bind endX
def SpGx (K : PySem.W.Frag) (g : G) (n : Nat) (md : List A → Mo (Rs D)) : Sp := fun vs H Q E => vs.length = n ∧ ∃ av μ st as r st', Rel K g av μ st H ∧ RpAs K g av μ H vs as ∧ md as st = some (r, st') ∧ PostRC K g av μ H r st' Q E
theorem postRC {K : PySem.W.Frag} {g : G} {av μ : List Addr} {H : Hp} {ρ : Ev} {r : Rs D} {st' : List Ob} {Q : VK} {W : WX} {σ : L2.St} (p : PostR K g av μ H ρ r st' Q W) (er : EnvR K g av μ H σ ρ) : PostRC K g av μ H r st' Q (WE W σ) := by
  cases r with
  | ok d => exact p
  | ex e => exact fun cls d H' μ' x r z => p cls d σ H' μ' x r (er.mono x) z
theorem body_okX {g : G} {X : Cx} {E : XK} {body : List Stmt} {m : Ev → Mo OutX} {vs : List V} {H : Hp} {Q : VK} {as : List A} {r : Rs D} {av μ : List Addr} {st st' : List Ob} {N : List Str} (hb : BX g X (fun c d _ H => E c d H) body m) (rl : Rel X.K g av μ st H) (ra : RpAs X.K g av μ H vs as) (hm : runX N.length m as st = some (r, st')) (p : PostRC X.K g av μ H r st' Q E) :
    ∃ t, PSs X body t ∧ t { nx := fun _ H' => Q .non H', rt := Q } (L2.start N vs) H := by
  obtain ⟨t, pt, s⟩ := hb.ex
  refine ⟨t, pt, ?_⟩
  obtain ⟨o, s1, h1, hm⟩ := Mo.bind_some hm
  refine s av μ _ H _ _ st o s1 rl (startE_ok ra) h1 ?_
  cases o with
  | ex e ρ =>
    obtain ⟨z1, z2⟩ := Mo.pure_some hm
    subst z1 z2
    exact fun cls d σ' H' μ' x r _ z => p cls d H' μ' x r z
  | o o =>
    cases o with
    | rt d' =>
      obtain ⟨z1, z2⟩ := Mo.pure_some hm
      subst z1 z2
      exact fun v H' μ' x r q => p v H' μ' x r q
    | nx ρ' =>
      obtain ⟨z1, z2⟩ := Mo.pure_some hm
      subst z1 z2
      exact fun σ' H' μ' x r q => p _ H' μ' x r .non
    | bk _ => cases hm
    | ct _ => cases hm
abbrev wE (E : XK) : WX := fun c d _ H => E c d H
section
variable {P : Program} {w : World} {K : PySem.W.Frag} {mg : Str → Option Value} {base : Heap} {g : G}
theorem fn_okX {x qual : Str} {params : Arguments} {body : List Stmt} {scope : Scope} {dvs : List V} {kws : List (Str × V)} {f : Addr} {fd : FuncData} {N ps : List Str} {k : Nat} {m : Ev → Mo OutX}
    (F : FunD K x qual params body scope dvs kws f fd) (S : FnScope N ps scope)
    (hb : ∀ (cdv : Value) (A : Around) (outer : List Env) (s : Shared) (H : Hp) (E : XK), Room k (A.deeper (envOfC qual scope s.heap.objs.size f cdv)) → BX g (cxOf (L2.CX P w) P w K mg base N qual scope f cdv A outer s H E) (wE E) body m) :
    FnOk P w K mg base (L2.CX P w) (k + 1) f fd ps (SpGx K g ps.length (runX N.length m)) :=
  FunD.ok F S (fun vs H Q E h => h.1) fun cdv A outer s H vs Q E hr h => by
    obtain ⟨_, av, μ, st, as, d, st', rl, ra, hm, p⟩ := h
    exact body_okX (hb cdv A outer s H E hr) rl ra hm p
abbrev KB (K : PySem.W.Frag) (fd : FuncData) (ps : List Str) (n : Nat) (ks : List Str) (is : List Nat) : Prop := KBn K fd ps n ks (fun us ws => us ++ pick is ws) (fun vs zs => vs ++ pick is zs)
theorem kb_of {nm qual : Str} {params : Arguments} {body : List Stmt} {scope : Scope} {f : Addr} {fd : FuncData} {ps ks : List Str} {is : List Nat} {n : Nat} (F : FunD K nm qual params body scope [] [] f fd)
    (h : ∀ (kV doc pm : Value) (an : Option Addr) (cdv ct : Value) (us ws : List Value), us.length = n → ws.length = ks.length → bindArgs (PySem.W.fnOf nm qual params body scope .none kV doc pm an cdv ct) ⟨us, ks.zip ws⟩ = pure (ps.zip (us ++ pick is ws))) : KB K fd ps n ks is := by
  obtain ⟨oc, od, dV, kV, doc, pm, an, cdv, ct, osl, rfl, lk, hcd, hD, hK⟩ := F.ex
  rcases hD with ⟨_, rfl⟩ | ⟨e, _⟩
  · exact ⟨fun s us ws _ l1 l2 => .of_eq (h kV doc pm an cdv ct us ws l1 l2), fun r1 r2 => r1.append (pick_vals r2 is)⟩
  · exact absurd rfl e
/-- a def, a method, a making; how it binds stands apart -/
structure FnX (P : Program) (w : World) (K : PySem.W.Frag) (mg : Str → Option Value) (base : Heap) (g : G) (k n : Nat) (f : Addr) (fd : FuncData) (ps : List Str) (md : List A → Mo (Rs D)) : Prop where
  fn : FnOk P w K mg base (L2.CX P w) k f fd ps (SpGx K g n md)
structure CalX (P : Program) (w : World) (K : PySem.W.Frag) (mg : Str → Option Value) (base : Heap) (g : G) (k : Nat) (x : Str) (n : Nat) (md : List A → Mo (Rs D)) (ex : List (List Str × List Nat)) : Prop where
  ex : ∃ (f : Addr) (fd : FuncData) (ps : List Str), FnOk P w K mg base (L2.CX P w) k f fd ps (SpGx K g n md) ∧ mg x = some (.ref f) ∧ PySem.W.keepIn K (.ref f) = true ∧ Binds K fd ps [] ∧ ∀ q ∈ ex, KB K fd ps 0 q.1 q.2
structure MetX (P : Program) (w : World) (K : PySem.W.Frag) (mg : Str → Option Value) (base : Heap) (g : G) (k : Nat) (c m : Str) (n : Nat) (md : List A → Mo (Rs D)) (ex : List (List Str × List Nat)) : Prop where
  ex : ∃ (f : Addr) (fd : FuncData) (ps : List Str), FnOk P w K mg base (L2.CX P w) k f fd ps (SpGx K g (n + 1) md) ∧ Meth K (g.ca c) m f ∧ Binds K fd ps [] ∧ ∀ q ∈ ex, KB K fd ps 1 q.1 q.2
  cl : Cls K (g.ca c)
structure MakX (P : Program) (w : World) (K : PySem.W.Frag) (mg : Str → Option Value) (base : Heap) (g : G) (k : Nat) (x c : Str) (n : Nat) (md : List A → Mo (Rs D)) (ex : List (List Str × List Nat)) : Prop where
  ex : ∃ (f : Addr) (fd : FuncData) (ps : List Str), FnOk P w K mg base (L2.CX P w) k f fd ps (SpGx K g (n + 1) md) ∧ Mk K (g.ca c) f ∧ mg x = some (.ref (g.ca c)) ∧ Binds K fd ps [] ∧ ∀ q ∈ ex, KB K fd ps 1 q.1 q.2
variable {k j n : Nat} {x c m : Str} {md md' : List A → Mo (Rs D)} {kx : List (List Str × List Nat)}
theorem CalX.mono (o : CalX P w K mg base g k x n md kx) (h : k ≤ j) : CalX P w K mg base g j x n md kx := let ⟨f, fd, ps, F, r⟩ := o.ex; ⟨f, fd, ps, F.mono h, r⟩
theorem MetX.mono (o : MetX P w K mg base g k c m n md kx) (h : k ≤ j) : MetX P w K mg base g j c m n md kx := ⟨let ⟨f, fd, ps, F, r⟩ := o.ex; ⟨f, fd, ps, F.mono h, r⟩, o.cl⟩
theorem MakX.mono (o : MakX P w K mg base g k x c n md kx) (h : k ≤ j) : MakX P w K mg base g j x c n md kx := let ⟨f, fd, ps, F, r⟩ := o.ex; ⟨f, fd, ps, F.mono h, r⟩
/-! frozen answers -/
def frzX (k : Nat) (m : Mo (Rs D)) : Mo (Rs D) := fun st => match m st with
  | some (r, s) => if (s.take st.length).all (Ob.lo st.length) = true then (match r with
    | .ok d => (frzD s st.length k d).map fun e => (.ok e, s.take st.length)
    | .ex x => (frzD s st.length k x.x).map fun e => (.ex ⟨x.c, x.f, e⟩, s.take st.length)) else none
  | none => none
theorem PostC.frz {av μ : List Addr} {H : Hp} {e : Ex} {d : D} {st st' : List Ob} {E : XK} {i : Nat} (hn : μ.length = st.length) (p : PostC K g av μ H ⟨e.c, e.f, d⟩ (st'.take st.length) E) (hl : (st'.take st.length).all (Ob.lo st.length) = true) (he : frzD st' st.length i e.x = some d) : PostC K g av μ H e st' E := fun cls dd H' μ' x r z => by
  obtain ⟨⟨rr, er, hr⟩, kp, th⟩ := x
  subst er
  rw [← hn] at hl he p
  obtain ⟨z1, da, v, z2, z3, z4⟩ := z
  exact p cls dd H' μ ⟨⟨[], by simp, fun _ z => by cases z⟩, kp, th⟩ (Rel.shrink r hl) ⟨z1, da, v, z2, z3, (frz_ok r i).1 z4 he⟩
theorem spGx_frz (j : Nat) : ∀ vs H Q E, SpGx K g n (fun as => frzX j (md as)) vs H Q E → SpGx K g n md vs H Q E := fun vs H Q E ⟨hl, av, μ, st, as, r, st', rl, ra, hm, p⟩ => by
  unfold frzX at hm
  dsimp only at hm
  cases e : md as st with
  | none => rw [e] at hm; cases hm
  | some q =>
    obtain ⟨r0, s0⟩ := q
    rw [e] at hm
    dsimp only at hm
    split at hm
    · rename_i hlo
      cases r0 with
      | ok d =>
        dsimp only at hm
        cases e2 : frzD s0 st.length j d with
        | none => rw [e2] at hm; cases hm
        | some d2 =>
          rw [e2] at hm
          cases hm
          exact ⟨hl, av, μ, st, as, _, _, rl, ra, e, Post.frz rl.len p hlo e2⟩
      | ex x =>
        dsimp only at hm
        cases e2 : frzD s0 st.length j x.x with
        | none => rw [e2] at hm; cases hm
        | some d2 =>
          rw [e2] at hm
          cases hm
          exact ⟨hl, av, μ, st, as, _, _, rl, ra, e, PostC.frz rl.len p hlo e2⟩
    · cases hm
theorem CalX.frz (o : CalX P w K mg base g k x n md kx) (i : Nat) : CalX P w K mg base g k x n (fun as => frzX i (md as)) kx := let ⟨f, fd, ps, F, r⟩ := o.ex; ⟨f, fd, ps, F.imp (spGx_frz i), r⟩
theorem MetX.frz (o : MetX P w K mg base g k c m n md kx) (i : Nat) : MetX P w K mg base g k c m n (fun as => frzX i (md as)) kx := ⟨let ⟨f, fd, ps, F, r⟩ := o.ex; ⟨f, fd, ps, F.imp (spGx_frz i), r⟩, o.cl⟩
theorem MakX.frz (o : MakX P w K mg base g k x c n md kx) (i : Nat) : MakX P w K mg base g k x c n (fun as => frzX i (md as)) kx := let ⟨f, fd, ps, F, r⟩ := o.ex; ⟨f, fd, ps, F.imp (spGx_frz i), r⟩
end
/-! ### calls -/
def vKw (m : Nat) (is : List Nat) (md : List D → Mo (Rs D)) (ml : Ev → Mo (List D)) : Ev → Mo (Rs D) := fun ρ => (ml ρ).bind fun ds => if ds.length = m then md (pick is ds) else Mo.fail
def vMtK (c f : Str) (m : Nat) (is : List Nat) (md : List A → Mo (Rs D)) (mo : Ev → Mo D) (ml : Ev → Mo (List D)) : Ev → Mo (Rs D) := fun ρ => (mo ρ).bind fun x st => match insOf st x with
  | some (c', ns, _) => if c' = c ∧ f ∉ ns then (((ml ρ).bind fun ds => if ds.length = m then md (.d x :: (pick is ds).map .d) else Mo.fail) st) else none
  | none => none
def unX (m : Ev → Mo (Rs D)) : Ev → Mo D := fun ρ => (m ρ).bind fun r => match r with
  | .ok d => Mo.pure d
  | .ex _ => Mo.fail
section
variable {g : G} {X : Cx} {W : WX} {k j n : Nat} {x c m : Str} {md : List A → Mo (Rs D)} {kx : List (List Str × List Nat)} {p pos apos : Pos} {e o : Expr} {es : List Expr} {kws : List Keyword} {mo : Ev → Mo D} {ml : Ev → Mo (Rs (List D))} {mk : Ev → Mo (List D)} {ks : List Str} {is : List Nat}
theorem ev_ofX {mx : Ev → Mo (Rs D)} (h : EX g X (fun _ _ _ _ => False) e mx) : EV g X e (unX mx) := by
  obtain ⟨t, p0, s⟩ := h.ex
  refine ⟨t, p0, fun av μ σ H Q ρ st d st' rl er hm p => ?_⟩
  obtain ⟨r, s1, h1, hm⟩ := Mo.bind_some hm
  cases r with
  | ok d' =>
    obtain ⟨z1, z2⟩ := Mo.pure_some hm
    subst z1 z2
    exact s av μ σ H Q ρ st _ _ rl er h1 p
  | ex e => cases hm
theorem ex_call (o : CalX X.prog X.w X.K X.mg X.base g k x n md kx) (hr : Room j X.A) (hk : k ≤ j) (tk : Takes X W) (hg : Gl X x) (ha : AX g X W (e :: es) ml)
    (hdb : (x == ("__debug__" : Str)) = false := by decide) (he : starEach (e :: es) X.env = (false, eval e X.env) :: starEach es X.env := by rfl) (hpl : (backTo pos (starEach es X.env)).any (·.1) = false := by rfl) :
    EX g X W (.Call (.Name x p) (e :: es) [] pos) (vFn n md ml) := by
  obtain ⟨f, fd, ps, F, hm, kp, b, _⟩ := o.ex
  obtain ⟨t, pa, sl⟩ := ha.ex
  refine ⟨_, pe_callS F (hr.mono hk) hg hm kp b (fun σ => passAt tk σ) pa hdb he hpl, fun av μ σ H Q ρ st r st' rl er hm p => ?_⟩
  rcases rsB_some hm with ⟨ds, s1, h1, hm⟩ | ⟨e, h1, rfl⟩
  · split at hm
    · rename_i hn
      exact sl av μ σ H _ ρ st _ s1 rl er h1 fun vs H1 μ1 e1 r1 q1 => ⟨by rw [q1.length]; exact hn, av, μ1, s1, _, r, st', r1, RpAs.of q1, hm, postRC (p.mono e1) (er.mono e1)⟩
    · cases hm
  · exact sl av μ σ H _ ρ st _ _ rl er h1 p
theorem ex_call0 (o : CalX X.prog X.w X.K X.mg X.base g k x 0 md kx) (hr : Room j X.A) (hk : k ≤ j) (tk : Takes X W) (hg : Gl X x) (hdb : (x == ("__debug__" : Str)) = false := by decide) : EX g X W (.Call (.Name x p) [] [] pos) (fun _ => md []) := by
  obtain ⟨f, fd, ps, F, hm, kp, b, _⟩ := o.ex
  exact ⟨_, pe_fn0 F (hr.mono hk) hg hm kp b (fun σ => passAt tk σ) hdb, fun av μ σ H Q ρ st r st' rl er hm p => ⟨rfl, av, μ, st, [], r, st', rl, .nil, hm, postRC p er⟩⟩
theorem ex_callK (o : CalX X.prog X.w X.K X.mg X.base g k x n md kx) (hq : (ks, is) ∈ kx) (hr : Room j X.A) (hk : k ≤ j) (tk : Takes X W) (hg : Gl X x) (ha : KV g X kws mk)
    (hall : (backToKw pos (keywordEach kws X.env)).all (·.1.isSome) = true := by rfl) (hks : (backToKw pos (keywordEach kws X.env)).filterMap (·.1) = ks := by rfl) (hdb : (x == ("__debug__" : Str)) = false := by decide)
    (hpl : ((backTo pos (starEach [] X.env)).any (·.1) || (backToKw pos (keywordEach kws X.env)).any (·.1.isNone)) = false := by rfl) :
    EX g X W (.Call (.Name x p) [] kws pos) (vKw ks.length is (fun ds => if ds.length = n then md (ds.map .d) else Mo.fail) mk) := by
  obtain ⟨f, fd, ps, F, hm, kp, _, b⟩ := o.ex
  obtain ⟨t, pa, sl⟩ := ha.ex
  refine ⟨_, pe_fnK F (hr.mono hk) hg hm kp (b _ hq) (fun σ => passAt tk σ) pa hall hks hdb hpl, fun av μ σ H Q ρ st r st' rl er hm p => ?_⟩
  obtain ⟨ds, s1, h1, hm⟩ := Mo.bind_some hm
  split at hm
  · rename_i hl
    dsimp only at hm
    split at hm
    · rename_i hn
      refine sl av μ σ H _ ρ st ds s1 rl er h1 fun vs H1 μ1 e1 r1 q1 => ⟨by rw [q1.length]; exact hl, ?_⟩
      have q2 := pick_rp q1 is
      exact ⟨by rw [List.nil_append, q2.length]; exact hn, av, μ1, s1, _, r, st', r1, RpAs.of q2, hm, postRC (p.mono e1) (er.mono e1)⟩
    · cases hm
  · cases hm
theorem mt_at {K : PySem.W.Frag} {av μ : List Addr} {st : List Ob} {H : Hp} {v : V} {d : D} {c' : Str} {ns : List Str} {ds : List D} (rl : Rel K g av μ st H) (h : Rp K g.ca av μ H v d) (e : insOf st d = some (c', ns, ds)) (hc : c' = c ∧ m ∉ ns) : ∃ a dx fs, v = .ref a ∧ H a = some (.ins (g.ca c) dx fs) ∧ fs.lookup m = none := by
  obtain ⟨a, dx, fs, rfl, hH, rfl, _⟩ := ins_of rl h e
  obtain ⟨rfl, hn⟩ := hc
  refine ⟨a, dx, fs, rfl, hH, ?_⟩
  cases z : fs.lookup m with
  | none => rfl
  | some u => exact absurd (List.mem_map_of_mem (PySem.mem_of_lookup z)) hn
theorem ex_mt (M : MetX X.prog X.w X.K X.mg X.base g k c m n md kx) (hr : Room j X.A) (hk : k ≤ j) (tk : Takes X W) {pl : Sem Bool} (ho : EV g X o mo) (ha : AX g X W (e :: es) ml)
    (hst : starEach (e :: es) X.env = (false, eval e X.env) :: starEach es X.env := by rfl) (hpl : (backTo pos (starEach es X.env)).any (·.1) = false := by rfl)
    (ht : eval (.Call (.Attribute o m apos) (e :: es) [] pos) X.env = (do
      let ov ← eval o X.env
      standAt apos.atName
      let (f, first) ← holding [ov] (getMethod ov m pl)
      callWith pos f first (backTo pos (starEach (e :: es) X.env)) (backToKw pos (keywordEach [] X.env))) := by rfl) :
    EX g X W (.Call (.Attribute o m apos) (e :: es) [] pos) (vMt c m n md mo ml) := by
  obtain ⟨f, fd, ps, F, hm, b, _⟩ := M.ex
  obtain ⟨to, po, so⟩ := ho.ex
  obtain ⟨t, pa, sl⟩ := ha.ex
  refine ⟨_, pe_mt po M.cl hm F (hr.mono hk) b (fun σ => passAt tk σ) pa hst hpl ht, fun av μ σ H Q ρ st r st' rl er hm p => ?_⟩
  obtain ⟨d, s1, h1, hm⟩ := Mo.bind_some hm
  split at hm
  · rename_i c' ns ds hi
    split at hm
    · rename_i hc
      refine so av μ σ H _ ρ st d s1 rl er h1 fun v H1 μ1 e1 r1 q1 => ?_
      obtain ⟨a, dx, fs, rfl, hH, hl⟩ := mt_at r1 q1 hi hc
      refine ⟨a, dx, fs, rfl, hH, hl, ?_⟩
      rcases rsB_some hm with ⟨es', s2, h2, hm⟩ | ⟨e', h2, rfl⟩
      · split at hm
        · rename_i hn
          exact sl av μ1 σ H1 _ ρ s1 _ s2 r1 (er.mono e1) h2 fun vs H2 μ2 e2 r2 q2 => ⟨by rw [List.length_cons, q2.length, hn], av, μ2, s2, .d d :: es'.map .d, r, st', r2, .cons (show RpA _ g av μ2 H2 _ (.d d) from q1.mono e2) (RpAs.of q2), hm, postRC (p.mono (e1.trans e2)) (er.mono (e1.trans e2))⟩
        · cases hm
      · exact sl av μ1 σ H1 _ ρ s1 _ _ r1 (er.mono e1) h2 (PostE.mono p e1)
    · cases hm
  · cases hm
theorem ex_mt0 (M : MetX X.prog X.w X.K X.mg X.base g k c m 0 md kx) (hr : Room j X.A) (hk : k ≤ j) (tk : Takes X W) {pl : Sem Bool} (ho : EV g X o mo)
    (ht : eval (.Call (.Attribute o m apos) [] [] pos) X.env = (do
      let ov ← eval o X.env
      standAt apos.atName
      let (f, first) ← holding [ov] (getMethod ov m pl)
      callWith pos f first (backTo pos (starEach [] X.env)) (backToKw pos (keywordEach [] X.env))) := by rfl) :
    EX g X W (.Call (.Attribute o m apos) [] [] pos) (vMt c m 0 md mo (vLift xNil)) := by
  obtain ⟨f, fd, ps, F, hm, b, _⟩ := M.ex
  obtain ⟨to, po, so⟩ := ho.ex
  refine ⟨_, pe_mt0 po M.cl hm F (hr.mono hk) b (fun σ => passAt tk σ) ht, fun av μ σ H Q ρ st r st' rl er hm p => ?_⟩
  obtain ⟨d, s1, h1, hm⟩ := Mo.bind_some hm
  split at hm
  · rename_i c' ns ds hi
    split at hm
    · rename_i hc
      refine so av μ σ H _ ρ st d s1 rl er h1 fun v H1 μ1 e1 r1 q1 => ?_
      obtain ⟨a, dx, fs, rfl, hH, hl⟩ := mt_at r1 q1 hi hc
      refine ⟨a, dx, fs, rfl, hH, hl, ?_⟩
      rcases rsB_some hm with ⟨es', s2, h2, hm⟩ | ⟨e', h2, rfl⟩
      · cases h2
        split at hm
        · exact ⟨rfl, av, μ1, _, [.d d], r, st', r1, .cons (show RpA _ g av μ1 H1 _ (.d d) from q1) .nil, hm, postRC (p.mono e1) (er.mono e1)⟩
        · cases hm
      · cases h2
    · cases hm
  · cases hm
theorem ex_mtK (M : MetX X.prog X.w X.K X.mg X.base g k c m n md kx) (hq : (ks, is) ∈ kx) (hln : is.length = n) (hr : Room j X.A) (hk : k ≤ j) (tk : Takes X W) {pl : Sem Bool} (ho : EV g X o mo) (ha : KV g X kws mk)
    (hall : (backToKw pos (keywordEach kws X.env)).all (·.1.isSome) = true := by rfl) (hks : (backToKw pos (keywordEach kws X.env)).filterMap (·.1) = ks := by rfl)
    (hpl : ((backTo pos (starEach [] X.env)).any (·.1) || (backToKw pos (keywordEach kws X.env)).any (·.1.isNone)) = false := by rfl)
    (ht : eval (.Call (.Attribute o m apos) [] kws pos) X.env = (do
      let ov ← eval o X.env
      standAt apos.atName
      let (f, first) ← holding [ov] (getMethod ov m pl)
      callWith pos f first (backTo pos (starEach [] X.env)) (backToKw pos (keywordEach kws X.env))) := by rfl) :
    EX g X W (.Call (.Attribute o m apos) [] kws pos) (vMtK c m ks.length is (fun as => if as.length = n + 1 then md as else Mo.fail) mo mk) := by
  obtain ⟨f, fd, ps, F, hm, _, b⟩ := M.ex
  obtain ⟨to, po, so⟩ := ho.ex
  obtain ⟨t, pa, sl⟩ := ha.ex
  refine ⟨_, pe_mtK po M.cl hm F (hr.mono hk) (b _ hq) (fun σ => passAt tk σ) pa hall hks hpl ht, fun av μ σ H Q ρ st r st' rl er hm p => ?_⟩
  obtain ⟨d, s1, h1, hm⟩ := Mo.bind_some hm
  split at hm
  · rename_i c' ns ds hi
    split at hm
    · rename_i hc
      refine so av μ σ H _ ρ st d s1 rl er h1 fun v H1 μ1 e1 r1 q1 => ?_
      obtain ⟨a, dx, fs, rfl, hH, hl⟩ := mt_at r1 q1 hi hc
      refine ⟨a, dx, fs, rfl, hH, hl, ?_⟩
      obtain ⟨es', s2, h2, hm⟩ := Mo.bind_some hm
      split at hm
      · rename_i hn
        dsimp only at hm
        split at hm
        · rename_i hn2
          refine sl av μ1 σ H1 _ ρ s1 _ s2 r1 (er.mono e1) h2 fun vs H2 μ2 e2 r2 q2 => ⟨by rw [q2.length]; exact hn, ?_⟩
          have q3 := pick_rp q2 is
          refine ⟨?_, av, μ2, s2, .d d :: (pick is es').map .d, r, st', r2, .cons (show RpA _ g av μ2 H2 _ (.d d) from q1.mono e2) (RpAs.of q3), hm, postRC (p.mono (e1.trans e2)) (er.mono (e1.trans e2))⟩
          simpa [q3.length] using hn2
        · cases hm
      · cases hm
    · cases hm
  · cases hm
theorem make_semX {K : PySem.W.Frag} {av μ : List Addr} {st st' : List Ob} {H : Hp} {vs : List V} {ds : List D} {r : Rs D} {Q : VK} {E : XK} (rl : Rel K g av μ st H) (rs : RpL K g.ca av μ H vs ds) (hm : mkMx c n md ds st = some (r, st')) (p : PostRC K g av μ H r st' Q E) :
    ∀ x dx, H x = none → H dx = none → dx ≠ x → SpGx K g (n + 1) md (.ref x :: vs) (upd (upd H dx (.own x)) x (.ins (g.ca c) dx [])) (fun v H2 => v = .non ∧ Q (.ref x) H2) E := fun x dx nx ndx hne => by
  have e1 : Ext μ μ H (upd H dx (.own x)) := Ext.new ndx
  have r1 := rl.new (o := .own x) ndx
  have nx1 : upd H dx (.own x) x = none := by rw [upd_ne (fun z => hne z.symm)]; exact nx
  obtain ⟨r2, e2⟩ := r1.push (o := .ins (g.ca c) dx []) (ob := .ins c [] []) nx1 (RpO.ins (fv := []) upd_same .nil)
  have lx : (μ ++ [x])[st.length]? = some x := by
    rw [← rl.len, List.getElem?_append_right (Nat.le_refl _), Nat.sub_self]
    rfl
  have ra : RpAs K g av (μ ++ [x]) (upd (upd H dx (.own x)) x (.ins (g.ca c) dx [])) (.ref x :: vs) (.d (.loc st.length) :: ds.map .d) := .cons (show RpA K g av (μ ++ [x]) _ _ (.d _) from .loc lx) (RpAs.of (RpL.mono (e1.trans e2) rs))
  unfold mkMx at hm
  split at hm
  · rename_i hl
    have l : (V.ref x :: vs).length = n + 1 := by rw [List.length_cons, rs.length, hl]
    split at hm
    · rename_i st2 h2
      cases hm
      refine ⟨l, av, μ ++ [x], _, _, _, _, r2, ra, h2, fun v H' μ' x' r' q' => ?_⟩
      cases q'
      refine ⟨rfl, p _ H' μ' ((e1.trans e2).trans x') r' (.loc ?_)⟩
      obtain ⟨⟨rr, er, _⟩, _, _⟩ := x'
      rw [er, List.getElem?_append_left (List.getElem?_eq_some_iff.mp lx).1]
      exact lx
    · rename_i e st2 h2
      cases hm
      exact ⟨l, av, μ ++ [x], _, _, _, _, r2, ra, h2, PostC.mono p (e1.trans e2)⟩
    · cases hm
  · cases hm
theorem ex_mk (M : MakX X.prog X.w X.K X.mg X.base g k x c n md kx) (hr : Room j X.A) (hk : k + 1 ≤ j) (tk : Takes X W) (hg : Gl X x) (ha : AX g X W (e :: es) ml)
    (hdb : (x == ("__debug__" : Str)) = false := by decide) (he : starEach (e :: es) X.env = (false, eval e X.env) :: starEach es X.env := by rfl) (hpl : (backTo pos (starEach es X.env)).any (·.1) = false := by rfl) :
    EX g X W (.Call (.Name x p) (e :: es) [] pos) (vMake c n md ml) := by
  obtain ⟨f, fd, ps, F, Mf, hm, b, _⟩ := M.ex
  obtain ⟨t, pa, sl⟩ := ha.ex
  refine ⟨_, pe_mk Mf F (hr.mono hk) hg hm b (fun σ => passAt tk σ) pa hdb he hpl, fun av μ σ H Q ρ st r st' rl er hm p => ?_⟩
  rcases rsB_some hm with ⟨ds, s1, h1, hm⟩ | ⟨e, h1, rfl⟩
  · exact sl av μ σ H _ ρ st _ s1 rl er h1 fun vs H1 μ1 e1 r1 q1 => make_semX r1 q1 hm (postRC (p.mono e1) (er.mono e1))
  · exact sl av μ σ H _ ρ st _ _ rl er h1 p
theorem ex_mkK (M : MakX X.prog X.w X.K X.mg X.base g k x c n md kx) (hq : (ks, is) ∈ kx) (hr : Room j X.A) (hk : k + 1 ≤ j) (tk : Takes X W) (hg : Gl X x) (ha : KV g X kws mk)
    (hall : (backToKw pos (keywordEach kws X.env)).all (·.1.isSome) = true := by rfl) (hks : (backToKw pos (keywordEach kws X.env)).filterMap (·.1) = ks := by rfl) (hdb : (x == ("__debug__" : Str)) = false := by decide)
    (hpl : ((backTo pos (starEach [] X.env)).any (·.1) || (backToKw pos (keywordEach kws X.env)).any (·.1.isNone)) = false := by rfl) :
    EX g X W (.Call (.Name x p) [] kws pos) (vKw ks.length is (mkMx c n md) mk) := by
  obtain ⟨f, fd, ps, F, Mf, hm, _, b⟩ := M.ex
  obtain ⟨t, pa, sl⟩ := ha.ex
  refine ⟨_, pe_mkK Mf F (hr.mono hk) hg hm (b _ hq) (fun σ => passAt tk σ) pa hall hks hdb hpl, fun av μ σ H Q ρ st r st' rl er hm p => ?_⟩
  obtain ⟨ds, s1, h1, hm⟩ := Mo.bind_some hm
  split at hm
  · rename_i hl
    exact sl av μ σ H _ ρ st ds s1 rl er h1 fun vs H1 μ1 e1 r1 q1 => ⟨by rw [q1.length]; exact hl, make_semX r1 (pick_rp q1 is) hm (postRC (p.mono e1) (er.mono e1))⟩
  · cases hm
/-- o.f = e, e may raise -/
def zSetF (c f : Str) (mo : Ev → Mo D) (mv : Ev → Mo (Rs D)) : Ev → Mo OutX := fun ρ => rsO ρ (mv ρ) fun v => (mo ρ).bind fun o st => match o with
  | .loc n => (match st[n]? with
    | some (.ins c' ns ds) => if c' = c ∧ ns.length < 1000 then some (.o (.nx ρ), st.set n (.ins c (putN f ns) (put1 f v ns ds))) else none
    | _ => none)
  | _ => none
theorem sx_fld {f : Str} {pos' : Pos} {me : Ev → Mo (Rs D)} (hc : Cls X.K (g.ca c)) (hn : NoAttr X.K (g.ca c) f) (ho : EV g X o mo) (he : EX g X W e me) (hs : swapsWith e (some (.Attribute o f pos')) pos.line X.env = pure false := by rfl) : SX g X W (.Assign [.Attribute o f pos'] e pos) (zSetF c f mo me) := by
  obtain ⟨to, po, so⟩ := ho.ex
  obtain ⟨te, pe, se⟩ := he.ex
  refine ⟨_, ps_fld po pe hs, fun av μ σ H E ρ st out st' rl er hm p => ?_⟩
  rcases rsO_some hm with ⟨v, s1, h1, hm⟩ | ⟨e, h1, rfl⟩
  · obtain ⟨x, s2, h2, hm⟩ := Mo.bind_some hm
    refine se av μ σ H _ ρ st _ s1 rl er h1 fun vv H1 μ1 e1 r1 q1 => ?_
    refine so av μ1 σ H1 _ ρ s1 x s2 r1 (er.mono e1) h2 fun vo H2 μ2 e2 r2 q2 => ?_
    split at hm
    · rename_i n
      split at hm
      · rename_i c' ns ds hst
        split at hm
        · rename_i hcl
          obtain ⟨rfl, hlen⟩ := hcl
          cases hm
          cases q2 with
          | @loc _ a hn2 =>
            cases r2.obs n _ _ hn2 hst with
            | @ins dx _ fv _ hH l =>
              refine ⟨a, _, dx, fv, rfl, hH, hc, hn, by simpa using hlen, ?_⟩
              have xw : Ext μ2 μ2 H2 (upd H2 a (.ins (g.ca c') dx (putF f vv fv))) := Ext.write r2 hn2
              obtain ⟨w1, w2⟩ := put1_ok (f := f) (Rp.mono xw (Rp.mono e2 q1)) (RpL.mono xw l)
              have ro : RpO X.K g.ca av μ2 (upd H2 a (.ins (g.ca c') dx (putF f vv fv))) a (.ins c' ((putF f vv fv).map (·.1)) (put1 f v (fv.map (·.1)) ds)) := .ins upd_same w1
              rw [w2] at ro
              exact p σ _ μ2 ((e1.trans e2).trans xw) (r2.write hn2 ro) (er.mono ((e1.trans e2).trans xw))
        · cases hm
      · cases hm
    · cases hm
  · exact se av μ σ H _ ρ st _ _ rl er h1 p
end
end MM
set_option autoImplicit false
set_option maxRecDepth 100000
set_option maxHeartbeats 4000000
/-! MX5: a lambda without parameters, handed on and called in a try; the handler. -/
namespace MM
open PySem PySem.Spec PyProof.Rows L2 LamX NdefX
/-! ### the strongest readings -/
def TXof (K : PySem.W.Frag) (g : G) (W : WX) (m : Ev → Mo (Rs D)) : TE := fun σ H Q => ∃ av μ ρ st r st', Rel K g av μ st H ∧ EnvR K g av μ H σ ρ ∧ m ρ st = some (r, st') ∧ PostR K g av μ H ρ r st' Q W
theorem EX.pe {g : G} {X : Cx} {W : WX} {e : Expr} {m : Ev → Mo (Rs D)} (h : EX g X W e m) : PE X e (TXof X.K g W m) := by
  obtain ⟨t, p, s⟩ := h.ex
  exact ⟨fun pins s0 σ H Q I ⟨av, μ, ρ, st, r, st', rl, er, hm, q⟩ => p.run pins s0 σ H Q I (s av μ σ H Q ρ st r st' rl er hm q)⟩
def TSof (K : PySem.W.Frag) (g : G) (m : Ev → Mo Out) : TS := fun E σ H => ∃ av μ ρ st o st', Rel K g av μ st H ∧ EnvR K g av μ H σ ρ ∧ m ρ st = some (o, st') ∧ PostS K g av μ H o st' E
theorem BV.pss {g : G} {X : Cx} {b : List Stmt} {m : Ev → Mo Out} (h : BV g X b m) : PSs X b (TSof X.K g m) := by
  obtain ⟨t, p, s⟩ := h.ex
  exact ⟨fun pins s0 σ H D I ⟨av, μ, ρ, st, o, st', rl, er, hm, q⟩ => p.run pins s0 σ H D I (s av μ σ H D ρ st o st' rl er hm q)⟩
theorem pe_no {X : Cx} {e : Expr} : PE X e (fun _ _ _ => False) := ⟨fun pins s σ H Q I h => h.elim⟩
/-! ### a lambda without parameters -/
def putCaps (n : Nat) : List Nat → List D → Ev
  | j :: js, d :: ds => (putCaps n js ds).set j (some (.d d))
  | _, _ => List.replicate n none
theorem putCaps_ok {K : PySem.W.Frag} {g : G} {av μ : List Addr} {H : Hp} {σ : L2.St} : ∀ {js : List Nat} {cv : List V} {caps : List D}, js.map (slotAt σ) = cv.map some → RpL K g.ca av μ H cv caps → EnvR K g av μ H σ (putCaps σ.length js caps)
  | [], cv, caps, h, r => by
    cases cv with
    | nil =>
      cases r
      exact ⟨by simp [putCaps], fun i x e => by have := List.mem_of_getElem? e; simp [putCaps] at this⟩
    | cons _ _ => cases h
  | j :: js, cv, caps, h, r => by
    cases cv with
    | nil => cases h
    | cons v cv =>
      cases r with
      | @cons _ _ d ds r1 r2 =>
        rw [List.map_cons, List.map_cons] at h
        injection h with h1 h2
        have ih := putCaps_ok h2 r2
        refine ⟨by show σ.length = ((putCaps σ.length js ds).set j _).length; rw [List.length_set]; exact ih.len, fun i x e => ?_⟩
        change ((putCaps σ.length js ds).set j (some (.d d)))[i]? = _ at e
        by_cases hij : j = i
        · subst hij
          by_cases hl : j < (putCaps σ.length js ds).length
          · rw [List.getElem?_set_self hl] at e
            cases e
            refine ⟨v, ?_, r1⟩
            unfold NdefX.slotAt at h1
            cases z : σ[j]? with
            | none => rw [z] at h1; cases h1
            | some o => rw [z] at h1; cases o with
              | none => cases h1
              | some u => cases h1; rfl
          · rw [List.getElem?_eq_none (by rw [List.length_set]; omega)] at e
            cases e
        · rw [List.getElem?_set_ne hij] at e
          exact ih.at_ i x e
def vAct (i n : Nat) (js : List Nat) (mb : Ev → Mo (Rs D)) : Ev → Mo (Rs D) := fun ρ => match ρ[i]? with
  | some (some (.clo k caps)) => if k = 0 then mb (putCaps n js caps) else Mo.fail
  | _ => Mo.fail
theorem vAct_some {i n : Nat} {js : List Nat} {mb : Ev → Mo (Rs D)} {ρ : Ev} {st : List Ob} {r : Rs D × List Ob} (h : vAct i n js mb ρ st = some r) : ∃ caps, ρ[i]? = some (some (.clo 0 caps)) ∧ mb (putCaps n js caps) st = some r := by
  unfold vAct at h
  cases e : ρ[i]? with
  | none => rw [e] at h; cases h
  | some o =>
    rw [e] at h
    cases o with
    | none => cases h
    | some x =>
      cases x with
      | d _ => cases h
      | clo k caps =>
        dsimp only at h
        split at h
        · rename_i hk
          subst hk
          exact ⟨caps, rfl, h⟩
        · cases h
def xLam0 (js : List Nat) (md : List A → Mo D) : Ev → Mo D := fun ρ => match capsOf ρ js with
  | some caps => md [.clo 0 caps]
  | none => Mo.fail
section
variable {X : Cx} {pins : List (Addr × Obj)} {σ : L2.St} {H : Hp} {s : Shared}
theorem pe_actS {CXg : CXT} {Eg : XK} {Ng : List Str} {qg : Str} {sg : Scope} {gf f c' : Addr} {cdg pm ctv : Value} {params : Arguments} {body : Expr} {scope : Scope} {k i : Nat} {a : Str} {pn : List (Addr × Obj)} {xe : Value → Shared → Prop} {W : WX} {tb : XK → TE} {p1 p2 : Pos}
    (I : Inv X pins σ H s) (L : LamS X.env.scope scope) (hf : s.heap.get? f = some (PySem.W.kla_obj "<lambda>" (X.env.qual ++ "<lambda>") params body scope (cloFrom X.env.cells scope.names []) pm c' ctv)) (hfn : H f = none) (hfr : f ∉ frs X.stack)
    (hbind : bindArgs (PySem.W.kla_fn "<lambda>" (X.env.qual ++ "<lambda>") params body scope (cloFrom X.env.cells scope.names []) pm (.ref c') ctv) ⟨[], []⟩ = pure [])
    (tk : Takes ((cxOf CXg X.prog X.w X.K X.mg X.base Ng qg sg gf cdg X.A X.stack s H Eg).tr pn xe) W) (hr : Room (k + 1) (X.A.deeper (envOfC qg sg s.heap.objs.size gf cdg)))
    (hbody : ∀ (E : XK) (A : Around) (outer : List Env) (s : Shared) (H : Hp), Room k (A.deeper (lamEnv X scope s.heap.objs.size f c')) → PE (lamCx X A outer s H E scope f c') body (tb E))
    (hN : Ng[i]? = some a) (hv : Vis sg a) (hd : (a == ("__debug__" : Str)) = false := by decide) (hcd : (a == ("__classdict__" : Str)) = false := by decide) :
    PE ((cxOf CXg X.prog X.w X.K X.mg X.base Ng qg sg gf cdg X.A X.stack s H Eg).tr pn xe) (.Call (.Name a p1) [] [] p2)
      (fun σZ HZ Q => σZ[i]? = some (some (.ref f)) ∧ HZ c' = some (CodeO c' (X.env.qual ++ "<lambda>")) ∧ tb (WE W σZ) σ HZ Q) := by
  refine ⟨fun pinsZ sZ σZ HZ Q IZ ⟨hs, hc, ht⟩ => ?_⟩
  refine wpAny_Call_Name_kw (thn ((pe_var (pos := p1) (i := i) hN hv hd hcd).run pinsZ sZ σZ HZ (fun v H1 => v = .ref f ∧ H1 = HZ) IZ ⟨.ref f, hs, rfl, rfl⟩) fun u s1 ⟨v, H1, I1, r1, ev, eH⟩ => ?_)
  cases ev
  rw [eH] at I1
  have eu : u = Value.ref f := r1
  cases eu
  have of1 := I1.base.keep f _ hf hfn hfr (fun z => nomatch (show f ∈ ([] : List Addr) from z))
  refine PySem.W.callWith_F0 ⟨_, _, _, _, of1⟩ ?_
  obtain ⟨⟨oc, vs, t, hoc, hdc, hvc⟩, _, _⟩ := I1.hok c' _ hc
  have rc : codeAny (model X.prog X.w) (X.A.deeper (envOfC qg sg s.heap.objs.size gf cdg)) (.call (.ref f) ⟨[], []⟩) (CR (L2.CX X.prog X.w) (envOfC qg sg s.heap.objs.size gf cdg :: X.stack) X.prog X.w HZ s1 Q (WE W σZ)) s1 := by
    refine PySem.W.kla_callFunE hr.depth of1 rfl L.co L.gen rfl ⟨c', oc, vs, t, rfl, hoc, hdc, hvc⟩ ?_
    rw [hbind]
    refine wpAny_pure (wpAny_newFunctionEnv (fun y hy => (L.own y hy).2) (fun y hy => absurd hy (by simp)) (fun h₁ hns hsb => ⟨I1.nolimit.fresh _ hsb, ?_⟩) L.kind)
    have kp : ∀ b o, s1.heap.get? b = some o → h₁.get? b = some o := fun b o e => hsb.extBut b o (Nat.ne_of_lt (Heap.lt_size e)) (Heap.get?_push_of_some _ e)
    have J := lam_start2 (E := WE W σZ) (c' := c') (f := f) (tk := s1.toks + ([] : List (Str × Value)).length) I L I1.env0 hr.hd I1.base hns kp
    exact PySem.W.kla_codeExpr (wpAny_mono ((hbody (WE W σZ) _ _ s1 HZ (hr.deeper _)).run [] _ _ HZ Q J ht) (fun v s' ⟨w', H', J', rv, q⟩ => ⟨w', H', J'.os, J'.bare, J'.base, J'.hok, rv, q⟩) fun e s' hq => hq)
  refine wpAny_call (codeAny_mono rc fun r s' hq => ?_)
  match r, hq with
  | .error e, hq => exact passAt tk σZ pinsZ HZ s1 e s' I1 hq
  | .ok (.ret u), hq => exact I1.after hq
  | .ok .next, hq => exact False.elim hq
  | .ok .brk, hq => exact False.elim hq
  | .ok .cont, hq => exact False.elim hq
end
/-- f(lambda: body) -/
theorem ev_lam0 {g : G} {X : Cx} {x a : Str} {pg : Arguments} {bg : List Stmt} {sg : Scope} {fg : Addr} {fd : FuncData} {Ng : List Str} {k n : Nat} {params : Arguments} {body : Expr} {scope : Scope} {lpos p pos : Pos}
    {c P : Addr} {nm : Nat → Nat → Str} {js : List Nat} {mlam : Ev → Mo (Rs D)} {mG : Ev → Mo Out}
    (Fg : FunD X.K x x pg bg sg [] [] fg fd) (hm : X.mg x = some (.ref fg)) (hs : C8.scC Ng [a] sg = true)
    (hbd : ∀ (kV doc pm : Value) (an : Option Addr) (cdv ct : Value) (us : List Value), us.length = [a].length → bindArgs (PySem.W.fnOf x x pg bg sg .none kV doc pm an cdv ct) ⟨us, []⟩ = pure ([a].zip us))
    (hg : Gl X x) (hr : Room (k + 2) X.A) (hn0 : X.N.length = n)
    (TB : TabB X.base X.mg c P) (hcode : X.env.code = .ref c) (hmT : (P, nm) ∈ g.T) (hn : nm lpos.line lpos.col = X.env.qual ++ "<lambda>") (hu : ∀ p ∈ g.T, p.1 = P → p.2 = nm)
    (hS : lamSB X.env.scope scope = true) (hdef : defaultsOf params X.env = ([], []))
    (hbind : ∀ (q : Str) (cl : List (Str × Addr)) (pm cv ctv : Value), bindArgs (PySem.W.kla_fn "<lambda>" q params body scope cl pm cv ctv) ⟨[], []⟩ = pure [])
    (hbody : ∀ (E : XK) (A : Around) (outer : List Env) (s : Shared) (H : Hp) (f c' : Addr), Room k (A.deeper (lamEnv X scope s.heap.objs.size f c')) → EX g (lamCx X A outer s H E scope f c') (wE E) body mlam)
    (hNa : Ng[0]? = some a) (hva : Vis sg a)
    (hG : ∀ (clo : Hp → Nat → V → List (Addr × V) → Prop) (cloK : ∀ (H H' : Hp) k v cs, clo H k v cs → (∀ b o, H b = some o → Imm o → H' b = some o) → clo H' k v cs) (cdg : Value) (s : Shared) (H : Hp),
      Room (k + 1) (cxOf C8.CX0 X.prog X.w X.K X.mg X.base Ng x sg fg cdg X.A X.stack s H C8.E0).A →
      (∀ (W : WX) (pn : List (Addr × Obj)) (xe : Value → Shared → Prop) (p1 p2 : Pos), Takes ((cxOf C8.CX0 X.prog X.w X.K X.mg X.base Ng x sg fg cdg X.A X.stack s H C8.E0).tr pn xe) W →
        EX ⟨g.ca, g.T, clo, cloK⟩ ((cxOf C8.CX0 X.prog X.w X.K X.mg X.base Ng x sg fg cdg X.A X.stack s H C8.E0).tr pn xe) W (.Call (.Name a p1) [] [] p2) (vAct 0 n js mlam)) →
      BV ⟨g.ca, g.T, clo, cloK⟩ (cxOf C8.CX0 X.prog X.w X.K X.mg X.base Ng x sg fg cdg X.A X.stack s H C8.E0) bg mG)
    (hdb : (x == ("__debug__" : Str)) = false := by decide) (hd : (a == ("__debug__" : Str)) = false := by decide) (hcd : (a == ("__classdict__" : Str)) = false := by decide) :
    EV g X (.Call (.Name x p) [.Lambda params body scope lpos] [] pos) (xLam0 js (runF Ng.length mG)) := by
  refine EV.mk' fun pins s σ H Q av μ ρ st d st' I rl er hm' p' => ?_
  unfold xLam0 at hm'
  cases ec : capsOf ρ js with
  | none => rw [ec] at hm'; cases hm'
  | some caps =>
    rw [ec] at hm'
    obtain ⟨oc, od, dV, kV, doc, pm, an, cdv, ct, osl, rfl, lk, hcd', _, _⟩ := Fg.ex
    have hb0 := Fg.bindsN hbd
    have L := lamS_by hS
    refine wpAny_Call_Name_kw (ld_glob I hg hm ?_ hdb)
    refine PySem.W.callWith_K (h₀ := X.base) I.ok.mod.kin Fg.kp ?_ (by rfl) (by rfl)
    show wpAny _ _ (spliced ((false, eval (.Lambda params body scope lpos) X.env) :: backTo pos (starEach [] X.env))) _ _ s
    refine Calls.spliced_cons (lam_makeN I TB hcode hmT hn hu rl.tab hdef (L.has I.ok) fun f c' pm' ctv H2 s2 I2 eN th T2 hf hfn hfr hco => ?_)
    refine Calls.spliced_nil ⟨I2.kIn, ?_⟩
    have e2 : Ext μ μ H H2 := ⟨⟨[], by simp, fun _ h => by cases h⟩, fun b o hb _ ht => eN b o hb ht, th⟩
    obtain ⟨cv, hcv, rcv⟩ := caps_ok (er.mono e2) ec
    have rl2 : Rel X.K g av μ st H2 := ⟨rl.len, rl.nd, fun b hb => ⟨fun z => (rl.avo b hb).1 (th b z), (rl.avo b hb).2⟩, fun n b ob x1 x2 => (rl.obs n b ob x1 x2).mono e2 fun o ho => eN b o ho (by
      obtain ⟨u, hu1, hu2⟩ := (rl.obs n b ob x1 x2).vol
      rw [ho] at hu1
      cases hu1
      exact hu2.tbl), T2⟩
    let CS : List (Addr × V) := cv.map fun v => (0, v)
    let clo : Hp → Nat → V → List (Addr × V) → Prop := fun H _ v cs => v = .ref f ∧ H c' = some (CodeO c' (X.env.qual ++ "<lambda>")) ∧ cs = CS
    have cloK : ∀ (H H' : Hp) k v cs, clo H k v cs → (∀ b o, H b = some o → Imm o → H' b = some o) → clo H' k v cs := fun H H' k v cs h q => ⟨h.1, q _ _ h.2.1 trivial, h.2.2⟩
    have eCS : CS.map (·.2) = cv := by
      show (cv.map fun v => ((0 : Addr), v)).map (·.2) = cv
      rw [List.map_map]
      exact List.map_id _
    have hr2 : Room ((k + 1) + 1) X.A := hr
    have hlen : σ.length = n := by rw [← hn0]; exact I.len
    have rc : codeAny (model X.prog X.w) X.A (.call (.ref fg) ⟨[.ref f], []⟩) (CR C8.CX0 X.stack X.prog X.w H2 s2 Q C8.E0) s2 := by
      refine run_ofS (N := Ng) (ps := [a]) (us := [.ref f]) (vs := [.ref f]) lk hcd' (C8.fnScope_by hs) hr2 I2.env0 (by simpa using hb0 s2 [.ref f] I2.kIn rfl) (.cons rfl .nil) rfl fun hr' => ?_
      have rl3 : Rel X.K ⟨g.ca, g.T, clo, cloK⟩ av μ st H2 := Rel.sw (g := g) rfl rfl rl2
      have rf : RpA X.K ⟨g.ca, g.T, clo, cloK⟩ av μ H2 (V.ref f) (.clo 0 caps) := ⟨CS, ⟨rfl, hco, rfl⟩, by rw [eCS]; exact rcv⟩
      have pz : Post X.K ⟨g.ca, g.T, clo, cloK⟩ av μ H2 d st' Q := fun v H' μ' x r q => (p'.mono e2) v H' μ' x (Rel.sw (g := ⟨g.ca, g.T, clo, cloK⟩) (g' := g) rfl rfl r) q
      refine body_ok (g := ⟨g.ca, g.T, clo, cloK⟩) (hG clo cloK cdv s2 H2 hr' fun W pn xe p1 p2 tk => ?_) rl3 (.cons rf .nil) hm' pz
      refine ⟨_, pe_actS (i := 0) (k := k) (tb := fun E => TXof X.K g (wE E) mlam) I2 L hf hfn hfr (hbind _ _ _ _ _) tk hr' (fun E A outer s H hr3 => (hbody E A outer s H f c' hr3).pe) hNa hva hd hcd, fun av' μ' σZ HZ QZ ρZ stZ rZ stZ' relZ erZ hmZ pZ => ?_⟩
      obtain ⟨caps', hcaps, hmZ⟩ := vAct_some hmZ
      · obtain ⟨v, z1, cs, ⟨z2, z3, z4⟩, z5⟩ := erZ.at_ 0 _ hcaps
        subst z2
        rw [z4, eCS] at z5
        have eL := putCaps_ok (g := g) hcv z5
        rw [hlen] at eL
        refine ⟨z1, z3, av', μ', _, stZ, rZ, stZ', Rel.sw (g := ⟨g.ca, g.T, clo, cloK⟩) (g' := g) rfl rfl relZ, eL, hmZ, ?_⟩
        cases rZ with
        | ok d => exact fun v H' μ'' x r q => pZ v H' μ'' x (Rel.sw (g := g) (g' := ⟨g.ca, g.T, clo, cloK⟩) rfl rfl r) q
        | ex e => exact fun cls d σ' H' μ'' x r _ z => pZ cls d σZ H' μ'' x (Rel.sw (g := g) (g' := ⟨g.ca, g.T, clo, cloK⟩) rfl rfl r) (erZ.mono x) z
    refine wpAny_call (codeAny_mono rc fun r' s' hq => ?_)
    match r', hq with
    | .error e, hq => exact (show False from hq).elim
    | .ok (.ret u), hq => exact I2.after hq
    | .ok .next, hq => exact False.elim hq
    | .ok .brk, hq => exact False.elim hq
    | .ok .cont, hq => exact False.elim hq
end MM
set_option autoImplicit false
set_option maxRecDepth 100000
set_option maxHeartbeats 4000000
/-! MX6: try .. except C as e; what the handler asks of e. -/
namespace MM
open PySem PySem.Spec PyProof.Rows L2 LamX NdefX
/-- within a handler: a the error in hand -/
def gH (g : G) (a : Addr) (cls : Value) (d : Option Addr) : G where
  ca := g.ca
  T := g.T
  clo := fun H k v cs => (k ≠ 77 ∧ g.clo H k v cs) ∨ (k = 77 ∧ v = .ref a ∧ ∃ (c f : Str) (xv : V) (dd : Addr), cs = [(0, .str c), (0, .str f), (0, xv)] ∧ cls = .ref (g.ca c) ∧ d = some dd ∧ H dd = some (.xd [(f, xv)]))
  cloK := fun H H' k v cs h q => h.imp (fun ⟨h1, h2⟩ => ⟨h1, g.cloK H H' k v cs h2 q⟩) fun ⟨h1, h2, c, f, xv, dd, h3, h4, h5, h6⟩ => ⟨h1, h2, c, f, xv, dd, h3, h4, h5, q _ _ h6 trivial⟩
def noExc (ρ : Ev) : Bool := ρ.all fun o => match o with
  | some (.clo k _) => k != 77
  | _ => true
section
variable {K : PySem.W.Frag} {g : G} {av μ : List Addr} {H : Hp} {σ : L2.St} {ρ : Ev} {a : Addr} {cls : Value} {d : Option Addr} {st : List Ob}
theorem noExc_at {i k : Nat} {cs : List D} (h : noExc ρ = true) (e : ρ[i]? = some (some (.clo k cs))) : k ≠ 77 := by
  have := List.all_eq_true.mp h _ (List.mem_of_getElem? e)
  simpa using this
theorem Rel.inH (r : Rel K g av μ st H) : Rel K (gH g a cls d) av μ st H := Rel.sw (g := g) (g' := gH g a cls d) rfl rfl r
theorem Rel.outH (r : Rel K (gH g a cls d) av μ st H) : Rel K g av μ st H := Rel.sw (g := gH g a cls d) (g' := g) rfl rfl r
theorem EnvR.inH (h : noExc ρ = true) (r : EnvR K g av μ H σ ρ) : EnvR K (gH g a cls d) av μ H σ ρ := ⟨r.len, fun i x e => by
  obtain ⟨v, h1, h2⟩ := r.at_ i x e
  refine ⟨v, h1, ?_⟩
  cases x with
  | d x => exact h2
  | clo k caps => obtain ⟨cs, q1, q2⟩ := h2; exact ⟨cs, .inl ⟨noExc_at h e, q1⟩, q2⟩⟩
theorem EnvR.outH (h : noExc ρ = true) (r : EnvR K (gH g a cls d) av μ H σ ρ) : EnvR K g av μ H σ ρ := ⟨r.len, fun i x e => by
  obtain ⟨v, h1, h2⟩ := r.at_ i x e
  refine ⟨v, h1, ?_⟩
  cases x with
  | d x => exact h2
  | clo k caps =>
    obtain ⟨cs, q1, q2⟩ := h2
    rcases q1 with ⟨_, q1⟩ | ⟨e2, _⟩
    · exact ⟨cs, q1, q2⟩
    · exact absurd e2 (noExc_at h e)⟩
theorem EnvR.hand {i : Nat} {v : V} {x : A} (r : EnvR K g av μ H σ ρ) (h : RpA K g av μ H v x) : EnvR K g av μ H (σ.set i (some v)) (ρ.set i (some x)) := by
  refine ⟨by rw [List.length_set, List.length_set, r.len], fun j y e => ?_⟩
  by_cases hij : i = j
  · subst hij
    by_cases hl : i < ρ.length
    · rw [List.getElem?_set_self hl] at e
      cases e
      exact ⟨v, by rw [List.getElem?_set_self (by rw [r.len]; exact hl)], h⟩
    · rw [List.getElem?_eq_none (by rw [List.length_set]; omega)] at e
      cases e
  · rw [List.getElem?_set_ne hij] at e
    obtain ⟨w, h1, h2⟩ := r.at_ j y e
    exact ⟨w, by rw [List.getElem?_set_ne hij]; exact h1, h2⟩
theorem EnvR.gone {i : Nat} (r : EnvR K g av μ H σ ρ) : EnvR K g av μ H (σ.set i none) (ρ.set i none) := by
  refine ⟨by rw [List.length_set, List.length_set, r.len], fun j y e => ?_⟩
  by_cases hij : i = j
  · subst hij
    by_cases hl : i < ρ.length
    · rw [List.getElem?_set_self hl] at e
      cases e
    · rw [List.getElem?_eq_none (by rw [List.length_set]; omega)] at e
      cases e
  · rw [List.getElem?_set_ne hij] at e
    obtain ⟨w, h1, h2⟩ := r.at_ j y e
    exact ⟨w, by rw [List.getElem?_set_ne hij]; exact h1, h2⟩
end
/-- the error that stands in slot i -/
def excAt (ρ : Ev) (i : Nat) : Option Ex := match ρ[i]? with
  | some (some (.clo k [.str c, .str f, x])) => if k = 77 then some ⟨c, f, x⟩ else none
  | _ => none
theorem excAt_some {ρ : Ev} {i : Nat} {e : Ex} (h : excAt ρ i = some e) : ρ[i]? = some (some (.clo 77 [.str e.c, .str e.f, e.x])) := by
  unfold excAt at h
  split at h
  · rename_i k c f x hx
    split at h
    · rename_i hk
      subst hk
      cases h
      exact hx
    · cases h
  · cases h
theorem exc_in {K : PySem.W.Frag} {g : G} {av μ : List Addr} {H : Hp} {σ : L2.St} {ρ : Ev} {a : Addr} {cls : Value} {d : Option Addr} {i : Nat} {e : Ex} (r : EnvR K (gH g a cls d) av μ H σ ρ) (h : excAt ρ i = some e) :
    σ[i]? = some (some (.ref a)) ∧ cls = .ref (g.ca e.c) ∧ ∃ (dd : Addr) (xv : V), d = some dd ∧ H dd = some (.xd [(e.f, xv)]) ∧ Rp K g.ca av μ H xv e.x := by
  obtain ⟨v, h1, cs, q1, q2⟩ := r.at_ i _ (excAt_some h)
  rcases q1 with ⟨z, _⟩ | ⟨_, rfl, c, f, xv, dd, rfl, z2, z3, z4⟩
  · exact absurd rfl z
  · cases q2 with
    | cons a1 b1 =>
      cases b1 with
      | cons a2 b2 =>
        cases b2 with
        | cons a3 b3 =>
          cases a1
          cases a2
          exact ⟨h1, z2, dd, xv, z3, z4, a3⟩
/-- what the written part says of a class of errors: to be asked -/
structure ExcT (K : PySem.W.Frag) (D : Addr) : Prop where
  xf : XfC K D
  ex : ExcC K D
def xEf (L : List Str) (i : Nat) (f : Str) : Ev → Mo D := fun ρ => match excAt ρ i with
  | some e => if e.c ∈ L ∧ e.f = f then Mo.pure e.x else Mo.fail
  | none => Mo.fail
def xEi (tb : Str → D → Option Bool) (i : Nat) (m : Ev → Mo D) : Ev → Mo D := fun ρ => match excAt ρ i with
  | some e => (m ρ).bind fun c st => (tb e.c c).map fun b => (.bl b, st)
  | none => Mo.fail
section
variable {g : G} {X : Cx} {a : Addr} {oe : Obj} {cls : Value} {d : Option Addr} {pn : List (Addr × Obj)}
/-- e.f -/
theorem ev_xf {L : List Str} {i : Nat} {f : Str} {en : Expr} {pos : Pos} (hL : ∀ c ∈ L, XfC X.K (g.ca c) ∧ PySem.W.findIn X.K (.ref (g.ca c)) f = some none) (hz : Zc cls d oe) (hf : ∃ vs, oe.data = .fields vs) (he : PE (X.suite a ((a, oe) :: pn)) en (tVar i))
    (hb : attributeBase en f X.env (eval en X.env) = eval en X.env := by rfl) : EV (gH g a cls d) (X.suite a ((a, oe) :: pn)) (.Attribute en f pos) (xEf L i f) := by
  by_cases hc : ∃ C, cls = .ref C ∧ XfC X.K C ∧ PySem.W.findIn X.K (.ref C) f = some none
  · obtain ⟨C, rfl, h1, h2⟩ := hc
    refine ⟨_, pe_xf h1 h2 hz hf he hb, fun av μ σ H Q ρ st r st' rl er hm p => ?_⟩
    unfold xEf at hm
    cases e : excAt ρ i with
    | none => rw [e] at hm; cases hm
    | some x =>
      rw [e] at hm
      dsimp only at hm
      split at hm
      · rename_i hx
        obtain ⟨z1, z2⟩ := Mo.pure_some hm
        subst z1 z2
        obtain ⟨q1, q2, dd, xv, q3, q4, q5⟩ := exc_in er e
        refine ⟨.ref a, q1, rfl, rfl, dd, _, xv, q3, q4, by rw [hx.2]; simp [List.lookup], p.here rl q5⟩
      · cases hm
  · refine ⟨_, pe_no, fun av μ σ H Q ρ st r st' rl er hm p => ?_⟩
    unfold xEf at hm
    cases e : excAt ρ i with
    | none => rw [e] at hm; cases hm
    | some x =>
      rw [e] at hm
      dsimp only at hm
      split at hm
      · rename_i hx
        obtain ⟨q1, q2, _⟩ := exc_in er e
        exact hc ⟨_, q2, hL _ hx.1⟩
      · cases hm
def rIsD (K : PySem.W.Frag) (D a dd : Addr) : List V → Hp → VK → Prop := fun xs H Q => ∃ (c : V) (cv : Value) (b : Bool) (fs : List (Str × V)), xs = [.ref a, c] ∧ (∀ u, L2.RelV c u → u = cv) ∧ H dd = some (.xd fs) ∧ PySem.W.kitOne K (.ref D) cv = some b ∧ Q (.bl b) H
theorem call_isD {D dd : Addr} (C : ExcC X.K D) (hz : Zc (.ref D) (some dd) oe) (hf : ∃ vs, oe.data = .fields vs) : CallR (X.suite a ((a, oe) :: pn)) (.builtin "isinstance") (rIsD X.K D a dd) := fun pins s σ H xs us Q I r ⟨c, cv, b, fs, ex, hcv, hd, e, q⟩ => by
  subst ex
  cases r with
  | cons rx rr =>
    cases rr with
    | cons rt rr =>
      cases rr
      cases rx
      cases hcv _ rt
      obtain ⟨hget, _⟩ := I.pin (a, oe) (List.mem_append.mpr (.inl List.mem_cons_self))
      obtain ⟨vs, hv⟩ := hf
      have hx : ObjOk X.prog X.w H s.heap dd (.xd fs) := I.hok dd _ hd
      obtain ⟨mA, hns, _⟩ := hx
      obtain ⟨od, ho, _⟩ := lookIn_ns hns
      have J : PySem.W.InstAt s.heap a oe D (some od) := ⟨hget, hz.1, by unfold PySem.W.notCls; rw [hv] <;> rfl, by rw [hz.2]; exact ho⟩
      obtain ⟨cd, hcd, _⟩ := PySem.W.any_some C.hd
      exact PySem.W.kia_one (PySem.W.kitx_exc (by rw [hcd]; rfl) C.hg C.hk C.hs C.ha C.hn C.ht C.hm) I.kIn J e (fun z => nomatch z) fun tk => ⟨.bl b, H, I.kept (t' := tk) fun _ _ z => z, rfl, q⟩
/-- the value of a class that is told by a datum -/
def ClsD (g : G) : D → Value → Prop
  | .cls c, v => v = .ref (g.ca c)
  | .ty T, v => v = .type T
  | _, _ => False
/-- isinstance(e, c) -/
theorem ev_isE {tb : Str → D → Option Bool} {i : Nat} {en ce : Expr} {mc : Ev → Mo D} {p pos : Pos} (ht : ∀ c x b, tb c x = some b → ExcC X.K (g.ca c) ∧ ∃ cv, ClsD g x cv ∧ PySem.W.kitOne X.K (.ref (g.ca c)) cv = some b) (hz : Zc cls d oe) (hf : ∃ vs, oe.data = .fields vs)
    (he : PE (X.suite a ((a, oe) :: pn)) en (tVar i)) (hce : EV (gH g a cls d) (X.suite a ((a, oe) :: pn)) ce mc) (hg : Gl (X.suite a ((a, oe) :: pn)) "isinstance") (hm : X.mg "isinstance" = none)
    (hs1 : starEach (en :: [ce]) X.env = (false, eval en X.env) :: starEach [ce] X.env := by rfl) (hs2 : starEach (ce :: []) X.env = (false, eval ce X.env) :: starEach [] X.env := by rfl) (hpl : (backTo pos (starEach [ce] X.env)).any (·.1) = false := by rfl) :
    EV (gH g a cls d) (X.suite a ((a, oe) :: pn)) (.Call (.Name "isinstance" p) [en, ce] [] pos) (xEi tb i mc) := by
  obtain ⟨tc, pc, sc⟩ := hce.ex
  by_cases hc : ∃ C dd, cls = .ref C ∧ d = some dd ∧ ExcC X.K C
  · obtain ⟨C, dd, rfl, rfl, h1⟩ := hc
    refine ⟨_, pe_callB (call_isD h1 hz hf) hg hm (by first | rfl | exact PyProof.Rows.Boot.«isinstance») (pa_cons he (pa_cons pc pa_nil hs2) hs1) (by decide) (by decide) hs1 hpl, fun av μ σ H Q ρ st r st' rl er hm p => ?_⟩
    unfold xEi at hm
    cases e : excAt ρ i with
    | none => rw [e] at hm; cases hm
    | some x =>
      rw [e] at hm
      obtain ⟨xc, s1, e1, hm⟩ := Mo.bind_some hm
      cases e2 : tb x.c xc with
      | none => rw [e2] at hm; cases hm
      | some b =>
        rw [e2] at hm
        cases hm
        obtain ⟨q1, q2, dd', xv, q3, q4, q5⟩ := exc_in er e
        cases q3
        refine ⟨.ref a, q1, sc av μ σ H _ ρ st xc _ rl er e1 fun v H1 μ1 x1 r1 p1 => ?_⟩
        obtain ⟨_, cv, k1, k2⟩ := ht _ _ _ e2
        have ec : C = g.ca x.c := Value.ref.inj q2
        rw [ec]
        refine ⟨v, cv, b, _, rfl, fun u hu => ?_, x1.imm _ _ q4 trivial, k2, p _ H1 μ1 x1 r1 (.bl b)⟩
        cases xc with
        | cls c2 =>
          cases p1
          have k1 : cv = .ref (g.ca c2) := k1
          rw [k1]
          exact hu
        | ty T =>
          cases p1
          have k1 : cv = .type T := k1
          rw [k1]
          exact hu
        | _ => exact k1.elim
  · refine ⟨_, pe_no, fun av μ σ H Q ρ st r st' rl er hm p => ?_⟩
    unfold xEi at hm
    cases e : excAt ρ i with
    | none => rw [e] at hm; cases hm
    | some x =>
      rw [e] at hm
      obtain ⟨xc, s1, e1, hm⟩ := Mo.bind_some hm
      cases e2 : tb x.c xc with
      | none => rw [e2] at hm; cases hm
      | some b =>
        obtain ⟨q1, q2, dd', xv, q3, _⟩ := exc_in er e
        exact hc ⟨_, dd', q2, q3, (ht _ _ _ e2).1⟩
end
/-! ### try -/
def goneO (i : Nat) : Out → Option Out
  | .nx ρ => if noExc (ρ.set i none) = true then some (.nx (ρ.set i none)) else none
  | .bk ρ => if noExc (ρ.set i none) = true then some (.bk (ρ.set i none)) else none
  | .ct ρ => if noExc (ρ.set i none) = true then some (.ct (ρ.set i none)) else none
  | .rt d => some (.rt d)
def zTry (tb : Str → Option Bool) (i : Nat) (mb : Ev → Mo OutX) (ms : Ev → Mo Out) : Ev → Mo OutX := fun ρ => (mb ρ).bind fun o => match o with
  | .o o => Mo.pure (.o o)
  | .ex e ρ' => match tb e.c with
    | some true => if noExc ρ' = true then ((ms (ρ'.set i (some (.clo 77 [.str e.c, .str e.f, e.x])))).bind fun o st => (goneO i o).map fun o => (.o o, st)) else Mo.fail
    | some false => Mo.pure (.ex e ρ')
    | none => Mo.fail
theorem sx_try_as {g : G} {X : Cx} {Wout : WX} {x n : Str} {c : Value} {i : Nat} {body suite : List Stmt} {b₀ : Stmt} {np pos pos' : Pos} {tb : Str → Option Bool} {mb : Ev → Mo OutX} {ms : Ev → Mo Out}
    (hs : X.stack = X.env :: X.outer) (hf : X.env.frame = some X.env.locals) (hN : X.N.Nodup) (hi : X.N[i]? = some n) (hln : X.env.kindOf n = some .local) (hc : Names X x c) (tk : Takes X Wout)
    (ht : ∀ c1 b, tb c1 = some b → PySem.W.exmOne X.K (.ref (g.ca c1)) c = some b)
    (hb : ∀ (W : WX) (pn : List (Addr × Obj)) (xe : Value → Shared → Prop), Takes (X.tr pn xe) W → PassesOwn (model X.prog X.w) X.A X.env xe → BX g (X.tr pn xe) W body mb)
    (hsu : ∀ (a : Addr) (oe : Obj) (cls : Value) (d : Option Addr) (pn : List (Addr × Obj)), Zc cls d oe → (∃ vs, oe.data = .fields vs) → BV (gH g a cls d) (X.suite a ((a, oe) :: pn)) (b₀ :: suite) ms) :
    SX g X Wout (.Try body [.ExceptHandler (some (.Name x np)) (some n) (b₀ :: suite) pos'] [] [] pos) (zTry tb i mb ms) := by
  refine ⟨_, ps_try_as (tb := fun W D σ H => ∃ av μ ρ st o st', Rel X.K g av μ st H ∧ EnvR X.K g av μ H σ ρ ∧ mb ρ st = some (o, st') ∧ PostSx X.K g av μ H o st' D W) (ts := fun a cls d => TSof X.K (gH g a cls d) ms) hs hf hN hi hln hc tk
    (fun W pn xe tk' hp => ?_) (fun a oe cls d pn hz hfl => (hsu a oe cls d pn hz hfl).pss), fun av μ σ H D ρ st o st' rl er hm p => ?_⟩
  · obtain ⟨t, pt, s⟩ := (hb W pn xe tk' hp).ex
    exact ⟨fun pins s0 σ H D I ⟨av, μ, ρ, st, o, st', rl, er, hm, q⟩ => pt.run pins s0 σ H D I (s av μ σ H D ρ st o st' rl er hm q)⟩
  · obtain ⟨o1, s1, h1, hm⟩ := Mo.bind_some hm
    refine ⟨av, μ, ρ, st, o1, s1, rl, er, h1, ?_⟩
    cases o1 with
    | o o1 =>
      obtain ⟨z1, z2⟩ := Mo.pure_some hm
      subst z1 z2
      exact p
    | ex e ρ1 =>
      intro cls d σ1 H1 μ1 x1 r1 er1 z
      obtain ⟨z1, dd, v, z2, z3, z4⟩ := z
      dsimp only at hm
      cases et : tb e.c with
      | none => rw [et] at hm; cases hm
      | some b =>
        rw [et] at hm
        refine ⟨b, by rw [z1]; exact ht _ _ et, fun hbt a ha => ?_, fun hbf => ?_⟩
        · subst hbt
          dsimp only at hm
          split at hm
          · rename_i hno
            obtain ⟨o2, s2, h2, hm⟩ := Mo.bind_some hm
            have ra : RpA X.K (gH g a cls d) av μ1 H1 (.ref a) (.clo 77 [.str e.c, .str e.f, e.x]) := ⟨[(0, .str e.c), (0, .str e.f), (0, v)], .inr ⟨rfl, rfl, e.c, e.f, v, dd, rfl, z1, z2, z3⟩, .cons (.str _) (.cons (.str _) (.cons z4 .nil))⟩
            refine ⟨av, μ1, _, s1, o2, s2, r1.inH, (er1.inH hno).hand ra, h2, ?_⟩
            cases o2 with
            | rt dt =>
              cases hm
              exact fun v H' μ' x' r' q' => p v H' μ' (x1.trans x') r'.outH q'
            | nx ρ2 =>
              simp only [goneO] at hm
              by_cases hg2 : noExc (ρ2.set i none) = true
              · rw [if_pos hg2] at hm
                cases hm
                exact fun σ' H' μ' x' r' er' => p _ H' μ' (x1.trans x') r'.outH (er'.gone.outH hg2)
              · rw [if_neg hg2] at hm
                cases hm
            | bk ρ2 =>
              simp only [goneO] at hm
              by_cases hg2 : noExc (ρ2.set i none) = true
              · rw [if_pos hg2] at hm
                cases hm
                exact fun σ' H' μ' x' r' er' => p _ H' μ' (x1.trans x') r'.outH (er'.gone.outH hg2)
              · rw [if_neg hg2] at hm
                cases hm
            | ct ρ2 =>
              simp only [goneO] at hm
              by_cases hg2 : noExc (ρ2.set i none) = true
              · rw [if_pos hg2] at hm
                cases hm
                exact fun σ' H' μ' x' r' er' => p _ H' μ' (x1.trans x') r'.outH (er'.gone.outH hg2)
              · rw [if_neg hg2] at hm
                cases hm
          · cases hm
        · subst hbf
          obtain ⟨q1, q2⟩ := Mo.pure_some hm
          subst q1 q2
          exact p cls d σ1 H1 μ1 x1 r1 er1 ⟨z1, dd, v, z2, z3, z4⟩
/-- a def that lets no error out -/
def unS (m : Ev → Mo OutX) : Ev → Mo Out := fun ρ => (m ρ).bind fun o => match o with
  | .o o => Mo.pure o
  | .ex _ _ => Mo.fail
theorem bv_ofX {g : G} {X : Cx} {b : List Stmt} {m : Ev → Mo OutX} (h : BX g X (fun _ _ _ _ => False) b m) : BV g X b (unS m) := by
  obtain ⟨t, p0, s⟩ := h.ex
  refine ⟨t, p0, fun av μ σ H E ρ st o st' rl er hm p => ?_⟩
  obtain ⟨r, s1, h1, hm⟩ := Mo.bind_some hm
  cases r with
  | o o' =>
    obtain ⟨z1, z2⟩ := Mo.pure_some hm
    subst z1 z2
    exact s av μ σ H E ρ st _ _ rl er h1 p
  | ex e ρ' => cases hm
theorem sv_ofX {g : G} {X : Cx} {b : Stmt} {m : Ev → Mo OutX} (h : SX g X (fun _ _ _ _ => False) b m) : SV g X b (unS m) := by
  obtain ⟨t, p0, s⟩ := h.ex
  refine ⟨t, p0, fun av μ σ H E ρ st o st' rl er hm p => ?_⟩
  obtain ⟨r, s1, h1, hm⟩ := Mo.bind_some hm
  cases r with
  | o o' =>
    obtain ⟨z1, z2⟩ := Mo.pure_some hm
    subst z1 z2
    exact s av μ σ H E ρ st _ _ rl er h1 p
  | ex e ρ' => cases hm
end MM
set_option autoImplicit false
set_option maxRecDepth 100000
set_option maxHeartbeats 4000000
/-! MXh: what the head says of own errors; promises of defs that may raise from the head's facts. -/
namespace MM
open PySem PySem.Spec PyProof.Rows L2 LamX NdefX
/-- an own error with super().__init__() and one field -/
structure ExcD where
  cls : Str
  f : Str
  qual : Str
  ps : Pos × Pos
  qs : Pos × Pos × Pos × Pos × Pos × Pos × Pos × Pos × Pos
abbrev FnE := Option (Str × Str × Arguments × FuncBody × Scope × Addr × List Str × Addr)
def fnE (K : PySem.W.Frag) (a : Addr) : FnE := match K.lookup a with
  | some ⟨_, _, .func fd, _⟩ => some (fd.name, fd.qualname, fd.params, fd.body, fd.scope, fd.globals, fd.closure.map (·.1), fd.builtins)
  | _ => none
def ExcD.body (d : ExcD) : List Stmt := match d.qs with
  | (q1, q2, q3, q4, q5, q6, q7, q8, q9) => exB d.f q1 q2 q3 q4 q5 q6 q7 q8 q9
def ExcD.val (d : ExcD) : FnE := some ("__init__", d.qual, exA d.f d.ps.1 d.ps.2, .stmts d.body, exS d.f, mainGlobals, ["__class__"], builtinsNs)
def eFn (K : PySem.W.Frag) (c : Str) : Addr := He.fAd K (c, some "__init__")
def eCell (K : PySem.W.Frag) (c : Str) : Addr := match K.lookup (eFn K c) with
  | some ⟨_, _, .func fd, _⟩ => (match fd.closure with
    | [(_, a)] => a
    | _ => 0)
  | _ => 0
def veTl : List Value := [.type "ValueError", .type "Exception", .type "BaseException", .type "object"]
def ExcD.b1 (d : ExcD) (K : PySem.W.Frag) : Bool := PySem.W.excInitIn K (He.ga K d.cls) veTl "ValueError.__new__" && (match PySem.W.clsIn K (He.ga K d.cls) with
  | some cd => cd.hasDict && PySem.HandSPX.refsVE (cd.mro.drop 1)
  | none => false)
def ExcD.b2 (d : ExcD) (K : PySem.W.Frag) : Bool := He.eqO (PySem.W.ks_superIn K (He.ga K d.cls) (He.ga K d.cls) "__init__") (some (some (.builtin "ValueError.__init__"))) &&
  (decide (PySem.W.subIn K (.ref (He.ga K d.cls)) (.type "ValueError") = some true) && (He.eqO (PySem.W.nsIn K cStatics "thirdparty.any") (some none) && decide (PySem.W.mroIn K (He.ga K d.cls) (.ref (He.ga K d.cls)) = some true)))
def ExcD.b3 (d : ExcD) (K : PySem.W.Frag) : Bool := He.eqO (PySem.W.findIn K (.ref (He.ga K d.cls)) "__setattr__") (some (some (.builtin "object.__setattr__"))) &&
  (He.eqO (PySem.W.findIn K (.ref (He.ga K d.cls)) d.f) (some none) && (He.eqO (PySem.W.findIn K (.ref (He.ga K d.cls)) "__init__") (some (some (.ref (eFn K d.cls)))) && (decide (PySem.W.typeIn K (.ref (eFn K d.cls)) = some (.type "function")) && PySem.W.keepIn K (.ref (He.ga K d.cls)))))
def ExcD.b4 (d : ExcD) (K : PySem.W.Frag) : Bool := decide (PySem.W.subIn K (.ref (He.ga K d.cls)) (.type "BaseException") = some true) && (decide (PySem.W.typeIn K (.ref (He.ga K d.cls)) = some (.type "type")) && (match K.lookup (eCell K d.cls) with
  | some ⟨_, _, .cell (some v), _⟩ => decide (v = .ref (He.ga K d.cls))
  | _ => false))
def ExcD.b5 (d : ExcD) (P : Program) (K : PySem.W.Frag) : Bool := match K.lookup (eFn K d.cls) with
  | some ⟨_, _, .func fd, _⟩ => decide (fd.defaults = .none) && (decide (fd.kwdefaults = .none) && ((match fd.closure with
    | [_] => true
    | _ => false) && (match fd.code with
    | .ref cda => PySem.W.codeIn K (.ref cda) d.qual && (match K.lookup cda with
      | some ⟨_, _, .fields vs, _⟩ => (match (vs[2]? : Option Value) with
        | some (.str file _) => ((P.main.file : Str) == file)
        | _ => false)
      | _ => false)
    | _ => false)))
  | _ => false
/-- what a handler asks of it -/
def ExcD.b6 (d : ExcD) (K : PySem.W.Frag) : Bool := xfB K (He.ga K d.cls) && (He.eqO (PySem.W.findIn K (.ref (He.ga K d.cls)) "__class__") (some (some (.builtin "object.__class__"))) && (He.eqO (PySem.W.specialIn K (.builtin "object.__class__") "__get__") (some (some (.builtin "getset_descriptor.__get__"))) &&
  (decide (PySem.W.takesIn K (.builtin "object.__class__") = some true) && decide (PySem.W.mroIn K (He.ga K d.cls) (.type "object") = some true))))
def ExcD.ok (d : ExcD) (P : Program) (K : PySem.W.Frag) : Bool := d.b1 K && (d.b2 K && (d.b3 K && (d.b4 K && (d.b5 P K && d.b6 K))))
def ExcD.said (d : ExcD) (P : Program) : Bool := !(P.main.scope.names.lookup ("super" : Str)).isSome && (match d.qs with
  | (q1, q2, q3, q4, q5, q6, q7, q8, q9) => q3.endLine == q4.line)
theorem b1_cls {K : PySem.W.Frag} {d : ExcD} (h : d.b1 K = true) : (∃ nm q N bs bm sn sub ab col dd k0 k1 k2 k3 k5, K.lookup (He.ga K d.cls) = some (excClassObj nm q (He.ga K d.cls) N bs bm true sn sub ab col dd k0 k1 k2 k3 k5 "ValueError.__new__") ∧ PySem.HandSPX.refsVE bm = true) := by
  obtain ⟨h1, h2⟩ := He.ba h
  unfold PySem.W.excInitIn at h1
  split at h1
  · rename_i dd cd sl ho
    split at h1
    · rename_i C' bm k0 k1 k2 k3 n k5 hm hs
      simp only [Bool.and_eq_true, beq_iff_eq, Bool.not_eq_true'] at h1
      obtain ⟨⟨⟨e1, e2⟩, hdel⟩, ht⟩ := h1
      have hcl : PySem.W.clsIn K (He.ga K d.cls) = some cd := by unfold PySem.W.clsIn; rw [ho]
      rw [hcl] at h2
      obtain ⟨h3, h4⟩ := He.ba h2
      rw [hm] at h4
      obtain ⟨c1, c2, c3, c4, c5, c6, c7, c8, c9, c10, c11⟩ := cd
      dsimp only at hm h3 hdel
      subst hm h3 hdel e1 e2
      have hsl : sl = #[k0, k1, k2, k3, some (.builtin "ValueError.__new__"), k5] := by
        have := congrArg List.toArray hs
        simpa using this
      subst hsl
      exact ⟨_, _, _, _, _, _, _, _, _, _, _, _, _, _, _, ho, h4⟩
    · cases h1
  · cases h1
theorem sup_of {K : PySem.W.Frag} {P : Program} {d : ExcD} (h : d.ok P K = true) (hs : d.said P = true) (hv : fnE K (eFn K d.cls) = d.val) : SupTxt K P d.f (He.ga K d.cls) (eFn K d.cls) (eCell K d.cls) := by
  obtain ⟨h1, h⟩ := He.ba h
  obtain ⟨h2, h⟩ := He.ba h
  obtain ⟨h3, h⟩ := He.ba h
  obtain ⟨h4, h⟩ := He.ba h
  obtain ⟨h5, h6⟩ := He.ba h
  obtain ⟨s1, s2⟩ := He.ba hs
  obtain ⟨a1, a⟩ := He.ba h2
  obtain ⟨a2, a⟩ := He.ba a
  obtain ⟨a3, a4⟩ := He.ba a
  obtain ⟨c1, c⟩ := He.ba h3
  obtain ⟨c2, c⟩ := He.ba c
  obtain ⟨c3, c⟩ := He.ba c
  obtain ⟨c4, c5⟩ := He.ba c
  obtain ⟨e1, e⟩ := He.ba h4
  obtain ⟨e2, e3⟩ := He.ba e
  refine ⟨b1_cls h1, ⟨_, PySem.F.excBase_ValueError, (He.ba h1).1⟩, He.eqO_ok a1, of_decide_eq_true a2, He.eqO_ok a3, of_decide_eq_true a4, He.eqO_ok c1, He.eqO_ok c2, He.eqO_ok c3, of_decide_eq_true c4, c5, of_decide_eq_true e1, of_decide_eq_true e2, ?_, ?_, ?_⟩
  · split at e3
    · rename_i cl cld v csl ho
      rw [of_decide_eq_true e3] at ho
      exact ⟨cl, cld, csl, ho⟩
    · cases e3
  · simpa using s1
  · unfold ExcD.b5 at h5
    unfold fnE ExcD.val at hv
    cases ho : K.lookup (eFn K d.cls) with
    | none => rw [ho] at h5; cases h5
    | some o =>
      obtain ⟨oc, od, dt, osl⟩ := o
      rw [ho] at h5 hv
      cases dt with
      | func fd =>
        obtain ⟨n1, n2, n3, n4, n5, n6, n7, n8, n9, n10, n11, n12, n13, n14, n15⟩ := fd
        dsimp only at h5 hv
        simp only [Option.some.injEq, Prod.mk.injEq] at hv
        obtain ⟨v1, v2, v3, v4, v5, v6, v7, v8⟩ := hv
        obtain ⟨f1, f⟩ := He.ba h5
        obtain ⟨f2, f⟩ := He.ba f
        obtain ⟨f3, f4⟩ := He.ba f
        split at f3
        · rename_i p hp
          obtain ⟨pn, pa⟩ := p
          rw [List.map_cons, List.map_nil] at v7
          have hpn : pn = "__class__" := by injection v7
          subst hpn
          have hce : eCell K d.cls = pa := by unfold eCell; rw [ho]
          split at f4
          · rename_i cda
            obtain ⟨g1, g2⟩ := He.ba f4
            split at g2
            · rename_i ccl cdd vs ccs hcode
              split at g2
              · rename_i file tf hvs
                obtain ⟨⟨q1, q2, q3, q4, q5, q6, q7, q8, q9⟩, hq⟩ : ∃ z, d.qs = z := ⟨_, rfl⟩
                have hbd : d.body = exB d.f q1 q2 q3 q4 q5 q6 q7 q8 q9 := by unfold ExcD.body; rw [hq]
                rw [hq] at s2
                have k1 := of_decide_eq_true f1
                have k2 := of_decide_eq_true f2
                subst v1 v2 v3 v5 v6 v8 k1 k2
                rw [hbd] at v4
                subst v4
                refine ⟨oc, od, _, n10, n11, n14, n12, cda, osl, d.ps.1, d.ps.2, q1, q2, q3, q4, q5, q6, q7, q8, q9, ?_, g1, s2, ccl, cdd, vs, ccs, file, tf, hcode, hvs, g2⟩
                rw [hce]
              · cases g2
            · cases g2
          · cases f4
        · cases f3
      | _ => cases h5
theorem excT_of {K : PySem.W.Frag} {P : Program} {d : ExcD} (h : d.ok P K = true) : ExcT K (He.ga K d.cls) := by
  obtain ⟨_, h⟩ := He.ba h
  obtain ⟨_, h⟩ := He.ba h
  obtain ⟨_, h⟩ := He.ba h
  obtain ⟨_, h⟩ := He.ba h
  obtain ⟨_, h6⟩ := He.ba h
  obtain ⟨g1, g⟩ := He.ba h6
  obtain ⟨g2, g⟩ := He.ba g
  obtain ⟨g3, g⟩ := He.ba g
  obtain ⟨g4, g5⟩ := He.ba g
  have x := xfB_ok g1
  exact ⟨x, ⟨x.ga, x.gg, x.exC, x.hdC, He.eqO_ok g2, He.eqO_ok g3, of_decide_eq_true g4, of_decide_eq_true g5⟩⟩
theorem noF_of {K : PySem.W.Frag} {P : Program} {d : ExcD} (h : d.ok P K = true) : PySem.W.findIn K (.ref (He.ga K d.cls)) d.f = some none := by
  obtain ⟨_, h⟩ := He.ba h
  obtain ⟨_, h⟩ := He.ba h
  obtain ⟨h3, _⟩ := He.ba h
  obtain ⟨_, c⟩ := He.ba h3
  exact He.eqO_ok (He.ba c).1
/-! ### the hook: K with the interpreter's own statics -/
def asC (g : Addr → Option Obj) (n : Nat) : List Addr := cStatics :: He.asD g n
def obsXc (n : Nat) (fa : List He.Fa) (fn : List He.DefD) (tf : List He.Defn) (ex : PySem.W.Frag → Bool) (g : Addr → Option Obj) : He.AlX := (He.obsT fa fn [] (He.frT g (asC g n)), ex (He.frT g (asC g n)) && He.tabsB g tf (He.frT g (asC g n)))
theorem saysXc_of {n : Nat} {fa : List He.Fa} {fn : List He.DefD} {tf : List He.Defn} {ex : PySem.W.Frag → Bool} {w : World} {h : Heap} (e : obsXc n fa fn tf ex h.get? = He.valX fn [] w) : He.SaysX fa fn [] tf ex w h (He.frT h.get? (asC h.get? n)) := by
  have e1 : He.obsT fa fn [] (He.frT h.get? (asC h.get? n)) = He.valT fn [] w := congrArg (fun z : He.AlX => z.1) e
  have e2 : (ex (He.frT h.get? (asC h.get? n)) && He.tabsB h.get? tf (He.frT h.get? (asC h.get? n))) = true := congrArg (fun z : He.AlX => z.2) e
  obtain ⟨h1, h2⟩ := He.ba e2
  have key : ∀ p ∈ tf, PySem.W.codeHdIn (He.frT h.get? (asC h.get? n)) (He.cT (He.frT h.get? (asC h.get? n)) p).1 (He.cT (He.frT h.get? (asC h.get? n)) p).2 = true ∧ ∃ o, h.get? (He.cT (He.frT h.get? (asC h.get? n)) p).2 = some o ∧ He.emptyTab o = true := fun p hp => by
    obtain ⟨h3, h4⟩ := He.ba (List.all_eq_true.mp h2 p hp)
    refine ⟨h3, ?_⟩
    cases q : h.get? (He.cT (He.frT h.get? (asC h.get? n)) p).2 with
    | none => rw [q] at h4; cases h4
    | some o => rw [q] at h4; exact ⟨o, rfl, h4⟩
  exact ⟨e1, h1, fun p hp => (key p hp).1, fun p hp => by
    obtain ⟨_, o, q, z⟩ := key p hp
    exact He.frT_none q z, fun p hp => by
    obtain ⟨_, o, q, z⟩ := key p hp
    rw [q, He.emptyTab_eq z]⟩
abbrev AlE : Type := AlP × (Bool × List FnE)
def obsEx (es : List ExcD) (P : Program) (K : PySem.W.Frag) : Bool × List FnE := (es.all fun d => d.ok P K, es.map fun d => fnE K (eFn K d.cls))
structure SaysE (fa : List He.Fa) (fn : List He.DefD) (tf : List He.Defn) (gs : List GetD) (es : List ExcD) (P : Program) (ex : PySem.W.Frag → Bool) (w : World) (h : Heap) (K : PySem.W.Frag) : Prop where
  p : SaysP fa fn tf gs ex w h K
  e : obsEx es P K = (true, es.map ExcD.val)
def obsE (n : Nat) (fa : List He.Fa) (fn : List He.DefD) (tf : List He.Defn) (gs : List GetD) (es : List ExcD) (P : Program) (ex : PySem.W.Frag → Bool) (g : Addr → Option Obj) : AlE := ((obsXc n fa fn tf ex g, obsG gs (He.frT g (asC g n))), obsEx es P (He.frT g (asC g n)))
def hookE (n : Nat) (fa : List He.Fa) (fn : List He.DefD) (tf : List He.Defn) (gs : List GetD) (es : List ExcD) (P : Program) (ex : PySem.W.Frag → Bool) : PySem.W.Hook where
  α := AlE
  obs := fun s => obsE n fa fn tf gs es P ex s.heap.get?
  val := fun w => ((He.valX fn [] w, (true, gs.map GetD.val)), (true, es.map ExcD.val))
  says := fun w h => ∃ K : PySem.W.Frag, K.In h ∧ SaysE fa fn tf gs es P ex w h K
  of := fun _ _ e => ⟨_, He.frT_in, ⟨saysXc_of (congrArg (fun z => z.1.1) e), congrArg (fun z => z.1.2) e⟩, congrArg Prod.snd e⟩
  keeps := fun _ _ _ ⟨K, hK, c⟩ k => ⟨K, PySem.W.Frag.In.keeps hK k, ⟨⟨⟨c.p.x.t, c.p.x.more, c.p.x.hd, c.p.x.out, fun p hp => k _ _ (c.p.x.empty p hp)⟩, c.p.g⟩, c.e⟩⟩
theorem obsE_eq {n : Nat} {fa : List He.Fa} {fn : List He.DefD} {tf : List He.Defn} {gs : List GetD} {es : List ExcD} {P : Program} {ex : PySem.W.Frag → Bool} {g : Addr → Option Obj} {s : Shared} (h : ∀ a, g a = s.heap.get? a) : obsE n fa fn tf gs es P ex g = (hookE n fa fn tf gs es P ex).obs s := by
  have e : g = s.heap.get? := funext h
  rw [e] <;> rfl
theorem SaysE.exc {fa : List He.Fa} {fn : List He.DefD} {tf : List He.Defn} {gs : List GetD} {es : List ExcD} {P : Program} {ex : PySem.W.Frag → Bool} {w : World} {h : Heap} {K : PySem.W.Frag} (c : SaysE fa fn tf gs es P ex w h K) {d : ExcD} (hd : d ∈ es) (hs : d.said P = true) :
    SupTxt K P d.f (He.ga K d.cls) (eFn K d.cls) (eCell K d.cls) ∧ ExcT K (He.ga K d.cls) ∧ PySem.W.findIn K (.ref (He.ga K d.cls)) d.f = some none := by
  have e1 : (es.all fun d => d.ok P K) = true := congrArg Prod.fst c.e
  have e2 : (es.map fun d => fnE K (eFn K d.cls)) = es.map ExcD.val := congrArg Prod.snd c.e
  have h1 := List.all_eq_true.mp e1 d hd
  exact ⟨sup_of h1 hs (List.map_inj_left.mp e2 d hd), excT_of h1, noF_of h1⟩
/-! ### promises -/
section
variable {P : Program} {w : World} {K : PySem.W.Frag} {mg : Str → Option Value} {base : Heap} {g : G}
theorem calX_of {x : Str} {params : Arguments} {body : List Stmt} {scope : Scope} {f : Addr} {fd : FuncData} {N ps : List Str} {k n : Nat} {m : Ev → Mo OutX} {kx : List (List Str × List Nat)}
    (F : FunD K x x params body scope [] [] f fd) (hm : mg x = some (.ref f)) (hs : C8.scC N ps scope = true) (hn : ps.length = n)
    (hbd : ∀ (kV doc pm : Value) (an : Option Addr) (cdv ct : Value) (us : List Value), us.length = ps.length → bindArgs (PySem.W.fnOf x x params body scope .none kV doc pm an cdv ct) ⟨us, []⟩ = pure (ps.zip us))
    (hkx : ∀ q ∈ kx, KB K fd ps 0 q.1 q.2)
    (hb : ∀ (cdv : Value) (A : Around) (outer : List Env) (s : Shared) (H : Hp) (E : XK), Room k (A.deeper (envOfC x scope s.heap.objs.size f cdv)) → BX g (cxOf (L2.CX P w) P w K mg base N x scope f cdv A outer s H E) (wE E) body m) :
    CalX P w K mg base g (k + 1) x n (runX N.length m) kx := by
  subst hn
  exact ⟨f, fd, ps, fn_okX F (C8.fnScope_by hs) hb, hm, F.kp, F.bindsN hbd, hkx⟩
theorem metX_of {c f qual : Str} {params : Arguments} {body : List Stmt} {scope : Scope} {a : Addr} {fd : FuncData} {N ps : List Str} {k n : Nat} {m : Ev → Mo OutX} {kx : List (List Str × List Nat)}
    (F : FunD K f qual params body scope [] [] a fd) (M : Meth K (g.ca c) f a) (hc : Cls K (g.ca c)) (hs : C8.scC N ps scope = true) (hn : ps.length = n + 1)
    (hbd : ∀ (kV doc pm : Value) (an : Option Addr) (cdv ct : Value) (us : List Value), us.length = ps.length → bindArgs (PySem.W.fnOf f qual params body scope .none kV doc pm an cdv ct) ⟨us, []⟩ = pure (ps.zip us))
    (hkx : ∀ q ∈ kx, KB K fd ps 1 q.1 q.2)
    (hb : ∀ (cdv : Value) (A : Around) (outer : List Env) (s : Shared) (H : Hp) (E : XK), Room k (A.deeper (envOfC qual scope s.heap.objs.size a cdv)) → BX g (cxOf (L2.CX P w) P w K mg base N qual scope a cdv A outer s H E) (wE E) body m) :
    MetX P w K mg base g (k + 1) c f n (runX N.length m) kx := by
  have := fn_okX (g := g) F (C8.fnScope_by hs) hb
  rw [hn] at this
  exact ⟨⟨a, fd, ps, this, M, F.bindsN hbd, hkx⟩, hc⟩
theorem makX_of {x c nm qual : Str} {params : Arguments} {body : List Stmt} {scope : Scope} {f : Addr} {fd : FuncData} {N ps : List Str} {k n : Nat} {m : Ev → Mo OutX} {kx : List (List Str × List Nat)}
    (F : FunD K nm qual params body scope [] [] f fd) (M : Mk K (g.ca c) f) (hm : mg x = some (.ref (g.ca c))) (hs : C8.scC N ps scope = true) (hn : ps.length = n + 1)
    (hbd : ∀ (kV doc pm : Value) (an : Option Addr) (cdv ct : Value) (us : List Value), us.length = ps.length → bindArgs (PySem.W.fnOf nm qual params body scope .none kV doc pm an cdv ct) ⟨us, []⟩ = pure (ps.zip us))
    (hkx : ∀ q ∈ kx, KB K fd ps 1 q.1 q.2)
    (hb : ∀ (cdv : Value) (A : Around) (outer : List Env) (s : Shared) (H : Hp) (E : XK), Room k (A.deeper (envOfC qual scope s.heap.objs.size f cdv)) → BX g (cxOf (L2.CX P w) P w K mg base N qual scope f cdv A outer s H E) (wE E) body m) :
    MakX P w K mg base g (k + 1) x c n (runX N.length m) kx := by
  have := fn_okX (g := g) F (C8.fnScope_by hs) hb
  rw [hn] at this
  exact ⟨f, fd, ps, this, M, hm, F.bindsN hbd, hkx⟩
/-- the same def, by place alone, letting no error out, from its promise to raise none -/
theorem takesE {Q : Program} {w : World} {K : PySem.W.Frag} {mg : Str → Option Value} {base : Heap} {N : List Str} {qual : Str} {scope : Scope} {f : Addr} {cd : Value} {A : Around} {outer : List Env} {s : Shared} {H : Hp} {E : XK} : Takes (cxOf (L2.CX Q w) Q w K mg base N qual scope f cd A outer s H E) (wE E) := takes_of rfl rfl rfl rfl
theorem takesL {X : Cx} {A : Around} {outer : List Env} {s : Shared} {H : Hp} {E : XK} {scope : Scope} {f c' : Addr} : Takes (lamCx X A outer s H E scope f c') (wE E) := takes_of rfl rfl rfl rfl
end
section
variable {X : Cx} {C : Addr} {x : Str} {a : Expr} {ta : TA} {p pos : Pos} {k : Nat}
theorem pmk_givenE (T : ∃ fI cc, SupTxt X.K X.prog "given" C fI cc) (hm : X.mg x = some (.ref C)) (hs : X.mg "super" = none) (hr : Room k X.A) (ha : PA X [a] ta) (hg : Gl X x) (hdb : (x == ("__debug__" : Str)) = false := by decide)
    (he : starEach (a :: []) X.env = (false, eval a X.env) :: starEach [] X.env := by rfl) (hpl : (backTo pos (starEach [] X.env)).any (·.1) = false := by rfl) : PMk X (.Call (.Name x p) [a] [] pos) (tMkX C "given" ta) := by
  obtain ⟨fI, cc, T⟩ := T
  exact pmk_given T hm hs hr ha hg hdb he hpl
theorem pmk_indexE (T : ∃ fI cc, SupTxt X.K X.prog "index" C fI cc) (hm : X.mg x = some (.ref C)) (hs : X.mg "super" = none) (hr : Room k X.A) (ha : PA X [a] ta) (hg : Gl X x) (hdb : (x == ("__debug__" : Str)) = false := by decide)
    (he : starEach (a :: []) X.env = (false, eval a X.env) :: starEach [] X.env := by rfl) (hpl : (backTo pos (starEach [] X.env)).any (·.1) = false := by rfl) : PMk X (.Call (.Name x p) [a] [] pos) (tMkX C "index" ta) := by
  obtain ⟨fI, cc, T⟩ := T
  exact pmk_index T hm hs hr ha hg hdb he hpl
end
end MM
set_option autoImplicit false
set_option maxRecDepth 100000
set_option maxHeartbeats 4000000
/-! MY1: {k: v, **d}. -/
namespace MM
open PySem
section
variable {prog : Program} {w : World} {K : Type} [DecidableEq K] {knd : KeyKind prog w K} {A : Around} {E : Value → Shared → Prop} {s : Shared}
theorem w_put {d : Addr} {kvs : List (K × Value)} {k : K} {key v : Value} {Q : Unit → Shared → Prop} (hkey : knd.is k key = true) (hm : s.heap.DictOf knd d kvs)
    (hQ : ∀ h', h'.DictOf knd d (stored kvs k v) → Heap.SameBut d s.heap h' → Q () { s with heap := h' }) (hsz : kvs.length ≤ sizeLine) :
    wpAny (model prog w) A (dictPut d (knd.hash k) key v) Q E s := by
  obtain ⟨o, es, ep, ho, hc, hd, hk, hp, hn⟩ := hm
  have hes : es.size ≤ sizeLine := by
    have e1 := hp.length
    have e2 : es.toList.length = es.size := by simp
    omega
  unfold dictPut
  refine wpAny_bind (wpAny_dictFind_of hkey ho hd hk ?_)
  have hidx : (es.findIdx? fun e => knd.is k e.key) = kvs.findIdx? fun kv => decide (kv.1 = k) := by
    rw [← hp.findIdx k]; obtain ⟨l⟩ := es; simp
  cases hi : es.findIdx? fun e => knd.is k e.key with
  | some i =>
    refine wpAny_updateDict ho hd (hQ _ ⟨_, _, ep, Heap.get?_update_self _ ho (Obj.isFreed_of_dict (Obj.data_mapDict hd _)), hc.mapDict _, Obj.data_mapDict hd _, hk.modify _ _, ?_, ?_⟩ (Heap.SameBut.update ..))
    · rw [stored, if_pos (any_of_findIdx_some (hidx ▸ hi))]
      have hl : (es.toList.findIdx? fun e => knd.is k e.key) = some i := by rw [← hi]; obtain ⟨l⟩ := es; simp
      have z := hp.modify hn hl v
      obtain ⟨l⟩ := es
      simpa using z
    · rw [stored, if_pos (any_of_findIdx_some (hidx ▸ hi)), keys_map_store]; exact hn
  | none =>
    have hnot : k ∉ kvs.map (·.1) := not_mem_of_findIdx_none (hidx ▸ hi)
    have hany : ¬ (kvs.any fun kv => decide (kv.1 = k)) = true := by
      rw [List.any_eq_true]
      rintro ⟨kv, hkv, he⟩
      exact hnot (List.mem_map.mpr ⟨kv, hkv, of_decide_eq_true he⟩)
    refine wpAny_updateDictKeys (hz := hes) ho hd (hQ _ ⟨_, _, ep + 1, Heap.get?_update_self _ ho (Obj.isFreed_of_dict (Obj.data_mapDictKeys hd _)), hc.mapDictKeys _, Obj.data_mapDictKeys hd _, hk.push hkey _, ?_, ?_⟩ (Heap.SameBut.update ..))
    · rw [stored, if_neg hany]
      have z := hp.append hkey (knd.hash k) v
      obtain ⟨l⟩ := es
      simpa using z
    · rw [stored, if_neg hany, List.map_append, List.nodup_append]
      refine ⟨hn, by simp, fun a ha b hb => ?_⟩
      rw [List.map_cons, List.map_nil, List.mem_singleton] at hb
      intro e
      rw [e, hb] at ha
      exact hnot ha
theorem w_merge {d o : Addr} {kvs more : List (K × Value)} {Q : Unit → Shared → Prop} (hdo : d ≠ o) (hoS : (o == sysModules) = false) (hd : s.heap.DictOf knd d kvs) (ho : s.heap.DictOf knd o more) (h0 : kvs ≠ []) (hsz : kvs.length + more.length ≤ sizeLine)
    (hQ : ∀ h', h'.DictOf knd d (merged kvs more) → Heap.SameBut d s.heap h' → Q () { s with heap := h' }) :
    wpAny (model prog w) A (mergeMapping d (.ref o) false) Q E s := by
  have ht := ho.typeIs
  obtain ⟨oo, eso, epo, hoo, hco, hdo', hko, hpo, hno⟩ := ho
  have hlen : more.length = eso.size := by
    have e1 := hpo.length
    have e2 : eso.toList.length = eso.size := by simp
    omega
  unfold mergeMapping
  refine wpAny_bind (wpAny_isInstance ht isSubtype_dict_dict ?_)
  dsimp only
  rw [if_pos rfl]
  refine wpAny_bind (wpAny_specialOf ht F.slot_dict_iter.lookup ?_)
  simp only [beq_self_eq_true, pure_bind]
  rw [hoS]
  simp only [Bool.false_eq_true, if_false]
  obtain ⟨od, esd, epd, hod, hcd, hdd, hkd, hpd, hnd⟩ := id hd
  have hne : esd.isEmpty = false := by
    cases z : esd.isEmpty with
    | false => rfl
    | true =>
      have z0 : esd = #[] := Array.isEmpty_iff.mp z
      have z1 := hpd.length
      rw [z0] at z1
      exact absurd (List.length_eq_zero_iff.mp (by simpa using z1.symm)) h0
  refine wpAny_bind (wpAny_dictEntries hod hdd ?_)
  rw [hne]
  simp only [Bool.false_eq_true, if_false]
  refine wpAny_bind (wpAny_dictEntries hoo hdo' ?_)
  refine wpAny_bind (wpAny_dictEpoch hoo hdo' ?_)
  refine wpAny_bind ?_
  refine wpAny_forIn_list _
    (fun rest _ s' => ∃ h' i, s' = { s with heap := h' } ∧ rest = (List.range eso.size).drop i ∧ i ≤ eso.size ∧ h'.DictOf knd d (merged kvs (more.take i)) ∧ h'.get? o = some oo ∧ Heap.SameBut d s.heap h')
    _ ?_ ?_ _ _ ⟨s.heap, 0, rfl, by simp, Nat.zero_le _, by simpa [merged] using hd, hoo, Heap.SameBut.refl _ _⟩
  · rintro x rest b s' ⟨h', i, rfl, hr, hi, hd', hoo', hs'⟩
    have hlt : i < eso.size := by
      rcases Nat.lt_or_ge i eso.size with h | h
      · exact h
      · rw [List.drop_eq_nil_of_le (by simpa using h)] at hr
        cases hr
    obtain ⟨rfl, hrest⟩ : x = i ∧ rest = (List.range eso.size).drop (i + 1) := by
      rw [List.drop_eq_getElem_cons (by simpa using hlt)] at hr
      injection hr with h1 h2
      exact ⟨by simpa using h1, h2⟩
    refine wpAny_bind (wpAny_dictEntries hoo' hdo' ?_)
    rw [Array.getElem?_eq_getElem hlt]
    obtain ⟨⟨k, v⟩, hkv⟩ : ∃ kv, more[x]? = some kv := ⟨more[x]'(by rw [hlen]; exact hlt), List.getElem?_eq_getElem _⟩
    obtain ⟨hkey, hval⟩ := hpo.get? (e := eso[x]) (by simp [hlt]) hkv
    obtain ⟨k', hkey', hhash⟩ := hko eso[x] (Array.getElem_mem hlt)
    obtain rfl : k' = k := knd.inj _ _ _ hkey' hkey
    have hmx : (merged kvs (more.take x)).length ≤ sizeLine := by
      have e1 := merged_length_le kvs (more.take x)
      have e2 : (more.take x).length ≤ more.length := by rw [List.length_take]; omega
      omega
    dsimp only
    refine wpAny_bind (wpAny_holding ?_)
    rw [hhash, hval]
    refine w_put hkey hd' (fun h'' hd'' hs'' => ?_) hmx
    have hoo'' : h''.get? o = some oo := (hs''.2 o (Ne.symm hdo)).trans hoo'
    refine wpAny_bind (wpAny_dictEpoch hoo'' hdo' ?_)
    rw [if_neg (by simp)]
    exact wpAny_pure ⟨h'', x + 1, rfl, hrest, hlt, by rw [merged_take_succ kvs more x (k', v) hkv]; exact hd'', hoo'', hs'.trans hs''⟩
  · rintro b s' ⟨h', i, rfl, hr, hi, hd', hoo', hs'⟩
    have hin : i = eso.size := by
      rcases Nat.lt_or_ge i eso.size with h | h
      · rw [List.drop_eq_getElem_cons (by simpa using h)] at hr
        cases hr
      · exact Nat.le_antisymm hi h
    rw [hin, ← hlen, List.take_length] at hd'
    exact wpAny_pure (hQ h' hd' hs')
end
theorem w_disp {prog : Program} {w : World} {A : Around} {E : Value → Shared → Prop} {s : Shared} {k v dx : Sem Value} {Q : Value → Shared → Prop}
    (h : wpAny (model prog w) A (subDict [(k, v)]) (fun d s1 => wpAny (model prog w) A dx (fun m s2 => wpAny (model prog w) A (mergeMapping d m false) (fun _ s3 => Q (.ref d) s3) (fun _ _ => False) s2) E s1) E s) :
    wpAny (model prog w) A (dictDisplay [(some k, v), (none, dx)]) Q E s := by
  unfold dictDisplay
  dsimp only
  rw [List.forIn_cons]
  simp only [List.forIn_cons, List.forIn_nil, bind_assoc, pure_bind, List.nil_append, List.length_cons, List.length_nil, List.isEmpty_cons, List.isEmpty_nil, Bool.false_eq_true, if_false, if_true]
  rw [if_neg (by decide)]
  simp only [pure_bind, List.isEmpty_cons, Bool.false_eq_true, if_false, bind_assoc]
  refine wpAny_bind (wpAny_mono h (fun d s1 h1 => ?_) fun _ _ z => z)
  refine wpAny_bind (wpAny_holding (wpAny_mono h1 (fun m s2 h2 => ?_) fun _ _ z => z))
  refine wpAny_bind (wpAny_onRaise (wpAny_tryCatch (wpAny_onRaise (wpAny_holding (wpAny_mono h2 (fun _ s3 h3 => ?_) fun _ _ z => z.elim)))))
  exact wpAny_pure h3
end MM
set_option autoImplicit false
set_option maxRecDepth 100000
set_option maxHeartbeats 4000000
/-! MY2: dicts made by displays and comprehensions; sorted of a dict. -/
namespace MM
open PySem PySem.Spec PyProof.Rows L2 LamX NdefX
section
variable {K : PySem.W.Frag} {ca : Str → Addr} {av μ μ' : List Addr} {H H' : Hp}
theorem KvR.mono (e : Ext μ μ' H H') : ∀ {kvs : List (L2.Key × V)} {kds : KD}, KvR K ca av μ H kvs kds → KvR K ca av μ' H' kvs kds := fun h => by
  induction h with
  | nil => exact .nil
  | cons h _ ih => exact .cons (h.mono e) ih
theorem KvR.over {p : Addr} {o u : HO} (hp : p ∈ av) (hu : H p = some u) (vu : Vol u) {kvs : List (L2.Key × V)} {kds : KD} (h : KvR K ca av μ H kvs kds) : KvR K ca av μ (upd H p o) kvs kds := by
  induction h with
  | nil => exact .nil
  | cons h _ ih => exact .cons (Rp.over hp hu vu h) ih
theorem KvR.length {kvs : List (L2.Key × V)} {kds : KD} (h : KvR K ca av μ H kvs kds) : kvs.length = kds.length := by
  induction h with
  | nil => rfl
  | cons _ _ ih => rw [List.length_cons, List.length_cons, ih]
end
def dcompM (gm : Ev → D → Mo Ev) (mt : Ev → Mo Bool) (mk mv : Ev → Mo D) : List D → Ev → KD → Mo KD
  | [], _, acc => Mo.pure acc
  | d :: r, ρ, acc => (gm ρ d).bind fun ρ1 => (mt ρ1).bind fun b => if b = true then (mk ρ1).bind fun x => (mv ρ1).bind fun y => match keyD x with
    | some k => dcompM gm mt mk mv r ρ (putD acc k y)
    | none => Mo.fail
    else dcompM gm mt mk mv r ρ acc
def dctD (kds : KD) : D := .dct (kds.map (·.1)) (kds.map (·.2))
def xDComp (mi : Ev → Mo (List D)) (vs : List Nat) (gm : Ev → D → Mo Ev) (mt : Ev → Mo Bool) (mk mv : Ev → Mo D) : Ev → Mo D := fun ρ => (mi ρ).bind fun items => if items.length ≤ 1000000 then (dcompM gm mt mk mv items (wipeE ρ vs) []).bind fun kds => Mo.pure (dctD kds) else Mo.fail
section
variable {g : G} {X : Cx} {kx vx tg iter : Expr} {ifs : List Expr} {scope : Scope} {own : List (Str × Nat)} {pos : Pos} {mi : Ev → Mo (List D)} {js : List Nat} {gm : Ev → D → Mo Ev} {mt : Ev → Mo Bool} {mk mv : Ev → Mo D}
theorem sem_dc {ti : TI} {tgt : TG} {tt : TT} {tk tv : TE} {vs : List Nat} (si : SemI X.K g ti mi) (sg : SemG X.K g tgt js gm) (stt : SemT X.K g tt mt) (sk : SemE X.K g tk mk) (sv : SemE X.K g tv mv) (hj : ∀ j ∈ js, j ∈ vs) : SemE X.K g (tDc ti tgt tt tk tv vs) (xDComp mi vs gm mt mk mv) := by
  intro av μ σ H Q ρ st d st' rl er hm q
  obtain ⟨items, st1, e1, hm⟩ := Mo.bind_some hm
  split at hm
  · rename_i hlen
    obtain ⟨ds, st2, e2, hm⟩ := Mo.bind_some hm
    obtain ⟨z1, z2⟩ := Mo.pure_some hm
    subst z1 z2
    refine si av μ σ H _ ρ st items st1 rl er e1 fun J H1 μ1 xs src x1 r1 l1 w => ?_
    intro D0 nD
    refine ⟨fun i m H2 => m = items.length - i ∧ i ≤ items.length ∧ ∃ μ2 st2 acc ys, Ext μ1 μ2 H1 H2 ∧ Rel X.K g (D0 :: av) μ2 st2 H2 ∧ EnvR X.K g (D0 :: av) μ2 H2 (wipe σ vs) (wipeE ρ vs) ∧ RpL X.K g.ca (D0 :: av) μ2 H2 xs src ∧
      H2 D0 = some (.dK acc) ∧ acc.length ≤ i ∧ KvR X.K g.ca (D0 :: av) μ2 H2 acc ys ∧ dcompM gm mt mk mv (items.drop i) (wipeE ρ vs) ys st2 = some (ds, st'), ⟨_, rfl, Nat.zero_le _, μ1, st1, [], [], Ext.new nD, r1.protect nD, ((er.mono x1).protect nD).wipe vs, RpL.mono (Ext.new nD) (RpL.avoid nD l1), upd_same, Nat.le_refl _, .nil, by rw [List.drop_zero]; exact e2⟩, ?_⟩
    rintro i m H2 ⟨rfl, hil, μ2, st2, acc, ys, x2, r2, er2, l2, hD, hacc, lacc, hm2⟩
    by_cases hlt : i < items.length
    · rw [drop_cons hlt] at hm2
      refine .inr ⟨w.go i H2 hlt x2.keep, fun H' => i + 1 ≤ items.length ∧ ∃ μ' st'' acc ys, Ext μ1 μ' H1 H' ∧ Rel X.K g (D0 :: av) μ' st'' H' ∧ EnvR X.K g (D0 :: av) μ' H' (wipe σ vs) (wipeE ρ vs) ∧ RpL X.K g.ca (D0 :: av) μ' H' xs src ∧
        H' D0 = some (.dK acc) ∧ acc.length ≤ i + 1 ∧ KvR X.K g.ca (D0 :: av) μ' H' acc ys ∧ dcompM gm mt mk mv (items.drop (i + 1)) (wipeE ρ vs) ys st'' = some (ds, st'), fun H' h => ⟨_, by omega, rfl, h⟩, fun x H3 hy => ?_⟩
      obtain ⟨x3, r3, p3⟩ := yld_step w x2 r2 l2 hy (List.getElem?_eq_getElem hlt)
      obtain ⟨ρ4, st4, e4, hc⟩ := Mo.bind_some hm2
      obtain ⟨b, st5, e5, hc⟩ := Mo.bind_some hc
      refine sg (D0 :: av) μ2 (wipe σ vs) H3 _ (wipeE ρ vs) st2 x _ ρ4 st4 r3 (er2.mono x3) p3 e4 fun σ4 H4 μ4 x4 r4 er4 wp => ⟨(wp vs hj).trans wipe_wipe, ?_⟩
      refine stt (D0 :: av) μ4 σ4 H4 _ ρ4 st4 b st5 r4 er4 e5 fun H5 μ5 x5 r5 => ?_
      have x25 : Ext μ2 μ5 H2 H5 := (x3.trans x4).trans x5
      have x05 : Ext μ1 μ5 H1 H5 := x2.trans x25
      have keepD : ∀ {μ' : List Addr} {H' : Hp}, Ext μ2 μ' H2 H' → H' D0 = some (.dK acc) := fun x => x.keep D0 _ hD (fun z => absurd z (r2.avo D0 (by simp)).2) fun ps z => by cases z
      cases b with
      | true =>
        rw [if_pos rfl] at hc
        obtain ⟨kd, st6, e6, hc⟩ := Mo.bind_some hc
        obtain ⟨y, st7, e7, hc⟩ := Mo.bind_some hc
        cases ek : keyD kd with
        | none => rw [ek] at hc; cases hc
        | some k =>
          rw [ek] at hc
          refine sk (D0 :: av) μ5 σ4 H5 _ ρ4 st5 kd st6 r5 (er4.mono x5) e6 fun v H6 μ6 x6 r6 q6 => ?_
          refine sv (D0 :: av) μ6 σ4 H6 _ ρ4 st6 y st7 r6 ((er4.mono x5).mono x6) e7 fun v2 H7 μ7 x7 r7 q7 => ?_
          have x27 := (x25.trans x6).trans x7
          have hD7 := keepD x27
          have m0 : D0 ∈ D0 :: av := by simp
          have l7 := lacc.mono x27
          refine ⟨acc, k, key_of q6 ek, hD7, Nat.lt_of_le_of_lt (Nat.le_trans hacc (Nat.le_trans (Nat.le_of_lt hlt) hlen)) (by rw [sizeLine_eq]; decide), hlt, μ7, st7, putK acc k v2, putD ys k y, (x05.trans (x6.trans x7)).over nD, r7.over m0 hD7 trivial, (er2.mono x27).over m0 hD7 trivial, RpL.over m0 hD7 trivial (RpL.mono x27 l2), upd_same, ?_, ?_, hc⟩
          · exact Nat.le_trans (length_putK acc k v2) (Nat.succ_le_succ hacc)
          · exact KvR.over m0 hD7 trivial (l7.put q7)
      | false => exact ⟨hlt, μ5, st5, acc, ys, x05, r5, er2.mono x25, RpL.mono x25 l2, keepD x25, Nat.le_succ_of_le hacc, lacc.mono x25, hc⟩
    · have e : i = items.length := by omega
      subst e
      rw [List.drop_length] at hm2
      obtain ⟨z1, z2⟩ := Mo.pure_some hm2
      subst z1 z2
      have fw : ∀ a ∈ av, a ∈ D0 :: av := fun a h => List.mem_cons_of_mem _ h
      refine .inl ⟨w.stop H2 x2.keep, q _ H2 μ2 (x1.trans x2) (r2.fewer fw) ?_⟩
      unfold dctD
      rw [← lacc.keys]
      exact .dct hD (r1.fresh nD).1 (r2.avo D0 (by simp)).2 (RpL.fewer fw lacc.vals)
  · cases hm
theorem ev_dc (hc : X.calm = true) (hN : X.N.Nodup) (hi : IV g X tg iter mi) (ok : BlkOk X.N X.env.scope scope own) (BK : BlkV g X scope tg ifs kx js gm mt mk) (B : BlkV g X scope tg ifs vx js gm mt mv) (hj : ∀ j ∈ js, j ∈ own.map (·.2)) (hs : ∀ x, foldedSetIterable iter X.env x = pure x := by intro _; rfl) :
    EV g X (.DictComp kx vx [⟨tg, iter, ifs, 0⟩] scope pos) (xDComp mi (own.map (·.2)) gm mt mk mv) := by
  obtain ⟨ti, pi, si⟩ := hi.ex
  obtain ⟨tgt, pg, sg⟩ := B.tg
  obtain ⟨tt, pt, stt⟩ := B.ts
  obtain ⟨tk, pk, sk⟩ := BK.el
  obtain ⟨te, pe, se⟩ := B.el
  exact ⟨_, pe_dc hc hN pi ok pg pt pk pe hs, sem_dc si sg stt sk se hj⟩
end
/-! {k: v, **d} -/
def tDs (tk tv td : TE) : TE := fun σ H Q => ∀ p, H p = none → tPairs [(tk, tv)] σ (upd H p (.dK [])) fun ps H2 => H2 p = some (.dK []) ∧ ∃ (k : L2.Key) (y : V), ps = [(kV k, y)] ∧ td σ (upd H2 p (.dK [(k, y)])) fun z H3 =>
  ∃ (a : Addr) (kvs : List (L2.Key × V)), z = .ref a ∧ a ≠ p ∧ H3 p = some (.dK [(k, y)]) ∧ H3 a = some (.dK kvs) ∧ kvs.length ≤ 1000000 ∧ Q (.ref p) (upd H3 p (.dK (mergeK [(k, y)] kvs)))
section
variable {X : Cx} {ke ve de : Expr} {tk tv td : TE} {pos : Pos}
theorem pe_ds (hk : PE X ke tk) (hv : PE X ve tv) (hd : PE X de td) : PE X (.Dict [some ke, none] [ve, de] pos) (tDs tk tv td) := by
  refine ⟨fun pins s σ H Q I q => ?_⟩
  show wpAny (model X.prog X.w) X.A (do
    standAt pos
    dictDisplay [(some (eval ke X.env), do let x ← eval ve X.env; standAt pos; pure x), (none, do let x ← eval de X.env; standAt pos; pure x)]) _ _ _
  refine wpAny_bind (wpAny_standAt (w_disp ?_))
  have hn := I.hok.fresh (Nat.le_refl s.heap.objs.size)
  have I1 := I.laid (a := s.heap.objs.size) (o := .dK []) (h' := s.heap.push { cls := .type "dict", data := .dict #[] }) (t' := s.toks) (fun _ _ q => Heap.get?_push_of_some _ q) (Nat.le_refl _) (dk_empty s.heap I.big)
  refine wpAny_subDict (knd := mixKind X.prog X.w) (by simp) (thn ((pps_cons (pos := pos) hk hv pps_nil).run pins _ σ _ _ I1 (q _ hn)) fun ws s2 ⟨ps, H2, I2, rel, e, k, y, ep, q2⟩ => ?_)
  subst ep
  obtain ⟨rs, c, rk⟩ := carries_of (P := X.prog) (w := X.w) (kvs := [(k, y)]) rel
  obtain ⟨z, hdS, vs0, r0, dd⟩ := dk_of I2.hok e
  cases r0
  refine ⟨rs, c, dd, fun h' dd' hs => ?_⟩
  have hz : (mergeK [] [(k, y)]).length ≤ sizeLine := by
    have h1 := length_mergeK [(k, y)] []
    rw [List.length_nil] at h1
    rw [sizeLine_eq]
    simp at h1
    omega
  have he : ∃ q, h'.get? s.heap.objs.size = some q := let ⟨q, _, _, hq, _⟩ := dd'; ⟨q, hq⟩
  have I3 := d_write (t' := s2.toks + ws.length) I2 (by rw [e]; exact True.intro) hs he (dk_new hz hdS (rk.merge .nil) dd')
  refine wpAny_bind (thn (hd.run pins _ σ _ _ I3 q2) fun m s4 ⟨zv, H4, I4, rz, a, kvs, ez, hne, ep, ea, hl, q4⟩ => wpAny_bind (wpAny_standAt (wpAny_pure ?_)))
  subst ez
  obtain rfl : m = Value.ref a := rz
  obtain ⟨z1, hS1, vs1, r1, dd1⟩ := dk_of I4.hok ep
  obtain ⟨z2, hS2, vs2, r2, dd2⟩ := dk_of I4.hok ea
  have l1 := Paired.length r1
  have l2 := Paired.length r2
  have hsz : vs1.length + vs2.length ≤ sizeLine := by
    rw [← l1, ← l2, sizeLine_eq]
    simp
    omega
  refine w_merge (Ne.symm hne) hS2 dd1 dd2 (fun z => by rw [z] at l1; cases l1) hsz fun h5 dd5 hs5 => ?_
  have hz5 : (mergeK [(k, y)] kvs).length ≤ sizeLine := by
    have h1 := length_mergeK kvs [(k, y)]
    simp at h1
    rw [sizeLine_eq]
    omega
  have he5 : ∃ q, h5.get? s.heap.objs.size = some q := let ⟨q, _, _, hq, _⟩ := dd5; ⟨q, hq⟩
  exact ⟨.ref s.heap.objs.size, _, d_write (t' := s4.toks) I4 (by rw [ep]; exact True.intro) hs5 he5 (dk_new hz5 hS1 (r2.merge r1) dd5), rfl, q4⟩
end
def xDs (mk mv md : Ev → Mo D) : Ev → Mo D := fun ρ => (mk ρ).bind fun x => (mv ρ).bind fun y => (md ρ).bind fun z st => match keyD x, dctOf st z with
  | some k, some (ks, ds) => if ks.length ≤ 1000000 then some (dctD (mergeD [(k, y)] (ks.zip ds)), st) else none
  | _, _ => none
theorem ev_ds {g : G} {X : Cx} {ke ve de : Expr} {pos : Pos} {mk mv md : Ev → Mo D} (hk : EV g X ke mk) (hv : EV g X ve mv) (hd : EV g X de md) : EV g X (.Dict [some ke, none] [ve, de] pos) (xDs mk mv md) := by
  obtain ⟨tk, pk, sk⟩ := hk.ex
  obtain ⟨tv, pv, sv⟩ := hv.ex
  obtain ⟨td, pd, sd⟩ := hd.ex
  refine ⟨_, pe_ds pk pv pd, fun av μ σ H Q ρ st d st' rl er hm p => ?_⟩
  obtain ⟨x, s1, h1, hm⟩ := Mo.bind_some hm
  obtain ⟨y, s2, h2, hm⟩ := Mo.bind_some hm
  obtain ⟨z, s3, h3, hm⟩ := Mo.bind_some hm
  split at hm
  · rename_i k ks ds hk hz
    split at hm
    · rename_i hl
      cases hm
      intro q hq
      have m0 : q ∈ q :: av := by simp
      have keepD : ∀ {μ μ' : List Addr} {Ha Hb : Hp} {s : List Ob}, Rel X.K g (q :: av) μ s Ha → Ext μ μ' Ha Hb → Ha q = some (.dK []) → Hb q = some (.dK []) := fun r x e => x.keep q _ e (fun z => absurd z (r.avo q (by simp)).2) fun ps z => by cases z
      refine sk (q :: av) μ σ (upd H q (.dK [])) _ ρ st x s1 (rl.protect hq) ((er.mono (Ext.refl μ H)).protect hq) h1 fun vx H1 μ1 x1 r1 q1 => ?_
      have eD1 := keepD (rl.protect hq) x1 upd_same
      have er0 := (er.protect (o := .dK []) hq)
      refine sv (q :: av) μ1 σ H1 _ ρ s1 y s2 r1 (er0.mono x1) h2 fun vy H2 μ2 x2 r2 q2 => ?_
      have eD2 := keepD r1 x2 eD1
      refine ⟨eD2, k, vy, by rw [key_of q1 hk], ?_⟩
      have xw : Ext μ2 μ2 H2 H2 := Ext.refl _ _
      refine sd (q :: av) μ2 σ (upd H2 q (.dK [(k, vy)])) _ ρ s2 z _ (r2.over m0 eD2 trivial) (((er0.mono x1).mono x2).over m0 eD2 trivial) h3 fun vz H3 μ3 x3 r3 q3 => ?_
      obtain ⟨a, kvs, rfl, hH, hks, hds⟩ := dct_of r3 q3 hz
      have eD3 : H3 q = some (.dK [(k, vy)]) := x3.keep q _ upd_same (fun z => absurd z (r2.avo q m0).2) fun ps z => by cases z
      have hne : a ≠ q := fun e => by
        cases q3 with
        | dct h2 n1 _ _ => exact n1 (by rw [e]; exact m0)
        | loc h2 => exact ((r3.avo q m0).2 (by rw [← e]; exact List.mem_of_getElem? h2)).elim
        | _ => cases hz
      have hkv : KvR X.K g.ca (q :: av) μ3 H3 kvs (ks.zip ds) := by rw [hks]; exact KvR.of hds
      have hky : KvR X.K g.ca (q :: av) μ3 H3 [(k, vy)] [(k, y)] := .cons ((Rp.over m0 eD2 trivial q2).mono x3) .nil
      refine ⟨a, kvs, rfl, hne, eD3, hH, by rw [hks, List.length_map] at hl; exact hl, ?_⟩
      have hm2 := hkv.merge hky
      have fw : ∀ a ∈ av, a ∈ q :: av := fun a h => List.mem_cons_of_mem _ h
      have xx : Ext μ μ3 H (upd H3 q (.dK (mergeK [(k, vy)] kvs))) := by
        have e0 : Ext μ μ H (upd H q (.dK [])) := Ext.new hq
        have e1 := (e0.trans x1).trans x2
        have e2 := (e1.over hq (o := .dK [(k, vy)])).trans x3
        exact e2.over hq
      have hov := KvR.over m0 eD3 trivial (o := .dK (mergeK [(k, vy)] kvs)) hm2
      refine p _ _ μ3 xx ((r3.over m0 eD3 trivial).fewer fw) ?_
      unfold dctD
      rw [← hov.keys]
      exact .dct upd_same (rl.fresh hq).1 (r3.avo q m0).2 (RpL.fewer fw hov.vals)
    · cases hm
  · cases hm
end MM
set_option autoImplicit false
set_option maxRecDepth 100000
set_option maxHeartbeats 4000000
/-! MY3: min, max of two texts; in with rows of rows; sorted of a dict; a tuple repeated. -/
namespace PySem
section
variable {prog : Program} {w : World} {A : Around} {E : Value → Shared → Prop} {s : Shared}
def txtAt (xs : Array (Str × Tok)) (i : Nat) : List Nat := ((xs[i]?.map (·.1)).getD Str.empty).cps.toList
def txtItems (xs : Array (Str × Tok)) : Array Value := xs.map fun p => .str p.1 p.2
theorem txtItems_at {xs : Array (Str × Tok)} {i : Nat} {v : Value} (h : (txtItems xs)[i]? = some v) : ∃ x t, v = .str x t ∧ txtAt xs i = x.cps.toList := by
  unfold txtItems at h
  rw [Array.getElem?_map] at h
  cases e : xs[i]? with
  | none => rw [e] at h; cases h
  | some p =>
    rw [e] at h
    cases h
    exact ⟨p.1, p.2, rfl, by unfold txtAt; rw [e]; rfl⟩
theorem cmp_txt_gt {xs : Array (Str × Tok)} : CmpOf prog w A .Gt (fun i v => (txtItems xs)[i]? = some v) (fun i j => decide (txtAt xs j < txtAt xs i)) := fun i j vi vj s Q E hi hj h => by
  obtain ⟨x, t, rfl, ex⟩ := txtItems_at hi
  obtain ⟨y, u, rfl, ey⟩ := txtItems_at hj
  dsimp only at h
  rw [ex, ey] at h
  exact richCompare_gives (op := .Gt) (typeIs_str s x t) (typeIs_str s y u) F.slot_str_gt F.entry_str_gt (F.args_str_gt_2 _ _) (gives_str_gt x y t u) (fun x => nomatch x) h
theorem cmp_txt_lt {xs : Array (Str × Tok)} : CmpOf prog w A .Lt (fun i v => (txtItems xs)[i]? = some v) (fun i j => decide (txtAt xs i < txtAt xs j)) := fun i j vi vj s Q E hi hj h => by
  obtain ⟨x, t, rfl, ex⟩ := txtItems_at hi
  obtain ⟨y, u, rfl, ey⟩ := txtItems_at hj
  dsimp only at h
  rw [ex, ey] at h
  exact richCompare_gives (op := .Lt) (typeIs_str s x t) (typeIs_str s y u) F.slot_str_lt F.entry_str_lt (F.args_str_lt_2 _ _) (gives_str_lt x y t u) (fun x => nomatch x) h
theorem max_two_txt {a b : Str} {t u : Tok} {Q : Value → Shared → Prop} (hh : A.handled = none)
    (h : ∀ h' tk, (∀ c o, s.heap.get? c = some o → h'.get? c = some o) → Q (if a.cps.toList < b.cps.toList then .str b u else .str a t) { s with heap := h', toks := tk }) :
    wpAny (model prog w) A (call (.builtin "max") [.str a t, .str b u]) Q E s := by
  have hT : (s.heap.push { cls := .type "tuple", data := .seq #[.str a t, .str b u] }).IsTuple s.heap.objs.size (txtItems #[(a, t), (b, u)]) := ⟨_, Heap.get?_push_size _ rfl, rfl, 0, by simp [txtItems]⟩
  refine call_max_two (wpAny_pyIter_tuple hT ?_)
  have hsz : (s.heap.push { cls := .type "tuple", data := .seq #[.str a t, .str b u] }).objs.size = s.heap.objs.size + 1 := Heap.size_push ..
  refine ⟨_, [_, s.heap.objs.size], [_], _, _, _, _, rfl, Walks.tuple (A := A.in1) hh _ s.heap.objs.size (by rw [hsz]; exact Nat.ne_of_lt (Nat.lt_succ_self _)) (txtItems #[(a, t), (b, u)]),
    ⟨⟨_, Heap.get?_push_size _ rfl, rfl, rfl⟩, hT.push _⟩, fun c hc => ?_, by simp [txtItems], cmp_txt_gt, fun v h' tk hP hk => ?_⟩
  · show c < ((s.heap.push _).push _).objs.size
    rw [Heap.size_push, hsz]
    simp only [List.mem_cons, List.not_mem_nil, or_false] at hc
    rcases hc with rfl | rfl
    · rw [hsz]; exact Nat.lt_succ_self _
    · exact Nat.lt_succ_of_lt (Nat.lt_succ_self _)
  · have z := h h' tk fun c o e => by
      refine hk c o (fun hm => ?_) (Heap.get?_push_of_some _ (Heap.get?_push_of_some _ e))
      rw [List.mem_singleton] at hm
      have l := Heap.lt_size e
      rw [hm, hsz] at l
      exact Nat.lt_irrefl _ (Nat.lt_of_succ_lt l)
    have hv : v = if a.cps.toList < b.cps.toList then .str b u else .str a t := by
      have hP' : (txtItems #[(a, t), (b, u)])[argBest (fun i j => decide (txtAt #[(a, t), (b, u)] j < txtAt #[(a, t), (b, u)] i)) 1]? = some v := by
        have e1 : (txtItems #[(a, t), (b, u)]).size - 1 = 1 := by simp [txtItems]
        rw [← e1]; exact hP
      by_cases hba : a.cps.toList < b.cps.toList
      · have e : argBest (fun i j => decide (txtAt #[(a, t), (b, u)] j < txtAt #[(a, t), (b, u)] i)) 1 = 1 := by simp [argBest, txtAt, hba]
        rw [e] at hP'
        simpa [txtItems, hba] using hP'.symm
      · have e : argBest (fun i j => decide (txtAt #[(a, t), (b, u)] j < txtAt #[(a, t), (b, u)] i)) 1 = 0 := by simp [argBest, txtAt, hba]
        rw [e] at hP'
        simpa [txtItems, hba] using hP'.symm
    rw [hv]; exact z
theorem min_two_txt {a b : Str} {t u : Tok} {Q : Value → Shared → Prop} (hh : A.handled = none)
    (h : ∀ h' tk, (∀ c o, s.heap.get? c = some o → h'.get? c = some o) → Q (if b.cps.toList < a.cps.toList then .str b u else .str a t) { s with heap := h', toks := tk }) :
    wpAny (model prog w) A (call (.builtin "min") [.str a t, .str b u]) Q E s := by
  have hT : (s.heap.push { cls := .type "tuple", data := .seq #[.str a t, .str b u] }).IsTuple s.heap.objs.size (txtItems #[(a, t), (b, u)]) := ⟨_, Heap.get?_push_size _ rfl, rfl, 0, by simp [txtItems]⟩
  refine call_min_two (wpAny_pyIter_tuple hT ?_)
  have hsz : (s.heap.push { cls := .type "tuple", data := .seq #[.str a t, .str b u] }).objs.size = s.heap.objs.size + 1 := Heap.size_push ..
  refine ⟨_, [_, s.heap.objs.size], [_], _, _, _, _, rfl, Walks.tuple (A := A.in1) hh _ s.heap.objs.size (by rw [hsz]; exact Nat.ne_of_lt (Nat.lt_succ_self _)) (txtItems #[(a, t), (b, u)]),
    ⟨⟨_, Heap.get?_push_size _ rfl, rfl, rfl⟩, hT.push _⟩, fun c hc => ?_, by simp [txtItems], cmp_txt_lt, fun v h' tk hP hk => ?_⟩
  · show c < ((s.heap.push _).push _).objs.size
    rw [Heap.size_push, hsz]
    simp only [List.mem_cons, List.not_mem_nil, or_false] at hc
    rcases hc with rfl | rfl
    · rw [hsz]; exact Nat.lt_succ_self _
    · exact Nat.lt_succ_of_lt (Nat.lt_succ_self _)
  · have z := h h' tk fun c o e => by
      refine hk c o (fun hm => ?_) (Heap.get?_push_of_some _ (Heap.get?_push_of_some _ e))
      rw [List.mem_singleton] at hm
      have l := Heap.lt_size e
      rw [hm, hsz] at l
      exact Nat.lt_irrefl _ (Nat.lt_of_succ_lt l)
    have hv : v = if b.cps.toList < a.cps.toList then .str b u else .str a t := by
      have hP' : (txtItems #[(a, t), (b, u)])[argBest (fun i j => decide (txtAt #[(a, t), (b, u)] i < txtAt #[(a, t), (b, u)] j)) 1]? = some v := by
        have e1 : (txtItems #[(a, t), (b, u)]).size - 1 = 1 := by simp [txtItems]
        rw [← e1]; exact hP
      by_cases hba : b.cps.toList < a.cps.toList
      · have e : argBest (fun i j => decide (txtAt #[(a, t), (b, u)] i < txtAt #[(a, t), (b, u)] j)) 1 = 1 := by simp [argBest, txtAt, hba]
        rw [e] at hP'
        simpa [txtItems, hba] using hP'.symm
      · have e : argBest (fun i j => decide (txtAt #[(a, t), (b, u)] i < txtAt #[(a, t), (b, u)] j)) 1 = 0 := by simp [argBest, txtAt, hba]
        rw [e] at hP'
        simpa [txtItems, hba] using hP'.symm
    rw [hv]; exact z
end
end PySem
namespace MM
open PySem PySem.Spec PyProof.Rows L2 LamX NdefX
section
variable {g : G} {X : Cx}
def dMax2S (_ : List Ob) : List D → Option D
  | [.str i, .str j] => some (.str (if i.cps.toList < j.cps.toList then j else i))
  | _ => none
def dMin2S (_ : List Ob) : List D → Option D
  | [.str i, .str j] => some (.str (if j.cps.toList < i.cps.toList then j else i))
  | _ => none
theorem call_max2S (hc : X.calm = true) : CallR X (.builtin "max") (fun xs H Q => ∃ i j : Str, xs = [.str i, .str j] ∧ Q (.str (if i.cps.toList < j.cps.toList then j else i)) H) := fun pins s σ H xs us Q I r ⟨i, j, ex, q⟩ => by
  subst ex
  obtain ⟨u, w', rfl, ⟨t, rfl⟩, ⟨t', rfl⟩⟩ := vals2 r
  refine max_two_txt (I.ok.hd hc) fun h' tk k => ⟨_, H, I.kept k, ?_, q⟩
  by_cases hj : i.cps.toList < j.cps.toList
  · rw [if_pos hj, if_pos hj]; exact ⟨_, rfl⟩
  · rw [if_neg hj, if_neg hj]; exact ⟨_, rfl⟩
theorem call_min2S (hc : X.calm = true) : CallR X (.builtin "min") (fun xs H Q => ∃ i j : Str, xs = [.str i, .str j] ∧ Q (.str (if j.cps.toList < i.cps.toList then j else i)) H) := fun pins s σ H xs us Q I r ⟨i, j, ex, q⟩ => by
  subst ex
  obtain ⟨u, w', rfl, ⟨t, rfl⟩, ⟨t', rfl⟩⟩ := vals2 r
  refine min_two_txt (I.ok.hd hc) fun h' tk k => ⟨_, H, I.kept k, ?_, q⟩
  by_cases hj : j.cps.toList < i.cps.toList
  · rw [if_pos hj, if_pos hj]; exact ⟨_, rfl⟩
  · rw [if_neg hj, if_neg hj]; exact ⟨_, rfl⟩
theorem cd_max2S (hc : X.calm = true) : CallD g X (.builtin "max") (liftL dMax2S) := calld (call_max2S hc) fun av μ H Q st xs ds d rl rx hm p => by
  unfold dMax2S at hm
  split at hm
  · cases hm
    obtain ⟨v, w, rfl, h1, h2⟩ := rpl2 rx
    cases h1
    cases h2
    exact ⟨_, _, rfl, p.here rl (.str _)⟩
  · cases hm
theorem cd_min2S (hc : X.calm = true) : CallD g X (.builtin "min") (liftL dMin2S) := calld (call_min2S hc) fun av μ H Q st xs ds d rl rx hm p => by
  unfold dMin2S at hm
  split at hm
  · cases hm
    obtain ⟨v, w, rfl, h1, h2⟩ := rpl2 rx
    cases h1
    cases h2
    exact ⟨_, _, rfl, p.here rl (.str _)⟩
  · cases hm
/-! ### in, by deep equality, a tuple -/
def rInT (K : PySem.W.Frag) (n : Bool) : R2 := fun x y H Q => ∃ d ds, Dp K H x d ∧ Dp K H y (.tuple ds) ∧ SeqAt.shaped d = true ∧ SeqAt.shaped (.tuple ds) = true ∧ Q (.bl (if n then !ds.any fun z => PyData.eqv z d else ds.any fun z => PyData.eqv z d)) H
theorem op_inT (hu : X.A.units + 65 < cLine) : OpR X (compareOp .In) (rInT X.K false) := fun pins s σ H x y v u Q I rx ry ⟨d, ds, hd, he, sd, se, q⟩ => by
  obtain ⟨as, r1⟩ := Dp.reads I d x v hd rx
  obtain ⟨bs, r2⟩ := Dp.reads I (.tuple ds) y u he ry
  exact SeqAt.in_tuple_reads r2 r1 (SeqAt.canLay_of_shaped se) (SeqAt.canLay_of_shaped sd) (room_in_shaped sd hu) ⟨.bl _, H, I, rfl, q⟩
theorem op_notInT (hu : X.A.units + 65 < cLine) : OpR X (compareOp .NotIn) (rInT X.K true) := fun pins s σ H x y v u Q I rx ry ⟨d, ds, hd, he, sd, se, q⟩ => by
  obtain ⟨as, r1⟩ := Dp.reads I d x v hd rx
  obtain ⟨bs, r2⟩ := Dp.reads I (.tuple ds) y u he ry
  exact SeqAt.notIn_tuple_reads r2 r1 (SeqAt.canLay_of_shaped se) (SeqAt.canLay_of_shaped sd) (room_in_shaped sd hu) ⟨.bl _, H, I, rfl, q⟩
/-- x in a tuple of rows -/
def inDeep (st : List Ob) (x y : D) : Option Bool := match y with
  | .tup ds => if okD (res st x) = true ∧ okD (.tup ds) = true then some (ds.any fun z => PyData.eqv (toPy z) (toPy (res st x))) else none
  | _ => none
def mInD : D → D → Mo D := fun x y st => (inDeep st x y).map fun b => (.bl b, st)
def mNotInD : D → D → Mo D := fun x y st => (inDeep st x y).map fun b => (.bl (!b), st)
theorem od_inD (hu : X.A.units + 65 < cLine) : OpD g X (compareOp .In) mInD := ⟨_, op_inT hu, fun av μ H Q st x y dx dy d st' rl rx ry hm p => by
  unfold mInD inDeep at hm
  cases dy with
  | tup ds =>
    dsimp only at hm
    split at hm
    · rename_i h
      cases hm
      refine ⟨_, toPys ds, dp_res rl rx h.1, ?_, okD_shaped h.1, ?_, ?_⟩
      · have := dp_res (st := st) (d := .tup ds) rl ry (by simpa [res] using h.2)
        simpa [res, toPy] using this
      · have := okD_shaped h.2
        simpa [toPy] using this
      · rw [if_neg (by decide), toPys_map, List.any_map]
        exact p.here rl (.bl _)
    · cases hm
  | _ => cases hm⟩
theorem od_notInD (hu : X.A.units + 65 < cLine) : OpD g X (compareOp .NotIn) mNotInD := ⟨_, op_notInT hu, fun av μ H Q st x y dx dy d st' rl rx ry hm p => by
  unfold mNotInD inDeep at hm
  cases dy with
  | tup ds =>
    dsimp only at hm
    split at hm
    · rename_i h
      cases hm
      refine ⟨_, toPys ds, dp_res rl rx h.1, ?_, okD_shaped h.1, ?_, ?_⟩
      · have := dp_res (st := st) (d := .tup ds) rl ry (by simpa [res] using h.2)
        simpa [res, toPy] using this
      · have := okD_shaped h.2
        simpa [toPy] using this
      · rw [if_pos rfl, toPys_map, List.any_map]
        exact p.here rl (.bl _)
    · cases hm
  | _ => cases hm⟩
/-! ### a tuple repeated -/
def dRepT : D → D → Option D
  | .tup ds, .int k => if ds ≠ [] ∧ 2 ≤ k ∧ k ≤ 1000 ∧ ds.length ≤ 1000 then some (.tup (List.replicate k.toNat ds).flatten) else none
  | _, _ => none
theorem rpl_rep {K : PySem.W.Frag} {ca : Str → Addr} {av μ : List Addr} {H : Hp} {vs : List V} {ds : List D} (h : RpL K ca av μ H vs ds) : ∀ n : Nat, RpL K ca av μ H (List.replicate n vs).flatten (List.replicate n ds).flatten
  | 0 => .nil
  | n + 1 => by
    rw [List.replicate_succ, List.replicate_succ, List.flatten_cons, List.flatten_cons]
    exact RpL.append h (rpl_rep h n)
theorem od_repT : OpD g X (binaryOp .Mult) (lift2 dRepT) := ⟨_, op_repT, fun av μ H Q st x y dx dy d st' rl rx ry hm p => by
  obtain ⟨e1, e2⟩ := lift2_some hm
  subst e2
  unfold dRepT at e1
  split at e1
  · split at e1
    · rename_i ds k hk
      cases e1
      cases rx with
      | tup hs l =>
        cases ry
        refine ⟨_, _, _, rfl, rfl, hs, fun e => hk.1 (l.nil_iff.mp e), hk.2.1, hk.2.2.1, by rw [l.length]; exact hk.2.2.2, fun q hq => ?_⟩
        exact p.newO rl hq (rp_newT rl hq (rpl_rep l _))
    · cases e1
  · cases e1⟩
/-! ### sorted of a row or of a dict's names -/
def txtKeys : List L2.Key → Option (List Str)
  | [] => some []
  | .inr x :: ks => (txtKeys ks).map (x :: ·)
  | .inl _ :: _ => none
theorem txtKeys_some : ∀ {ks : List L2.Key} {xs : List Str}, txtKeys ks = some xs → ks = xs.map Sum.inr
  | [], xs, h => by cases h; rfl
  | .inr x :: ks, xs, h => by
    unfold txtKeys at h
    cases e : txtKeys ks with
    | none => rw [e] at h; cases h
    | some ys =>
      rw [e] at h
      cases h
      rw [List.map_cons, ← txtKeys_some e]
  | .inl _ :: _, xs, h => by cases h
theorem callR_or {f : Value} {r1 r2 : List V → Hp → VK → Prop} (h1 : CallR X f r1) (h2 : CallR X f r2) : CallR X f (fun xs H Q => r1 xs H Q ∨ r2 xs H Q) := fun pins s σ H xs us Q I r h => h.elim (h1 pins s σ H xs us Q I r) (h2 pins s σ H xs us Q I r)
end
end MM
set_option autoImplicit false
set_option maxRecDepth 100000
set_option maxHeartbeats 4000000
/-! MW: what a mirror answers, by weakest preconditions. -/
namespace MM
open PySem PySem.Spec L2
def wp {α : Type} (m : Mo α) (st : List Ob) (Q : α → List Ob → Prop) : Prop := ∃ a st', m st = some (a, st') ∧ Q a st'
section
variable {α β : Type} {st : List Ob} {Q R : α → List Ob → Prop}
@[simp] theorem wp_pure {a : α} : wp (Mo.pure a) st Q ↔ Q a st := ⟨fun ⟨_, _, e, q⟩ => (by cases e; exact q), fun q => ⟨a, st, rfl, q⟩⟩
@[simp] theorem wp_fail : wp (Mo.fail : Mo α) st Q ↔ False := ⟨fun ⟨_, _, e, _⟩ => (by cases e), fun h => False.elim h⟩
theorem wp_mono {m : Mo α} (h : wp m st Q) (hq : ∀ a s, Q a s → R a s) : wp m st R := let ⟨a, s, e, q⟩ := h; ⟨a, s, e, hq a s q⟩
@[simp] theorem wp_bind {m : Mo α} {f : α → Mo β} {Q : β → List Ob → Prop} : wp (m.bind f) st Q ↔ wp m st fun a s => wp (f a) s Q := by
  constructor
  · rintro ⟨b, s, e, q⟩
    obtain ⟨a, s1, e1, e2⟩ := Mo.bind_some e
    exact ⟨a, s1, e1, b, s, e2, q⟩
  · rintro ⟨a, s1, e1, b, s, e2, q⟩
    exact ⟨b, s, by unfold Mo.bind; rw [e1]; exact e2, q⟩
theorem wp_def {m : Mo α} : wp m st Q ↔ match m st with | some (a, s) => Q a s | none => False := by
  unfold wp
  cases e : m st with
  | none => simp
  | some p =>
    obtain ⟨a, s⟩ := p
    constructor
    · rintro ⟨a', s', e', q⟩
      cases e'
      exact q
    · intro q
      exact ⟨a, s, rfl, q⟩
@[simp] theorem wp_opt {f : List Ob → Option α} : wp (fun st => (f st).map fun d => (d, st)) st Q ↔ match f st with | some d => Q d st | none => False := by
  rw [wp_def]
  cases f st <;> rfl
theorem wp_ite {c : Prop} [Decidable c] {m n : Mo α} : wp (if c then m else n) st Q ↔ if c then wp m st Q else wp n st Q := by split <;> rfl
theorem wp_ite_pos {c : Prop} [Decidable c] {m n : Mo α} (h : c) : wp (if c then m else n) st Q ↔ wp m st Q := by rw [if_pos h]
end
section
variable {st : List Ob} {ρ : Ev}
variable {Q : D → List Ob → Prop} {QL : List D → List Ob → Prop} {QB : Bool → List Ob → Prop} {QO : Out → List Ob → Prop} {QE : Ev → List Ob → Prop}
@[simp] theorem wp_var {i : Nat} : wp (xVar i ρ) st Q ↔ match ρ[i]? with | some (some (.d x)) => Q x st | _ => False := by
  rw [wp_def]
  unfold xVar
  rcases ρ[i]? with _ | (_ | (x | _)) <;> simp
@[simp] theorem wp_c {d : D} : wp (xC d ρ) st Q ↔ Q d st := wp_pure
@[simp] theorem wp_lift2 {f : D → D → Option D} {x y : D} : wp (lift2 f x y) st Q ↔ match f x y with | some d => Q d st | none => False := by
  rw [wp_def]
  unfold lift2
  cases f x y <;> rfl
@[simp] theorem wp_xBin {f : D → D → Mo D} {ma mb : Ev → Mo D} : wp (xBin f ma mb ρ) st Q ↔ wp (ma ρ) st fun x s => wp (mb ρ) s fun y s' => wp (f x y) s' Q := by simp [xBin]
def isB (Q : Bool → List Ob → Prop) : D → List Ob → Prop := fun d s => match d with
  | .bl b => Q b s
  | _ => False
@[simp] theorem isB_bl {b : Bool} : isB QB (.bl b) st ↔ QB b st := Iff.rfl
@[simp] theorem wp_asB {m : Ev → Mo D} : wp (asB m ρ) st QB ↔ wp (m ρ) st (isB QB) := by
  unfold asB
  rw [wp_bind]
  have : (fun a s => wp (match a with | .bl b => Mo.pure b | _ => Mo.fail) s QB) = isB QB := by
    funext a s
    cases a <;> simp [isB]
  exact Iff.of_eq (congrArg (wp (m ρ) st) this)
@[simp] theorem wp_xAndB {ma mb : Ev → Mo Bool} : wp (xAndB ma mb ρ) st QB ↔ wp (ma ρ) st fun b s => if b = true then wp (mb ρ) s QB else QB false s := by simp [xAndB, wp_ite]
@[simp] theorem wp_xOrB {ma mb : Ev → Mo Bool} : wp (xOrB ma mb ρ) st QB ↔ wp (ma ρ) st fun b s => if b = true then QB true s else wp (mb ρ) s QB := by simp [xOrB, wp_ite]
@[simp] theorem wp_xNotB {ma : Ev → Mo Bool} : wp (xNotB ma ρ) st QB ↔ wp (ma ρ) st fun b s => QB (!b) s := by simp [xNotB]
@[simp] theorem wp_xAnd {ma mb : Ev → Mo D} : wp (xAnd ma mb ρ) st Q ↔ wp (ma ρ) st (isB fun b s => if b = true then wp (mb ρ) s Q else Q (.bl false) s) := by simp [xAnd, wp_ite]
@[simp] theorem wp_xOr {ma mb : Ev → Mo D} : wp (xOr ma mb ρ) st Q ↔ wp (ma ρ) st (isB fun b s => if b = true then Q (.bl true) s else wp (mb ρ) s Q) := by simp [xOr, wp_ite]
@[simp] theorem wp_xNot {ma : Ev → Mo D} : wp (xNot ma ρ) st Q ↔ wp (ma ρ) st (isB fun b s => Q (.bl (!b)) s) := by simp [xNot]
@[simp] theorem wp_xIf {mc : Ev → Mo Bool} {ma mb : Ev → Mo D} : wp (xIf mc ma mb ρ) st Q ↔ wp (mc ρ) st fun b s => if b = true then wp (ma ρ) s Q else wp (mb ρ) s Q := by simp [xIf, wp_ite]
@[simp] theorem wp_xNil : wp (xNil ρ) st QL ↔ QL [] st := wp_pure
@[simp] theorem wp_xCons {ma : Ev → Mo D} {mr : Ev → Mo (List D)} : wp (xCons ma mr ρ) st QL ↔ wp (ma ρ) st fun x s => wp (mr ρ) s fun xs s' => QL (x :: xs) s' := by simp [xCons]
@[simp] theorem wp_xTup {m : Ev → Mo (List D)} : wp (xTup m ρ) st Q ↔ wp (m ρ) st fun xs s => xs.length ≤ 1000000 ∧ Q (.tup xs) s := by
  simp only [xTup, wp_bind, wp_ite, wp_pure, wp_fail]
  constructor <;> (intro h; refine wp_mono h fun a s q => ?_)
  · split at q
    · exact ⟨by assumption, q⟩
    · exact q.elim
  · rw [if_pos q.1]; exact q.2
@[simp] theorem wp_xLst {m : Ev → Mo (List D)} : wp (xLst m ρ) st Q ↔ wp (m ρ) st fun xs s => xs.length ≤ 1000000 ∧ Q (.lst xs) s := by
  simp only [xLst, wp_bind, wp_ite, wp_pure, wp_fail]
  constructor <;> (intro h; refine wp_mono h fun a s q => ?_)
  · split at q
    · exact ⟨by assumption, q⟩
    · exact q.elim
  · rw [if_pos q.1]; exact q.2
@[simp] theorem wp_xLstM {m : Ev → Mo (List D)} : wp (xLstM m ρ) st Q ↔ wp (m ρ) st fun xs s => xs.length ≤ 1000000 ∧ Q (.loc s.length) (s ++ [.lst xs]) := by
  simp only [xLstM, wp_bind]
  constructor <;> (intro h; refine wp_mono h fun a s q => ?_)
  · rw [wp_def] at q
    split at q
    · rename_i h1
      split at h1
      · rename_i hl
        cases h1
        exact ⟨hl, q⟩
      · cases h1
    · exact q.elim
  · rw [wp_def]
    simp [q.1, q.2]
@[simp] theorem wp_xStar {m : Ev → Mo D} {mr : Ev → Mo (List D)} : wp (xStar m mr ρ) st QL ↔ wp (m ρ) st fun x s => match seqItems s x with | some ds => wp (mr ρ) s fun xs s' => QL (ds ++ xs) s' | none => False := by
  simp only [xStar, wp_bind]
  constructor <;> (intro h; refine wp_mono h fun a s q => ?_)
  · cases e : seqItems s a with
    | none => rw [wp_def] at q; simp [e] at q
    | some ds =>
      have q2 : wp ((mr ρ).bind fun xs => Mo.pure (ds ++ xs)) s QL := by
        rw [wp_def] at q ⊢
        simpa [e] using q
      simpa using q2
  · cases e : seqItems s a with
    | none => rw [e] at q; exact q.elim
    | some ds =>
      rw [e] at q
      have q2 : wp ((mr ρ).bind fun xs => Mo.pure (ds ++ xs)) s QL := by simpa using q
      rw [wp_def] at q2 ⊢
      simpa [e] using q2
@[simp] theorem wp_xChain {m1 m2 : D → D → Mo D} {ma mb mc : Ev → Mo D} : wp (xChain m1 m2 ma mb mc ρ) st Q ↔ wp (ma ρ) st fun x s => wp (mb ρ) s fun y s' => wp (m1 x y) s' (isB fun k s2 => if k = true then wp (mc ρ) s2 fun z s3 => wp (m2 y z) s3 Q else Q (.bl false) s2) := by
  simp only [xChain, wp_bind]
  have : ∀ y : D, (fun (a : D) s => wp (match a with | .bl k => if k = true then (mc ρ).bind fun z => m2 y z else Mo.pure (.bl false) | _ => Mo.fail) s Q) = isB fun k s2 => if k = true then wp (mc ρ) s2 fun z s3 => wp (m2 y z) s3 Q else Q (.bl false) s2 := fun y => by
    funext a s
    cases a <;> simp [isB, wp_ite]
  constructor <;> (intro h; refine wp_mono h fun x s q => ?_) <;> refine wp_mono q fun y s q => ?_ <;> refine wp_mono q fun z s q => ?_ <;> (cases z <;> simp_all [isB, wp_ite])
@[simp] theorem wp_xCall {md : List D → Mo D} {ml : Ev → Mo (List D)} : wp (xCall md ml ρ) st Q ↔ wp (ml ρ) st fun ds s => wp (md ds) s Q := by simp [xCall]
@[simp] theorem wp_liftL {f : List Ob → List D → Option D} {ds : List D} : wp (liftL f ds) st Q ↔ match f st ds with | some d => Q d st | none => False := by
  rw [wp_def]
  unfold liftL
  cases f st ds <;> rfl
@[simp] theorem wp_xFn {n : Nat} {md : List A → Mo D} {ml : Ev → Mo (List D)} : wp (xFn n md ml ρ) st Q ↔ wp (ml ρ) st fun ds s => ds.length = n ∧ wp (md (ds.map .d)) s Q := by
  simp only [xFn, wp_bind, wp_ite, wp_fail]
  constructor <;> (intro h; refine wp_mono h fun a s q => ?_)
  · split at q
    · exact ⟨by assumption, q⟩
    · exact q.elim
  · rw [if_pos q.1]; exact q.2
@[simp] theorem wp_mIx {x y : D} : wp (mIx x y) st Q ↔ match dIx st x y with | some d => Q d st | none => False := by
  rw [wp_def]
  unfold mIx
  cases dIx st x y <;> rfl
@[simp] theorem wp_mGetD {x y : D} : wp (mGetD x y) st Q ↔ match dGetD st x y with | some d => Q d st | none => False := by
  rw [wp_def]
  unfold mGetD
  cases dGetD st x y <;> rfl
@[simp] theorem wp_mIn {x y : D} : wp (mIn x y) st Q ↔ match inB st x y with | some b => Q (.bl b) st | none => False := by
  rw [wp_def]
  unfold mIn
  cases inB st x y <;> rfl
@[simp] theorem wp_mNotIn {x y : D} : wp (mNotIn x y) st Q ↔ match inB st x y with | some b => Q (.bl (!b)) st | none => False := by
  rw [wp_def]
  unfold mNotIn
  cases inB st x y <;> rfl
@[simp] theorem wp_mEq {x y : D} : wp (mEq x y) st Q ↔ (okD (res st x) = true ∧ okD (res st y) = true) ∧ Q (.bl (PyData.eqv (toPy (res st x)) (toPy (res st y)))) st := by
  rw [wp_def]
  unfold mEq
  by_cases h : okD (res st x) = true ∧ okD (res st y) = true
  · simp [h]
  · simp [h]
@[simp] theorem wp_mNe {x y : D} : wp (mNe x y) st Q ↔ (okD (res st x) = true ∧ okD (res st y) = true) ∧ Q (.bl (!PyData.eqv (toPy (res st x)) (toPy (res st y)))) st := by
  rw [wp_def]
  unfold mNe
  by_cases h : okD (res st x) = true ∧ okD (res st y) = true
  · simp [h]
  · simp [h]
@[simp] theorem wp_xNeg {m : Ev → Mo D} : wp (xNeg m ρ) st Q ↔ wp (m ρ) st fun x s => match dNeg x with | some d => Q d s | none => False := by
  simp only [xNeg, wp_bind]
  constructor <;> (intro h; refine wp_mono h fun x s q => ?_) <;> (rw [wp_def] at *; cases e : dNeg x <;> simp_all)
@[simp] theorem wp_oNone {R : Option Int → List Ob → Prop} : wp (oNone ρ) st R ↔ R none st := wp_pure
@[simp] theorem wp_oSome {m : Ev → Mo D} {R : Option Int → List Ob → Prop} : wp (oSome m ρ) st R ↔ wp (m ρ) st fun d s => match d with | .int i => R (some i) s | _ => False := by
  simp only [oSome, wp_bind]
  constructor <;> (intro h; refine wp_mono h fun x s q => ?_) <;> (cases x <;> simp_all)
@[simp] theorem wp_xSlice {m : Ev → Mo D} {ml mh : Ev → Mo (Option Int)} : wp (xSlice m ml mh ρ) st Q ↔ wp (m ρ) st fun x s => wp (ml ρ) s fun lo s1 => wp (mh ρ) s1 fun hi s2 => match dSlice s2 x lo hi with | some d => Q d s2 | none => False := by
  simp only [xSlice, wp_bind]
  constructor <;> (intro h; refine wp_mono h fun x s q => ?_) <;> refine wp_mono q fun y s q => ?_ <;> refine wp_mono q fun z s q => ?_ <;> (rw [wp_def] at *; cases e : dSlice s x y z <;> simp_all)
/-! statements -/
@[simp] theorem wp_yNil : wp (yNil ρ) st QO ↔ QO (.nx ρ) st := wp_pure
def onNx (f : Ev → List Ob → Prop) (QO : Out → List Ob → Prop) : Out → List Ob → Prop := fun o s => match o with
  | .nx ρ => f ρ s
  | o => QO o s
@[simp] theorem onNx_nx {f : Ev → List Ob → Prop} : onNx f QO (.nx ρ) st ↔ f ρ st := Iff.rfl
@[simp] theorem onNx_rt {f : Ev → List Ob → Prop} {d : D} : onNx f QO (.rt d) st ↔ QO (.rt d) st := Iff.rfl
@[simp] theorem onNx_bk {f : Ev → List Ob → Prop} : onNx f QO (.bk ρ) st ↔ QO (.bk ρ) st := Iff.rfl
@[simp] theorem onNx_ct {f : Ev → List Ob → Prop} : onNx f QO (.ct ρ) st ↔ QO (.ct ρ) st := Iff.rfl
@[simp] theorem wp_ySeq {m n : Ev → Mo Out} : wp (ySeq m n ρ) st QO ↔ wp (m ρ) st (onNx (fun ρ' s => wp (n ρ') s QO) QO) := by
  simp only [ySeq, wp_bind]
  have : (fun (o : Out) s => wp (match o with | .nx ρ' => n ρ' | o => Mo.pure o) s QO) = onNx (fun ρ' s => wp (n ρ') s QO) QO := by
    funext o s
    cases o <;> simp [onNx]
  exact Iff.of_eq (congrArg (wp (m ρ) st) this)
@[simp] theorem wp_yRet {m : Ev → Mo D} : wp (yRet m ρ) st QO ↔ wp (m ρ) st fun d s => QO (.rt d) s := by simp [yRet]
@[simp] theorem wp_yDrop {m : Ev → Mo D} : wp (yDrop m ρ) st QO ↔ wp (m ρ) st fun _ s => QO (.nx ρ) s := by simp [yDrop]
@[simp] theorem wp_yIf {c : Ev → Mo Bool} {m n : Ev → Mo Out} : wp (yIf c m n ρ) st QO ↔ wp (c ρ) st fun b s => if b = true then wp (m ρ) s QO else wp (n ρ) s QO := by simp [yIf, wp_ite]
@[simp] theorem wp_yNever : wp (yNever ρ) st QO ↔ False := wp_fail
@[simp] theorem wp_ySet {i : Nat} {m : Ev → Mo D} : wp (ySet i m ρ) st QO ↔ wp (m ρ) st fun d s => QO (.nx (ρ.set i (some (.d d)))) s := by simp [ySet]
@[simp] theorem wp_yAsg {m : Ev → Mo D} {gm : Ev → D → Mo Ev} : wp (yAsg m gm ρ) st QO ↔ wp (m ρ) st fun d s => wp (gm ρ d) s fun ρ' s' => QO (.nx ρ') s' := by simp [yAsg]
@[simp] theorem wp_zName {i : Nat} {d : D} : wp (zName i ρ d) st QE ↔ QE (ρ.set i (some (.d d))) st := wp_pure
@[simp] theorem wp_zNil : wp (zNil ρ []) st QE ↔ QE ρ st := wp_pure
@[simp] theorem wp_zCons {a : Ev → D → Mo Ev} {b : Ev → List D → Mo Ev} {d : D} {r : List D} : wp (zCons a b ρ (d :: r)) st QE ↔ wp (a ρ d) st fun ρ1 s => wp (b ρ1 r) s QE := by simp [zCons]
@[simp] theorem wp_zTup {b : Ev → List D → Mo Ev} {ds : List D} : wp (zTup b ρ (.tup ds)) st QE ↔ wp (b ρ ds) st QE := by simp [zTup]
@[simp] theorem wp_zSub {mo mi : Ev → Mo D} {v : D} : wp (zSub mo mi ρ v) st QE ↔ wp (mo ρ) st fun o s => wp (mi ρ) s fun i s1 => wp (setLoc o i v) s1 fun _ s2 => QE ρ s2 := by simp [zSub]
@[simp] theorem wp_setLoc {n : Nat} {k : Int} {v : D} {R : Unit → List Ob → Prop} : wp (setLoc (.loc n) (.int k) v) st R ↔ match st[n]? with | some (.lst ds) => (match ixN ds.length k with | some j => R () (st.set n (.lst (ds.set j v))) | none => False) | _ => False := by
  rw [wp_def]
  have h : setLoc (.loc n) (.int k) v st = match st[n]? with | some (.lst ds) => (ixN ds.length k).map fun j => ((), st.set n (.lst (ds.set j v))) | _ => none := rfl
  rw [h]
  rcases st[n]? with _ | (ds | _ | _)
  · exact Iff.rfl
  · dsimp only
    generalize ixN ds.length k = z
    cases z <;> simp
  · exact Iff.rfl
  · exact Iff.rfl
@[simp] theorem wp_yPar {i j : Nat} {m : Ev → Mo (List D)} : wp (yPar i j m ρ) st QO ↔ wp (m ρ) st fun ds s => match ds with | [a, b] => QO (.nx ((ρ.set i (some (.d a))).set j (some (.d b)))) s | _ => False := by
  simp only [yPar, wp_bind]
  constructor <;> (intro h; refine wp_mono h fun a s q => ?_) <;> (split at q <;> simp_all)
@[simp] theorem wp_yPar3 {i j l : Nat} {m : Ev → Mo (List D)} : wp (yPar3 i j l m ρ) st QO ↔ wp (m ρ) st fun ds s => match ds with | [a, b, c] => QO (.nx (((ρ.set i (some (.d a))).set j (some (.d b))).set l (some (.d c)))) s | _ => False := by
  simp only [yPar3, wp_bind]
  constructor <;> (intro h; refine wp_mono h fun a s q => ?_) <;> (split at q <;> simp_all)
@[simp] theorem wp_runF {n : Nat} {m : Ev → Mo Out} {as : List A} : wp (runF n m as) st Q ↔ wp (m (startE n as)) st fun o s => match o with | .rt d => Q d s | .nx _ => Q .non s | _ => False := by
  simp only [runF, wp_bind]
  constructor <;> (intro h; refine wp_mono h fun o s q => ?_) <;> (cases o <;> simp_all [endD])
end
end MM
set_option autoImplicit false
set_option maxRecDepth 100000
set_option maxHeartbeats 4000000
/-! MW2: loops, comprehensions, freezing, methods, instances. -/
namespace MM
open PySem PySem.Spec L2
section
variable {st : List Ob} {ρ : Ev}
variable {Q : D → List Ob → Prop} {QL : List D → List Ob → Prop} {QB : Bool → List Ob → Prop} {QO : Out → List Ob → Prop} {QE : Ev → List Ob → Prop}
/-! walks -/
@[simp] theorem wp_itemsT {m : Ev → Mo D} : wp (itemsT m ρ) st QL ↔ wp (m ρ) st fun d s => match d with | .tup ds => QL ds s | _ => False := by
  simp only [itemsT, wp_bind]
  constructor <;> (intro h; refine wp_mono h fun d s q => ?_) <;> (cases d <;> simp_all)
@[simp] theorem wp_itemsL {m : Ev → Mo D} : wp (itemsL m ρ) st QL ↔ wp (m ρ) st fun d s => match d with | .lst ds => QL ds s | .ro ds => QL ds s | _ => False := by
  simp only [itemsL, wp_bind]
  constructor <;> (intro h; refine wp_mono h fun d s q => ?_) <;> (cases d <;> simp_all)
@[simp] theorem wp_itemsS {m : Ev → Mo D} : wp (itemsS m ρ) st QL ↔ wp (m ρ) st fun d s => match d with | .str x => QL (x.cps.toList.map fun c => .str ⟨#[c]⟩) s | _ => False := by
  simp only [itemsS, wp_bind]
  constructor <;> (intro h; refine wp_mono h fun d s q => ?_) <;> (cases d <;> simp_all)
@[simp] theorem wp_itemsET {m : Ev → Mo D} : wp (itemsET m ρ) st QL ↔ wp (m ρ) st fun d s => match d with | .tup ds => QL (enumD 0 ds) s | _ => False := by
  simp only [itemsET, wp_bind]
  constructor <;> (intro h; refine wp_mono h fun d s q => ?_) <;> (cases d <;> simp_all)
theorem wp_itemsR1 {m : Ev → Mo (List D)} : wp (itemsR1 m ρ) st QL ↔ wp (m ρ) st fun ds s => match ds with | [.int j] => (-(2 ^ 62) ≤ j ∧ j < 2 ^ 62) ∧ QL (rangeD 0 j.toNat) s | _ => False := by
  simp only [itemsR1, wp_bind]
  constructor <;> (intro h; refine wp_mono h fun ds s q => ?_)
  · split at q
    · rw [wp_ite] at q
      split at q
      · rename_i hj
        exact ⟨hj, wp_pure.mp q⟩
      · exact (wp_fail.mp q).elim
    · exact (wp_fail.mp q).elim
  · split at q
    · rw [wp_ite, if_pos q.1]
      exact wp_pure.mpr q.2
    · exact q.elim
theorem wp_forM {gm : Ev → D → Mo Ev} {mb : Ev → Mo Out} {items : List D} (I : Nat → Ev → List Ob → Prop) (h0 : I 0 ρ st)
    (hs : ∀ (i : Nat) (h : i < items.length) (ρ : Ev) (st : List Ob), I i ρ st → wp (gm ρ items[i]) st fun ρ1 s1 => wp (mb ρ1) s1 fun o s2 => match o with
      | .nx ρ2 => I (i + 1) ρ2 s2
      | .ct ρ2 => I (i + 1) ρ2 s2
      | .bk ρ2 => QO (.nx ρ2) s2
      | .rt d => QO (.rt d) s2)
    (he : ∀ (ρ : Ev) (st : List Ob), I items.length ρ st → QO (.nx ρ) st) : wp (forM gm mb items ρ) st QO := by
  have core : ∀ (k i : Nat) (ρ : Ev) (st : List Ob), items.length - i = k → i ≤ items.length → I i ρ st → wp (forM gm mb (items.drop i) ρ) st QO := by
    intro k
    induction k with
    | zero =>
      intro i ρ st hk hi hI
      have e : i = items.length := by omega
      subst e
      rw [List.drop_length]
      exact wp_pure.mpr (he ρ st hI)
    | succ k ih =>
      intro i ρ st hk hi hI
      have hlt : i < items.length := by omega
      rw [List.drop_eq_getElem_cons hlt]
      unfold forM
      rw [wp_bind]
      refine wp_mono (hs i hlt ρ st hI) fun ρ1 s1 q => ?_
      rw [wp_bind]
      refine wp_mono q fun o s2 q => ?_
      cases o with
      | nx ρ2 => exact ih (i + 1) ρ2 s2 (by omega) (by omega) q
      | ct ρ2 => exact ih (i + 1) ρ2 s2 (by omega) (by omega) q
      | bk ρ2 => exact wp_pure.mpr q
      | rt d => exact wp_pure.mpr q
  have := core items.length 0 ρ st (by omega) (by omega) h0
  rwa [List.drop_zero] at this
@[simp] theorem wp_yFor {mi : Ev → Mo (List D)} {gm : Ev → D → Mo Ev} {mb : Ev → Mo Out} : wp (yFor mi gm mb ρ) st QO ↔ wp (mi ρ) st fun items s => wp (forM gm mb items ρ) s QO := by simp [yFor]
theorem wp_compM {gm : Ev → D → Mo Ev} {mt : Ev → Mo Bool} {me : Ev → Mo D} {items : List D} (I : Nat → List D → List Ob → Prop) (h0 : I 0 [] st)
    (hs : ∀ (i : Nat) (h : i < items.length) (acc : List D) (st : List Ob), I i acc st → wp (gm ρ items[i]) st fun ρ1 s1 => wp (mt ρ1) s1 fun b s2 => if b = true then wp (me ρ1) s2 fun y s3 => I (i + 1) (acc ++ [y]) s3 else I (i + 1) acc s2)
    (he : ∀ (acc : List D) (st : List Ob), I items.length acc st → QL acc st) : wp (compM gm mt me items ρ) st QL := by
  have core : ∀ (k i : Nat) (acc : List D) (st : List Ob), items.length - i = k → i ≤ items.length → I i acc st → wp (compM gm mt me (items.drop i) ρ) st fun ds s => QL (acc ++ ds) s := by
    intro k
    induction k with
    | zero =>
      intro i acc st hk hi hI
      have e : i = items.length := by omega
      subst e
      rw [List.drop_length]
      refine wp_pure.mpr ?_
      rw [List.append_nil]
      exact he acc st hI
    | succ k ih =>
      intro i acc st hk hi hI
      have hlt : i < items.length := by omega
      rw [List.drop_eq_getElem_cons hlt]
      unfold compM
      rw [wp_bind]
      refine wp_mono (hs i hlt acc st hI) fun ρ1 s1 q => ?_
      rw [wp_bind]
      refine wp_mono q fun b s2 q => ?_
      rw [wp_ite]
      by_cases hb : b = true
      · rw [if_pos hb] at q ⊢
        rw [wp_bind]
        refine wp_mono q fun y s3 q => ?_
        rw [wp_bind]
        refine wp_mono (ih (i + 1) _ s3 (by omega) (by omega) q) fun ds s4 q => ?_
        refine wp_pure.mpr ?_
        rwa [List.append_assoc] at q
      · rw [if_neg hb] at q ⊢
        exact ih (i + 1) acc s2 (by omega) (by omega) q
  have := core items.length 0 [] st (by omega) (by omega) h0
  rw [List.drop_zero] at this
  exact wp_mono this fun ds s q => q
/-- a comprehension whose parts change nothing -/
theorem wp_compP {gm : Ev → D → Mo Ev} {mt : Ev → Mo Bool} {me : Ev → Mo D} {items : List D} {p : D → Bool} {f : D → D}
    (h : ∀ d ∈ items, wp (gm ρ d) st fun ρ1 s1 => s1 = st ∧ wp (mt ρ1) st fun b s2 => s2 = st ∧ b = p d ∧ (p d = true → wp (me ρ1) st fun y s3 => s3 = st ∧ y = f d)) (hq : QL ((items.filter p).map f) st) : wp (compM gm mt me items ρ) st QL := by
  refine wp_compM (fun i acc s => s = st ∧ acc = ((items.take i).filter p).map f) ⟨rfl, by simp⟩ (fun i hi acc s ⟨e1, e2⟩ => ?_) (fun acc s ⟨e1, e2⟩ => ?_)
  · subst e1
    refine wp_mono (h items[i] (List.getElem_mem hi)) fun ρ1 s1 ⟨e3, q⟩ => ?_
    subst e3
    refine wp_mono q fun b s2 ⟨e4, e5, q⟩ => ?_
    subst e4
    have et : items.take (i + 1) = items.take i ++ [items[i]] := by rw [List.take_succ_eq_append_getElem hi]
    cases hp : p items[i] with
    | true =>
      rw [e5, hp, if_pos rfl]
      refine wp_mono (q hp) fun y s3 ⟨e6, e7⟩ => ⟨e6, ?_⟩
      rw [et, List.filter_append, List.map_append, e2, e7]
      simp [hp]
    | false =>
      rw [e5, hp, if_neg (by decide)]
      refine ⟨rfl, ?_⟩
      rw [et, List.filter_append, e2]
      simp [hp]
  · subst e1
    rw [List.take_length] at e2
    rw [e2]
    exact hq
@[simp] theorem wp_xComp {mi : Ev → Mo (List D)} {vs : List Nat} {gm : Ev → D → Mo Ev} {mt : Ev → Mo Bool} {me : Ev → Mo D} : wp (xComp mi vs gm mt me ρ) st Q ↔ wp (mi ρ) st fun items s => items.length ≤ 1000000 ∧ wp (compM gm mt me items (wipeE ρ vs)) s fun ds s' => Q (.lst ds) s' := by
  simp only [xComp, wp_bind]
  constructor <;> (intro h; refine wp_mono h fun items s q => ?_)
  · rw [wp_ite] at q
    split at q
    · rename_i hl
      refine ⟨hl, ?_⟩
      rw [wp_bind] at q
      exact wp_mono q fun ds s' q => wp_pure.mp q
    · exact (wp_fail.mp q).elim
  · rw [wp_ite, if_pos q.1, wp_bind]
    exact wp_mono q.2 fun ds s' q => wp_pure.mpr q
@[simp] theorem wp_tYes : wp (tYesM ρ) st QB ↔ QB true st := wp_pure
theorem wp_whileM {c : Ev → Mo Bool} {mb : Ev → Mo Out} (I : Nat → Ev → List Ob → Prop)
    (hs : ∀ (k : Nat) (ρ : Ev) (st : List Ob), I k ρ st → wp (c ρ) st fun b s => if b = true then wp (mb ρ) s fun o s2 => match o with
      | .nx ρ2 => ∃ j, j < k ∧ I j ρ2 s2
      | .ct ρ2 => ∃ j, j < k ∧ I j ρ2 s2
      | .bk ρ2 => QO (.nx ρ2) s2
      | .rt d => QO (.rt d) s2
      else QO (.nx ρ) s) : ∀ (n k : Nat) (ρ : Ev) (st : List Ob), k < n → I k ρ st → wp (whileM c mb n ρ) st QO
  | 0, _, _, _, h, _ => absurd h (Nat.not_lt_zero _)
  | n + 1, k, ρ, st, h, hI => by
    unfold whileM
    rw [wp_bind]
    refine wp_mono (hs k ρ st hI) fun b s q => ?_
    rw [wp_ite]
    by_cases hb : b = true
    · rw [if_pos hb] at q ⊢
      rw [wp_bind]
      refine wp_mono q fun o s2 q => ?_
      cases o with
      | nx ρ2 => obtain ⟨j, hj, q⟩ := q; exact wp_whileM I hs n j ρ2 s2 (by omega) q
      | ct ρ2 => obtain ⟨j, hj, q⟩ := q; exact wp_whileM I hs n j ρ2 s2 (by omega) q
      | bk ρ2 => exact wp_pure.mpr q
      | rt d => exact wp_pure.mpr q
    · rw [if_neg hb] at q ⊢
      exact wp_pure.mpr q
@[simp] theorem wp_yWhile {n : Nat} {c : Ev → Mo Bool} {mb : Ev → Mo Out} : wp (yWhile n c mb ρ) st QO ↔ wp (whileM c mb n ρ) st QO := Iff.rfl
/-! freezing -/
theorem wp_frz {k : Nat} {m : Mo D} : wp (frzM k m) st Q ↔ wp m st fun d s => (s.take st.length).all (Ob.lo st.length) = true ∧ match frzD s st.length k d with | some e => Q e (s.take st.length) | none => False := by
  constructor
  · rintro ⟨e, s2, h, q⟩
    obtain ⟨d, s, h1, h2, h3, rfl⟩ := frzM_some h
    exact ⟨d, s, h1, h2, by rw [h3]; exact q⟩
  · rintro ⟨d, s, h1, h2, q⟩
    cases h3 : frzD s st.length k d with
    | none => rw [h3] at q; exact q.elim
    | some e =>
      rw [h3] at q
      refine ⟨e, _, ?_, q⟩
      unfold frzM
      rw [h1]
      simp [h2, h3]
/-! methods -/
@[simp] theorem wp_xMt {T : String} {md : D → List D → Mo D} {mo : Ev → Mo D} {ml : Ev → Mo (List D)} : wp (xMt T md mo ml ρ) st Q ↔ wp (mo ρ) st fun x s => tyD T s x = true ∧ wp (ml ρ) s fun ds s' => wp (md x ds) s' Q := by
  simp only [xMt, wp_bind]
  constructor <;> (intro h; refine wp_mono h fun x s q => ?_)
  · by_cases ht : tyD T s x = true
    · refine ⟨ht, ?_⟩
      rw [← wp_bind]
      rw [wp_def] at q ⊢
      simpa [ht] using q
    · rw [wp_def] at q
      simp [ht] at q
  · obtain ⟨ht, q⟩ := q
    rw [← wp_bind] at q
    rw [wp_def] at q ⊢
    simpa [ht] using q
theorem wp_append {n : Nat} {y : D} {es : List D} (h : st[n]? = some (.lst es)) (hl : es.length ≤ 1000000) (q : Q .non (st.set n (.lst (es ++ [y])))) : wp (mAppend (.loc n) [y]) st Q := by
  rw [wp_def]
  simp [mAppend, h, hl, q]
theorem wp_popAt {n : Nat} {i : Int} {es : List D} {y : D} (h : st[n]? = some (.lst es)) (h0 : 0 ≤ i) (h1 : i < 1000000) (hy : es[i.toNat]? = some y) (q : Q y (st.set n (.lst (es.eraseIdx i.toNat)))) : wp (mPopAt (.loc n) [.int i]) st Q := by
  rw [wp_def]
  simp [mPopAt, h, h0, h1, hy, q]
theorem wp_pop0 {n : Nat} {es : List D} {y : D} (h : st[n]? = some (.lst es)) (hy : es[es.length - 1]? = some y) (q : Q y (st.set n (.lst es.dropLast))) : wp (mPop0 (.loc n) []) st Q := by
  rw [wp_def]
  simp [mPop0, h, hy, q]
/-! instances -/
@[simp] theorem wp_xProp {c : Str} {md : List A → Mo D} {m : Ev → Mo D} : wp (xProp c md m ρ) st Q ↔ wp (m ρ) st fun x s => match insOf s x with | some (c', _, _) => c' = c ∧ wp (md [.d x]) s Q | none => False := by
  simp only [xProp, wp_bind]
  constructor <;> (intro h; refine wp_mono h fun x s q => ?_)
  · rw [wp_def] at q
    rcases e : insOf s x with _ | ⟨c', ns, ds⟩
    · simp [e] at q
    · by_cases hc : c' = c
      · refine ⟨hc, ?_⟩
        rw [wp_def]
        simpa [e, hc] using q
      · simp [e, hc] at q
  · rcases e : insOf s x with _ | ⟨c', ns, ds⟩
    · rw [e] at q; exact q.elim
    · rw [e] at q
      obtain ⟨hc, q⟩ := q
      rw [wp_def] at q ⊢
      simpa [e, hc] using q
@[simp] theorem wp_xFld {c f : Str} {m : Ev → Mo D} : wp (xFld c f m ρ) st Q ↔ wp (m ρ) st fun x s => match dFld c f s x with | some d => Q d s | none => False := by
  simp only [xFld, wp_bind]
  constructor <;> (intro h; refine wp_mono h fun x s q => ?_) <;> (rw [wp_def] at *; cases e : dFld c f s x <;> simp_all)
theorem wp_setF {c f : Str} {mo mv : Ev → Mo D} : wp (ySetF c f mo mv ρ) st QO ↔ wp (mv ρ) st fun v s => wp (mo ρ) s fun o s1 => match o with
    | .loc n => (match s1[n]? with
      | some (.ins c' ns ds) => (c' = c ∧ ns.length < 1000) ∧ QO (.nx ρ) (s1.set n (.ins c (putN f ns) (put1 f v ns ds)))
      | _ => False)
    | _ => False := by
  simp only [ySetF, wp_bind]
  constructor <;> (intro h; refine wp_mono h fun v s q => ?_) <;> refine wp_mono q fun o s1 q => ?_
  · rw [wp_def] at q
    cases o with
    | loc n =>
      rcases e : s1[n]? with _ | (_ | ⟨c', ns, ds⟩ | _) <;> simp [e] at q ⊢
      by_cases hc : c' = c ∧ ns.length < 1000
      · simp [hc] at q
        exact ⟨hc, q⟩
      · simp [hc] at q
    | _ => simp at q
  · cases o with
    | loc n =>
      rcases e : s1[n]? with _ | (_ | ⟨c', ns, ds⟩ | _) <;> simp [e] at q ⊢
      rw [wp_def]
      simp [e, q]
    | _ => exact q.elim
theorem wp_make {c : Str} {n : Nat} {md : List A → Mo D} {ds : List D} : wp (mkM c n md ds) st Q ↔ ds.length = n ∧ wp (md (.d (.loc st.length) :: ds.map .d)) (st ++ [.ins c [] []]) fun d s => match d with | .non => Q (.loc st.length) s | _ => False := by
  rw [wp_def, wp_def]
  unfold mkM
  by_cases hn : ds.length = n
  · simp only [hn, if_true, true_and]
    generalize md (A.d (D.loc st.length) :: List.map A.d ds) (st ++ [Ob.ins c [] []]) = z
    rcases z with _ | ⟨d, s⟩
    · exact Iff.rfl
    · cases d <;> exact Iff.rfl
  · simp [hn]
@[simp] theorem wp_xMake {c : Str} {n : Nat} {md : List A → Mo D} {ml : Ev → Mo (List D)} : wp (xMake c n md ml ρ) st Q ↔ wp (ml ρ) st fun ds s => wp (mkM c n md ds) s Q := by simp [xMake]
@[simp] theorem wp_xMakeK {c : Str} {n m : Nat} {is : List Nat} {md : List A → Mo D} {ml : Ev → Mo (List D)} : wp (xMakeK c n m is md ml ρ) st Q ↔ wp (ml ρ) st fun ds s => ds.length = m ∧ wp (mkM c n md (pick is ds)) s Q := by
  simp only [xMakeK, wp_bind, wp_ite, wp_fail]
  constructor <;> (intro h; refine wp_mono h fun a s q => ?_)
  · split at q
    · exact ⟨by assumption, q⟩
    · exact q.elim
  · rw [if_pos q.1]; exact q.2
theorem wp_eqOwn {c : Str} {md : List A → Mo D} {x y : D} {ns1 ns2 : List Str} {ds1 ds2 : List D} (h1 : insOf st x = some (c, ns1, ds1)) (h2 : insOf st y = some (c, ns2, ds2)) (h : wp (md [.d x, .d y]) st (isB fun b s => Q (.bl b) s)) : wp (mEqOwn c md x y) st Q := by
  obtain ⟨d, s, e, q⟩ := h
  cases d with
  | bl b =>
    rw [wp_def]
    simp [mEqOwn, h1, h2, e]
    exact q
  | _ => exact q.elim
theorem wp_neOwn {c : Str} {md : List A → Mo D} {x y : D} {ns1 ns2 : List Str} {ds1 ds2 : List D} (h1 : insOf st x = some (c, ns1, ds1)) (h2 : insOf st y = some (c, ns2, ds2)) (h : wp (md [.d x, .d y]) st (isB fun b s => Q (.bl (!b)) s)) : wp (mNeOwn c md x y) st Q := by
  obtain ⟨d, s, e, q⟩ := h
  cases d with
  | bl b =>
    rw [wp_def]
    simp [mNeOwn, mEqOwn, h1, h2, e]
    exact q
  | _ => exact q.elim
theorem wp_asIns {c : Str} {m : Ev → Mo D} : wp (asIns c m ρ) st QB ↔ wp (m ρ) st fun x s => match insOf s x with | some (c', _, _) => c' = c ∧ QB true s | none => False := by
  simp only [asIns, wp_bind]
  constructor <;> (intro h; refine wp_mono h fun x s q => ?_)
  · rw [wp_def] at q
    rcases e : insOf s x with _ | ⟨c', ns, ds⟩
    · simp [e] at q
    · by_cases hc : c' = c
      · simp [e, hc] at q
        exact ⟨hc, q⟩
      · simp [e, hc] at q
  · rcases e : insOf s x with _ | ⟨c', ns, ds⟩
    · rw [e] at q; exact q.elim
    · rw [e] at q
      rw [wp_def]
      simp [e, q.1, q.2]
end
end MM
set_option autoImplicit false
set_option maxRecDepth 100000
set_option maxHeartbeats 4000000
/-! MS: sorted rows. -/
namespace MM
open PySem PySem.Spec L2
theorem sortD_map {α : Type} (f : α → D) (xs : List α) : sortD (xs.map f) = (xs.mergeSort fun a b => PySem.W.dataLe false toPy (f a) (f b)).map f := by
  unfold sortD
  exact (List.map_mergeSort (r := fun a b => PySem.W.dataLe false toPy (f a) (f b)) (s := PySem.W.dataLe false toPy) (f := f) (fun a _ b _ => rfl)).symm
theorem sortD_perm {α : Type} (f : α → D) (xs : List α) : (xs.mergeSort fun a b => PySem.W.dataLe false toPy (f a) (f b)).Perm xs := List.mergeSort_perm _ _
theorem sortD_pw {α : Type} (f : α → D) (xs : List α) : (xs.mergeSort fun a b => PySem.W.dataLe false toPy (f a) (f b)).Pairwise fun a b => PySem.W.dataLe false toPy (f a) (f b) = true :=
  List.pairwise_mergeSort (le := fun a b => PySem.W.dataLe false toPy (f a) (f b)) (fun a b c h1 h2 => (PySem.W.sortLe_total _ _ _).trans (f a) (f b) (f c) h1 h2) (fun a b => Bool.or_eq_true_iff.mpr ((PySem.W.sortLe_total _ _ _).total (f a) (f b))) xs
theorem le_str {a b : Str} (h : PySem.W.dataLe false toPy (.str a) (.str b) = true) : ¬ b.cps.toList < a.cps.toList := by
  unfold PySem.W.dataLe PySem.W.sortLe at h
  have h2 : (!PyProof.Rows.lexLt PyProof.Rows.itemOrd [.inr b.cps.toList] [.inr a.cps.toList]) = true := h
  rw [Bool.not_eq_true', PyProof.Rows.lex_cons] at h2
  intro hlt
  have h3 : PyProof.Rows.itemOrd.blt (.inr b.cps.toList) (.inr a.cps.toList) = true := decide_eq_true hlt
  rw [h3] at h2
  cases h2
theorem str_ext {a b : Str} (h : a.cps.toList = b.cps.toList) : a = b := by
  cases a
  cases b
  congr 1
  exact Array.toList_inj.mp h
theorem lt_of_le_ne {a b : Str} (h : ¬ b.cps.toList < a.cps.toList) (hne : a ≠ b) : a.cps.toList < b.cps.toList := by
  by_cases hab : a.cps.toList < b.cps.toList
  · exact hab
  · exact absurd (str_ext (List.le_antisymm (List.not_lt.mp h) (List.not_lt.mp hab))) hne
/-- texts sorted -/
theorem sort_strs (xs : List Str) (hnd : xs.Nodup) : ∃ ys : List Str, sortD (xs.map .str) = ys.map .str ∧ ys.Perm xs ∧ ys.Pairwise fun a b => a.cps.toList < b.cps.toList := by
  refine ⟨_, sortD_map _ xs, sortD_perm _ xs, ?_⟩
  have h1 := sortD_pw D.str xs
  have h2 : (xs.mergeSort fun a b => PySem.W.dataLe false toPy (D.str a) (D.str b)).Nodup := (sortD_perm D.str xs).nodup_iff.mpr hnd
  exact (h1.and h2).imp fun ⟨a, b⟩ => lt_of_le_ne (le_str a) b
theorem sortOk_strs (xs : List Str) (h : xs.length ≤ 1000000) (ho : ∀ x ∈ xs, PyData.strOk x = true) : sortOk (xs.map .str) = true := by
  have h1 : pyOks (xs.map D.str) = true := by
    induction xs with
    | nil => rfl
    | cons x xs ih => simp only [List.map_cons, pyOks, Bool.and_eq_true]; exact ⟨by simp only [pyOk]; exact ho x (by simp), ih (by simp at h; omega) fun y hy => ho y (by simp [hy])⟩
  unfold sortOk
  rw [h1]
  simp only [Bool.true_and, Bool.and_eq_true, List.map_map]
  refine ⟨?_, ?_, ?_, ?_⟩
  · unfold alikeAllB
    rw [List.all_eq_true]
    intro a ha
    rw [List.all_eq_true]
    intro b hb
    obtain ⟨x, _, rfl⟩ := List.mem_map.mp ha
    obtain ⟨y, _, rfl⟩ := List.mem_map.mp hb
    rfl
  · unfold sortableB
    rw [Bool.or_eq_true]
    refine .inr ?_
    rw [List.all_eq_true]
    intro a ha
    obtain ⟨x, _, rfl⟩ := List.mem_map.mp ha
    rfl
  · rw [List.length_map]; exact decide_eq_true h
  · rw [List.all_eq_true]
    intro a ha
    obtain ⟨x, _, rfl⟩ := List.mem_map.mp ha
    rfl
/-! pairs of texts -/
abbrev tieD (p : Str × Str) : D := .tup [.str p.1, .str p.2]
theorem le_pair {p q : Str × Str} (h : PySem.W.dataLe false toPy (tieD p) (tieD q) = true) (hne : p ≠ q) : lexLtS [p.1, p.2] [q.1, q.2] = true := by
  obtain ⟨a, b⟩ := p
  obtain ⟨c, d⟩ := q
  unfold PySem.W.dataLe PySem.W.sortLe at h
  have h2 : (!PyProof.Rows.lexLt PyProof.Rows.itemOrd [.inl 1, .inr c.cps.toList, .inl 1, .inr d.cps.toList, .inl 0] [.inl 1, .inr a.cps.toList, .inl 1, .inr b.cps.toList, .inl 0]) = true := h
  rw [Bool.not_eq_true'] at h2
  have e11 : PyProof.Rows.itemOrd.blt (.inl 1) (.inl 1) = false := PyProof.Rows.itemOrd.irrefl _
  rw [PyProof.Rows.lex_cons, e11, PyProof.Rows.lex_cons] at h2
  simp only [Bool.false_or, Bool.not_false, Bool.true_and, Bool.or_eq_false_iff] at h2
  obtain ⟨h3, h4⟩ := h2
  have h3' : ¬ c.cps.toList < a.cps.toList := of_decide_eq_false h3
  show (if a = c then lexLtS [b] [d] else decide (a.cps.toList < c.cps.toList)) = true
  by_cases hac : a = c
  · subst hac
    rw [if_pos rfl]
    have e2 : PyProof.Rows.itemOrd.blt (.inr a.cps.toList) (.inr a.cps.toList) = false := PyProof.Rows.itemOrd.irrefl _
    have e3 : PyProof.Rows.itemLt (.inr a.cps.toList) (.inr a.cps.toList) = false := e2
    rw [e3, Bool.not_false, Bool.true_and, PyProof.Rows.lex_cons, e11, PyProof.Rows.lex_cons] at h4
    simp only [Bool.false_or, Bool.not_false, Bool.true_and, Bool.or_eq_false_iff] at h4
    have h5 : ¬ d.cps.toList < b.cps.toList := of_decide_eq_false h4.1
    have hbd : b ≠ d := fun e => hne (by rw [e])
    show (if b = d then lexLtS [] [] else decide (b.cps.toList < d.cps.toList)) = true
    rw [if_neg hbd]
    exact decide_eq_true (lt_of_le_ne h5 hbd)
  · rw [if_neg hac]
    exact decide_eq_true (lt_of_le_ne h3' hac)
theorem sort_pairs (xs : List (Str × Str)) (hnd : xs.Nodup) : ∃ ys : List (Str × Str), sortD (xs.map tieD) = ys.map tieD ∧ ys.Perm xs ∧ ys.Pairwise fun p q => lexLtS [p.1, p.2] [q.1, q.2] = true := by
  refine ⟨_, sortD_map _ xs, sortD_perm _ xs, ?_⟩
  have h1 := sortD_pw tieD xs
  have h2 : (xs.mergeSort fun a b => PySem.W.dataLe false toPy (tieD a) (tieD b)).Nodup := (sortD_perm tieD xs).nodup_iff.mpr hnd
  exact (h1.and h2).imp fun ⟨a, b⟩ => le_pair a b
theorem sortOk_gen {α : Type} (f : α → D) (xs : List α) (h : xs.length ≤ 1000000) (h1 : ∀ a ∈ xs, pyOk (f a) = true) (h2 : ∀ a b, PySem.W.alike (toPy (f a)) (toPy (f b)) = true) (h3 : ∀ a, isTupB (toPy (f a)) = true) (h4 : ∀ a ∈ xs, (toPy (f a)).depth ≤ 60) : sortOk (xs.map f) = true := by
  have h0 : pyOks (xs.map f) = true := by
    clear h h4
    induction xs with
    | nil => rfl
    | cons x xs ih => simp only [List.map_cons, pyOks, Bool.and_eq_true]; exact ⟨h1 x (by simp), ih fun y hy => h1 y (by simp [hy])⟩
  unfold sortOk
  rw [h0]
  simp only [Bool.true_and, Bool.and_eq_true, List.map_map]
  refine ⟨?_, ?_, ?_, ?_⟩
  · unfold alikeAllB
    rw [List.all_eq_true]
    intro a ha
    rw [List.all_eq_true]
    intro b hb
    obtain ⟨x, _, rfl⟩ := List.mem_map.mp ha
    obtain ⟨y, _, rfl⟩ := List.mem_map.mp hb
    exact h2 x y
  · unfold sortableB
    rw [Bool.or_eq_true]
    refine .inl ?_
    rw [List.all_eq_true]
    intro a ha
    obtain ⟨x, _, rfl⟩ := List.mem_map.mp ha
    exact h3 x
  · rw [List.length_map]; exact decide_eq_true h
  · rw [List.all_eq_true]
    intro a ha
    obtain ⟨x, hx, rfl⟩ := List.mem_map.mp ha
    exact decide_eq_true (h4 x hx)
end MM
set_option autoImplicit false
set_option maxRecDepth 100000
set_option maxHeartbeats 4000000
/-! MY4: sorted of a row or of a dict's names. -/
namespace MM
open PySem PySem.Spec PyProof.Rows L2 LamX NdefX
theorem ltCps_iff : ∀ a b : List Nat, ltCps a b = decide (a < b)
  | [], [] => by simp [ltCps]
  | [], _ :: _ => by simp [ltCps]
  | _ :: _, [] => by simp [ltCps]
  | x :: a, y :: b => by
    rw [ltCps, ltCps_iff a b]
    by_cases h1 : x < y
    · simp [h1, List.cons_lt_cons_iff]
    · by_cases h2 : x = y
      · subst h2
        simp [List.cons_lt_cons_iff]
      · simp [h1, h2, List.cons_lt_cons_iff]
theorem rising_pw : ∀ (l : List Str) (p : Str), risingS p l = true → (p :: l).Pairwise fun a b => ¬ b.cps.toList < a.cps.toList
  | [], p, _ => by simp
  | x :: l, p, h => by
    rw [risingS, Bool.and_eq_true, Bool.not_eq_true', ltCps_iff] at h
    have ih := rising_pw l x h.2
    have hx : ¬ x.cps.toList < p.cps.toList := of_decide_eq_false h.1
    refine List.pairwise_cons.mpr ⟨fun y hy => ?_, ih⟩
    rcases List.mem_cons.mp hy with rfl | hy
    · exact hx
    · have h2 := (List.pairwise_cons.mp ih).1 y hy
      intro h3
      exact hx (List.lt_of_le_of_lt (List.not_lt.mp h2) h3)
theorem sorted_one {ys xs : List Str} (hp : ys.Perm xs) (hs : sortedS ys = true) : ys.map D.str = sortD (xs.map D.str) := by
  rw [sortD_map]
  refine congrArg (List.map D.str) ?_
  have h1 : ys.Pairwise fun a b => ¬ b.cps.toList < a.cps.toList := by
    cases ys with
    | nil => exact .nil
    | cons x r => exact rising_pw r x hs
  have h2 := (sortD_pw D.str xs).imp fun {a b} h => le_str h
  refine List.Perm.eq_of_pairwise (le := fun a b => ¬ b.cps.toList < a.cps.toList) (fun a b _ _ x1 x2 => ?_) h1 h2 (hp.trans (sortD_perm D.str xs).symm)
  exact str_ext (List.le_antisymm (List.not_lt.mp x1) (List.not_lt.mp x2))
section
variable {g : G} {X : Cx}
def dSortedA (st : List Ob) : List D → Option D
  | [d] => (match dctOf st d with
    | some (ks, _) => (match txtKeys ks with
      | some xs => if xs.length < 64 then some (.lst (sortD (xs.map .str))) else none
      | none => none)
    | none => dSorted st [d])
  | _ => none
theorem strs_rp {K : PySem.W.Frag} {ca : Str → Addr} {av μ : List Addr} {H : Hp} : ∀ xs : List Str, RpL K ca av μ H (xs.map V.str) (xs.map D.str)
  | [] => .nil
  | x :: xs => .cons (.str x) (strs_rp xs)
theorem cd_sortedA {k : Nat} (hr : Room k X.A) (hc : X.calm = true) : CallD g X (.builtin "sorted") (liftL dSortedA) := by
  obtain ⟨r, c, s⟩ := cd_sorted (g := g) hr
  refine calld (callR_or c (call_sortedD hc)) fun av μ H Q st xs ds d rl rx hm p => ?_
  unfold dSortedA at hm
  split at hm
  · rename_i d0
    split at hm
    · rename_i ks vs e
      split at hm
      · rename_i ns e2
        split at hm
        · rename_i hl
          cases hm
          obtain ⟨v, rfl, h⟩ := rpl1 rx
          obtain ⟨a, kvs, rfl, hH, hks, _⟩ := dct_of rl h e
          refine .inr ⟨a, kvs, ns, rfl, .inl hH, by rw [← hks]; exact txtKeys_some e2, hl, fun ys q hp hs hq => ?_⟩
          refine p.newO rl hq ?_
          rw [← sorted_one hp hs]
          exact rp_newL rl hq (strs_rp ys)
        · cases hm
      · cases hm
    · rename_i e
      exact .inl (s av μ H Q st xs [d0] d st rl rx (by unfold liftL; rw [hm]; rfl) p)
  · cases hm
end
end MM
set_option autoImplicit false
set_option maxRecDepth 100000
set_option maxHeartbeats 4000000
/-! MY5: two lists that hold the same objects are equal. -/
namespace MM
open PySem PySem.Spec PyProof.Rows L2 LamX NdefX
def rEqL : R2 := fun x y H Q => ∃ (a b : Addr) (rs : List Addr), x = .ref a ∧ y = .ref b ∧ H a = some (.lst (rs.map V.ref)) ∧ H b = some (.lst (rs.map V.ref)) ∧ Q (.bl true) H
section
variable {X : Cx} {g : G}
theorem op_eqL (hu : X.A.units < cLine) : OpR X (compareOp .Eq) rEqL := fun pins s σ H x y v u Q I rx ry ⟨a, b, rs, ex, ey, ha, hb, q⟩ => by
  subst ex ey
  cases rx
  cases ry
  obtain ⟨its, r1, pl1, _⟩ := I.list (SqL.of (K := X.K) ha)
  obtain ⟨its2, r2, pl2, _⟩ := I.list (SqL.of (K := X.K) hb)
  have uniq : ∀ {rs : List Addr} {l1 l2 : List Value}, Vals (rs.map V.ref) l1 → Vals (rs.map V.ref) l2 → l1 = l2 := fun {rs} => by
    induction rs with
    | nil => intro l1 l2 h1 h2; cases h1; cases h2; rfl
    | cons r rs ih =>
      intro l1 l2 h1 h2
      cases h1 with
      | cons p1 t1 =>
        cases h2 with
        | cons p2 t2 =>
          cases p1
          cases p2
          rw [ih t1 t2]
  obtain rfl := uniq r1 r2
  exact SeqAt.eq_listAt (e := fun _ => true) pl1.isList pl2.isList rfl hu (fun i h1 h2 => SeqAt.EqAt.same _) (by
    rw [show (List.range its.toArray.size).all (fun _ => true) = true by simp]
    exact ⟨.bl true, H, I, rfl, q⟩)
/-- the same objects -/
def sameL : List D → List D → Bool
  | [], [] => true
  | .loc n :: xs, .loc m :: ys => n == m && sameL xs ys
  | _, _ => false
theorem sameL_rp {K : PySem.W.Frag} {ca : Str → Addr} {av μ : List Addr} {H : Hp} : ∀ {ds es : List D} {vs ws : List V}, sameL ds es = true → RpL K ca av μ H vs ds → RpL K ca av μ H ws es → ∃ rs : List Addr, vs = rs.map V.ref ∧ ws = rs.map V.ref
  | [], [], _, _, _, a, b => by cases a; cases b; exact ⟨[], rfl, rfl⟩
  | .loc n :: ds, .loc m :: es, vs, ws, h, a, b => by
    rw [sameL, Bool.and_eq_true] at h
    have hnm : n = m := by simpa using h.1
    subst hnm
    cases a with
    | cons a1 a2 =>
      cases b with
      | cons b1 b2 =>
        obtain ⟨rs, e1, e2⟩ := sameL_rp h.2 a2 b2
        cases a1 with
        | loc h1 =>
          cases b1 with
          | loc h2 =>
            rw [h1] at h2
            cases h2
            exact ⟨_ :: rs, by rw [e1]; rfl, by rw [e2]; rfl⟩
def mEqA : D → D → Mo D := fun x y st => match x, y with
  | .lst ds, .lst es => if sameL ds es = true then some (.bl true, st) else mEq x y st
  | _, _ => mEq x y st
theorem opR_or {f : Value → Value → Sem Value} {r1 r2 : R2} (h1 : OpR X f r1) (h2 : OpR X f r2) : OpR X f (fun x y H Q => r1 x y H Q ∨ r2 x y H Q) := fun pins s σ H x y v u Q I rx ry h => h.elim (h1 pins s σ H x y v u Q I rx ry) (h2 pins s σ H x y v u Q I rx ry)
theorem od_eqA (hu : X.A.units + 64 < cLine) : OpD g X (compareOp .Eq) mEqA := by
  obtain ⟨r, o, s⟩ := od_eq (g := g) hu
  refine ⟨_, opR_or o (op_eqL (by omega)), fun av μ H Q st x y dx dy d st' rl rx ry hm p => ?_⟩
  unfold mEqA at hm
  split at hm
  · split at hm
    · rename_i hs
      cases hm
      cases rx with
      | lst h1 n1 n2 l1 =>
        cases ry with
        | lst h2 m1 m2 l2 =>
          obtain ⟨rs, e1, e2⟩ := sameL_rp hs l1 l2
          subst e1 e2
          exact .inr ⟨_, _, rs, rfl, rfl, h1, h2, p.here rl (.bl _)⟩
    · exact .inl (s av μ H Q st x y _ _ d st' rl rx ry hm p)
  · exact .inl (s av μ H Q st x y _ _ d st' rl rx ry hm p)
end
theorem u65 {k : Nat} {A : Around} (hr : Room k A) : A.units + 65 < cLine := by
  have := hr.un
  omega
end MM
set_option autoImplicit false
set_option maxRecDepth 100000
set_option maxHeartbeats 8000000
namespace K84
open PySem PySem.Spec PyProof.Rows L2 LamX NdefX MM
def top (i : Nat) : Stmt := PySem.Challenge.pw_watchposts_k84_books_refuse.main.body.getD i (.Pass ⟨0, 0, 0, 0⟩)
abbrev c_LETTERS : D := .str "abcdefghijklmnopqrstuvwxyz"
abbrev c_MOST_LETTERS : D := .int 8
abbrev c_MOST_PLACES : D := .int 9
abbrev c_WORDS : D := .tup (([("all" : Str), ("alone" : Str), ("apart" : Str), ("beside" : Str), ("burn" : Str), ("case" : Str), ("cut" : Str), ("double" : Str), ("fire" : Str), ("game" : Str), ("guard" : Str), ("in" : Str), ("joined" : Str), ("lost" : Str), ("near" : Str), ("next" : Str), ("no" : Str), ("none" : Str), ("of" : Str), ("once" : Str), ("open" : Str), ("out" : Str), ("place" : Str), ("post" : Str), ("posts" : Str), ("quit" : Str), ("rule" : Str), ("safe" : Str), ("set" : Str), ("sets" : Str), ("step" : Str), ("take" : Str), ("tie" : Str), ("undo" : Str), ("watch" : Str), ("watched" : Str), ("web" : Str), ("yes" : Str)] : List Str).map D.str)
/-- isinstance of own classes -/
def isiTb : Str → D → Option Bool := fun k d => match d with
  | .cls c => if (k = "Web" ∧ c = "Web") then some true else none
  | _ => none
def isiNb : Str → Bool := fun c => decide (c = "Web")
abbrev mIsi := liftL (dIsi isiTb isiNb)
abbrev xL_given : List Str := ["UnknownPlace", "NotAWeb"]
def xTb : Str → D → Option Bool := fun k d => match d with
  | .cls c => if k = "UnknownPlace" ∧ c = "UnknownPlace" then some true else if k = "UnknownPlace" ∧ c = "NotAWeb" then some false else if k = "NotAWeb" ∧ c = "UnknownPlace" then some false else if k = "NotAWeb" ∧ c = "NotAWeb" then some true else none
  | .ty t => if k = "UnknownPlace" ∧ t = "ValueError" then some true else if k = "NotAWeb" ∧ t = "ValueError" then some true else none
  | _ => none
def xE_WatchError : Str → Option Bool := fun k => if k = "UnknownPlace" then some true else if k = "NotAWeb" then some true else none
structure Fx (P : Program) (K : PySem.W.Frag) (mg : Str → Option Value) (ca : Str → Addr) : Prop where
  xL_given : ∀ c ∈ xL_given, XfC K (ca c) ∧ PySem.W.findIn K (.ref (ca c)) "given" = some none
  xTb : ∀ g : G, g.ca = ca → ∀ c x b, xTb c x = some b → ExcC K (ca c) ∧ ∃ cv, ClsD g x cv ∧ PySem.W.kitOne K (.ref (ca c)) cv = some b
  xe_WatchError : ∀ c1 b, xE_WatchError c1 = some b → PySem.W.exmOne K (.ref (ca c1)) (.ref (ca "WatchError")) = some b
  sx_NotAWeb : ∃ fI cc, SupTxt K P "given" (ca "NotAWeb") fI cc
  sx_UnknownPlace : ∃ fI cc, SupTxt K P "given" (ca "UnknownPlace") fI cc
  isi : ∀ g : G, g.ca = ca → IsiT K g isiTb isiNb
  f_ValueError : mg "ValueError" = none
  f_abs : mg "abs" = none
  f_all : mg "all" = none
  f_bool : mg "bool" = none
  f_dict : mg "dict" = none
  f_divmod : mg "divmod" = none
  f_enumerate : mg "enumerate" = none
  f_int : mg "int" = none
  f_isinstance : mg "isinstance" = none
  f_len : mg "len" = none
  f_list : mg "list" = none
  f_max : mg "max" = none
  f_min : mg "min" = none
  f_range : mg "range" = none
  f_sorted : mg "sorted" = none
  f_str : mg "str" = none
  f_super : mg "super" = none
  f_tuple : mg "tuple" = none
  c_LETTERS : ∃ t, mg "LETTERS" = some (.str "abcdefghijklmnopqrstuvwxyz" t)
  c_MOST_LETTERS : ∃ t, mg "MOST_LETTERS" = some (.int 8 t)
  c_MOST_PLACES : ∃ t, mg "MOST_PLACES" = some (.int 9 t)
  c_WORDS : ∃ a, mg "WORDS" = some (.ref a) ∧ ∀ H, SqT K H a (([("all" : Str), ("alone" : Str), ("apart" : Str), ("beside" : Str), ("burn" : Str), ("case" : Str), ("cut" : Str), ("double" : Str), ("fire" : Str), ("game" : Str), ("guard" : Str), ("in" : Str), ("joined" : Str), ("lost" : Str), ("near" : Str), ("next" : Str), ("no" : Str), ("none" : Str), ("of" : Str), ("once" : Str), ("open" : Str), ("out" : Str), ("place" : Str), ("post" : Str), ("posts" : Str), ("quit" : Str), ("rule" : Str), ("safe" : Str), ("set" : Str), ("sets" : Str), ("step" : Str), ("take" : Str), ("tie" : Str), ("undo" : Str), ("watch" : Str), ("watched" : Str), ("web" : Str), ("yes" : Str)] : List Str).map V.str)
  g_Book : mg "Book" = some (.ref (ca "Book"))
  g_NotAWeb : mg "NotAWeb" = some (.ref (ca "NotAWeb"))
  g_UnknownPlace : mg "UnknownPlace" = some (.ref (ca "UnknownPlace"))
  g_WatchError : mg "WatchError" = some (.ref (ca "WatchError"))
  g_Web : mg "Web" = some (.ref (ca "Web"))
  cl_Book : Cls K (ca "Book")
  na_Book_standing : NoAttr K (ca "Book") "standing"
  cl_Web : Cls K (ca "Web")
  na_Web_all_told : NoAttr K (ca "Web") "all_told"

def m_is_one_of : Ev → Mo Out := (yRet (xAnd (xCall mIsi (xCons (xVar 0) (xCons (xC (.ty "str")) xNil))) (xBin mIn (xVar 0) (xVar 1))))
theorem d_is_one_of {P : Program} {w : World} {K : PySem.W.Frag} {mg : Str → Option Value} {base : Heap} {g : G} {k : Nat} (F : Fx P K mg g.ca) (fa : Addr) (cdv : Value) (A : Around) (outer : List Env) (s : Shared) (H : Hp) (E : XK)
    (hr : Room (k + 2) (A.deeper (envOfC "is_one_of" (defScope (top 11)) s.heap.objs.size fa cdv))) :
    BV g (cxOf C8.CX0 P w K mg base ["value", "words"] "is_one_of" (defScope (top 11)) fa cdv A outer s H E) (defBody (top 11)) (m_is_one_of) := by
  have hN : (["value", "words"] : List Str).Nodup := by decide
  exact (bv_one (sv_ret (ev_and (ev_callB (cd_isi (F.isi _ rfl)) rfl F.f_isinstance rfl (av_cons (ev_var (pv 0)) (av_cons (ev_ty rfl F.f_str rfl) av_nil))) (ev_one (ev_cmp od_in (ev_var (pv 0)) (ev_var (pv 1)) (by with_unfolding_all rfl))))))
def m_is_word : Ev → Mo Out := (yRet (xAnd (xCall mIsi (xCons (xVar 0) (xCons (xC (.ty "str")) xNil))) (xAnd (xBin mNe (xVar 0) (xC (.str ""))) (xCall (liftL dAll) (xCons (xComp (itemsS (xVar 0)) [1] (zName 1) tYesM (xBin mIn (xVar 1) (xC c_LETTERS))) xNil)))))
theorem d_is_word {P : Program} {w : World} {K : PySem.W.Frag} {mg : Str → Option Value} {base : Heap} {g : G} {k : Nat} (F : Fx P K mg g.ca) (fa : Addr) (cdv : Value) (A : Around) (outer : List Env) (s : Shared) (H : Hp) (E : XK)
    (hr : Room (k + 2) (A.deeper (envOfC "is_word" (defScope (top 12)) s.heap.objs.size fa cdv))) :
    BV g (cxOf C8.CX0 P w K mg base ["value", "sign"] "is_word" (defScope (top 12)) fa cdv A outer s H E) (defBody (top 12)) (m_is_word) := by
  have hN : (["value", "sign"] : List Str).Nodup := by decide
  exact (bv_one (sv_ret (ev_and (ev_callB (cd_isi (F.isi _ rfl)) rfl F.f_isinstance rfl (av_cons (ev_var (pv 0)) (av_cons (ev_ty rfl F.f_str rfl) av_nil))) (ev_and (ev_cmp (od_ne hr.units) (ev_var (pv 0)) ev_str (nomark _)) (ev_one (ev_callB (cd_all rfl) rfl F.f_all rfl (av_cons (ev_lc (own := [("sign", 1)]) rfl hN (iv_str (ev_var (pv 0))) (blkOk_by (by kernel_rfl)) (BlkV.of (fun s H C cl fp => (gv_name hN rfl (by first | exact .inl rfl | exact .inr rfl))) (fun s H C cl fp => tsv_nil) (fun s H C cl fp => (ev_cmp od_in (ev_var (pv 1)) (ev_gstr rfl F.c_LETTERS) (by with_unfolding_all rfl)))) (by decide)) av_nil)))))))
def m_is_name (S_is_word : List A → Mo D) : Ev → Mo Out := (yRet (xAnd (xFn 1 S_is_word (xCons (xVar 0) xNil)) (xAnd (xBin mLe (xCall (liftL dLen) (xCons (xVar 0) xNil)) (xC c_MOST_LETTERS)) (xBin mNotIn (xVar 0) (xC c_WORDS)))))
theorem d_is_name {P : Program} {w : World} {K : PySem.W.Frag} {mg : Str → Option Value} {base : Heap} {g : G} {k : Nat} (F : Fx P K mg g.ca) {S_is_word : List A → Mo D} (h_is_word : Cal P w K mg base g k "is_word" 1 S_is_word) (fa : Addr) (cdv : Value) (A : Around) (outer : List Env) (s : Shared) (H : Hp) (E : XK)
    (hr : Room (k + 2) (A.deeper (envOfC "is_name" (defScope (top 13)) s.heap.objs.size fa cdv))) :
    BV g (cxOf C8.CX0 P w K mg base ["value"] "is_name" (defScope (top 13)) fa cdv A outer s H E) (defBody (top 13)) (m_is_name S_is_word) := by
  have hN : (["value"] : List Str).Nodup := by decide
  exact (bv_one (sv_ret (ev_and (ev_call h_is_word hr (by omega) rfl (av_cons (ev_var (pv 0)) av_nil)) (ev_and (ev_cmp od_le (ev_callB cd_len rfl F.f_len rfl (av_cons (ev_var (pv 0)) av_nil)) (ev_gint rfl F.c_MOST_LETTERS) (nomark _)) (ev_one (ev_cmp od_notIn (ev_var (pv 0)) (ev_gtup rfl F.c_WORDS) (by with_unfolding_all rfl)))))))
def m_is_tuple_of : Ev → Mo Out := (yRet (xAnd (xCall mIsi (xCons (xVar 0) (xCons (xC (.ty "tuple")) xNil))) (xBin mEq (xCall (liftL dLen) (xCons (xVar 0) xNil)) (xVar 1))))
theorem d_is_tuple_of {P : Program} {w : World} {K : PySem.W.Frag} {mg : Str → Option Value} {base : Heap} {g : G} {k : Nat} (F : Fx P K mg g.ca) (fa : Addr) (cdv : Value) (A : Around) (outer : List Env) (s : Shared) (H : Hp) (E : XK)
    (hr : Room (k + 2) (A.deeper (envOfC "is_tuple_of" (defScope (top 14)) s.heap.objs.size fa cdv))) :
    BV g (cxOf C8.CX0 P w K mg base ["value", "many"] "is_tuple_of" (defScope (top 14)) fa cdv A outer s H E) (defBody (top 14)) (m_is_tuple_of) := by
  have hN : (["value", "many"] : List Str).Nodup := by decide
  exact (bv_one (sv_ret (ev_and (ev_callB (cd_isi (F.isi _ rfl)) rfl F.f_isinstance rfl (av_cons (ev_var (pv 0)) (av_cons (ev_ty rfl F.f_tuple rfl) av_nil))) (ev_one (ev_cmp (od_eq hr.units) (ev_callB cd_len rfl F.f_len rfl (av_cons (ev_var (pv 0)) av_nil)) (ev_var (pv 1)) (nomark _))))))
def m_is_pair (S_is_tuple_of : List A → Mo D) : Ev → Mo Out := (yRet (xFn 2 S_is_tuple_of (xCons (xVar 0) (xCons (xC (.int 2)) xNil))))
theorem d_is_pair {P : Program} {w : World} {K : PySem.W.Frag} {mg : Str → Option Value} {base : Heap} {g : G} {k : Nat} (F : Fx P K mg g.ca) {S_is_tuple_of : List A → Mo D} (h_is_tuple_of : Cal P w K mg base g k "is_tuple_of" 2 S_is_tuple_of) (fa : Addr) (cdv : Value) (A : Around) (outer : List Env) (s : Shared) (H : Hp) (E : XK)
    (hr : Room (k + 2) (A.deeper (envOfC "is_pair" (defScope (top 15)) s.heap.objs.size fa cdv))) :
    BV g (cxOf C8.CX0 P w K mg base ["value"] "is_pair" (defScope (top 15)) fa cdv A outer s H E) (defBody (top 15)) (m_is_pair S_is_tuple_of) := by
  have hN : (["value"] : List Str).Nodup := by decide
  exact (bv_one (sv_ret (ev_call h_is_tuple_of hr (by omega) rfl (av_cons (ev_var (pv 0)) (av_cons ev_int av_nil)))))
def m_wrong_in (lam : Nat → (Ev → Mo (List D)) → Ev → Mo D) : Ev → Mo Out := (ySeq (yIf (xOrB (xNotB (asB (xCall mIsi (xCons (xVar 0) (xCons (xC (.ty "tuple")) xNil))))) (asB (xBin mLt (xCall (liftL dLen) (xCons (xVar 0) xNil)) (xVar 1)))) (yRet (xLst (xCons (xC .non) xNil))) yNil)
  (ySeq (yFor (itemsET (xVar 0)) (zTup (zCons (zName 4) (zCons (zName 5) zNil))) (yIf (xOrB (asB (xBin mEq (xVar 4) (xVar 2))) (xNotB (asB (lam 3 (xCons (xSlice (xVar 0) oNone (oSome (xVar 4))) (xCons (xVar 5) xNil)))))) (yRet (xLst (xCons (xVar 4) xNil))) yNil))
  (yRet (xLst xNil))))
theorem d_wrong_in {P : Program} {w : World} {K : PySem.W.Frag} {mg : Str → Option Value} {base : Heap} {g : G} {k : Nat} (F : Fx P K mg g.ca) (fa : Addr) (cdv : Value) (A : Around) (outer : List Env) (s : Shared) (H : Hp)
    (hr : Room (k) (A.deeper (envOfC "wrong_in" (defScope (top 16)) s.heap.objs.size fa cdv))) (lam : Nat → (Ev → Mo (List D)) → Ev → Mo D) (hlam : ∀ (e : Expr) (es : List Expr) (mm : Ev → Mo (List D)) (p1 p2 : Pos), AV g (cxOf C8.CX0 P w K mg base ["value", "least", "most", "is_right", "index", "each"] "wrong_in" (defScope (top 16)) fa cdv A outer s H C8.E0) (e :: es) mm → starEach (e :: es) (cxOf C8.CX0 P w K mg base ["value", "least", "most", "is_right", "index", "each"] "wrong_in" (defScope (top 16)) fa cdv A outer s H C8.E0).env = (false, eval e (cxOf C8.CX0 P w K mg base ["value", "least", "most", "is_right", "index", "each"] "wrong_in" (defScope (top 16)) fa cdv A outer s H C8.E0).env) :: starEach es (cxOf C8.CX0 P w K mg base ["value", "least", "most", "is_right", "index", "each"] "wrong_in" (defScope (top 16)) fa cdv A outer s H C8.E0).env → (backTo p2 (starEach es (cxOf C8.CX0 P w K mg base ["value", "least", "most", "is_right", "index", "each"] "wrong_in" (defScope (top 16)) fa cdv A outer s H C8.E0).env)).any (·.1) = false → EV g (cxOf C8.CX0 P w K mg base ["value", "least", "most", "is_right", "index", "each"] "wrong_in" (defScope (top 16)) fa cdv A outer s H C8.E0) (.Call (.Name "is_right" p1) (e :: es) [] p2) (lam 3 mm)) :
    BV g (cxOf C8.CX0 P w K mg base ["value", "least", "most", "is_right", "index", "each"] "wrong_in" (defScope (top 16)) fa cdv A outer s H C8.E0) (defBody (top 16)) (m_wrong_in lam) := by
  have hN : (["value", "least", "most", "is_right", "index", "each"] : List Str).Nodup := by decide
  exact (bv_cons (sv_if (WV.tv (wv_or (tv_not (tv_val (ev_callB (cd_isi (F.isi _ rfl)) rfl F.f_isinstance rfl (av_cons (ev_var (pv 0)) (av_cons (ev_ty rfl F.f_tuple rfl) av_nil))))) (wv_or1 (tv_cmp (od_lt hr.units0) (ev_callB cd_len rfl F.f_len rfl (av_cons (ev_var (pv 0)) av_nil)) (ev_var (pv 1)) (nomark _))))) (bv_one (sv_ret (ev_lst (av_cons ev_non av_nil)))) bv_nil)
  (bv_cons (sv_for (passes_of rfl) rfl (iv_enumT rfl F.f_enumerate (ev_var (pv 0))) (gv_tup rfl (gsv_cons (gv_name hN rfl (by first | exact .inl rfl | exact .inr rfl)) (gsv_cons (gv_name hN rfl (by first | exact .inl rfl | exact .inr rfl)) gsv_nil))) (bv_one (sv_if (WV.tv (wv_or (tv_cmp (od_eq hr.units) (ev_var (pv 4)) (ev_var (pv 2)) (nomark _)) (wv_or1 (tv_not (tv_val (hlam _ _ _ _ _ (av_cons (ev_slice (ev_var (pv 0)) ov_none (ov_some (ev_var (pv 4)))) (av_cons (ev_var (pv 5)) av_nil)) rfl rfl)))))) (bv_one (sv_ret (ev_lst (av_cons (ev_var (pv 4)) av_nil)))) bv_nil)))
  (bv_one (sv_ret (ev_lst av_nil)))))
def m_are_below : Ev → Mo Out := (yRet (xOr (xBin mEq (xVar 0) (xTup xNil)) (xBin mLt (xBin mIx (xVar 0) (xNeg (xC (.int 1)))) (xVar 1))))
theorem d_are_below {P : Program} {w : World} {K : PySem.W.Frag} {mg : Str → Option Value} {base : Heap} {g : G} {k : Nat} (F : Fx P K mg g.ca) (fa : Addr) (cdv : Value) (A : Around) (outer : List Env) (s : Shared) (H : Hp) (E : XK)
    (hr : Room (k + 2) (A.deeper (envOfC "are_below" (defScope (top 17)) s.heap.objs.size fa cdv))) :
    BV g (cxOf C8.CX0 P w K mg base ["ahead", "value"] "are_below" (defScope (top 17)) fa cdv A outer s H E) (defBody (top 17)) (m_are_below) := by
  have hN : (["ahead", "value"] : List Str).Nodup := by decide
  exact (bv_one (sv_ret (ev_or (ev_cmp (od_eq hr.units) (ev_var (pv 0)) (ev_tup av_nil) (nomark _)) (ev_one (ev_cmp (od_lt hr.units0) (ev_ix (ev_var (pv 0)) (ev_neg ev_int) (by intro _ _; rfl)) (ev_var (pv 1)) (nomark _))))))
def m_wrong_in_places (S_is_name : List A → Mo D) (S_are_below : List A → Mo D) : Ev → Mo Out := (yRet (xLamCall 4 [] (xCons (xVar 0) (xCons (xC (.int 1)) (xCons (xC c_MOST_PLACES) xNil))) (runF 6 (m_wrong_in (fun i => xLam i 2 2 (xAnd (xFn 1 S_is_name (xCons (xVar 1) xNil)) (xFn 2 S_are_below (xCons (xVar 0) (xCons (xVar 1) xNil)))))))))
theorem d_wrong_in_places {P : Program} {w : World} {K : PySem.W.Frag} {mg : Str → Option Value} {base : Heap} {g : G} {k : Nat} (F : Fx P K mg g.ca) {S_is_name : List A → Mo D} {S_are_below : List A → Mo D} (h_is_name : Cal P w K mg base g k "is_name" 1 S_is_name) (h_are_below : Cal P w K mg base g k "are_below" 2 S_are_below) {fdg : FuncData} {ag c Pt : Addr} {nm : Nat → Nat → Str} (fg_wrong_in : FunD K "wrong_in" "wrong_in" (defArgs (top 16)) (defBody (top 16)) (defScope (top 16)) [] [] ag fdg) (hg_wrong_in : mg "wrong_in" = some (.ref ag)) (TB : TabB base mg c Pt) (hmT : (Pt, nm) ∈ g.T) (hnm : ∀ p : Pos, nm p.line p.col = "wrong_in_places.<locals>.<lambda>") (hu : ∀ p ∈ g.T, p.1 = Pt → p.2 = nm) (fa : Addr)  (A : Around) (outer : List Env) (s : Shared) (H : Hp) (E : XK)
    (hr : Room (k + 2) (A.deeper (envOfC "wrong_in_places" (defScope (top 20)) s.heap.objs.size fa (.ref c)))) :
    BV g (cxOf C8.CX0 P w K mg base ["value"] "wrong_in_places" (defScope (top 20)) fa (.ref c) A outer s H E) (defBody (top 20)) (m_wrong_in_places S_is_name S_are_below) := by
  have hN : (["value"] : List Str).Nodup := by decide
  exact (bv_one (sv_ret (ev_lamcall (k := k) (N := ["ahead", "each"]) (ps := ["ahead", "each"]) (fr := []) (js := []) (i := 3) (a := "is_right") (Ng := ["value", "least", "most", "is_right", "index", "each"]) (psg := ["value", "least", "most", "is_right"]) fg_wrong_in hg_wrong_in (by kernel_rfl) (fun kV doc pm an cdv ct => len4 fun _ _ _ _ => rfl) rfl (hr.mono (by omega)) rfl (lv_cons (ev_var (pv 0)) (lv_cons ev_int (lv_cons (ev_gint rfl F.c_MOST_PLACES) lv_nil))) TB rfl hmT (hnm _) hu (by kernel_rfl) (by kernel_rfl) rfl rfl (fun q cl pm cv ctv => len2 fun _ _ => rfl) (fun A outer s H f c' hr => (ev_and (ev_call h_is_name hr (by omega) rfl (av_cons (ev_var (pv 1)) av_nil)) (ev_one (ev_call h_are_below hr (by omega) rfl (av_cons (ev_var (pv 0)) (av_cons (ev_var (pv 1)) av_nil)))))) rfl (by first | exact .inl rfl | exact .inr (.inl rfl)) (fun clo cloK cdg s H hr hlam => d_wrong_in (k := k) (g := ⟨g.ca, g.T, clo, cloK⟩) F _ _ _ _ _ _ (hr.mono (by omega)) _ hlam))))
def m_is_tie (S_is_pair : List A → Mo D) (S_is_one_of : List A → Mo D) : Ev → Mo Out := (yRet (xAnd (xFn 1 S_is_pair (xCons (xVar 1) xNil)) (xAnd (xFn 2 S_is_one_of (xCons (xBin mIx (xVar 1) (xC (.int 0))) (xCons (xVar 0) xNil))) (xAnd (xFn 2 S_is_one_of (xCons (xBin mIx (xVar 1) (xC (.int 1))) (xCons (xVar 0) xNil))) (xBin mLt (xBin mIx (xVar 1) (xC (.int 0))) (xBin mIx (xVar 1) (xC (.int 1))))))))
theorem d_is_tie {P : Program} {w : World} {K : PySem.W.Frag} {mg : Str → Option Value} {base : Heap} {g : G} {k : Nat} (F : Fx P K mg g.ca) {S_is_pair : List A → Mo D} {S_is_one_of : List A → Mo D} (h_is_pair : Cal P w K mg base g k "is_pair" 1 S_is_pair) (h_is_one_of : Cal P w K mg base g k "is_one_of" 2 S_is_one_of) (fa : Addr) (cdv : Value) (A : Around) (outer : List Env) (s : Shared) (H : Hp) (E : XK)
    (hr : Room (k + 2) (A.deeper (envOfC "is_tie" (defScope (top 21)) s.heap.objs.size fa cdv))) :
    BV g (cxOf C8.CX0 P w K mg base ["places", "value"] "is_tie" (defScope (top 21)) fa cdv A outer s H E) (defBody (top 21)) (m_is_tie S_is_pair S_is_one_of) := by
  have hN : (["places", "value"] : List Str).Nodup := by decide
  exact (bv_one (sv_ret (ev_and (ev_call h_is_pair hr (by omega) rfl (av_cons (ev_var (pv 1)) av_nil)) (ev_and (ev_call h_is_one_of hr (by omega) rfl (av_cons (ev_ix (ev_var (pv 1)) ev_int (by intro _ _; rfl)) (av_cons (ev_var (pv 0)) av_nil))) (ev_and (ev_call h_is_one_of hr (by omega) rfl (av_cons (ev_ix (ev_var (pv 1)) ev_int (by intro _ _; rfl)) (av_cons (ev_var (pv 0)) av_nil))) (ev_one (ev_cmp (od_lt hr.units0) (ev_ix (ev_var (pv 1)) ev_int (by intro _ _; rfl)) (ev_ix (ev_var (pv 1)) ev_int (by intro _ _; rfl)) (nomark _))))))))
def m_wrong_in_ties (S_is_tie : List A → Mo D) (S_are_below : List A → Mo D) : Ev → Mo Out := (yRet (xLamCall 4 [0] (xCons (xVar 1) (xCons (xC (.int 0)) (xCons (xC .non) xNil))) (runF 6 (m_wrong_in (fun i => xLam i 3 2 (xAnd (xFn 2 S_is_tie (xCons (xVar 2) (xCons (xVar 1) xNil))) (xFn 2 S_are_below (xCons (xVar 0) (xCons (xVar 1) xNil)))))))))
theorem d_wrong_in_ties {P : Program} {w : World} {K : PySem.W.Frag} {mg : Str → Option Value} {base : Heap} {g : G} {k : Nat} (F : Fx P K mg g.ca) {S_is_tie : List A → Mo D} {S_are_below : List A → Mo D} (h_is_tie : Cal P w K mg base g k "is_tie" 2 S_is_tie) (h_are_below : Cal P w K mg base g k "are_below" 2 S_are_below) {fdg : FuncData} {ag c Pt : Addr} {nm : Nat → Nat → Str} (fg_wrong_in : FunD K "wrong_in" "wrong_in" (defArgs (top 16)) (defBody (top 16)) (defScope (top 16)) [] [] ag fdg) (hg_wrong_in : mg "wrong_in" = some (.ref ag)) (TB : TabB base mg c Pt) (hmT : (Pt, nm) ∈ g.T) (hnm : ∀ p : Pos, nm p.line p.col = "wrong_in_ties.<locals>.<lambda>") (hu : ∀ p ∈ g.T, p.1 = Pt → p.2 = nm) (fa : Addr)  (A : Around) (outer : List Env) (s : Shared) (H : Hp) (E : XK)
    (hr : Room (k + 2) (A.deeper (envOfC "wrong_in_ties" (defScope (top 22)) s.heap.objs.size fa (.ref c)))) :
    BV g (cxOf C8.CX0 P w K mg base ["places", "value"] "wrong_in_ties" (defScope (top 22)) fa (.ref c) A outer s H E) (defBody (top 22)) (m_wrong_in_ties S_is_tie S_are_below) := by
  have hN : (["places", "value"] : List Str).Nodup := by decide
  exact (bv_one (sv_ret (ev_lamcall (k := k) (N := ["ahead", "each", "places"]) (ps := ["ahead", "each"]) (fr := ["places"]) (js := [0]) (i := 3) (a := "is_right") (Ng := ["value", "least", "most", "is_right", "index", "each"]) (psg := ["value", "least", "most", "is_right"]) fg_wrong_in hg_wrong_in (by kernel_rfl) (fun kV doc pm an cdv ct => len4 fun _ _ _ _ => rfl) rfl (hr.mono (by omega)) rfl (lv_cons (ev_var (pv 1)) (lv_cons ev_int (lv_cons ev_non lv_nil))) TB rfl hmT (hnm _) hu (by kernel_rfl) (by kernel_rfl) rfl rfl (fun q cl pm cv ctv => len2 fun _ _ => rfl) (fun A outer s H f c' hr => (ev_and (ev_call h_is_tie hr (by omega) rfl (av_cons (ev_var (pv 2)) (av_cons (ev_var (pv 1)) av_nil))) (ev_one (ev_call h_are_below hr (by omega) rfl (av_cons (ev_var (pv 0)) (av_cons (ev_var (pv 1)) av_nil)))))) rfl (by first | exact .inl rfl | exact .inr (.inl rfl)) (fun clo cloK cdg s H hr hlam => d_wrong_in (k := k) (g := ⟨g.ca, g.T, clo, cloK⟩) F _ _ _ _ _ _ (hr.mono (by omega)) _ hlam))))
def m_beside_by (S_Web_ties : List A → Mo D) : Ev → Mo Out := (yRet (xCall (liftL dTuple) (xCons (xCall (liftL dSorted) (xCons (xComp (itemsT (xProp "Web" S_Web_ties (xVar 0))) [2, 3] (zTup (zCons (zName 2) (zCons (zName 3) zNil))) (asB (xBin mIn (xVar 1) (xTup (xCons (xVar 2) (xCons (xVar 3) xNil))))) (xIf (asB (xBin mEq (xVar 3) (xVar 1))) (xVar 2) (xVar 3))) xNil)) xNil)))
theorem d_beside_by {P : Program} {w : World} {K : PySem.W.Frag} {mg : Str → Option Value} {base : Heap} {g : G} {k : Nat} (F : Fx P K mg g.ca) {S_Web_ties : List A → Mo D} (p_Web_ties : PropC P w K mg base g k "Web" "ties" S_Web_ties) (fa : Addr) (cdv : Value) (A : Around) (outer : List Env) (s : Shared) (H : Hp) (E : XK)
    (hr : Room (k + 2) (A.deeper (envOfC "beside_by" (defScope (top 23)) s.heap.objs.size fa cdv))) :
    BV g (cxOf C8.CX0 P w K mg base ["web", "place", "one", "other"] "beside_by" (defScope (top 23)) fa cdv A outer s H E) (defBody (top 23)) (m_beside_by S_Web_ties) := by
  have hN : (["web", "place", "one", "other"] : List Str).Nodup := by decide
  exact (bv_one (sv_ret (ev_callTy cd_tuple rfl F.f_tuple rfl (av_cons (ev_callB (cd_sorted hr) rfl F.f_sorted rfl (av_cons (ev_lc (own := [("one", 2), ("other", 3)]) rfl hN (iv_tup (ev_prop p_Web_ties hr (by omega) (ev_var (pv 0)))) (blkOk_by (by kernel_rfl)) (BlkV.of (fun s H C cl fp => (gv_tup rfl (gsv_cons (gv_name hN rfl (by first | exact .inl rfl | exact .inr rfl)) (gsv_cons (gv_name hN rfl (by first | exact .inl rfl | exact .inr rfl)) gsv_nil)))) (fun s H C cl fp => (tsv_one (tv_cmp od_in (ev_var (pv 1)) (ev_tup (av_cons (ev_var (pv 2)) (av_cons (ev_var (pv 3)) av_nil))) (by with_unfolding_all rfl)))) (fun s H C cl fp => (ev_if (tv_cmp (od_eq hr.units) (ev_var (pv 3)) (ev_var (pv 1)) (nomark _)) (ev_var (pv 2)) (ev_var (pv 3))))) (by decide)) av_nil)) av_nil))))
def m_sees_by (S_beside_by : List A → Mo D) : Ev → Mo Out := (yRet (xCall (liftL dTuple) (xCons (xCall (liftL dSorted) (xCons (xLst (xCons (xVar 1) (xStar (xFn 2 S_beside_by (xCons (xVar 0) (xCons (xVar 1) xNil))) xNil))) xNil)) xNil)))
theorem d_sees_by {P : Program} {w : World} {K : PySem.W.Frag} {mg : Str → Option Value} {base : Heap} {g : G} {k : Nat} (F : Fx P K mg g.ca) {S_beside_by : List A → Mo D} (h_beside_by : Cal P w K mg base g k "beside_by" 2 S_beside_by) (fa : Addr) (cdv : Value) (A : Around) (outer : List Env) (s : Shared) (H : Hp) (E : XK)
    (hr : Room (k + 2) (A.deeper (envOfC "sees_by" (defScope (top 24)) s.heap.objs.size fa cdv))) :
    BV g (cxOf C8.CX0 P w K mg base ["web", "place"] "sees_by" (defScope (top 24)) fa cdv A outer s H E) (defBody (top 24)) (m_sees_by S_beside_by) := by
  have hN : (["web", "place"] : List Str).Nodup := by decide
  exact (bv_one (sv_ret (ev_callTy cd_tuple rfl F.f_tuple rfl (av_cons (ev_callB (cd_sorted hr) rfl F.f_sorted rfl (av_cons (ev_lst (av_cons (ev_var (pv 1)) (av_star (ev_call h_beside_by hr (by omega) rfl (av_cons (ev_var (pv 0)) (av_cons (ev_var (pv 1)) av_nil))) av_nil))) av_nil)) av_nil))))
def m_Web_ddinitdd (S_wrong_in_places : List A → Mo D) (S_wrong_in_ties : List A → Mo D) : Ev → Mo Out := (ySeq (yFor (itemsL (xFn 1 S_wrong_in_places (xCons (xVar 1) xNil))) (zName 3) yNever)
  (ySeq (yFor (itemsL (xFn 2 S_wrong_in_ties (xCons (xVar 1) (xCons (xVar 2) xNil)))) (zName 3) yNever)
  (ySetF "Web" "all_told" (xVar 0) (xTup (xCons (xVar 1) (xCons (xVar 2) xNil))))))
theorem d_Web_ddinitdd {P : Program} {w : World} {K : PySem.W.Frag} {mg : Str → Option Value} {base : Heap} {g : G} {k : Nat} (F : Fx P K mg g.ca) {S_wrong_in_places : List A → Mo D} {S_wrong_in_ties : List A → Mo D} (h_wrong_in_places : Cal P w K mg base g k "wrong_in_places" 1 S_wrong_in_places) (h_wrong_in_ties : Cal P w K mg base g k "wrong_in_ties" 2 S_wrong_in_ties) (fa : Addr) (cdv : Value) (A : Around) (outer : List Env) (s : Shared) (H : Hp) (E : XK)
    (hr : Room (k + 2) (A.deeper (envOfC "Web.__init__" (defScope (inClass (top 26) 0)) s.heap.objs.size fa cdv))) :
    BV g (cxOf C8.CX0 P w K mg base ["self", "places", "ties", "index"] "Web.__init__" (defScope (inClass (top 26) 0)) fa cdv A outer s H E) (defBody (inClass (top 26) 0)) (m_Web_ddinitdd S_wrong_in_places S_wrong_in_ties) := by
  have hN : (["self", "places", "ties", "index"] : List Str).Nodup := by decide
  exact (bv_cons (sv_for (passes_of rfl) rfl (iv_lst (ev_call h_wrong_in_places hr (by omega) rfl (av_cons (ev_var (pv 1)) av_nil))) (gv_name hN rfl (by first | exact .inl rfl | exact .inr rfl)) (bv_one sv_never))
  (bv_cons (sv_for (passes_of rfl) rfl (iv_lst (ev_call h_wrong_in_ties hr (by omega) rfl (av_cons (ev_var (pv 1)) (av_cons (ev_var (pv 2)) av_nil)))) (gv_name hN rfl (by first | exact .inl rfl | exact .inr rfl)) (bv_one sv_never))
  (bv_one (sv_fld F.cl_Web F.na_Web_all_told (ev_var (pv 0)) (ev_tup (av_cons (ev_var (pv 1)) (av_cons (ev_var (pv 2)) av_nil)))))))
def m_Web_places : Ev → Mo Out := (yRet (xBin mIx (xFld "Web" "all_told" (xVar 0)) (xC (.int 0))))
theorem d_Web_places {P : Program} {w : World} {K : PySem.W.Frag} {mg : Str → Option Value} {base : Heap} {g : G} {k : Nat} (F : Fx P K mg g.ca) (fa : Addr) (cdv : Value) (A : Around) (outer : List Env) (s : Shared) (H : Hp) (E : XK)
    (hr : Room (k + 2) (A.deeper (envOfC "Web.places" (defScope (inClass (top 26) 1)) s.heap.objs.size fa cdv))) :
    BV g (cxOf C8.CX0 P w K mg base ["self"] "Web.places" (defScope (inClass (top 26) 1)) fa cdv A outer s H E) (defBody (inClass (top 26) 1)) (m_Web_places) := by
  have hN : (["self"] : List Str).Nodup := by decide
  exact (bv_one (sv_ret (ev_ix (ev_fld F.cl_Web F.na_Web_all_told (ev_var (pv 0))) ev_int (by intro _ _; rfl))))
def m_Web_ties : Ev → Mo Out := (yRet (xBin mIx (xFld "Web" "all_told" (xVar 0)) (xC (.int 1))))
theorem d_Web_ties {P : Program} {w : World} {K : PySem.W.Frag} {mg : Str → Option Value} {base : Heap} {g : G} {k : Nat} (F : Fx P K mg g.ca) (fa : Addr) (cdv : Value) (A : Around) (outer : List Env) (s : Shared) (H : Hp) (E : XK)
    (hr : Room (k + 2) (A.deeper (envOfC "Web.ties" (defScope (inClass (top 26) 2)) s.heap.objs.size fa cdv))) :
    BV g (cxOf C8.CX0 P w K mg base ["self"] "Web.ties" (defScope (inClass (top 26) 2)) fa cdv A outer s H E) (defBody (inClass (top 26) 2)) (m_Web_ties) := by
  have hN : (["self"] : List Str).Nodup := by decide
  exact (bv_one (sv_ret (ev_ix (ev_fld F.cl_Web F.na_Web_all_told (ev_var (pv 0))) ev_int (by intro _ _; rfl))))
def m_Web_parts : Ev → Mo Out := (yRet (xFld "Web" "all_told" (xVar 0)))
theorem d_Web_parts {P : Program} {w : World} {K : PySem.W.Frag} {mg : Str → Option Value} {base : Heap} {g : G} {k : Nat} (F : Fx P K mg g.ca) (fa : Addr) (cdv : Value) (A : Around) (outer : List Env) (s : Shared) (H : Hp) (E : XK)
    (hr : Room (k + 2) (A.deeper (envOfC "Web.parts" (defScope (inClass (top 26) 3)) s.heap.objs.size fa cdv))) :
    BV g (cxOf C8.CX0 P w K mg base ["self"] "Web.parts" (defScope (inClass (top 26) 3)) fa cdv A outer s H E) (defBody (inClass (top 26) 3)) (m_Web_parts) := by
  have hN : (["self"] : List Str).Nodup := by decide
  exact (bv_one (sv_ret (ev_fld F.cl_Web F.na_Web_all_told (ev_var (pv 0)))))
def m_Web_ddeqdd (S_Web_parts : List A → Mo D) : Ev → Mo Out := (yRet (xAnd (xCall mIsi (xCons (xVar 1) (xCons (xC (.cls "Web")) xNil))) (xBin mEq (xProp "Web" S_Web_parts (xVar 0)) (xProp "Web" S_Web_parts (xVar 1)))))
theorem d_Web_ddeqdd {P : Program} {w : World} {K : PySem.W.Frag} {mg : Str → Option Value} {base : Heap} {g : G} {k : Nat} (F : Fx P K mg g.ca) {S_Web_parts : List A → Mo D} (p_Web_parts : PropC P w K mg base g k "Web" "parts" S_Web_parts) (fa : Addr) (cdv : Value) (A : Around) (outer : List Env) (s : Shared) (H : Hp) (E : XK)
    (hr : Room (k + 2) (A.deeper (envOfC "Web.__eq__" (defScope (inClass (top 26) 4)) s.heap.objs.size fa cdv))) :
    BV g (cxOf C8.CX0 P w K mg base ["self", "other"] "Web.__eq__" (defScope (inClass (top 26) 4)) fa cdv A outer s H E) (defBody (inClass (top 26) 4)) (m_Web_ddeqdd S_Web_parts) := by
  have hN : (["self", "other"] : List Str).Nodup := by decide
  exact (bv_one (sv_ret (ev_and (ev_callB (cd_isi (F.isi _ rfl)) rfl F.f_isinstance rfl (av_cons (ev_var (pv 1)) (av_cons (ev_cls rfl F.g_Web) av_nil))) (ev_one (ev_cmp (od_eq hr.units) (ev_prop p_Web_parts hr (by omega) (ev_var (pv 0))) (ev_prop p_Web_parts hr (by omega) (ev_var (pv 1))) (nomark _))))))
def m_check_web : Ev → Mo OutX := (zIf (xNotB (asB (xCall mIsi (xCons (xVar 0) (xCons (xC (.cls "Web")) xNil))))) (zRaise "NotAWeb" "given" (xVar 0)) (zLift yNil))
theorem d_check_web {P : Program} {w : World} {K : PySem.W.Frag} {mg : Str → Option Value} {base : Heap} {g : G} {k : Nat} (F : Fx P K mg g.ca) (fa : Addr) (cdv : Value) (A : Around) (outer : List Env) (s : Shared) (H : Hp) (E : XK)
    (hr : Room (k + 2) (A.deeper (envOfC "check_web" (defScope (top 27)) s.heap.objs.size fa cdv))) :
    BX g (cxOf (L2.CX P w) P w K mg base ["web"] "check_web" (defScope (top 27)) fa cdv A outer s H E) (wE E) (defBody (top 27)) (m_check_web) := by
  have hN : (["web"] : List Str).Nodup := by decide
  exact (bx_one (sx_if (tv_not (tv_val (ev_callB (cd_isi (F.isi _ rfl)) rfl F.f_isinstance rfl (av_cons (ev_var (pv 0)) (av_cons (ev_cls rfl F.g_Web) av_nil))))) (bx_one (sx_raise rfl takesE (fun ta h => pmk_givenE F.sx_NotAWeb F.g_NotAWeb F.f_super hr h rfl) (ev_var (pv 0)))) bx_nil))
def m_check_place (S_is_one_of : List A → Mo D) (S_Web_places : List A → Mo D) : Ev → Mo OutX := (zIf (xNotB (asB (xFn 2 S_is_one_of (xCons (xVar 1) (xCons (xProp "Web" S_Web_places (xVar 0)) xNil))))) (zRaise "UnknownPlace" "given" (xVar 1)) (zLift yNil))
theorem d_check_place {P : Program} {w : World} {K : PySem.W.Frag} {mg : Str → Option Value} {base : Heap} {g : G} {k : Nat} (F : Fx P K mg g.ca) {S_is_one_of : List A → Mo D} {S_Web_places : List A → Mo D} (h_is_one_of : Cal P w K mg base g k "is_one_of" 2 S_is_one_of) (p_Web_places : PropC P w K mg base g k "Web" "places" S_Web_places) (fa : Addr) (cdv : Value) (A : Around) (outer : List Env) (s : Shared) (H : Hp) (E : XK)
    (hr : Room (k + 2) (A.deeper (envOfC "check_place" (defScope (top 28)) s.heap.objs.size fa cdv))) :
    BX g (cxOf (L2.CX P w) P w K mg base ["web", "place"] "check_place" (defScope (top 28)) fa cdv A outer s H E) (wE E) (defBody (top 28)) (m_check_place S_is_one_of S_Web_places) := by
  have hN : (["web", "place"] : List Str).Nodup := by decide
  exact (bx_one (sx_if (tv_not (tv_val (ev_call h_is_one_of hr (by omega) rfl (av_cons (ev_var (pv 1)) (av_cons (ev_prop p_Web_places hr (by omega) (ev_var (pv 0))) av_nil))))) (bx_one (sx_raise rfl takesE (fun ta h => pmk_givenE F.sx_UnknownPlace F.g_UnknownPlace F.f_super hr h rfl) (ev_var (pv 1)))) bx_nil))
def m_Book_ddinitdd (S_check_web : List A → Mo (Rs D)) : Ev → Mo OutX := (zSeq (zDrop (vFn 1 S_check_web (vLift (xCons (xVar 1) xNil))))
  (zLift (ySetF "Book" "standing" (xVar 0) (xTup (xCons (xVar 1) (xCons (xTup xNil) xNil))))))
theorem d_Book_ddinitdd {P : Program} {w : World} {K : PySem.W.Frag} {mg : Str → Option Value} {base : Heap} {g : G} {k : Nat} (F : Fx P K mg g.ca) {S_check_web : List A → Mo (Rs D)} (h_check_web : CalX P w K mg base g k "check_web" 1 S_check_web []) (fa : Addr) (cdv : Value) (A : Around) (outer : List Env) (s : Shared) (H : Hp) (E : XK)
    (hr : Room (k + 2) (A.deeper (envOfC "Book.__init__" (defScope (inClass (top 30) 0)) s.heap.objs.size fa cdv))) :
    BX g (cxOf (L2.CX P w) P w K mg base ["self", "web"] "Book.__init__" (defScope (inClass (top 30) 0)) fa cdv A outer s H E) (wE E) (defBody (inClass (top 30) 0)) (m_Book_ddinitdd S_check_web) := by
  have hN : (["self", "web"] : List Str).Nodup := by decide
  exact (bx_cons (sx_drop (ex_call h_check_web hr (by omega) takesE rfl (ax_lift (av_cons (ev_var (pv 1)) av_nil))))
  (bx_one (sx_lift (sv_fld F.cl_Book F.na_Book_standing (ev_var (pv 0)) (ev_tup (av_cons (ev_var (pv 1)) (av_cons (ev_tup av_nil) av_nil)))))))
def m_Book_web : Ev → Mo Out := (yRet (xBin mIx (xFld "Book" "standing" (xVar 0)) (xC (.int 0))))
theorem d_Book_web {P : Program} {w : World} {K : PySem.W.Frag} {mg : Str → Option Value} {base : Heap} {g : G} {k : Nat} (F : Fx P K mg g.ca) (fa : Addr) (cdv : Value) (A : Around) (outer : List Env) (s : Shared) (H : Hp) (E : XK)
    (hr : Room (k + 2) (A.deeper (envOfC "Book.web" (defScope (inClass (top 30) 1)) s.heap.objs.size fa cdv))) :
    BV g (cxOf C8.CX0 P w K mg base ["self"] "Book.web" (defScope (inClass (top 30) 1)) fa cdv A outer s H E) (defBody (inClass (top 30) 1)) (m_Book_web) := by
  have hN : (["self"] : List Str).Nodup := by decide
  exact (bv_one (sv_ret (ev_ix (ev_fld F.cl_Book F.na_Book_standing (ev_var (pv 0))) ev_int (by intro _ _; rfl))))
def m_Book_posts : Ev → Mo Out := (yRet (xBin mIx (xFld "Book" "standing" (xVar 0)) (xC (.int 1))))
theorem d_Book_posts {P : Program} {w : World} {K : PySem.W.Frag} {mg : Str → Option Value} {base : Heap} {g : G} {k : Nat} (F : Fx P K mg g.ca) (fa : Addr) (cdv : Value) (A : Around) (outer : List Env) (s : Shared) (H : Hp) (E : XK)
    (hr : Room (k + 2) (A.deeper (envOfC "Book.posts" (defScope (inClass (top 30) 2)) s.heap.objs.size fa cdv))) :
    BV g (cxOf C8.CX0 P w K mg base ["self"] "Book.posts" (defScope (inClass (top 30) 2)) fa cdv A outer s H E) (defBody (inClass (top 30) 2)) (m_Book_posts) := by
  have hN : (["self"] : List Str).Nodup := by decide
  exact (bv_one (sv_ret (ev_ix (ev_fld F.cl_Book F.na_Book_standing (ev_var (pv 0))) ev_int (by intro _ _; rfl))))
def m_Book_pair_of (S_check_place : List A → Mo (Rs D)) (S_Book_web : List A → Mo D) : Ev → Mo OutX := (zSeq (zDrop (vFn 2 S_check_place (vLift (xCons (xProp "Book" S_Book_web (xVar 0)) (xCons (xVar 1) xNil)))))
  (zSeq (zDrop (vFn 2 S_check_place (vLift (xCons (xProp "Book" S_Book_web (xVar 0)) (xCons (xVar 2) xNil)))))
  (zSeq (zIf (asB (xBin mEq (xVar 1) (xVar 2))) (zRaise "UnknownPlace" "given" (xVar 2)) (zLift yNil))
  (zLift (yRet (xTup (xCons (xCall (liftL dMin2S) (xCons (xVar 1) (xCons (xVar 2) xNil))) (xCons (xCall (liftL dMax2S) (xCons (xVar 1) (xCons (xVar 2) xNil))) xNil))))))))
theorem d_Book_pair_of {P : Program} {w : World} {K : PySem.W.Frag} {mg : Str → Option Value} {base : Heap} {g : G} {k : Nat} (F : Fx P K mg g.ca) {S_check_place : List A → Mo (Rs D)} {S_Book_web : List A → Mo D} (h_check_place : CalX P w K mg base g k "check_place" 2 S_check_place []) (p_Book_web : PropC P w K mg base g k "Book" "web" S_Book_web) (fa : Addr) (cdv : Value) (A : Around) (outer : List Env) (s : Shared) (H : Hp) (E : XK)
    (hr : Room (k + 2) (A.deeper (envOfC "Book.pair_of" (defScope (inClass (top 30) 3)) s.heap.objs.size fa cdv))) :
    BX g (cxOf (L2.CX P w) P w K mg base ["self", "place", "other"] "Book.pair_of" (defScope (inClass (top 30) 3)) fa cdv A outer s H E) (wE E) (defBody (inClass (top 30) 3)) (m_Book_pair_of S_check_place S_Book_web) := by
  have hN : (["self", "place", "other"] : List Str).Nodup := by decide
  exact (bx_cons (sx_drop (ex_call h_check_place hr (by omega) takesE rfl (ax_lift (av_cons (ev_prop p_Book_web hr (by omega) (ev_var (pv 0))) (av_cons (ev_var (pv 1)) av_nil)))))
  (bx_cons (sx_drop (ex_call h_check_place hr (by omega) takesE rfl (ax_lift (av_cons (ev_prop p_Book_web hr (by omega) (ev_var (pv 0))) (av_cons (ev_var (pv 2)) av_nil)))))
  (bx_cons (sx_if (tv_cmp (od_eq hr.units) (ev_var (pv 1)) (ev_var (pv 2)) (nomark _)) (bx_one (sx_raise rfl takesE (fun ta h => pmk_givenE F.sx_UnknownPlace F.g_UnknownPlace F.f_super hr h rfl) (ev_var (pv 2)))) bx_nil)
  (bx_one (sx_lift (sv_ret (ev_tup (av_cons (ev_callB (cd_min2S rfl) rfl F.f_min rfl (av_cons (ev_var (pv 1)) (av_cons (ev_var (pv 2)) av_nil))) (av_cons (ev_callB (cd_max2S rfl) rfl F.f_max rfl (av_cons (ev_var (pv 1)) (av_cons (ev_var (pv 2)) av_nil))) av_nil)))))))))
def m_Book_tie (S_Book_pair_of : List A → Mo (Rs D)) (S_Book_web : List A → Mo D) (S_Web_ties : List A → Mo D) (S_Web_ddinitdd : List A → Mo D) (S_Web_places : List A → Mo D) (S_Book_posts : List A → Mo D) : Ev → Mo OutX := (zSeq (zSet 3 (vMt "Book" "pair_of" 2 S_Book_pair_of (xVar 0) (vLift (xCons (xVar 1) (xCons (xVar 2) xNil)))))
  (zSeq (zIf (asB (xBin mInD (xVar 3) (xProp "Web" S_Web_ties (xProp "Book" S_Book_web (xVar 0))))) (zRaise "UnknownPlace" "given" (xVar 2)) (zLift yNil))
  (zLift (ySetF "Book" "standing" (xVar 0) (xTup (xCons (xMake "Web" 2 S_Web_ddinitdd (xCons (xProp "Web" S_Web_places (xProp "Book" S_Book_web (xVar 0))) (xCons (xCall (liftL dTuple) (xCons (xCall (liftL dSorted) (xCons (xLst (xStar (xProp "Web" S_Web_ties (xProp "Book" S_Book_web (xVar 0))) (xCons (xVar 3) xNil))) xNil)) xNil)) xNil))) (xCons (xProp "Book" S_Book_posts (xVar 0)) xNil)))))))
theorem d_Book_tie {P : Program} {w : World} {K : PySem.W.Frag} {mg : Str → Option Value} {base : Heap} {g : G} {k : Nat} (F : Fx P K mg g.ca) {S_Book_pair_of : List A → Mo (Rs D)} {S_Book_web : List A → Mo D} {S_Web_ties : List A → Mo D} {S_Web_ddinitdd : List A → Mo D} {S_Web_places : List A → Mo D} {S_Book_posts : List A → Mo D} (x_Book_pair_of : MetX P w K mg base g k "Book" "pair_of" 2 S_Book_pair_of []) (p_Book_web : PropC P w K mg base g k "Book" "web" S_Book_web) (p_Web_ties : PropC P w K mg base g k "Web" "ties" S_Web_ties) (k_Web : MakC P w K mg base g k "Web" "Web" 2 S_Web_ddinitdd) (p_Web_places : PropC P w K mg base g k "Web" "places" S_Web_places) (p_Book_posts : PropC P w K mg base g k "Book" "posts" S_Book_posts) (fa : Addr) (cdv : Value) (A : Around) (outer : List Env) (s : Shared) (H : Hp) (E : XK)
    (hr : Room (k + 2) (A.deeper (envOfC "Book.tie" (defScope (inClass (top 30) 4)) s.heap.objs.size fa cdv))) :
    BX g (cxOf (L2.CX P w) P w K mg base ["self", "place", "other", "pair"] "Book.tie" (defScope (inClass (top 30) 4)) fa cdv A outer s H E) (wE E) (defBody (inClass (top 30) 4)) (m_Book_tie S_Book_pair_of S_Book_web S_Web_ties S_Web_ddinitdd S_Web_places S_Book_posts) := by
  have hN : (["self", "place", "other", "pair"] : List Str).Nodup := by decide
  exact (bx_cons (sx_set hN rfl (by first | exact .inl rfl | exact .inr rfl) (ex_mt x_Book_pair_of hr (by omega) takesE (ev_var (pv 0)) (ax_lift (av_cons (ev_var (pv 1)) (av_cons (ev_var (pv 2)) av_nil)))))
  (bx_cons (sx_if (tv_cmp (od_inD (u65 hr)) (ev_var (pv 3)) (ev_prop p_Web_ties hr (by omega) (ev_prop p_Book_web hr (by omega) (ev_var (pv 0)))) (by with_unfolding_all rfl)) (bx_one (sx_raise rfl takesE (fun ta h => pmk_givenE F.sx_UnknownPlace F.g_UnknownPlace F.f_super hr h rfl) (ev_var (pv 2)))) bx_nil)
  (bx_one (sx_lift (sv_fld F.cl_Book F.na_Book_standing (ev_var (pv 0)) (ev_tup (av_cons (ev_make k_Web hr (by omega) rfl (av_cons (ev_prop p_Web_places hr (by omega) (ev_prop p_Book_web hr (by omega) (ev_var (pv 0)))) (av_cons (ev_callTy cd_tuple rfl F.f_tuple rfl (av_cons (ev_callB (cd_sorted hr) rfl F.f_sorted rfl (av_cons (ev_lst (av_star (ev_prop p_Web_ties hr (by omega) (ev_prop p_Book_web hr (by omega) (ev_var (pv 0)))) (av_cons (ev_var (pv 3)) av_nil))) av_nil)) av_nil)) av_nil))) (av_cons (ev_prop p_Book_posts hr (by omega) (ev_var (pv 0))) av_nil))))))))
def m_Book_cut (S_Book_pair_of : List A → Mo (Rs D)) (S_Book_web : List A → Mo D) (S_Web_ties : List A → Mo D) (S_Web_ddinitdd : List A → Mo D) (S_Web_places : List A → Mo D) (S_Book_posts : List A → Mo D) : Ev → Mo OutX := (zSeq (zSet 3 (vMt "Book" "pair_of" 2 S_Book_pair_of (xVar 0) (vLift (xCons (xVar 1) (xCons (xVar 2) xNil)))))
  (zSeq (zIf (asB (xBin mNotInD (xVar 3) (xProp "Web" S_Web_ties (xProp "Book" S_Book_web (xVar 0))))) (zRaise "UnknownPlace" "given" (xVar 2)) (zLift yNil))
  (zLift (ySetF "Book" "standing" (xVar 0) (xTup (xCons (xMake "Web" 2 S_Web_ddinitdd (xCons (xProp "Web" S_Web_places (xProp "Book" S_Book_web (xVar 0))) (xCons (xCall (liftL dTuple) (xCons (xComp (itemsT (xProp "Web" S_Web_ties (xProp "Book" S_Book_web (xVar 0)))) [4] (zName 4) (asB (xBin mNe (xVar 4) (xVar 3))) (xVar 4)) xNil)) xNil))) (xCons (xProp "Book" S_Book_posts (xVar 0)) xNil)))))))
theorem d_Book_cut {P : Program} {w : World} {K : PySem.W.Frag} {mg : Str → Option Value} {base : Heap} {g : G} {k : Nat} (F : Fx P K mg g.ca) {S_Book_pair_of : List A → Mo (Rs D)} {S_Book_web : List A → Mo D} {S_Web_ties : List A → Mo D} {S_Web_ddinitdd : List A → Mo D} {S_Web_places : List A → Mo D} {S_Book_posts : List A → Mo D} (x_Book_pair_of : MetX P w K mg base g k "Book" "pair_of" 2 S_Book_pair_of []) (p_Book_web : PropC P w K mg base g k "Book" "web" S_Book_web) (p_Web_ties : PropC P w K mg base g k "Web" "ties" S_Web_ties) (k_Web : MakC P w K mg base g k "Web" "Web" 2 S_Web_ddinitdd) (p_Web_places : PropC P w K mg base g k "Web" "places" S_Web_places) (p_Book_posts : PropC P w K mg base g k "Book" "posts" S_Book_posts) (fa : Addr) (cdv : Value) (A : Around) (outer : List Env) (s : Shared) (H : Hp) (E : XK)
    (hr : Room (k + 2) (A.deeper (envOfC "Book.cut" (defScope (inClass (top 30) 5)) s.heap.objs.size fa cdv))) :
    BX g (cxOf (L2.CX P w) P w K mg base ["self", "place", "other", "pair", "each"] "Book.cut" (defScope (inClass (top 30) 5)) fa cdv A outer s H E) (wE E) (defBody (inClass (top 30) 5)) (m_Book_cut S_Book_pair_of S_Book_web S_Web_ties S_Web_ddinitdd S_Web_places S_Book_posts) := by
  have hN : (["self", "place", "other", "pair", "each"] : List Str).Nodup := by decide
  exact (bx_cons (sx_set hN rfl (by first | exact .inl rfl | exact .inr rfl) (ex_mt x_Book_pair_of hr (by omega) takesE (ev_var (pv 0)) (ax_lift (av_cons (ev_var (pv 1)) (av_cons (ev_var (pv 2)) av_nil)))))
  (bx_cons (sx_if (tv_cmp (od_notInD (u65 hr)) (ev_var (pv 3)) (ev_prop p_Web_ties hr (by omega) (ev_prop p_Book_web hr (by omega) (ev_var (pv 0)))) (by with_unfolding_all rfl)) (bx_one (sx_raise rfl takesE (fun ta h => pmk_givenE F.sx_UnknownPlace F.g_UnknownPlace F.f_super hr h rfl) (ev_var (pv 2)))) bx_nil)
  (bx_one (sx_lift (sv_fld F.cl_Book F.na_Book_standing (ev_var (pv 0)) (ev_tup (av_cons (ev_make k_Web hr (by omega) rfl (av_cons (ev_prop p_Web_places hr (by omega) (ev_prop p_Book_web hr (by omega) (ev_var (pv 0)))) (av_cons (ev_callTy cd_tuple rfl F.f_tuple rfl (av_cons (ev_lc (own := [("each", 4)]) rfl hN (iv_tup (ev_prop p_Web_ties hr (by omega) (ev_prop p_Book_web hr (by omega) (ev_var (pv 0))))) (blkOk_by (by kernel_rfl)) (BlkV.of (fun s H C cl fp => (gv_name hN rfl (by first | exact .inl rfl | exact .inr rfl))) (fun s H C cl fp => (tsv_one (tv_cmp (od_ne hr.units) (ev_var (pv 4)) (ev_var (pv 3)) (nomark _)))) (fun s H C cl fp => (ev_var (pv 4)))) (by decide)) av_nil)) av_nil))) (av_cons (ev_prop p_Book_posts hr (by omega) (ev_var (pv 0))) av_nil))))))))
def m_Book_put_posts (S_Book_web : List A → Mo D) : Ev → Mo OutX := (zLift (ySetF "Book" "standing" (xVar 0) (xTup (xCons (xProp "Book" S_Book_web (xVar 0)) (xCons (xCall (liftL dTuple) (xCons (xCall (liftL dSortedA) (xCons (xVar 1) xNil)) xNil)) xNil)))))
theorem d_Book_put_posts {P : Program} {w : World} {K : PySem.W.Frag} {mg : Str → Option Value} {base : Heap} {g : G} {k : Nat} (F : Fx P K mg g.ca) {S_Book_web : List A → Mo D} (p_Book_web : PropC P w K mg base g k "Book" "web" S_Book_web) (fa : Addr) (cdv : Value) (A : Around) (outer : List Env) (s : Shared) (H : Hp) (E : XK)
    (hr : Room (k + 2) (A.deeper (envOfC "Book.put_posts" (defScope (inClass (top 30) 6)) s.heap.objs.size fa cdv))) :
    BX g (cxOf (L2.CX P w) P w K mg base ["self", "some"] "Book.put_posts" (defScope (inClass (top 30) 6)) fa cdv A outer s H E) (wE E) (defBody (inClass (top 30) 6)) (m_Book_put_posts S_Book_web) := by
  have hN : (["self", "some"] : List Str).Nodup := by decide
  exact (bx_one (sx_lift (sv_fld F.cl_Book F.na_Book_standing (ev_var (pv 0)) (ev_tup (av_cons (ev_prop p_Book_web hr (by omega) (ev_var (pv 0))) (av_cons (ev_callTy cd_tuple rfl F.f_tuple rfl (av_cons (ev_callB (cd_sortedA hr rfl) rfl F.f_sorted rfl (av_cons (ev_var (pv 1)) av_nil)) av_nil)) av_nil))))))
def m_Book_check_post (S_check_place : List A → Mo (Rs D)) (S_Book_web : List A → Mo D) (S_Book_posts : List A → Mo D) : Ev → Mo OutX := (zSeq (zDrop (vFn 2 S_check_place (vLift (xCons (xProp "Book" S_Book_web (xVar 0)) (xCons (xVar 1) xNil)))))
  (zIf (asB (xBin mNotIn (xVar 1) (xProp "Book" S_Book_posts (xVar 0)))) (zRaise "UnknownPlace" "given" (xVar 1)) (zLift yNil)))
theorem d_Book_check_post {P : Program} {w : World} {K : PySem.W.Frag} {mg : Str → Option Value} {base : Heap} {g : G} {k : Nat} (F : Fx P K mg g.ca) {S_check_place : List A → Mo (Rs D)} {S_Book_web : List A → Mo D} {S_Book_posts : List A → Mo D} (h_check_place : CalX P w K mg base g k "check_place" 2 S_check_place []) (p_Book_web : PropC P w K mg base g k "Book" "web" S_Book_web) (p_Book_posts : PropC P w K mg base g k "Book" "posts" S_Book_posts) (fa : Addr) (cdv : Value) (A : Around) (outer : List Env) (s : Shared) (H : Hp) (E : XK)
    (hr : Room (k + 2) (A.deeper (envOfC "Book.check_post" (defScope (inClass (top 30) 7)) s.heap.objs.size fa cdv))) :
    BX g (cxOf (L2.CX P w) P w K mg base ["self", "place"] "Book.check_post" (defScope (inClass (top 30) 7)) fa cdv A outer s H E) (wE E) (defBody (inClass (top 30) 7)) (m_Book_check_post S_check_place S_Book_web S_Book_posts) := by
  have hN : (["self", "place"] : List Str).Nodup := by decide
  exact (bx_cons (sx_drop (ex_call h_check_place hr (by omega) takesE rfl (ax_lift (av_cons (ev_prop p_Book_web hr (by omega) (ev_var (pv 0))) (av_cons (ev_var (pv 1)) av_nil)))))
  (bx_one (sx_if (tv_cmp od_notIn (ev_var (pv 1)) (ev_prop p_Book_posts hr (by omega) (ev_var (pv 0))) (by with_unfolding_all rfl)) (bx_one (sx_raise rfl takesE (fun ta h => pmk_givenE F.sx_UnknownPlace F.g_UnknownPlace F.f_super hr h rfl) (ev_var (pv 1)))) bx_nil)))
def m_Book_post (S_check_place : List A → Mo (Rs D)) (S_Book_web : List A → Mo D) (S_Book_put_posts : List A → Mo (Rs D)) (S_Book_posts : List A → Mo D) : Ev → Mo OutX := (zSeq (zDrop (vFn 2 S_check_place (vLift (xCons (xProp "Book" S_Book_web (xVar 0)) (xCons (xVar 1) xNil)))))
  (zDrop (vMt "Book" "put_posts" 1 S_Book_put_posts (xVar 0) (vLift (xCons (xDs (xVar 1) (xC (.bl true)) (xDComp (itemsT (xProp "Book" S_Book_posts (xVar 0))) [2] (zName 2) tYesM (xVar 2) (xC (.bl true)))) xNil)))))
theorem d_Book_post {P : Program} {w : World} {K : PySem.W.Frag} {mg : Str → Option Value} {base : Heap} {g : G} {k : Nat} (F : Fx P K mg g.ca) {S_check_place : List A → Mo (Rs D)} {S_Book_web : List A → Mo D} {S_Book_put_posts : List A → Mo (Rs D)} {S_Book_posts : List A → Mo D} (h_check_place : CalX P w K mg base g k "check_place" 2 S_check_place []) (p_Book_web : PropC P w K mg base g k "Book" "web" S_Book_web) (x_Book_put_posts : MetX P w K mg base g k "Book" "put_posts" 1 S_Book_put_posts []) (p_Book_posts : PropC P w K mg base g k "Book" "posts" S_Book_posts) (fa : Addr) (cdv : Value) (A : Around) (outer : List Env) (s : Shared) (H : Hp) (E : XK)
    (hr : Room (k + 2) (A.deeper (envOfC "Book.post" (defScope (inClass (top 30) 8)) s.heap.objs.size fa cdv))) :
    BX g (cxOf (L2.CX P w) P w K mg base ["self", "place", "each"] "Book.post" (defScope (inClass (top 30) 8)) fa cdv A outer s H E) (wE E) (defBody (inClass (top 30) 8)) (m_Book_post S_check_place S_Book_web S_Book_put_posts S_Book_posts) := by
  have hN : (["self", "place", "each"] : List Str).Nodup := by decide
  exact (bx_cons (sx_drop (ex_call h_check_place hr (by omega) takesE rfl (ax_lift (av_cons (ev_prop p_Book_web hr (by omega) (ev_var (pv 0))) (av_cons (ev_var (pv 1)) av_nil)))))
  (bx_one (sx_drop (ex_mt x_Book_put_posts hr (by omega) takesE (ev_var (pv 0)) (ax_lift (av_cons (ev_ds (ev_var (pv 1)) ev_bl (ev_dc (own := [("each", 2)]) rfl hN (iv_tup (ev_prop p_Book_posts hr (by omega) (ev_var (pv 0)))) (blkOk_by (by kernel_rfl)) (BlkV.of (fun s H C cl fp => (gv_name hN rfl (by first | exact .inl rfl | exact .inr rfl))) (fun s H C cl fp => tsv_nil) (fun s H C cl fp => (ev_var (pv 2)))) (BlkV.of (fun s H C cl fp => (gv_name hN rfl (by first | exact .inl rfl | exact .inr rfl))) (fun s H C cl fp => tsv_nil) (fun s H C cl fp => ev_bl)) (by decide))) av_nil))))))
def m_Book_take (S_Book_check_post : List A → Mo (Rs D)) (S_Book_put_posts : List A → Mo (Rs D)) (S_Book_posts : List A → Mo D) : Ev → Mo OutX := (zSeq (zDrop (vMt "Book" "check_post" 1 S_Book_check_post (xVar 0) (vLift (xCons (xVar 1) xNil))))
  (zDrop (vMt "Book" "put_posts" 1 S_Book_put_posts (xVar 0) (vLift (xCons (xComp (itemsT (xProp "Book" S_Book_posts (xVar 0))) [2] (zName 2) (asB (xBin mNe (xVar 2) (xVar 1))) (xVar 2)) xNil)))))
theorem d_Book_take {P : Program} {w : World} {K : PySem.W.Frag} {mg : Str → Option Value} {base : Heap} {g : G} {k : Nat} (F : Fx P K mg g.ca) {S_Book_check_post : List A → Mo (Rs D)} {S_Book_put_posts : List A → Mo (Rs D)} {S_Book_posts : List A → Mo D} (x_Book_check_post : MetX P w K mg base g k "Book" "check_post" 1 S_Book_check_post []) (x_Book_put_posts : MetX P w K mg base g k "Book" "put_posts" 1 S_Book_put_posts []) (p_Book_posts : PropC P w K mg base g k "Book" "posts" S_Book_posts) (fa : Addr) (cdv : Value) (A : Around) (outer : List Env) (s : Shared) (H : Hp) (E : XK)
    (hr : Room (k + 2) (A.deeper (envOfC "Book.take" (defScope (inClass (top 30) 9)) s.heap.objs.size fa cdv))) :
    BX g (cxOf (L2.CX P w) P w K mg base ["self", "place", "each"] "Book.take" (defScope (inClass (top 30) 9)) fa cdv A outer s H E) (wE E) (defBody (inClass (top 30) 9)) (m_Book_take S_Book_check_post S_Book_put_posts S_Book_posts) := by
  have hN : (["self", "place", "each"] : List Str).Nodup := by decide
  exact (bx_cons (sx_drop (ex_mt x_Book_check_post hr (by omega) takesE (ev_var (pv 0)) (ax_lift (av_cons (ev_var (pv 1)) av_nil))))
  (bx_one (sx_drop (ex_mt x_Book_put_posts hr (by omega) takesE (ev_var (pv 0)) (ax_lift (av_cons (ev_lc (own := [("each", 2)]) rfl hN (iv_tup (ev_prop p_Book_posts hr (by omega) (ev_var (pv 0)))) (blkOk_by (by kernel_rfl)) (BlkV.of (fun s H C cl fp => (gv_name hN rfl (by first | exact .inl rfl | exact .inr rfl))) (fun s H C cl fp => (tsv_one (tv_cmp (od_ne hr.units) (ev_var (pv 2)) (ev_var (pv 1)) (nomark _)))) (fun s H C cl fp => (ev_var (pv 2)))) (by decide)) av_nil))))))
def m_Book_step (S_Book_check_post : List A → Mo (Rs D)) (S_check_place : List A → Mo (Rs D)) (S_Book_web : List A → Mo D) (S_Book_posts : List A → Mo D) (S_sees_by : List A → Mo D) (S_Book_put_posts : List A → Mo (Rs D)) : Ev → Mo OutX := (zSeq (zDrop (vMt "Book" "check_post" 1 S_Book_check_post (xVar 0) (vLift (xCons (xVar 1) xNil))))
  (zSeq (zDrop (vFn 2 S_check_place (vLift (xCons (xProp "Book" S_Book_web (xVar 0)) (xCons (xVar 2) xNil)))))
  (zSeq (zIf (xOrB (asB (xBin mIn (xVar 2) (xProp "Book" S_Book_posts (xVar 0)))) (asB (xBin mNotIn (xVar 2) (xFn 2 S_sees_by (xCons (xProp "Book" S_Book_web (xVar 0)) (xCons (xVar 1) xNil)))))) (zRaise "UnknownPlace" "given" (xVar 2)) (zLift yNil))
  (zDrop (vMt "Book" "put_posts" 1 S_Book_put_posts (xVar 0) (vLift (xCons (xLst (xCons (xVar 2) (xStar (xComp (itemsT (xProp "Book" S_Book_posts (xVar 0))) [3] (zName 3) (asB (xBin mNe (xVar 3) (xVar 1))) (xVar 3)) xNil))) xNil)))))))
theorem d_Book_step {P : Program} {w : World} {K : PySem.W.Frag} {mg : Str → Option Value} {base : Heap} {g : G} {k : Nat} (F : Fx P K mg g.ca) {S_Book_check_post : List A → Mo (Rs D)} {S_check_place : List A → Mo (Rs D)} {S_Book_web : List A → Mo D} {S_Book_posts : List A → Mo D} {S_sees_by : List A → Mo D} {S_Book_put_posts : List A → Mo (Rs D)} (h_check_place : CalX P w K mg base g k "check_place" 2 S_check_place []) (h_sees_by : Cal P w K mg base g k "sees_by" 2 S_sees_by) (x_Book_check_post : MetX P w K mg base g k "Book" "check_post" 1 S_Book_check_post []) (p_Book_web : PropC P w K mg base g k "Book" "web" S_Book_web) (p_Book_posts : PropC P w K mg base g k "Book" "posts" S_Book_posts) (x_Book_put_posts : MetX P w K mg base g k "Book" "put_posts" 1 S_Book_put_posts []) (fa : Addr) (cdv : Value) (A : Around) (outer : List Env) (s : Shared) (H : Hp) (E : XK)
    (hr : Room (k + 2) (A.deeper (envOfC "Book.step" (defScope (inClass (top 30) 10)) s.heap.objs.size fa cdv))) :
    BX g (cxOf (L2.CX P w) P w K mg base ["self", "place", "other", "each"] "Book.step" (defScope (inClass (top 30) 10)) fa cdv A outer s H E) (wE E) (defBody (inClass (top 30) 10)) (m_Book_step S_Book_check_post S_check_place S_Book_web S_Book_posts S_sees_by S_Book_put_posts) := by
  have hN : (["self", "place", "other", "each"] : List Str).Nodup := by decide
  exact (bx_cons (sx_drop (ex_mt x_Book_check_post hr (by omega) takesE (ev_var (pv 0)) (ax_lift (av_cons (ev_var (pv 1)) av_nil))))
  (bx_cons (sx_drop (ex_call h_check_place hr (by omega) takesE rfl (ax_lift (av_cons (ev_prop p_Book_web hr (by omega) (ev_var (pv 0))) (av_cons (ev_var (pv 2)) av_nil)))))
  (bx_cons (sx_if (WV.tv (wv_or (tv_cmp od_in (ev_var (pv 2)) (ev_prop p_Book_posts hr (by omega) (ev_var (pv 0))) (by with_unfolding_all rfl)) (wv_or1 (tv_cmp od_notIn (ev_var (pv 2)) (ev_call h_sees_by hr (by omega) rfl (av_cons (ev_prop p_Book_web hr (by omega) (ev_var (pv 0))) (av_cons (ev_var (pv 1)) av_nil))) (by with_unfolding_all rfl))))) (bx_one (sx_raise rfl takesE (fun ta h => pmk_givenE F.sx_UnknownPlace F.g_UnknownPlace F.f_super hr h rfl) (ev_var (pv 2)))) bx_nil)
  (bx_one (sx_drop (ex_mt x_Book_put_posts hr (by omega) takesE (ev_var (pv 0)) (ax_lift (av_cons (ev_lst (av_cons (ev_var (pv 2)) (av_star (ev_lc (own := [("each", 3)]) rfl hN (iv_tup (ev_prop p_Book_posts hr (by omega) (ev_var (pv 0)))) (blkOk_by (by kernel_rfl)) (BlkV.of (fun s H C cl fp => (gv_name hN rfl (by first | exact .inl rfl | exact .inr rfl))) (fun s H C cl fp => (tsv_one (tv_cmp (od_ne hr.units) (ev_var (pv 3)) (ev_var (pv 1)) (nomark _)))) (fun s H C cl fp => (ev_var (pv 3)))) (by decide)) av_nil))) av_nil))))))))
def m_law_well : Ev → Mo Out := (ySeq (ySet 2 (xBin mAdd (xC (.int 704969)) (xBin mMul (xC (.int 6121)) (xVar 1))))
  (ySeq (yFor (itemsL (xSlice (xVar 0) oNone (oSome (xC (.int 16))))) (zName 3) (ySet 2 (xBin mMod (xCall (liftL dInt) (xCons (xBin mAdd (xBin mAdd (xBin mMul (xVar 2) (xC (.int 48271))) (xBin mMod (xCall (liftL dInt) (xCons (xVar 3) xNil)) (xC (.int 2147483549)))) (xC (.int 23))) xNil)) (xC (.int 2147483587)))))
  (ySeq (ySet 4 (xIf (asB (xBin mLt (xVar 1) (xCall (liftL dLen) (xCons (xVar 0) xNil)))) (xCall (liftL dInt) (xCons (xBin mIx (xVar 0) (xVar 1)) xNil)) (xC (.int 0))))
  (ySeq (ySet 2 (xBin mMod (xCall (liftL dInt) (xCons (xBin mAdd (xBin mAdd (xBin mMul (xVar 2) (xC (.int 53))) (xBin mMul (xBin mMod (xCall (liftL dInt) (xCons (xVar 4) xNil)) (xC (.int 2147483549))) (xC (.int 15013)))) (xC (.int 11))) xNil)) (xC (.int 2147483587))))
  (yRet (xLstM (xCons (xIf (xOrB (asB (xBin mLt (xVar 4) (xC (.int 0)))) (asB (xBin mGe (xVar 4) (xBin mPow (xC (.int 10)) (xC (.int 15)))))) (xCall (liftL dAbs) (xCons (xVar 4) xNil)) (xC (.int 0))) (xCons (xVar 2) (xCons (xC (.int 0)) xNil)))))))))
theorem d_law_well {P : Program} {w : World} {K : PySem.W.Frag} {mg : Str → Option Value} {base : Heap} {g : G} {k : Nat} (F : Fx P K mg g.ca) (fa : Addr) (cdv : Value) (A : Around) (outer : List Env) (s : Shared) (H : Hp) (E : XK)
    (hr : Room (k + 2) (A.deeper (envOfC "_law_well" (defScope (top 32)) s.heap.objs.size fa cdv))) :
    BV g (cxOf C8.CX0 P w K mg base ["script", "lap", "stirred", "cell", "own"] "_law_well" (defScope (top 32)) fa cdv A outer s H E) (defBody (top 32)) (m_law_well) := by
  have hN : (["script", "lap", "stirred", "cell", "own"] : List Str).Nodup := by decide
  exact (bv_cons (sv_set hN rfl (by first | exact .inl rfl | exact .inr rfl) (ev_op od_add ev_int (ev_op od_mul ev_int (ev_var (pv 1)))))
  (bv_cons (sv_for (passes_of rfl) rfl (iv_lst (ev_slice (ev_var (pv 0)) ov_none (ov_some ev_int))) (gv_name hN rfl (by first | exact .inl rfl | exact .inr rfl)) (bv_one (sv_set hN rfl (by first | exact .inl rfl | exact .inr rfl) (ev_op od_mod (ev_callTy cd_int rfl F.f_int rfl (av_cons (ev_op od_add (ev_op od_add (ev_op od_mul (ev_var (pv 2)) ev_int) (ev_op od_mod (ev_callTy cd_int rfl F.f_int rfl (av_cons (ev_var (pv 3)) av_nil)) ev_int)) ev_int) av_nil)) ev_int))))
  (bv_cons (sv_set hN rfl (by first | exact .inl rfl | exact .inr rfl) (ev_if (tv_cmp (od_lt hr.units0) (ev_var (pv 1)) (ev_callB cd_len rfl F.f_len rfl (av_cons (ev_var (pv 0)) av_nil)) (nomark _)) (ev_callTy cd_int rfl F.f_int rfl (av_cons (ev_ix (ev_var (pv 0)) (ev_var (pv 1)) (by intro _ _; rfl)) av_nil)) ev_int))
  (bv_cons (sv_set hN rfl (by first | exact .inl rfl | exact .inr rfl) (ev_op od_mod (ev_callTy cd_int rfl F.f_int rfl (av_cons (ev_op od_add (ev_op od_add (ev_op od_mul (ev_var (pv 2)) ev_int) (ev_op od_mul (ev_op od_mod (ev_callTy cd_int rfl F.f_int rfl (av_cons (ev_var (pv 4)) av_nil)) ev_int) ev_int)) ev_int) av_nil)) ev_int))
  (bv_one (sv_ret (ev_lstM (av_cons (ev_if (WV.tv (wv_or (tv_cmp (od_lt hr.units0) (ev_var (pv 4)) ev_int (nomark _)) (wv_or1 (tv_cmp od_ge (ev_var (pv 4)) (ev_op od_pow ev_int ev_int) (nomark _))))) (ev_callB cd_abs rfl F.f_abs rfl (av_cons (ev_var (pv 4)) av_nil)) ev_int) (av_cons (ev_var (pv 2)) (av_cons ev_int av_nil))))))))))
def m_law_draw : Ev → Mo Out := (ySeq (yIf (asB (xBin mGt (xBin mIx (xVar 0) (xC (.int 0))) (xC (.int 0)))) (ySeq (yAsg (xCall (liftL dDivmod) (xCons (xBin mIx (xVar 0) (xC (.int 0))) (xCons (xVar 1) xNil))) (zTup (zCons (zSub (xVar 0) (xC (.int 0))) (zCons (zName 2) zNil))))
  (yRet (xVar 2))) yNil)
  (ySeq (yAsg (xBin mAdd (xBin mIx (xVar 0) (xC (.int 2))) (xC (.int 1))) (zSub (xVar 0) (xC (.int 2))))
  (ySeq (ySet 3 (xBin mMod (xCall (liftL dInt) (xCons (xBin mAdd (xBin mAdd (xBin mMul (xBin mIx (xVar 0) (xC (.int 1))) (xC (.int 40009))) (xBin mMul (xC (.int 15013)) (xBin mIx (xVar 0) (xC (.int 2))))) (xC (.int 3))) xNil)) (xC (.int 2147483587))))
  (ySeq (yAsg (xBin mMod (xCall (liftL dInt) (xCons (xBin mAdd (xBin mMul (xVar 3) (xBin mAdd (xBin mMod (xCall (liftL dInt) (xCons (xVar 3) xNil)) (xC (.int 5003))) (xC (.int 20011)))) (xBin mIx (xVar 0) (xC (.int 2)))) xNil)) (xC (.int 2147483587))) (zSub (xVar 0) (xC (.int 1))))
  (yRet (xBin mMod (xCall (liftL dInt) (xCons (xBin mDiv (xBin mIx (xVar 0) (xC (.int 1))) (xC (.int 1031))) xNil)) (xVar 1)))))))
theorem d_law_draw {P : Program} {w : World} {K : PySem.W.Frag} {mg : Str → Option Value} {base : Heap} {g : G} {k : Nat} (F : Fx P K mg g.ca) (fa : Addr) (cdv : Value) (A : Around) (outer : List Env) (s : Shared) (H : Hp) (E : XK)
    (hr : Room (k + 2) (A.deeper (envOfC "_law_draw" (defScope (top 33)) s.heap.objs.size fa cdv))) :
    BV g (cxOf C8.CX0 P w K mg base ["well", "limit", "figure", "mixed"] "_law_draw" (defScope (top 33)) fa cdv A outer s H E) (defBody (top 33)) (m_law_draw) := by
  have hN : (["well", "limit", "figure", "mixed"] : List Str).Nodup := by decide
  exact (bv_cons (sv_if (tv_cmp od_gt (ev_ix (ev_var (pv 0)) ev_int (by intro _ _; rfl)) ev_int (nomark _)) (bv_cons (sv_asg (ev_callB cd_divmod rfl F.f_divmod rfl (av_cons (ev_ix (ev_var (pv 0)) ev_int (by intro _ _; rfl)) (av_cons (ev_var (pv 1)) av_nil))) (gv_tup rfl (gsv_cons (gv_sub (ev_var (pv 0)) ev_int) (gsv_cons (gv_name hN rfl (by first | exact .inl rfl | exact .inr rfl)) gsv_nil))))
  (bv_one (sv_ret (ev_var (pv 2))))) bv_nil)
  (bv_cons (sv_asg (ev_op od_add (ev_ix (ev_var (pv 0)) ev_int (by intro _ _; rfl)) ev_int) (gv_sub (ev_var (pv 0)) ev_int))
  (bv_cons (sv_set hN rfl (by first | exact .inl rfl | exact .inr rfl) (ev_op od_mod (ev_callTy cd_int rfl F.f_int rfl (av_cons (ev_op od_add (ev_op od_add (ev_op od_mul (ev_ix (ev_var (pv 0)) ev_int (by intro _ _; rfl)) ev_int) (ev_op od_mul ev_int (ev_ix (ev_var (pv 0)) ev_int (by intro _ _; rfl)))) ev_int) av_nil)) ev_int))
  (bv_cons (sv_asg (ev_op od_mod (ev_callTy cd_int rfl F.f_int rfl (av_cons (ev_op od_add (ev_op od_mul (ev_var (pv 3)) (ev_op od_add (ev_op od_mod (ev_callTy cd_int rfl F.f_int rfl (av_cons (ev_var (pv 3)) av_nil)) ev_int) ev_int)) (ev_ix (ev_var (pv 0)) ev_int (by intro _ _; rfl))) av_nil)) ev_int) (gv_sub (ev_var (pv 0)) ev_int))
  (bv_one (sv_ret (ev_op od_mod (ev_callTy cd_int rfl F.f_int rfl (av_cons (ev_op od_div (ev_ix (ev_var (pv 0)) ev_int (by intro _ _; rfl)) ev_int) av_nil)) (ev_var (pv 1)))))))))
def m_law_of (S_law_draw : List A → Mo D) : Ev → Mo Out := (yRet (xBin mIx (xVar 1) (xFn 2 S_law_draw (xCons (xVar 0) (xCons (xCall (liftL dLen) (xCons (xVar 1) xNil)) xNil)))))
theorem d_law_of {P : Program} {w : World} {K : PySem.W.Frag} {mg : Str → Option Value} {base : Heap} {g : G} {k : Nat} (F : Fx P K mg g.ca) {S_law_draw : List A → Mo D} (h_law_draw : Cal P w K mg base g k "_law_draw" 2 S_law_draw) (fa : Addr) (cdv : Value) (A : Around) (outer : List Env) (s : Shared) (H : Hp) (E : XK)
    (hr : Room (k + 2) (A.deeper (envOfC "_law_of" (defScope (top 34)) s.heap.objs.size fa cdv))) :
    BV g (cxOf C8.CX0 P w K mg base ["well", "some"] "_law_of" (defScope (top 34)) fa cdv A outer s H E) (defBody (top 34)) (m_law_of S_law_draw) := by
  have hN : (["well", "some"] : List Str).Nodup := by decide
  exact (bv_one (sv_ret (ev_ix (ev_var (pv 1)) (ev_call h_law_draw hr (by omega) rfl (av_cons (ev_var (pv 0)) (av_cons (ev_callB cd_len rfl F.f_len rfl (av_cons (ev_var (pv 1)) av_nil)) av_nil))) (by intro _ _; rfl))))
def m_law_same (S_law_same : List A → Mo D) : Ev → Mo Out := (ySeq (yIf (asB (xCall mIsi (xCons (xVar 1) (xCons (xC (.ty "tuple")) xNil)))) (ySeq (yIf (xOrB (xNotB (asB (xCall mIsi (xCons (xVar 0) (xCons (xC (.ty "tuple")) xNil))))) (asB (xBin mNe (xCall (liftL dLen) (xCons (xVar 0) xNil)) (xCall (liftL dLen) (xCons (xVar 1) xNil))))) (yRet (xC (.bl false))) yNil)
  (yRet (xCall (liftL dAll) (xCons (xComp (itemsR1 (xCons (xCall (liftL dLen) (xCons (xVar 1) xNil)) xNil)) [3] (zName 3) tYesM (xFn 2 S_law_same (xCons (xBin mIx (xVar 0) (xVar 3)) (xCons (xBin mIx (xVar 1) (xVar 3)) xNil)))) xNil)))) yNil)
  (ySeq (yIf (asB (xCall mIsi (xCons (xVar 1) (xCons (xC (.ty "bool")) xNil)))) (yRet (xAnd (xCall mIsi (xCons (xVar 0) (xCons (xC (.ty "bool")) xNil))) (xBin mEq (xVar 0) (xVar 1)))) yNil)
  (ySeq (yIf (asB (xCall mIsi (xCons (xVar 1) (xCons (xC (.ty "int")) xNil)))) (yRet (xAnd (xCall mIsi (xCons (xVar 0) (xCons (xC (.ty "int")) xNil))) (xAnd (xNot (xCall mIsi (xCons (xVar 0) (xCons (xC (.ty "bool")) xNil)))) (xBin mEq (xVar 0) (xVar 1))))) yNil)
  (ySeq (yIf (asB (xCall mIsi (xCons (xVar 1) (xCons (xC (.ty "str")) xNil)))) (yRet (xAnd (xCall mIsi (xCons (xVar 0) (xCons (xC (.ty "str")) xNil))) (xBin mEq (xVar 0) (xVar 1)))) yNil)
  (ySeq (yIf (asB (xBin mIs (xVar 1) (xC .non))) (yRet (xBin mIs (xVar 0) (xC .non))) yNil)
  (ySeq (ySet 2 (xAnd (xBin mEq (xCall mIsi (xCons (xVar 0) (xCons (xC (.ty "list")) xNil))) (xCall mIsi (xCons (xVar 1) (xCons (xC (.ty "list")) xNil)))) (xBin mEq (xCall mIsi (xCons (xVar 0) (xCons (xC (.ty "dict")) xNil))) (xCall mIsi (xCons (xVar 1) (xCons (xC (.ty "dict")) xNil))))))
  (yRet (xAnd (xVar 2) (xAnd (xNot (xCall mIsi (xCons (xVar 0) (xCons (xC (.ty "tuple")) xNil)))) (xBin mIs (xBin mEqA (xVar 0) (xVar 1)) (xC (.bl true))))))))))))
theorem d_law_same {P : Program} {w : World} {K : PySem.W.Frag} {mg : Str → Option Value} {base : Heap} {g : G} {k : Nat} (F : Fx P K mg g.ca) {S_law_same : List A → Mo D} (h_law_same : Cal P w K mg base g k "_law_same" 2 S_law_same) (fa : Addr) (cdv : Value) (A : Around) (outer : List Env) (s : Shared) (H : Hp) (E : XK)
    (hr : Room (k + 2) (A.deeper (envOfC "_law_same" (defScope (top 35)) s.heap.objs.size fa cdv))) :
    BV g (cxOf C8.CX0 P w K mg base ["one", "two", "alike", "k"] "_law_same" (defScope (top 35)) fa cdv A outer s H E) (defBody (top 35)) (m_law_same S_law_same) := by
  have hN : (["one", "two", "alike", "k"] : List Str).Nodup := by decide
  exact (bv_cons (sv_if (tv_val (ev_callB (cd_isi (F.isi _ rfl)) rfl F.f_isinstance rfl (av_cons (ev_var (pv 1)) (av_cons (ev_ty rfl F.f_tuple rfl) av_nil)))) (bv_cons (sv_if (WV.tv (wv_or (tv_not (tv_val (ev_callB (cd_isi (F.isi _ rfl)) rfl F.f_isinstance rfl (av_cons (ev_var (pv 0)) (av_cons (ev_ty rfl F.f_tuple rfl) av_nil))))) (wv_or1 (tv_cmp (od_ne hr.units) (ev_callB cd_len rfl F.f_len rfl (av_cons (ev_var (pv 0)) av_nil)) (ev_callB cd_len rfl F.f_len rfl (av_cons (ev_var (pv 1)) av_nil)) (nomark _))))) (bv_one (sv_ret ev_bl)) bv_nil)
  (bv_one (sv_ret (ev_callB (cd_all rfl) rfl F.f_all rfl (av_cons (ev_lc (own := [("k", 3)]) rfl hN (iv_range1 rfl F.f_range (av_cons (ev_callB cd_len rfl F.f_len rfl (av_cons (ev_var (pv 1)) av_nil)) av_nil)) (blkOk_by (by kernel_rfl)) (BlkV.of (fun s H C cl fp => (gv_name hN rfl (by first | exact .inl rfl | exact .inr rfl))) (fun s H C cl fp => tsv_nil) (fun s H C cl fp => (ev_call h_law_same hr (by omega) rfl (av_cons (ev_ix (ev_var (pv 0)) (ev_var (pv 3)) (by intro _ _; rfl)) (av_cons (ev_ix (ev_var (pv 1)) (ev_var (pv 3)) (by intro _ _; rfl)) av_nil))))) (by decide)) av_nil))))) bv_nil)
  (bv_cons (sv_if (tv_val (ev_callB (cd_isi (F.isi _ rfl)) rfl F.f_isinstance rfl (av_cons (ev_var (pv 1)) (av_cons (ev_ty rfl F.f_bool rfl) av_nil)))) (bv_one (sv_ret (ev_and (ev_callB (cd_isi (F.isi _ rfl)) rfl F.f_isinstance rfl (av_cons (ev_var (pv 0)) (av_cons (ev_ty rfl F.f_bool rfl) av_nil))) (ev_one (ev_cmp (od_eq hr.units) (ev_var (pv 0)) (ev_var (pv 1)) (nomark _)))))) bv_nil)
  (bv_cons (sv_if (tv_val (ev_callB (cd_isi (F.isi _ rfl)) rfl F.f_isinstance rfl (av_cons (ev_var (pv 1)) (av_cons (ev_ty rfl F.f_int rfl) av_nil)))) (bv_one (sv_ret (ev_and (ev_callB (cd_isi (F.isi _ rfl)) rfl F.f_isinstance rfl (av_cons (ev_var (pv 0)) (av_cons (ev_ty rfl F.f_int rfl) av_nil))) (ev_and (ev_not (ev_callB (cd_isi (F.isi _ rfl)) rfl F.f_isinstance rfl (av_cons (ev_var (pv 0)) (av_cons (ev_ty rfl F.f_bool rfl) av_nil)))) (ev_one (ev_cmp (od_eq hr.units) (ev_var (pv 0)) (ev_var (pv 1)) (nomark _))))))) bv_nil)
  (bv_cons (sv_if (tv_val (ev_callB (cd_isi (F.isi _ rfl)) rfl F.f_isinstance rfl (av_cons (ev_var (pv 1)) (av_cons (ev_ty rfl F.f_str rfl) av_nil)))) (bv_one (sv_ret (ev_and (ev_callB (cd_isi (F.isi _ rfl)) rfl F.f_isinstance rfl (av_cons (ev_var (pv 0)) (av_cons (ev_ty rfl F.f_str rfl) av_nil))) (ev_one (ev_cmp (od_eq hr.units) (ev_var (pv 0)) (ev_var (pv 1)) (nomark _)))))) bv_nil)
  (bv_cons (sv_if (tv_cmp od_is (ev_var (pv 1)) ev_non (nomark _)) (bv_one (sv_ret (ev_cmp od_is (ev_var (pv 0)) ev_non (nomark _)))) bv_nil)
  (bv_cons (sv_set hN rfl (by first | exact .inl rfl | exact .inr rfl) (ev_and (ev_cmp (od_eq hr.units) (ev_callB (cd_isi (F.isi _ rfl)) rfl F.f_isinstance rfl (av_cons (ev_var (pv 0)) (av_cons (ev_ty rfl F.f_list rfl) av_nil))) (ev_callB (cd_isi (F.isi _ rfl)) rfl F.f_isinstance rfl (av_cons (ev_var (pv 1)) (av_cons (ev_ty rfl F.f_list rfl) av_nil))) (nomark _)) (ev_one (ev_cmp (od_eq hr.units) (ev_callB (cd_isi (F.isi _ rfl)) rfl F.f_isinstance rfl (av_cons (ev_var (pv 0)) (av_cons (ev_ty rfl F.f_dict rfl) av_nil))) (ev_callB (cd_isi (F.isi _ rfl)) rfl F.f_isinstance rfl (av_cons (ev_var (pv 1)) (av_cons (ev_ty rfl F.f_dict rfl) av_nil))) (nomark _)))))
  (bv_one (sv_ret (ev_and (ev_var (pv 2)) (ev_and (ev_not (ev_callB (cd_isi (F.isi _ rfl)) rfl F.f_isinstance rfl (av_cons (ev_var (pv 0)) (av_cons (ev_ty rfl F.f_tuple rfl) av_nil)))) (ev_one (ev_cmp od_is (ev_cmp (od_eqA hr.units) (ev_var (pv 0)) (ev_var (pv 1)) (nomark _)) ev_bl (nomark _)))))))))))))
def m_law_words : Ev → Mo Out := (ySeq (ySet 0 (xC (.str "all alone apart beside burn case cut double fire game guard in joined lost near next no none of once open")))
  (ySeq (ySet 0 (xBin mAdd (xVar 0) (xC (.str " out place post posts quit rule safe set sets step take tie undo watch watched web yes"))))
  (yRet (xMt "str" mSplit (xVar 0) (xCons (xC (.str " ")) xNil)))))
theorem d_law_words {P : Program} {w : World} {K : PySem.W.Frag} {mg : Str → Option Value} {base : Heap} {g : G} {k : Nat} (F : Fx P K mg g.ca) (fa : Addr) (cdv : Value) (A : Around) (outer : List Env) (s : Shared) (H : Hp) (E : XK)
    (hr : Room (k + 2) (A.deeper (envOfC "_law_words" (defScope (top 36)) s.heap.objs.size fa cdv))) :
    BV g (cxOf C8.CX0 P w K mg base ["words"] "_law_words" (defScope (top 36)) fa cdv A outer s H E) (defBody (top 36)) (m_law_words) := by
  have hN : (["words"] : List Str).Nodup := by decide
  exact (bv_cons (sv_set hN rfl (by first | exact .inl rfl | exact .inr rfl) ev_str)
  (bv_cons (sv_set hN rfl (by first | exact .inl rfl | exact .inr rfl) (ev_op od_add (ev_var (pv 0)) ev_str))
  (bv_one (sv_ret (ev_bm PySem.F.plainAttrs_str PySem.F.slot_str_split PySem.F.type_str_split md_split (ev_var (pv 0)) (av_cons ev_str av_nil))))))
def m_law_own : Ev → Mo Out := (yRet (xMt "str" mSplit (xC (.str "let odd place web zzzzzzzz")) (xCons (xC (.str " ")) xNil)))
theorem d_law_own {P : Program} {w : World} {K : PySem.W.Frag} {mg : Str → Option Value} {base : Heap} {g : G} {k : Nat} (F : Fx P K mg g.ca) (fa : Addr) (cdv : Value) (A : Around) (outer : List Env) (s : Shared) (H : Hp) (E : XK)
    (hr : Room (k + 2) (A.deeper (envOfC "_law_own" (defScope (top 37)) s.heap.objs.size fa cdv))) :
    BV g (cxOf C8.CX0 P w K mg base [] "_law_own" (defScope (top 37)) fa cdv A outer s H E) (defBody (top 37)) (m_law_own) := by
  have hN : ([] : List Str).Nodup := by decide
  exact (bv_one (sv_ret (ev_bm PySem.F.plainAttrs_str PySem.F.slot_str_split PySem.F.type_str_split md_split ev_str (av_cons ev_str av_nil))))
def m_law_names (S_law_of : List A → Mo D) (S_law_draw : List A → Mo D) (S_law_words : List A → Mo D) (S_law_own : List A → Mo D) : Ev → Mo Out := (ySeq (yPar 2 3 (xCons (xC (.str "abcdefghijklmnopqrstuvwxyz")) (xCons (xLstM xNil) xNil)))
  (ySeq (yFor (itemsR1 (xCons (xVar 1) xNil)) (zName 4) (ySeq (yPar 5 6 (xCons (xC (.str "")) (xCons (xFn 2 S_law_of (xCons (xVar 0) (xCons (xTup (xCons (xC (.int 0)) (xCons (xC (.int 0)) (xCons (xC (.int 1)) (xCons (xC (.int 2)) (xCons (xC (.int 3)) (xCons (xC (.int 7)) xNil))))))) xNil))) xNil)))
  (ySeq (yFor (itemsR1 (xCons (xVar 6) xNil)) (zName 7) (ySet 5 (xBin mAdd (xVar 5) (xFn 2 S_law_of (xCons (xVar 0) (xCons (xVar 2) xNil))))))
  (ySeq (ySet 8 (xFn 2 S_law_draw (xCons (xVar 0) (xCons (xBin mAdd (xVar 6) (xC (.int 1))) xNil))))
  (ySeq (ySet 5 (xBin mAdd (xBin mAdd (xSlice (xVar 5) oNone (oSome (xVar 8))) (xBin mIx (xVar 2) (xVar 4))) (xSlice (xVar 5) (oSome (xVar 8)) oNone)))
  (yDrop (xMt "list" mAppend (xVar 3) (xCons (xIf (xOrB (asB (xBin mIn (xVar 5) (xVar 3))) (xOrB (asB (xBin mIn (xVar 5) (xFn 0 S_law_words xNil))) (asB (xBin mIn (xVar 5) (xFn 0 S_law_own xNil))))) (xBin (lift2 dRepS) (xBin mIx (xVar 2) (xVar 4)) (xC (.int 8))) (xVar 5)) xNil))))))))
  (yRet (xCall (liftL dTuple) (xCons (xCall (liftL dSorted) (xCons (xVar 3) xNil)) xNil)))))
theorem d_law_names {P : Program} {w : World} {K : PySem.W.Frag} {mg : Str → Option Value} {base : Heap} {g : G} {k : Nat} (F : Fx P K mg g.ca) {S_law_of : List A → Mo D} {S_law_draw : List A → Mo D} {S_law_words : List A → Mo D} {S_law_own : List A → Mo D} (h_law_of : Cal P w K mg base g k "_law_of" 2 S_law_of) (h_law_draw : Cal P w K mg base g k "_law_draw" 2 S_law_draw) (h_law_words : Cal P w K mg base g k "_law_words" 0 S_law_words) (h_law_own : Cal P w K mg base g k "_law_own" 0 S_law_own) (fa : Addr) (cdv : Value) (A : Around) (outer : List Env) (s : Shared) (H : Hp) (E : XK)
    (hr : Room (k + 2) (A.deeper (envOfC "_law_names" (defScope (top 38)) s.heap.objs.size fa cdv))) :
    BV g (cxOf C8.CX0 P w K mg base ["well", "many", "letters", "found", "turn", "name", "size", "lap", "at"] "_law_names" (defScope (top 38)) fa cdv A outer s H E) (defBody (top 38)) (m_law_names S_law_of S_law_draw S_law_words S_law_own) := by
  have hN : (["well", "many", "letters", "found", "turn", "name", "size", "lap", "at"] : List Str).Nodup := by decide
  exact (bv_cons (sv_par rfl hN rfl rfl (by decide) rfl rfl (av_cons ev_str (av_cons (ev_lstM av_nil) av_nil)))
  (bv_cons (sv_for (passes_of rfl) rfl (iv_range1 rfl F.f_range (av_cons (ev_var (pv 1)) av_nil)) (gv_name hN rfl (by first | exact .inl rfl | exact .inr rfl)) (bv_cons (sv_par rfl hN rfl rfl (by decide) rfl rfl (av_cons ev_str (av_cons (ev_call h_law_of hr (by omega) rfl (av_cons (ev_var (pv 0)) (av_cons (ev_tup (av_cons ev_int (av_cons ev_int (av_cons ev_int (av_cons ev_int (av_cons ev_int (av_cons ev_int av_nil))))))) av_nil))) av_nil)))
  (bv_cons (sv_for (passes_of rfl) rfl (iv_range1 rfl F.f_range (av_cons (ev_var (pv 6)) av_nil)) (gv_name hN rfl (by first | exact .inl rfl | exact .inr rfl)) (bv_one (sv_set hN rfl (by first | exact .inl rfl | exact .inr rfl) (ev_op od_add (ev_var (pv 5)) (ev_call h_law_of hr (by omega) rfl (av_cons (ev_var (pv 0)) (av_cons (ev_var (pv 2)) av_nil)))))))
  (bv_cons (sv_set hN rfl (by first | exact .inl rfl | exact .inr rfl) (ev_call h_law_draw hr (by omega) rfl (av_cons (ev_var (pv 0)) (av_cons (ev_op od_add (ev_var (pv 6)) ev_int) av_nil))))
  (bv_cons (sv_set hN rfl (by first | exact .inl rfl | exact .inr rfl) (ev_op od_add (ev_op od_add (ev_slice (ev_var (pv 5)) ov_none (ov_some (ev_var (pv 8)))) (ev_ix (ev_var (pv 2)) (ev_var (pv 4)) (by intro _ _; rfl))) (ev_slice (ev_var (pv 5)) (ov_some (ev_var (pv 8))) ov_none)))
  (bv_one (sv_drop (ev_bm PySem.F.plainAttrs_list PySem.F.slot_list_append PySem.F.type_list_append md_append (ev_var (pv 3)) (av_cons (ev_if (WV.tv (wv_or (tv_cmp od_in (ev_var (pv 5)) (ev_var (pv 3)) (by with_unfolding_all rfl)) (wv_or (tv_cmp od_in (ev_var (pv 5)) (ev_call0 h_law_words hr (by omega) rfl) (by with_unfolding_all rfl)) (wv_or1 (tv_cmp od_in (ev_var (pv 5)) (ev_call0 h_law_own hr (by omega) rfl) (by with_unfolding_all rfl)))))) (ev_op od_repS (ev_ix (ev_var (pv 2)) (ev_var (pv 4)) (by intro _ _; rfl)) ev_int) (ev_var (pv 5))) av_nil)))))))))
  (bv_one (sv_ret (ev_callTy cd_tuple rfl F.f_tuple rfl (av_cons (ev_callB (cd_sorted hr) rfl F.f_sorted rfl (av_cons (ev_var (pv 3)) av_nil)) av_nil))))))
def m_law_kept_by (lam : Ev → Mo (Rs D)) : Ev → Mo Out := (unS (zSeq (zTry xE_WatchError 1 (zDrop lam) (ySeq (yIf (xOrB (asB (xBin mEq (xEi xTb 1 (xC (.cls "UnknownPlace"))) (xEi xTb 1 (xC (.cls "NotAWeb"))))) (xNotB (asB (xEi xTb 1 (xC (.ty "ValueError")))))) (yRet (xTup (xCons (xC (.str "odd")) (xCons (xC .non) xNil)))) yNil)
  (yRet (xTup (xCons (xIf (asB (xEi xTb 1 (xC (.cls "UnknownPlace")))) (xC (.str "place")) (xC (.str "web"))) (xCons (xEf xL_given 1 "given") xNil))))))
  (zLift (yRet (xTup (xCons (xC (.str "let")) (xCons (xC .non) xNil)))))))
theorem d_law_kept_by {P : Program} {w : World} {K : PySem.W.Frag} {mg : Str → Option Value} {base : Heap} {g : G} {k : Nat} (F : Fx P K mg g.ca) (fa : Addr) (cdv : Value) (A : Around) (outer : List Env) (s : Shared) (H : Hp)
    (hr : Room (k) (A.deeper (envOfC "_law_kept_by" (defScope (top 39)) s.heap.objs.size fa cdv))) (lam : Ev → Mo (Rs D)) (hlam : ∀ (W : WX) (pn : List (Addr × Obj)) (xe : Value → Shared → Prop) (p1 p2 : Pos), Takes (Cx.tr (cxOf C8.CX0 P w K mg base ["act", "e"] "_law_kept_by" (defScope (top 39)) fa cdv A outer s H C8.E0) pn xe) W → EX g (Cx.tr (cxOf C8.CX0 P w K mg base ["act", "e"] "_law_kept_by" (defScope (top 39)) fa cdv A outer s H C8.E0) pn xe) W (.Call (.Name "act" p1) [] [] p2) lam) :
    BV g (cxOf C8.CX0 P w K mg base ["act", "e"] "_law_kept_by" (defScope (top 39)) fa cdv A outer s H C8.E0) (defBody (top 39)) (m_law_kept_by lam) := by
  have hN : (["act", "e"] : List Str).Nodup := by decide
  exact (bv_ofX (bx_cons (sx_try_as (i := 1) rfl rfl hN rfl rfl ⟨rfl, by decide, .inl F.g_WatchError⟩ takes0 F.xe_WatchError (fun W pn xe tk hp => (bx_one (sx_drop (hlam _ _ _ _ _ tk)))) (fun a oe cls d pn hz hfl => (bv_cons (sv_if (WV.tv (wv_or (tv_cmp (od_eq hr.units) (ev_isE (F.xTb g rfl) hz hfl (pv 1) (ev_cls rfl F.g_UnknownPlace) rfl F.f_isinstance) (ev_isE (F.xTb g rfl) hz hfl (pv 1) (ev_cls rfl F.g_NotAWeb) rfl F.f_isinstance) (nomark _)) (wv_or1 (tv_not (tv_val (ev_isE (F.xTb g rfl) hz hfl (pv 1) (ev_ty rfl F.f_ValueError rfl) rfl F.f_isinstance)))))) (bv_one (sv_ret (ev_tup (av_cons ev_str (av_cons ev_non av_nil))))) bv_nil)
  (bv_one (sv_ret (ev_tup (av_cons (ev_if (tv_val (ev_isE (F.xTb g rfl) hz hfl (pv 1) (ev_cls rfl F.g_UnknownPlace) rfl F.f_isinstance)) ev_str ev_str) (av_cons (ev_xf F.xL_given hz hfl (pv 1)) av_nil))))))))
  (bx_one (sx_lift (sv_ret (ev_tup (av_cons ev_str (av_cons ev_non av_nil))))))))
def m_law_right (S_law_names : List A → Mo D) (S_law_draw : List A → Mo D) (S_Web_ddinitdd : List A → Mo D) (S_Web_parts : List A → Mo D) (S_law_same : List A → Mo D) (S_Book_ddinitdd : List A → Mo (Rs D)) (S_Book_post : List A → Mo (Rs D)) (S_Book_take : List A → Mo (Rs D)) (S_Book_step : List A → Mo (Rs D)) (S_Book_tie : List A → Mo (Rs D)) (S_Book_cut : List A → Mo (Rs D)) (S_Book_web : List A → Mo D) (S_Book_posts : List A → Mo D) : Ev → Mo Out := (ySeq (ySet 1 (xFn 2 S_law_names (xCons (xVar 0) (xCons (xBin mAdd (xC (.int 3)) (xFn 2 S_law_draw (xCons (xVar 0) (xCons (xC (.int 5)) xNil)))) xNil))))
  (ySeq (ySet 2 (xMake "Web" 2 S_Web_ddinitdd (xCons (xVar 1) (xCons (xTup (xCons (xTup (xCons (xBin mIx (xVar 1) (xC (.int 0))) (xCons (xBin mIx (xVar 1) (xC (.int 1))) xNil))) xNil)) xNil))))
  (ySeq (yFor (itemsT (xTup (xCons (xC .non) (xCons (xProp "Web" S_Web_parts (xVar 2)) (xCons (xC (.int 5)) (xCons (xC (.str "web")) (xCons (xTup xNil) (xCons (xLst (xCons (xVar 2) xNil)) xNil)))))))) (zName 3) (yIf (xNotB (asB (xFn 2 S_law_same (xCons (xTup (xCons (xLam0 [3] (runF 2 (m_law_kept_by (vAct 0 10 [3] (vMake "Book" 1 S_Book_ddinitdd (vLift (xCons (xVar 3) xNil))))))) (xCons (xLam0 [3] (runF 2 (m_law_kept_by (vAct 0 10 [3] (vKw 1 [0] (mkMx "Book" 1 S_Book_ddinitdd) (xCons (xVar 3) xNil)))))) xNil))) (xCons (xBin (lift2 dRepT) (xTup (xCons (xTup (xCons (xC (.str "web")) (xCons (xVar 3) xNil))) xNil)) (xC (.int 2))) xNil))))) (yRet (xC (.bl false))) yNil))
  (ySeq (ySet 4 (unX (vMake "Book" 1 S_Book_ddinitdd (vLift (xCons (xVar 2) xNil)))))
  (ySeq (yDrop (unX (vMt "Book" "post" 1 S_Book_post (xVar 4) (vLift (xCons (xBin mIx (xVar 1) (xC (.int 0))) xNil)))))
  (ySeq (yAsg (xSlice (xVar 1) oNone (oSome (xC (.int 3)))) (zTup (zCons (zName 5) (zCons (zName 6) (zCons (zName 7) zNil)))))
  (ySeq (yFor (itemsT (xTup (xCons (xC .non) (xCons (xC (.str "zzzzzzzz")) (xCons (xC (.str "")) (xCons (xC (.int 5)) (xCons (xTup (xCons (xVar 5) xNil)) (xCons (xC (.bl true)) (xCons (xVar 1) xNil))))))))) (zName 3) (ySeq (ySet 8 (xTup (xCons (xLam0 [3, 4] (runF 2 (m_law_kept_by (vAct 0 10 [3, 4] (vMt "Book" "post" 1 S_Book_post (xVar 4) (vLift (xCons (xVar 3) xNil))))))) (xCons (xLam0 [3, 4] (runF 2 (m_law_kept_by (vAct 0 10 [3, 4] (vMt "Book" "take" 1 S_Book_take (xVar 4) (vLift (xCons (xVar 3) xNil))))))) (xCons (xLam0 [3, 4] (runF 2 (m_law_kept_by (vAct 0 10 [3, 4] (vMt "Book" "step" 2 S_Book_step (xVar 4) (vLift (xCons (xVar 3) (xCons (xC .non) xNil)))))))) xNil)))))
  (ySeq (ySet 8 (xBin mAdd (xVar 8) (xTup (xCons (xLam0 [3, 4] (runF 2 (m_law_kept_by (vAct 0 10 [3, 4] (vMt "Book" "tie" 2 S_Book_tie (xVar 4) (vLift (xCons (xVar 3) (xCons (xC .non) xNil)))))))) (xCons (xLam0 [3, 4] (runF 2 (m_law_kept_by (vAct 0 10 [3, 4] (vMt "Book" "cut" 2 S_Book_cut (xVar 4) (vLift (xCons (xVar 3) (xCons (xC .non) xNil)))))))) (xCons (xLam0 [5, 3, 4] (runF 2 (m_law_kept_by (vAct 0 10 [5, 3, 4] (vMt "Book" "tie" 2 S_Book_tie (xVar 4) (vLift (xCons (xVar 5) (xCons (xVar 3) xNil)))))))) xNil))))))
  (ySeq (ySet 8 (xBin mAdd (xVar 8) (xTup (xCons (xLam0 [4, 3, 5] (runF 2 (m_law_kept_by (vAct 0 10 [4, 3, 5] (vMtK "Book" "cut" 2 [1, 0] (fun as => if as.length = 2 + 1 then S_Book_cut as else Mo.fail) (xVar 4) (xCons (xVar 3) (xCons (xVar 5) xNil))))))) (xCons (xLam0 [5, 3, 4] (runF 2 (m_law_kept_by (vAct 0 10 [5, 3, 4] (vMt "Book" "step" 2 S_Book_step (xVar 4) (vLift (xCons (xVar 5) (xCons (xVar 3) xNil)))))))) xNil)))))
  (yIf (xNotB (asB (xFn 2 S_law_same (xCons (xVar 8) (xCons (xBin (lift2 dRepT) (xTup (xCons (xTup (xCons (xC (.str "place")) (xCons (xVar 3) xNil))) xNil)) (xC (.int 8))) xNil))))) (yRet (xC (.bl false))) yNil)))))
  (ySeq (ySet 8 (xTup (xCons (xLam0 [6, 4] (runF 2 (m_law_kept_by (vAct 0 10 [6, 4] (vMt "Book" "take" 1 S_Book_take (xVar 4) (vLift (xCons (xVar 6) xNil))))))) (xCons (xLam0 [6, 5, 4] (runF 2 (m_law_kept_by (vAct 0 10 [6, 5, 4] (vMt "Book" "step" 2 S_Book_step (xVar 4) (vLift (xCons (xVar 6) (xCons (xVar 5) xNil)))))))) (xCons (xLam0 [5, 7, 4] (runF 2 (m_law_kept_by (vAct 0 10 [5, 7, 4] (vMt "Book" "step" 2 S_Book_step (xVar 4) (vLift (xCons (xVar 5) (xCons (xVar 7) xNil)))))))) xNil)))))
  (ySeq (ySet 8 (xBin mAdd (xVar 8) (xTup (xCons (xLam0 [5, 4] (runF 2 (m_law_kept_by (vAct 0 10 [5, 4] (vMt "Book" "step" 2 S_Book_step (xVar 4) (vLift (xCons (xVar 5) (xCons (xVar 5) xNil)))))))) (xCons (xLam0 [5, 6, 4] (runF 2 (m_law_kept_by (vAct 0 10 [5, 6, 4] (vMt "Book" "tie" 2 S_Book_tie (xVar 4) (vLift (xCons (xVar 5) (xCons (xVar 6) xNil)))))))) (xCons (xLam0 [6, 5, 4] (runF 2 (m_law_kept_by (vAct 0 10 [6, 5, 4] (vMt "Book" "tie" 2 S_Book_tie (xVar 4) (vLift (xCons (xVar 6) (xCons (xVar 5) xNil)))))))) xNil))))))
  (ySeq (ySet 8 (xBin mAdd (xVar 8) (xTup (xCons (xLam0 [5, 4] (runF 2 (m_law_kept_by (vAct 0 10 [5, 4] (vMt "Book" "tie" 2 S_Book_tie (xVar 4) (vLift (xCons (xVar 5) (xCons (xVar 5) xNil)))))))) (xCons (xLam0 [5, 7, 4] (runF 2 (m_law_kept_by (vAct 0 10 [5, 7, 4] (vMt "Book" "cut" 2 S_Book_cut (xVar 4) (vLift (xCons (xVar 5) (xCons (xVar 7) xNil)))))))) (xCons (xLam0 [6, 4] (runF 2 (m_law_kept_by (vAct 0 10 [6, 4] (vMt "Book" "cut" 2 S_Book_cut (xVar 4) (vLift (xCons (xVar 6) (xCons (xVar 6) xNil)))))))) xNil))))))
  (ySeq (ySet 9 (xTup (xCons (xTup (xCons (xC (.str "place")) (xCons (xVar 6) xNil))) (xCons (xTup (xCons (xC (.str "place")) (xCons (xVar 6) xNil))) (xCons (xTup (xCons (xC (.str "place")) (xCons (xVar 7) xNil))) (xCons (xTup (xCons (xC (.str "place")) (xCons (xVar 5) xNil))) (xCons (xTup (xCons (xC (.str "place")) (xCons (xVar 6) xNil))) (xCons (xTup (xCons (xC (.str "place")) (xCons (xVar 5) xNil))) (xCons (xTup (xCons (xC (.str "place")) (xCons (xVar 5) xNil))) (xCons (xTup (xCons (xC (.str "place")) (xCons (xVar 7) xNil))) (xCons (xTup (xCons (xC (.str "place")) (xCons (xVar 6) xNil))) xNil)))))))))))
  (ySeq (yIf (xOrB (xNotB (asB (xFn 2 S_law_same (xCons (xVar 8) (xCons (xVar 9) xNil))))) (xNotB (asB (xFn 2 S_law_same (xCons (xTup (xCons (xProp "Web" S_Web_parts (xProp "Book" S_Book_web (xVar 4))) (xCons (xProp "Book" S_Book_posts (xVar 4)) xNil))) (xCons (xTup (xCons (xProp "Web" S_Web_parts (xVar 2)) (xCons (xTup (xCons (xVar 5) xNil)) xNil))) xNil)))))) (yRet (xC (.bl false))) yNil)
  (ySeq (yDrop (unX (vMt "Book" "post" 1 S_Book_post (xVar 4) (vLift (xCons (xVar 6) xNil)))))
  (yRet (xFn 2 S_law_same (xCons (xTup (xCons (xLam0 [5, 6, 4] (runF 2 (m_law_kept_by (vAct 0 10 [5, 6, 4] (vMt "Book" "step" 2 S_Book_step (xVar 4) (vLift (xCons (xVar 5) (xCons (xVar 6) xNil)))))))) (xCons (xLam0 [4, 6, 5] (runF 2 (m_law_kept_by (vAct 0 10 [4, 6, 5] (vMtK "Book" "step" 2 [0, 1] (fun as => if as.length = 2 + 1 then S_Book_step as else Mo.fail) (xVar 4) (xCons (xVar 6) (xCons (xVar 5) xNil))))))) (xCons (xProp "Book" S_Book_posts (xVar 4)) xNil)))) (xCons (xTup (xCons (xTup (xCons (xC (.str "place")) (xCons (xVar 6) xNil))) (xCons (xTup (xCons (xC (.str "place")) (xCons (xVar 5) xNil))) (xCons (xTup (xCons (xVar 5) (xCons (xVar 6) xNil))) xNil)))) xNil)))))))))))))))))
theorem d_law_right {P : Program} {w : World} {K : PySem.W.Frag} {mg : Str → Option Value} {base : Heap} {g : G} {k : Nat} (F : Fx P K mg g.ca) {S_law_names : List A → Mo D} {S_law_draw : List A → Mo D} {S_Web_ddinitdd : List A → Mo D} {S_Web_parts : List A → Mo D} {S_law_same : List A → Mo D} {S_Book_ddinitdd : List A → Mo (Rs D)} {S_Book_post : List A → Mo (Rs D)} {S_Book_take : List A → Mo (Rs D)} {S_Book_step : List A → Mo (Rs D)} {S_Book_tie : List A → Mo (Rs D)} {S_Book_cut : List A → Mo (Rs D)} {S_Book_web : List A → Mo D} {S_Book_posts : List A → Mo D} (h_law_names : Cal P w K mg base g k "_law_names" 2 S_law_names) (h_law_draw : Cal P w K mg base g k "_law_draw" 2 S_law_draw) (h_law_same : Cal P w K mg base g k "_law_same" 2 S_law_same) (k_Web : MakC P w K mg base g k "Web" "Web" 2 S_Web_ddinitdd) (p_Web_parts : PropC P w K mg base g k "Web" "parts" S_Web_parts) (k_Book : MakX P w K mg base g k "Book" "Book" 1 S_Book_ddinitdd [(["web"], [0])]) (x_Book_post : MetX P w K mg base g k "Book" "post" 1 S_Book_post []) (x_Book_take : MetX P w K mg base g k "Book" "take" 1 S_Book_take []) (x_Book_step : MetX P w K mg base g k "Book" "step" 2 S_Book_step [(["place", "other"], [0, 1])]) (x_Book_tie : MetX P w K mg base g k "Book" "tie" 2 S_Book_tie []) (x_Book_cut : MetX P w K mg base g k "Book" "cut" 2 S_Book_cut [(["other", "place"], [1, 0])]) (p_Book_web : PropC P w K mg base g k "Book" "web" S_Book_web) (p_Book_posts : PropC P w K mg base g k "Book" "posts" S_Book_posts) {fdg : FuncData} {ag c Pt : Addr} {nm : Nat → Nat → Str} (fg_law_kept_by : FunD K "_law_kept_by" "_law_kept_by" (defArgs (top 39)) (defBody (top 39)) (defScope (top 39)) [] [] ag fdg) (hg_law_kept_by : mg "_law_kept_by" = some (.ref ag)) (TB : TabB base mg c Pt) (hmT : (Pt, nm) ∈ g.T) (hnm : ∀ p : Pos, nm p.line p.col = "_law_right.<locals>.<lambda>") (hu : ∀ p ∈ g.T, p.1 = Pt → p.2 = nm) (fa : Addr)  (A : Around) (outer : List Env) (s : Shared) (H : Hp) (E : XK)
    (hr : Room (k + 4) (A.deeper (envOfC "_law_right" (defScope (top 40)) s.heap.objs.size fa (.ref c)))) :
    BV g (cxOf C8.CX0 P w K mg base ["well", "places", "web", "odd", "book", "one", "two", "three", "told", "due"] "_law_right" (defScope (top 40)) fa (.ref c) A outer s H E) (defBody (top 40)) (m_law_right S_law_names S_law_draw S_Web_ddinitdd S_Web_parts S_law_same S_Book_ddinitdd S_Book_post S_Book_take S_Book_step S_Book_tie S_Book_cut S_Book_web S_Book_posts) := by
  have hN : (["well", "places", "web", "odd", "book", "one", "two", "three", "told", "due"] : List Str).Nodup := by decide
  exact (bv_cons (sv_set hN rfl (by first | exact .inl rfl | exact .inr rfl) (ev_call h_law_names hr (by omega) rfl (av_cons (ev_var (pv 0)) (av_cons (ev_op od_add ev_int (ev_call h_law_draw hr (by omega) rfl (av_cons (ev_var (pv 0)) (av_cons ev_int av_nil)))) av_nil))))
  (bv_cons (sv_set hN rfl (by first | exact .inl rfl | exact .inr rfl) (ev_make k_Web hr (by omega) rfl (av_cons (ev_var (pv 1)) (av_cons (ev_tup (av_cons (ev_tup (av_cons (ev_ix (ev_var (pv 1)) ev_int (by intro _ _; rfl)) (av_cons (ev_ix (ev_var (pv 1)) ev_int (by intro _ _; rfl)) av_nil))) av_nil)) av_nil))))
  (bv_cons (sv_for (passes_of rfl) rfl (iv_tup (ev_tup (av_cons ev_non (av_cons (ev_prop p_Web_parts hr (by omega) (ev_var (pv 2))) (av_cons ev_int (av_cons ev_str (av_cons (ev_tup av_nil) (av_cons (ev_lst (av_cons (ev_var (pv 2)) av_nil)) av_nil)))))))) (gv_name hN rfl (by first | exact .inl rfl | exact .inr rfl)) (bv_one (sv_if (tv_not (tv_val (ev_call h_law_same hr (by omega) rfl (av_cons (ev_tup (av_cons (ev_lam0 (k := k + 2) (js := [3]) (Ng := ["act", "e"]) (a := "act") fg_law_kept_by hg_law_kept_by (by kernel_rfl) (fun kV doc pm an cdv ct => len1 fun _ => rfl) rfl (hr.mono (by omega)) rfl TB rfl hmT (hnm _) hu (by kernel_rfl) rfl (fun q cl pm cv ctv => rfl) (fun E A outer s H f c' hr => (ex_mk k_Book hr (by omega) takesL rfl (ax_lift (av_cons (ev_var (pv 3)) av_nil)))) rfl (by first | exact .inl rfl | exact .inr (.inl rfl)) (fun clo cloK cdg s H hr hlam => d_law_kept_by (k := k) (g := ⟨g.ca, g.T, clo, cloK⟩) F _ _ _ _ _ _ (hr.mono (by omega)) _ hlam)) (av_cons (ev_lam0 (k := k + 2) (js := [3]) (Ng := ["act", "e"]) (a := "act") fg_law_kept_by hg_law_kept_by (by kernel_rfl) (fun kV doc pm an cdv ct => len1 fun _ => rfl) rfl (hr.mono (by omega)) rfl TB rfl hmT (hnm _) hu (by kernel_rfl) rfl (fun q cl pm cv ctv => rfl) (fun E A outer s H f c' hr => (ex_mkK (ks := ["web"]) (is := [0]) k_Book (List.mem_of_getElem? (i := 0) rfl) hr (by omega) takesL rfl (kv_cons (ev_var (pv 3)) kv_nil))) rfl (by first | exact .inl rfl | exact .inr (.inl rfl)) (fun clo cloK cdg s H hr hlam => d_law_kept_by (k := k) (g := ⟨g.ca, g.T, clo, cloK⟩) F _ _ _ _ _ _ (hr.mono (by omega)) _ hlam)) av_nil))) (av_cons (ev_op od_repT (ev_tup (av_cons (ev_tup (av_cons ev_str (av_cons (ev_var (pv 3)) av_nil))) av_nil)) ev_int) av_nil))))) (bv_one (sv_ret ev_bl)) bv_nil)))
  (bv_cons (sv_set hN rfl (by first | exact .inl rfl | exact .inr rfl) (ev_ofX (ex_mk k_Book hr (by omega) takes0 rfl (ax_lift (av_cons (ev_var (pv 2)) av_nil)))))
  (bv_cons (sv_drop (ev_ofX (ex_mt x_Book_post hr (by omega) takes0 (ev_var (pv 4)) (ax_lift (av_cons (ev_ix (ev_var (pv 1)) ev_int (by intro _ _; rfl)) av_nil)))))
  (bv_cons (sv_asg (ev_slice (ev_var (pv 1)) ov_none (ov_some ev_int)) (gv_tup rfl (gsv_cons (gv_name hN rfl (by first | exact .inl rfl | exact .inr rfl)) (gsv_cons (gv_name hN rfl (by first | exact .inl rfl | exact .inr rfl)) (gsv_cons (gv_name hN rfl (by first | exact .inl rfl | exact .inr rfl)) gsv_nil)))))
  (bv_cons (sv_for (passes_of rfl) rfl (iv_tup (ev_tup (av_cons ev_non (av_cons ev_str (av_cons ev_str (av_cons ev_int (av_cons (ev_tup (av_cons (ev_var (pv 5)) av_nil)) (av_cons ev_bl (av_cons (ev_var (pv 1)) av_nil))))))))) (gv_name hN rfl (by first | exact .inl rfl | exact .inr rfl)) (bv_cons (sv_set hN rfl (by first | exact .inl rfl | exact .inr rfl) (ev_tup (av_cons (ev_lam0 (k := k + 2) (js := [3, 4]) (Ng := ["act", "e"]) (a := "act") fg_law_kept_by hg_law_kept_by (by kernel_rfl) (fun kV doc pm an cdv ct => len1 fun _ => rfl) rfl (hr.mono (by omega)) rfl TB rfl hmT (hnm _) hu (by kernel_rfl) rfl (fun q cl pm cv ctv => rfl) (fun E A outer s H f c' hr => (ex_mt x_Book_post hr (by omega) takesL (ev_var (pv 4)) (ax_lift (av_cons (ev_var (pv 3)) av_nil)))) rfl (by first | exact .inl rfl | exact .inr (.inl rfl)) (fun clo cloK cdg s H hr hlam => d_law_kept_by (k := k) (g := ⟨g.ca, g.T, clo, cloK⟩) F _ _ _ _ _ _ (hr.mono (by omega)) _ hlam)) (av_cons (ev_lam0 (k := k + 2) (js := [3, 4]) (Ng := ["act", "e"]) (a := "act") fg_law_kept_by hg_law_kept_by (by kernel_rfl) (fun kV doc pm an cdv ct => len1 fun _ => rfl) rfl (hr.mono (by omega)) rfl TB rfl hmT (hnm _) hu (by kernel_rfl) rfl (fun q cl pm cv ctv => rfl) (fun E A outer s H f c' hr => (ex_mt x_Book_take hr (by omega) takesL (ev_var (pv 4)) (ax_lift (av_cons (ev_var (pv 3)) av_nil)))) rfl (by first | exact .inl rfl | exact .inr (.inl rfl)) (fun clo cloK cdg s H hr hlam => d_law_kept_by (k := k) (g := ⟨g.ca, g.T, clo, cloK⟩) F _ _ _ _ _ _ (hr.mono (by omega)) _ hlam)) (av_cons (ev_lam0 (k := k + 2) (js := [3, 4]) (Ng := ["act", "e"]) (a := "act") fg_law_kept_by hg_law_kept_by (by kernel_rfl) (fun kV doc pm an cdv ct => len1 fun _ => rfl) rfl (hr.mono (by omega)) rfl TB rfl hmT (hnm _) hu (by kernel_rfl) rfl (fun q cl pm cv ctv => rfl) (fun E A outer s H f c' hr => (ex_mt x_Book_step hr (by omega) takesL (ev_var (pv 4)) (ax_lift (av_cons (ev_var (pv 3)) (av_cons ev_non av_nil))))) rfl (by first | exact .inl rfl | exact .inr (.inl rfl)) (fun clo cloK cdg s H hr hlam => d_law_kept_by (k := k) (g := ⟨g.ca, g.T, clo, cloK⟩) F _ _ _ _ _ _ (hr.mono (by omega)) _ hlam)) av_nil)))))
  (bv_cons (sv_set hN rfl (by first | exact .inl rfl | exact .inr rfl) (ev_op od_add (ev_var (pv 8)) (ev_tup (av_cons (ev_lam0 (k := k + 2) (js := [3, 4]) (Ng := ["act", "e"]) (a := "act") fg_law_kept_by hg_law_kept_by (by kernel_rfl) (fun kV doc pm an cdv ct => len1 fun _ => rfl) rfl (hr.mono (by omega)) rfl TB rfl hmT (hnm _) hu (by kernel_rfl) rfl (fun q cl pm cv ctv => rfl) (fun E A outer s H f c' hr => (ex_mt x_Book_tie hr (by omega) takesL (ev_var (pv 4)) (ax_lift (av_cons (ev_var (pv 3)) (av_cons ev_non av_nil))))) rfl (by first | exact .inl rfl | exact .inr (.inl rfl)) (fun clo cloK cdg s H hr hlam => d_law_kept_by (k := k) (g := ⟨g.ca, g.T, clo, cloK⟩) F _ _ _ _ _ _ (hr.mono (by omega)) _ hlam)) (av_cons (ev_lam0 (k := k + 2) (js := [3, 4]) (Ng := ["act", "e"]) (a := "act") fg_law_kept_by hg_law_kept_by (by kernel_rfl) (fun kV doc pm an cdv ct => len1 fun _ => rfl) rfl (hr.mono (by omega)) rfl TB rfl hmT (hnm _) hu (by kernel_rfl) rfl (fun q cl pm cv ctv => rfl) (fun E A outer s H f c' hr => (ex_mt x_Book_cut hr (by omega) takesL (ev_var (pv 4)) (ax_lift (av_cons (ev_var (pv 3)) (av_cons ev_non av_nil))))) rfl (by first | exact .inl rfl | exact .inr (.inl rfl)) (fun clo cloK cdg s H hr hlam => d_law_kept_by (k := k) (g := ⟨g.ca, g.T, clo, cloK⟩) F _ _ _ _ _ _ (hr.mono (by omega)) _ hlam)) (av_cons (ev_lam0 (k := k + 2) (js := [5, 3, 4]) (Ng := ["act", "e"]) (a := "act") fg_law_kept_by hg_law_kept_by (by kernel_rfl) (fun kV doc pm an cdv ct => len1 fun _ => rfl) rfl (hr.mono (by omega)) rfl TB rfl hmT (hnm _) hu (by kernel_rfl) rfl (fun q cl pm cv ctv => rfl) (fun E A outer s H f c' hr => (ex_mt x_Book_tie hr (by omega) takesL (ev_var (pv 4)) (ax_lift (av_cons (ev_var (pv 5)) (av_cons (ev_var (pv 3)) av_nil))))) rfl (by first | exact .inl rfl | exact .inr (.inl rfl)) (fun clo cloK cdg s H hr hlam => d_law_kept_by (k := k) (g := ⟨g.ca, g.T, clo, cloK⟩) F _ _ _ _ _ _ (hr.mono (by omega)) _ hlam)) av_nil))))))
  (bv_cons (sv_set hN rfl (by first | exact .inl rfl | exact .inr rfl) (ev_op od_add (ev_var (pv 8)) (ev_tup (av_cons (ev_lam0 (k := k + 2) (js := [4, 3, 5]) (Ng := ["act", "e"]) (a := "act") fg_law_kept_by hg_law_kept_by (by kernel_rfl) (fun kV doc pm an cdv ct => len1 fun _ => rfl) rfl (hr.mono (by omega)) rfl TB rfl hmT (hnm _) hu (by kernel_rfl) rfl (fun q cl pm cv ctv => rfl) (fun E A outer s H f c' hr => (ex_mtK (ks := ["other", "place"]) (is := [1, 0]) x_Book_cut (List.mem_of_getElem? (i := 0) rfl) rfl hr (by omega) takesL (ev_var (pv 4)) (kv_cons (ev_var (pv 3)) (kv_cons (ev_var (pv 5)) kv_nil)))) rfl (by first | exact .inl rfl | exact .inr (.inl rfl)) (fun clo cloK cdg s H hr hlam => d_law_kept_by (k := k) (g := ⟨g.ca, g.T, clo, cloK⟩) F _ _ _ _ _ _ (hr.mono (by omega)) _ hlam)) (av_cons (ev_lam0 (k := k + 2) (js := [5, 3, 4]) (Ng := ["act", "e"]) (a := "act") fg_law_kept_by hg_law_kept_by (by kernel_rfl) (fun kV doc pm an cdv ct => len1 fun _ => rfl) rfl (hr.mono (by omega)) rfl TB rfl hmT (hnm _) hu (by kernel_rfl) rfl (fun q cl pm cv ctv => rfl) (fun E A outer s H f c' hr => (ex_mt x_Book_step hr (by omega) takesL (ev_var (pv 4)) (ax_lift (av_cons (ev_var (pv 5)) (av_cons (ev_var (pv 3)) av_nil))))) rfl (by first | exact .inl rfl | exact .inr (.inl rfl)) (fun clo cloK cdg s H hr hlam => d_law_kept_by (k := k) (g := ⟨g.ca, g.T, clo, cloK⟩) F _ _ _ _ _ _ (hr.mono (by omega)) _ hlam)) av_nil)))))
  (bv_one (sv_if (tv_not (tv_val (ev_call h_law_same hr (by omega) rfl (av_cons (ev_var (pv 8)) (av_cons (ev_op od_repT (ev_tup (av_cons (ev_tup (av_cons ev_str (av_cons (ev_var (pv 3)) av_nil))) av_nil)) ev_int) av_nil))))) (bv_one (sv_ret ev_bl)) bv_nil))))))
  (bv_cons (sv_set hN rfl (by first | exact .inl rfl | exact .inr rfl) (ev_tup (av_cons (ev_lam0 (k := k + 2) (js := [6, 4]) (Ng := ["act", "e"]) (a := "act") fg_law_kept_by hg_law_kept_by (by kernel_rfl) (fun kV doc pm an cdv ct => len1 fun _ => rfl) rfl (hr.mono (by omega)) rfl TB rfl hmT (hnm _) hu (by kernel_rfl) rfl (fun q cl pm cv ctv => rfl) (fun E A outer s H f c' hr => (ex_mt x_Book_take hr (by omega) takesL (ev_var (pv 4)) (ax_lift (av_cons (ev_var (pv 6)) av_nil)))) rfl (by first | exact .inl rfl | exact .inr (.inl rfl)) (fun clo cloK cdg s H hr hlam => d_law_kept_by (k := k) (g := ⟨g.ca, g.T, clo, cloK⟩) F _ _ _ _ _ _ (hr.mono (by omega)) _ hlam)) (av_cons (ev_lam0 (k := k + 2) (js := [6, 5, 4]) (Ng := ["act", "e"]) (a := "act") fg_law_kept_by hg_law_kept_by (by kernel_rfl) (fun kV doc pm an cdv ct => len1 fun _ => rfl) rfl (hr.mono (by omega)) rfl TB rfl hmT (hnm _) hu (by kernel_rfl) rfl (fun q cl pm cv ctv => rfl) (fun E A outer s H f c' hr => (ex_mt x_Book_step hr (by omega) takesL (ev_var (pv 4)) (ax_lift (av_cons (ev_var (pv 6)) (av_cons (ev_var (pv 5)) av_nil))))) rfl (by first | exact .inl rfl | exact .inr (.inl rfl)) (fun clo cloK cdg s H hr hlam => d_law_kept_by (k := k) (g := ⟨g.ca, g.T, clo, cloK⟩) F _ _ _ _ _ _ (hr.mono (by omega)) _ hlam)) (av_cons (ev_lam0 (k := k + 2) (js := [5, 7, 4]) (Ng := ["act", "e"]) (a := "act") fg_law_kept_by hg_law_kept_by (by kernel_rfl) (fun kV doc pm an cdv ct => len1 fun _ => rfl) rfl (hr.mono (by omega)) rfl TB rfl hmT (hnm _) hu (by kernel_rfl) rfl (fun q cl pm cv ctv => rfl) (fun E A outer s H f c' hr => (ex_mt x_Book_step hr (by omega) takesL (ev_var (pv 4)) (ax_lift (av_cons (ev_var (pv 5)) (av_cons (ev_var (pv 7)) av_nil))))) rfl (by first | exact .inl rfl | exact .inr (.inl rfl)) (fun clo cloK cdg s H hr hlam => d_law_kept_by (k := k) (g := ⟨g.ca, g.T, clo, cloK⟩) F _ _ _ _ _ _ (hr.mono (by omega)) _ hlam)) av_nil)))))
  (bv_cons (sv_set hN rfl (by first | exact .inl rfl | exact .inr rfl) (ev_op od_add (ev_var (pv 8)) (ev_tup (av_cons (ev_lam0 (k := k + 2) (js := [5, 4]) (Ng := ["act", "e"]) (a := "act") fg_law_kept_by hg_law_kept_by (by kernel_rfl) (fun kV doc pm an cdv ct => len1 fun _ => rfl) rfl (hr.mono (by omega)) rfl TB rfl hmT (hnm _) hu (by kernel_rfl) rfl (fun q cl pm cv ctv => rfl) (fun E A outer s H f c' hr => (ex_mt x_Book_step hr (by omega) takesL (ev_var (pv 4)) (ax_lift (av_cons (ev_var (pv 5)) (av_cons (ev_var (pv 5)) av_nil))))) rfl (by first | exact .inl rfl | exact .inr (.inl rfl)) (fun clo cloK cdg s H hr hlam => d_law_kept_by (k := k) (g := ⟨g.ca, g.T, clo, cloK⟩) F _ _ _ _ _ _ (hr.mono (by omega)) _ hlam)) (av_cons (ev_lam0 (k := k + 2) (js := [5, 6, 4]) (Ng := ["act", "e"]) (a := "act") fg_law_kept_by hg_law_kept_by (by kernel_rfl) (fun kV doc pm an cdv ct => len1 fun _ => rfl) rfl (hr.mono (by omega)) rfl TB rfl hmT (hnm _) hu (by kernel_rfl) rfl (fun q cl pm cv ctv => rfl) (fun E A outer s H f c' hr => (ex_mt x_Book_tie hr (by omega) takesL (ev_var (pv 4)) (ax_lift (av_cons (ev_var (pv 5)) (av_cons (ev_var (pv 6)) av_nil))))) rfl (by first | exact .inl rfl | exact .inr (.inl rfl)) (fun clo cloK cdg s H hr hlam => d_law_kept_by (k := k) (g := ⟨g.ca, g.T, clo, cloK⟩) F _ _ _ _ _ _ (hr.mono (by omega)) _ hlam)) (av_cons (ev_lam0 (k := k + 2) (js := [6, 5, 4]) (Ng := ["act", "e"]) (a := "act") fg_law_kept_by hg_law_kept_by (by kernel_rfl) (fun kV doc pm an cdv ct => len1 fun _ => rfl) rfl (hr.mono (by omega)) rfl TB rfl hmT (hnm _) hu (by kernel_rfl) rfl (fun q cl pm cv ctv => rfl) (fun E A outer s H f c' hr => (ex_mt x_Book_tie hr (by omega) takesL (ev_var (pv 4)) (ax_lift (av_cons (ev_var (pv 6)) (av_cons (ev_var (pv 5)) av_nil))))) rfl (by first | exact .inl rfl | exact .inr (.inl rfl)) (fun clo cloK cdg s H hr hlam => d_law_kept_by (k := k) (g := ⟨g.ca, g.T, clo, cloK⟩) F _ _ _ _ _ _ (hr.mono (by omega)) _ hlam)) av_nil))))))
  (bv_cons (sv_set hN rfl (by first | exact .inl rfl | exact .inr rfl) (ev_op od_add (ev_var (pv 8)) (ev_tup (av_cons (ev_lam0 (k := k + 2) (js := [5, 4]) (Ng := ["act", "e"]) (a := "act") fg_law_kept_by hg_law_kept_by (by kernel_rfl) (fun kV doc pm an cdv ct => len1 fun _ => rfl) rfl (hr.mono (by omega)) rfl TB rfl hmT (hnm _) hu (by kernel_rfl) rfl (fun q cl pm cv ctv => rfl) (fun E A outer s H f c' hr => (ex_mt x_Book_tie hr (by omega) takesL (ev_var (pv 4)) (ax_lift (av_cons (ev_var (pv 5)) (av_cons (ev_var (pv 5)) av_nil))))) rfl (by first | exact .inl rfl | exact .inr (.inl rfl)) (fun clo cloK cdg s H hr hlam => d_law_kept_by (k := k) (g := ⟨g.ca, g.T, clo, cloK⟩) F _ _ _ _ _ _ (hr.mono (by omega)) _ hlam)) (av_cons (ev_lam0 (k := k + 2) (js := [5, 7, 4]) (Ng := ["act", "e"]) (a := "act") fg_law_kept_by hg_law_kept_by (by kernel_rfl) (fun kV doc pm an cdv ct => len1 fun _ => rfl) rfl (hr.mono (by omega)) rfl TB rfl hmT (hnm _) hu (by kernel_rfl) rfl (fun q cl pm cv ctv => rfl) (fun E A outer s H f c' hr => (ex_mt x_Book_cut hr (by omega) takesL (ev_var (pv 4)) (ax_lift (av_cons (ev_var (pv 5)) (av_cons (ev_var (pv 7)) av_nil))))) rfl (by first | exact .inl rfl | exact .inr (.inl rfl)) (fun clo cloK cdg s H hr hlam => d_law_kept_by (k := k) (g := ⟨g.ca, g.T, clo, cloK⟩) F _ _ _ _ _ _ (hr.mono (by omega)) _ hlam)) (av_cons (ev_lam0 (k := k + 2) (js := [6, 4]) (Ng := ["act", "e"]) (a := "act") fg_law_kept_by hg_law_kept_by (by kernel_rfl) (fun kV doc pm an cdv ct => len1 fun _ => rfl) rfl (hr.mono (by omega)) rfl TB rfl hmT (hnm _) hu (by kernel_rfl) rfl (fun q cl pm cv ctv => rfl) (fun E A outer s H f c' hr => (ex_mt x_Book_cut hr (by omega) takesL (ev_var (pv 4)) (ax_lift (av_cons (ev_var (pv 6)) (av_cons (ev_var (pv 6)) av_nil))))) rfl (by first | exact .inl rfl | exact .inr (.inl rfl)) (fun clo cloK cdg s H hr hlam => d_law_kept_by (k := k) (g := ⟨g.ca, g.T, clo, cloK⟩) F _ _ _ _ _ _ (hr.mono (by omega)) _ hlam)) av_nil))))))
  (bv_cons (sv_set hN rfl (by first | exact .inl rfl | exact .inr rfl) (ev_tup (av_cons (ev_tup (av_cons ev_str (av_cons (ev_var (pv 6)) av_nil))) (av_cons (ev_tup (av_cons ev_str (av_cons (ev_var (pv 6)) av_nil))) (av_cons (ev_tup (av_cons ev_str (av_cons (ev_var (pv 7)) av_nil))) (av_cons (ev_tup (av_cons ev_str (av_cons (ev_var (pv 5)) av_nil))) (av_cons (ev_tup (av_cons ev_str (av_cons (ev_var (pv 6)) av_nil))) (av_cons (ev_tup (av_cons ev_str (av_cons (ev_var (pv 5)) av_nil))) (av_cons (ev_tup (av_cons ev_str (av_cons (ev_var (pv 5)) av_nil))) (av_cons (ev_tup (av_cons ev_str (av_cons (ev_var (pv 7)) av_nil))) (av_cons (ev_tup (av_cons ev_str (av_cons (ev_var (pv 6)) av_nil))) av_nil)))))))))))
  (bv_cons (sv_if (WV.tv (wv_or (tv_not (tv_val (ev_call h_law_same hr (by omega) rfl (av_cons (ev_var (pv 8)) (av_cons (ev_var (pv 9)) av_nil))))) (wv_or1 (tv_not (tv_val (ev_call h_law_same hr (by omega) rfl (av_cons (ev_tup (av_cons (ev_prop p_Web_parts hr (by omega) (ev_prop p_Book_web hr (by omega) (ev_var (pv 4)))) (av_cons (ev_prop p_Book_posts hr (by omega) (ev_var (pv 4))) av_nil))) (av_cons (ev_tup (av_cons (ev_prop p_Web_parts hr (by omega) (ev_var (pv 2))) (av_cons (ev_tup (av_cons (ev_var (pv 5)) av_nil)) av_nil))) av_nil)))))))) (bv_one (sv_ret ev_bl)) bv_nil)
  (bv_cons (sv_drop (ev_ofX (ex_mt x_Book_post hr (by omega) takes0 (ev_var (pv 4)) (ax_lift (av_cons (ev_var (pv 6)) av_nil)))))
  (bv_one (sv_ret (ev_call h_law_same hr (by omega) rfl (av_cons (ev_tup (av_cons (ev_lam0 (k := k + 2) (js := [5, 6, 4]) (Ng := ["act", "e"]) (a := "act") fg_law_kept_by hg_law_kept_by (by kernel_rfl) (fun kV doc pm an cdv ct => len1 fun _ => rfl) rfl (hr.mono (by omega)) rfl TB rfl hmT (hnm _) hu (by kernel_rfl) rfl (fun q cl pm cv ctv => rfl) (fun E A outer s H f c' hr => (ex_mt x_Book_step hr (by omega) takesL (ev_var (pv 4)) (ax_lift (av_cons (ev_var (pv 5)) (av_cons (ev_var (pv 6)) av_nil))))) rfl (by first | exact .inl rfl | exact .inr (.inl rfl)) (fun clo cloK cdg s H hr hlam => d_law_kept_by (k := k) (g := ⟨g.ca, g.T, clo, cloK⟩) F _ _ _ _ _ _ (hr.mono (by omega)) _ hlam)) (av_cons (ev_lam0 (k := k + 2) (js := [4, 6, 5]) (Ng := ["act", "e"]) (a := "act") fg_law_kept_by hg_law_kept_by (by kernel_rfl) (fun kV doc pm an cdv ct => len1 fun _ => rfl) rfl (hr.mono (by omega)) rfl TB rfl hmT (hnm _) hu (by kernel_rfl) rfl (fun q cl pm cv ctv => rfl) (fun E A outer s H f c' hr => (ex_mtK (ks := ["place", "other"]) (is := [0, 1]) x_Book_step (List.mem_of_getElem? (i := 0) rfl) rfl hr (by omega) takesL (ev_var (pv 4)) (kv_cons (ev_var (pv 6)) (kv_cons (ev_var (pv 5)) kv_nil)))) rfl (by first | exact .inl rfl | exact .inr (.inl rfl)) (fun clo cloK cdg s H hr hlam => d_law_kept_by (k := k) (g := ⟨g.ca, g.T, clo, cloK⟩) F _ _ _ _ _ _ (hr.mono (by omega)) _ hlam)) (av_cons (ev_prop p_Book_posts hr (by omega) (ev_var (pv 4))) av_nil)))) (av_cons (ev_tup (av_cons (ev_tup (av_cons ev_str (av_cons (ev_var (pv 6)) av_nil))) (av_cons (ev_tup (av_cons ev_str (av_cons (ev_var (pv 5)) av_nil))) (av_cons (ev_tup (av_cons (ev_var (pv 5)) (av_cons (ev_var (pv 6)) av_nil))) av_nil)))) av_nil))))))))))))))))))
def m_law (S_law_right : List A → Mo D) (S_law_well : List A → Mo D) : Ev → Mo Out := (yRet (xCall (liftL dAll) (xCons (xComp (itemsR1 (xCons (xCall (liftL dMax2) (xCons (xC (.int 1)) (xCons (xCall (liftL dMin2) (xCons (xCall (liftL dLen) (xCons (xVar 0) xNil)) (xCons (xC (.int 2)) xNil))) xNil))) xNil)) [1] (zName 1) tYesM (xFn 1 S_law_right (xCons (xFn 2 S_law_well (xCons (xVar 0) (xCons (xVar 1) xNil))) xNil))) xNil)))
theorem d_law {P : Program} {w : World} {K : PySem.W.Frag} {mg : Str → Option Value} {base : Heap} {g : G} {k : Nat} (F : Fx P K mg g.ca) {S_law_right : List A → Mo D} {S_law_well : List A → Mo D} (h_law_right : Cal P w K mg base g k "_law_right" 1 S_law_right) (h_law_well : Cal P w K mg base g k "_law_well" 2 S_law_well) (fa : Addr) (cdv : Value) (A : Around) (outer : List Env) (s : Shared) (H : Hp) (E : XK)
    (hr : Room (k + 2) (A.deeper (envOfC "law" (defScope (top 41)) s.heap.objs.size fa cdv))) :
    BV g (cxOf C8.CX0 P w K mg base ["script", "lap"] "law" (defScope (top 41)) fa cdv A outer s H E) (defBody (top 41)) (m_law S_law_right S_law_well) := by
  have hN : (["script", "lap"] : List Str).Nodup := by decide
  exact (bv_one (sv_ret (ev_callB (cd_all rfl) rfl F.f_all rfl (av_cons (ev_lc (own := [("lap", 1)]) rfl hN (iv_range1 rfl F.f_range (av_cons (ev_callB (cd_max2 rfl) rfl F.f_max rfl (av_cons ev_int (av_cons (ev_callB (cd_min2 rfl) rfl F.f_min rfl (av_cons (ev_callB cd_len rfl F.f_len rfl (av_cons (ev_var (pv 0)) av_nil)) (av_cons ev_int av_nil))) av_nil))) av_nil)) (blkOk_by (by kernel_rfl)) (BlkV.of (fun s H C cl fp => (gv_name hN rfl (by first | exact .inl rfl | exact .inr rfl))) (fun s H C cl fp => tsv_nil) (fun s H C cl fp => (ev_call h_law_right hr (by omega) rfl (av_cons (ev_call h_law_well hr (by omega) rfl (av_cons (ev_var (pv 0)) (av_cons (ev_var (pv 1)) av_nil))) av_nil)))) (by decide)) av_nil))))
end K84
set_option autoImplicit false
set_option maxRecDepth 100000
set_option maxHeartbeats 0
namespace K84
open PySem PySem.Spec PyProof.Rows L2 LamX NdefX MM
def dd_is_one_of : He.DefD := ⟨("is_one_of", none), "is_one_of", "is_one_of", defArgs (top 11), defBody (top 11), defScope (top 11), [], []⟩
def dd_is_word : He.DefD := ⟨("is_word", none), "is_word", "is_word", defArgs (top 12), defBody (top 12), defScope (top 12), [], []⟩
def dd_is_name : He.DefD := ⟨("is_name", none), "is_name", "is_name", defArgs (top 13), defBody (top 13), defScope (top 13), [], []⟩
def dd_is_tuple_of : He.DefD := ⟨("is_tuple_of", none), "is_tuple_of", "is_tuple_of", defArgs (top 14), defBody (top 14), defScope (top 14), [], []⟩
def dd_is_pair : He.DefD := ⟨("is_pair", none), "is_pair", "is_pair", defArgs (top 15), defBody (top 15), defScope (top 15), [], []⟩
def dd_wrong_in : He.DefD := ⟨("wrong_in", none), "wrong_in", "wrong_in", defArgs (top 16), defBody (top 16), defScope (top 16), [], []⟩
def dd_are_below : He.DefD := ⟨("are_below", none), "are_below", "are_below", defArgs (top 17), defBody (top 17), defScope (top 17), [], []⟩
def dd_wrong_in_places : He.DefD := ⟨("wrong_in_places", none), "wrong_in_places", "wrong_in_places", defArgs (top 20), defBody (top 20), defScope (top 20), [], []⟩
def dd_is_tie : He.DefD := ⟨("is_tie", none), "is_tie", "is_tie", defArgs (top 21), defBody (top 21), defScope (top 21), [], []⟩
def dd_wrong_in_ties : He.DefD := ⟨("wrong_in_ties", none), "wrong_in_ties", "wrong_in_ties", defArgs (top 22), defBody (top 22), defScope (top 22), [], []⟩
def dd_beside_by : He.DefD := ⟨("beside_by", none), "beside_by", "beside_by", defArgs (top 23), defBody (top 23), defScope (top 23), [], []⟩
def dd_sees_by : He.DefD := ⟨("sees_by", none), "sees_by", "sees_by", defArgs (top 24), defBody (top 24), defScope (top 24), [], []⟩
def dd_Web_ddinitdd : He.DefD := ⟨("Web", some "__init__"), "__init__", "Web.__init__", defArgs (inClass (top 26) 0), defBody (inClass (top 26) 0), defScope (inClass (top 26) 0), [], []⟩
def gd_Web_places : GetD := ⟨"Web", "places", "places", "Web.places", defArgs (inClass (top 26) 1), defBody (inClass (top 26) 1), defScope (inClass (top 26) 1)⟩
def gd_Web_ties : GetD := ⟨"Web", "ties", "ties", "Web.ties", defArgs (inClass (top 26) 2), defBody (inClass (top 26) 2), defScope (inClass (top 26) 2)⟩
def gd_Web_parts : GetD := ⟨"Web", "parts", "parts", "Web.parts", defArgs (inClass (top 26) 3), defBody (inClass (top 26) 3), defScope (inClass (top 26) 3)⟩
def dd_Web_ddeqdd : He.DefD := ⟨("Web", some "__eq__"), "__eq__", "Web.__eq__", defArgs (inClass (top 26) 4), defBody (inClass (top 26) 4), defScope (inClass (top 26) 4), [], []⟩
def dd_check_web : He.DefD := ⟨("check_web", none), "check_web", "check_web", defArgs (top 27), defBody (top 27), defScope (top 27), [], []⟩
def dd_check_place : He.DefD := ⟨("check_place", none), "check_place", "check_place", defArgs (top 28), defBody (top 28), defScope (top 28), [], []⟩
def dd_Book_ddinitdd : He.DefD := ⟨("Book", some "__init__"), "__init__", "Book.__init__", defArgs (inClass (top 30) 0), defBody (inClass (top 30) 0), defScope (inClass (top 30) 0), [], []⟩
def gd_Book_web : GetD := ⟨"Book", "web", "web", "Book.web", defArgs (inClass (top 30) 1), defBody (inClass (top 30) 1), defScope (inClass (top 30) 1)⟩
def gd_Book_posts : GetD := ⟨"Book", "posts", "posts", "Book.posts", defArgs (inClass (top 30) 2), defBody (inClass (top 30) 2), defScope (inClass (top 30) 2)⟩
def dd_Book_pair_of : He.DefD := ⟨("Book", some "pair_of"), "pair_of", "Book.pair_of", defArgs (inClass (top 30) 3), defBody (inClass (top 30) 3), defScope (inClass (top 30) 3), [], []⟩
def dd_Book_tie : He.DefD := ⟨("Book", some "tie"), "tie", "Book.tie", defArgs (inClass (top 30) 4), defBody (inClass (top 30) 4), defScope (inClass (top 30) 4), [], []⟩
def dd_Book_cut : He.DefD := ⟨("Book", some "cut"), "cut", "Book.cut", defArgs (inClass (top 30) 5), defBody (inClass (top 30) 5), defScope (inClass (top 30) 5), [], []⟩
def dd_Book_put_posts : He.DefD := ⟨("Book", some "put_posts"), "put_posts", "Book.put_posts", defArgs (inClass (top 30) 6), defBody (inClass (top 30) 6), defScope (inClass (top 30) 6), [], []⟩
def dd_Book_check_post : He.DefD := ⟨("Book", some "check_post"), "check_post", "Book.check_post", defArgs (inClass (top 30) 7), defBody (inClass (top 30) 7), defScope (inClass (top 30) 7), [], []⟩
def dd_Book_post : He.DefD := ⟨("Book", some "post"), "post", "Book.post", defArgs (inClass (top 30) 8), defBody (inClass (top 30) 8), defScope (inClass (top 30) 8), [], []⟩
def dd_Book_take : He.DefD := ⟨("Book", some "take"), "take", "Book.take", defArgs (inClass (top 30) 9), defBody (inClass (top 30) 9), defScope (inClass (top 30) 9), [], []⟩
def dd_Book_step : He.DefD := ⟨("Book", some "step"), "step", "Book.step", defArgs (inClass (top 30) 10), defBody (inClass (top 30) 10), defScope (inClass (top 30) 10), [], []⟩
def dd_law_well : He.DefD := ⟨("_law_well", none), "_law_well", "_law_well", defArgs (top 32), defBody (top 32), defScope (top 32), [], []⟩
def dd_law_draw : He.DefD := ⟨("_law_draw", none), "_law_draw", "_law_draw", defArgs (top 33), defBody (top 33), defScope (top 33), [], []⟩
def dd_law_of : He.DefD := ⟨("_law_of", none), "_law_of", "_law_of", defArgs (top 34), defBody (top 34), defScope (top 34), [], []⟩
def dd_law_same : He.DefD := ⟨("_law_same", none), "_law_same", "_law_same", defArgs (top 35), defBody (top 35), defScope (top 35), [], []⟩
def dd_law_words : He.DefD := ⟨("_law_words", none), "_law_words", "_law_words", defArgs (top 36), defBody (top 36), defScope (top 36), [], []⟩
def dd_law_own : He.DefD := ⟨("_law_own", none), "_law_own", "_law_own", defArgs (top 37), defBody (top 37), defScope (top 37), [], []⟩
def dd_law_names : He.DefD := ⟨("_law_names", none), "_law_names", "_law_names", defArgs (top 38), defBody (top 38), defScope (top 38), [], []⟩
def dd_law_kept_by : He.DefD := ⟨("_law_kept_by", none), "_law_kept_by", "_law_kept_by", defArgs (top 39), defBody (top 39), defScope (top 39), [], []⟩
def dd_law_right : He.DefD := ⟨("_law_right", none), "_law_right", "_law_right", defArgs (top 40), defBody (top 40), defScope (top 40), [], []⟩
def dd_law : He.DefD := ⟨("law", none), "law", "law", defArgs (top 41), defBody (top 41), defScope (top 41), [], []⟩
def fn : List He.DefD := [dd_is_one_of, dd_is_word, dd_is_name, dd_is_tuple_of, dd_is_pair, dd_wrong_in, dd_are_below, dd_wrong_in_places, dd_is_tie, dd_wrong_in_ties, dd_beside_by, dd_sees_by, dd_Web_ddinitdd, dd_Web_ddeqdd, dd_check_web, dd_check_place, dd_Book_ddinitdd, dd_Book_pair_of, dd_Book_tie, dd_Book_cut, dd_Book_put_posts, dd_Book_check_post, dd_Book_post, dd_Book_take, dd_Book_step, dd_law_well, dd_law_draw, dd_law_of, dd_law_same, dd_law_words, dd_law_own, dd_law_names, dd_law_kept_by, dd_law_right, dd_law]
def gs : List GetD := [gd_Web_places, gd_Web_ties, gd_Web_parts, gd_Book_web, gd_Book_posts]
def fa : List He.Fa := [.glo "_wall", .glo "is_one_of", .glo "is_word", .glo "is_name", .glo "is_tuple_of", .glo "is_pair", .glo "wrong_in", .glo "are_below", .glo "wrong_in_places", .glo "is_tie", .glo "wrong_in_ties", .glo "beside_by", .glo "sees_by", .glo "check_web", .glo "check_place", .glo "_law_well", .glo "_law_draw", .glo "_law_of", .glo "_law_same", .glo "_law_words", .glo "_law_own", .glo "_law_names", .glo "_law_kept_by", .glo "_law_right", .glo "law", .free "ValueError", .free "abs", .free "all", .free "bool", .free "dict", .free "divmod", .free "enumerate", .free "int", .free "isinstance", .free "len", .free "list", .free "max", .free "min", .free "range", .free "sorted", .free "str", .free "super", .free "tuple", .glo "Book", .glo "NotAWeb", .glo "UnknownPlace", .glo "WatchError", .glo "Web", .int "MOST_LETTERS" 8, .int "MOST_PLACES" 9, .str "LETTERS" "abcdefghijklmnopqrstuvwxyz", .glo "WORDS", .cls "Book", .cls "Web", .mkr "Book", .mkr "Web", .noat "Book" "standing", .noat "Web" "all_told", .meth "Book" "check_post", .meth "Book" "cut", .meth "Book" "pair_of", .meth "Book" "post", .meth "Book" "put_posts", .meth "Book" "step", .meth "Book" "take", .meth "Book" "tie", .exm "UnknownPlace" "WatchError" true, .exm "NotAWeb" "WatchError" true]
def tf : List He.Defn := [("wrong_in_places", none), ("wrong_in_ties", none), ("_law_right", none)]
def loose0 : List Str := ["_wall", "is_one_of", "is_word", "is_name", "is_tuple_of", "is_pair", "wrong_in", "are_below", "wrong_in_places", "is_tie", "wrong_in_ties", "beside_by", "sees_by", "check_web", "check_place", "_law_well", "_law_draw", "_law_of", "_law_same", "_law_words", "_law_own", "_law_names", "_law_kept_by", "_law_right", "WatchError", "UnknownPlace", "NotAWeb", "InvalidPlaces", "InvalidTies", "Web"]
def loose1 : List Str := ["Book", "LETTERS", "MOST_LETTERS", "WORDS", "MOST_PLACES"]
def loose : List Str := loose0 ++ loose1
def tv_WORDS : List He.Dv := ([("all" : Str), ("alone" : Str), ("apart" : Str), ("beside" : Str), ("burn" : Str), ("case" : Str), ("cut" : Str), ("double" : Str), ("fire" : Str), ("game" : Str), ("guard" : Str), ("in" : Str), ("joined" : Str), ("lost" : Str), ("near" : Str), ("next" : Str), ("no" : Str), ("none" : Str), ("of" : Str), ("once" : Str), ("open" : Str), ("out" : Str), ("place" : Str), ("post" : Str), ("posts" : Str), ("quit" : Str), ("rule" : Str), ("safe" : Str), ("set" : Str), ("sets" : Str), ("step" : Str), ("take" : Str), ("tie" : Str), ("undo" : Str), ("watch" : Str), ("watched" : Str), ("web" : Str), ("yes" : Str)] : List Str).map He.Dv.str
def ex0 (K : PySem.W.Frag) : Bool := He.tupB K "WORDS" tv_WORDS
def ex1 (K : PySem.W.Frag) : Bool := He.eqO (PySem.W.findIn K (.ref (He.ga K "Web")) "__class__") (some (some (.builtin "object.__class__")))
def ex2 (K : PySem.W.Frag) : Bool := decide (PySem.W.mroIn K (He.ga K "Web") (.type "object") = some true)
def ex3 (K : PySem.W.Frag) : Bool := He.eqO (PySem.W.specialIn K (.builtin "object.__class__") "__get__") (some (some (.builtin "getset_descriptor.__get__")))
def ex4 (K : PySem.W.Frag) : Bool := decide (PySem.W.takesIn K (.builtin "object.__class__") = some true)
def ex5 (K : PySem.W.Frag) : Bool := decide (PySem.W.kitOne K (.ref (He.ga K "Web")) (.ref (He.ga K "Web")) = some true)
def ex6 (K : PySem.W.Frag) : Bool := (["NoneType", "bool", "int", "str", "tuple", "list", "dict"] : List String).all fun n => decide (PySem.W.kitOne K (.type n) (.ref (He.ga K "Web")) = some false)
def ex7 (K : PySem.W.Frag) : Bool := decide (PySem.W.kitOne K (.ref (He.ga K "UnknownPlace")) (.ref (He.ga K "UnknownPlace")) = some true)
def ex8 (K : PySem.W.Frag) : Bool := decide (PySem.W.kitOne K (.ref (He.ga K "UnknownPlace")) (.ref (He.ga K "NotAWeb")) = some false)
def ex9 (K : PySem.W.Frag) : Bool := decide (PySem.W.kitOne K (.ref (He.ga K "NotAWeb")) (.ref (He.ga K "UnknownPlace")) = some false)
def ex10 (K : PySem.W.Frag) : Bool := decide (PySem.W.kitOne K (.ref (He.ga K "NotAWeb")) (.ref (He.ga K "NotAWeb")) = some true)
def ex11 (K : PySem.W.Frag) : Bool := decide (PySem.W.kitOne K (.ref (He.ga K "UnknownPlace")) (.type "ValueError") = some true)
def ex12 (K : PySem.W.Frag) : Bool := decide (PySem.W.kitOne K (.ref (He.ga K "NotAWeb")) (.type "ValueError") = some true)
def ex13 (K : PySem.W.Frag) : Bool := decide ((tf.map fun p => (He.cT K p).2).Nodup)
def exs : List (PySem.W.Frag → Bool) := [ex0, ex1, ex2, ex3, ex4, ex5, ex6, ex7, ex8, ex9, ex10, ex11, ex12, ex13]
def ex (K : PySem.W.Frag) : Bool := exs.all fun f => f K
abbrev R : PySem.W.OpenRow := PySem.W.OpenLaw.row PySem.Challenge.rw_watchposts_k84_books_refuse
def ed_UnknownPlace : ExcD := ⟨"UnknownPlace", "given", "UnknownPlace.__init__", (⟨9, 17, 9, 21⟩, ⟨9, 23, 9, 28⟩), (⟨10, 8, 10, 13⟩, ⟨10, 8, 10, 15⟩, ⟨10, 8, 10, 24⟩, ⟨10, 8, 10, 26⟩, ⟨10, 8, 10, 26⟩, ⟨11, 8, 11, 12⟩, ⟨11, 8, 11, 18⟩, ⟨11, 21, 11, 26⟩, ⟨11, 8, 11, 26⟩)⟩
def ed_NotAWeb : ExcD := ⟨"NotAWeb", "given", "NotAWeb.__init__", (⟨14, 17, 14, 21⟩, ⟨14, 23, 14, 28⟩), (⟨15, 8, 15, 13⟩, ⟨15, 8, 15, 15⟩, ⟨15, 8, 15, 24⟩, ⟨15, 8, 15, 26⟩, ⟨15, 8, 15, 26⟩, ⟨16, 8, 16, 12⟩, ⟨16, 8, 16, 18⟩, ⟨16, 21, 16, 26⟩, ⟨16, 8, 16, 26⟩)⟩
def es : List ExcD := [ed_UnknownPlace, ed_NotAWeb]
abbrev hk : PySem.W.Hook := hookE 7 fa fn tf gs es PySem.Challenge.rw_watchposts_k84_books_refuse.prog ex
def ob (s : PySem.W.SharedT) : AlE := obsE 7 fa fn tf gs es PySem.Challenge.rw_watchposts_k84_books_refuse.prog ex (HandSHeadRun.getT s)
theorem ob_eq (s : PySem.W.SharedT) : ob s = hk.obs s.abs := obsE_eq (HandSHeadRun.getT_eq s)
theorem run (w : World) : HandSHeadRun.RunEq R (PySem.W.view R.prog [41]) hk ob 9000 loose w := by
  intro os
  kernel_rfl
end K84
set_option autoImplicit false
set_option maxRecDepth 100000
set_option maxHeartbeats 8000000
namespace K84
open PySem PySem.Spec L2 MM
def S_law_draw : List A → Mo D := fun as => frzM 100 (runF 4 (m_law_draw) as)
def S_law_of : List A → Mo D := fun as => frzM 100 (runF 2 (m_law_of S_law_draw) as)
def S_law_words : List A → Mo D := fun as => frzM 100 (runF 1 (m_law_words) as)
def S_law_own : List A → Mo D := fun as => frzM 100 (runF 0 (m_law_own) as)
def S_law_names : List A → Mo D := fun as => frzM 100 (runF 9 (m_law_names S_law_of S_law_draw S_law_words S_law_own) as)
def S_is_word : List A → Mo D := fun as => frzM 100 (runF 2 (m_is_word) as)
def S_is_name : List A → Mo D := fun as => frzM 100 (runF 1 (m_is_name S_is_word) as)
def S_are_below : List A → Mo D := fun as => frzM 100 (runF 2 (m_are_below) as)
def S_wrong_in_places : List A → Mo D := fun as => frzM 100 (runF 1 (m_wrong_in_places S_is_name S_are_below) as)
def S_is_tuple_of : List A → Mo D := fun as => frzM 100 (runF 2 (m_is_tuple_of) as)
def S_is_pair : List A → Mo D := fun as => frzM 100 (runF 1 (m_is_pair S_is_tuple_of) as)
def S_is_one_of : List A → Mo D := fun as => frzM 100 (runF 2 (m_is_one_of) as)
def S_is_tie : List A → Mo D := fun as => frzM 100 (runF 2 (m_is_tie S_is_pair S_is_one_of) as)
def S_wrong_in_ties : List A → Mo D := fun as => frzM 100 (runF 2 (m_wrong_in_ties S_is_tie S_are_below) as)
def S_Web_ddinitdd : List A → Mo D := fun as => frzM 100 (runF 4 (m_Web_ddinitdd S_wrong_in_places S_wrong_in_ties) as)
def S_Web_parts : List A → Mo D := fun as => frzM 100 (runF 1 (m_Web_parts) as)
def S_law_same : Nat → List A → Mo D
  | 0 => fun _ _ => none
  | n + 1 => fun as => frzM 100 (runF 4 (m_law_same (S_law_same n)) as)
def S_check_web : List A → Mo (Rs D) := fun as => frzX 100 (runX 1 (m_check_web) as)
def S_Book_ddinitdd : List A → Mo (Rs D) := fun as => frzX 100 (runX 2 (m_Book_ddinitdd S_check_web) as)
def S_Web_places : List A → Mo D := fun as => frzM 100 (runF 1 (m_Web_places) as)
def S_check_place : List A → Mo (Rs D) := fun as => frzX 100 (runX 2 (m_check_place S_is_one_of S_Web_places) as)
def S_Book_web : List A → Mo D := fun as => frzM 100 (runF 1 (m_Book_web) as)
def S_Book_put_posts : List A → Mo (Rs D) := fun as => frzX 100 (runX 2 (m_Book_put_posts S_Book_web) as)
def S_Book_posts : List A → Mo D := fun as => frzM 100 (runF 1 (m_Book_posts) as)
def S_Book_post : List A → Mo (Rs D) := fun as => frzX 100 (runX 3 (m_Book_post S_check_place S_Book_web S_Book_put_posts S_Book_posts) as)
def S_Book_check_post : List A → Mo (Rs D) := fun as => frzX 100 (runX 2 (m_Book_check_post S_check_place S_Book_web S_Book_posts) as)
def S_Book_take : List A → Mo (Rs D) := fun as => frzX 100 (runX 3 (m_Book_take S_Book_check_post S_Book_put_posts S_Book_posts) as)
def S_Web_ties : List A → Mo D := fun as => frzM 100 (runF 1 (m_Web_ties) as)
def S_beside_by : List A → Mo D := fun as => frzM 100 (runF 4 (m_beside_by S_Web_ties) as)
def S_sees_by : List A → Mo D := fun as => frzM 100 (runF 2 (m_sees_by S_beside_by) as)
def S_Book_step : List A → Mo (Rs D) := fun as => frzX 100 (runX 4 (m_Book_step S_Book_check_post S_check_place S_Book_web S_Book_posts S_sees_by S_Book_put_posts) as)
def S_Book_pair_of : List A → Mo (Rs D) := fun as => frzX 100 (runX 3 (m_Book_pair_of S_check_place S_Book_web) as)
def S_Book_tie : List A → Mo (Rs D) := fun as => frzX 100 (runX 4 (m_Book_tie S_Book_pair_of S_Book_web S_Web_ties S_Web_ddinitdd S_Web_places S_Book_posts) as)
def S_Book_cut : List A → Mo (Rs D) := fun as => frzX 100 (runX 5 (m_Book_cut S_Book_pair_of S_Book_web S_Web_ties S_Web_ddinitdd S_Web_places S_Book_posts) as)
def S_law_right : List A → Mo D := fun as => frzM 100 (runF 10 (m_law_right S_law_names S_law_draw S_Web_ddinitdd S_Web_parts (S_law_same 6) S_Book_ddinitdd S_Book_post S_Book_take S_Book_step S_Book_tie S_Book_cut S_Book_web S_Book_posts) as)
def S_law_well : List A → Mo D := fun as => runF 5 (m_law_well) as
def S_law : List A → Mo D := fun as => frzM 100 (runF 2 (m_law S_law_right S_law_well) as)
end K84
set_option autoImplicit false
set_option maxRecDepth 100000
set_option maxHeartbeats 8000000
namespace K84
open PySem PySem.Spec PyProof.Rows L2 LamX NdefX MM
def gOf (K : PySem.W.Frag) : G := ⟨He.ga K, [((He.cT K ("wrong_in_places", none)).2, fun _ _ => "wrong_in_places.<locals>.<lambda>"), ((He.cT K ("wrong_in_ties", none)).2, fun _ _ => "wrong_in_ties.<locals>.<lambda>"), ((He.cT K ("_law_right", none)).2, fun _ _ => "_law_right.<locals>.<lambda>")], fun _ _ _ _ => False, fun _ _ _ _ _ h _ => h⟩
structure Hx (P : Program) (K : PySem.W.Frag) (mg : Str → Option Value) (base : Heap) (g : G) : Prop where
  fx : Fx P K mg g.ca
  mt_Book_check_post : Meth K (g.ca "Book") "check_post" (He.fAd K ("Book", some "check_post"))
  mt_Book_cut : Meth K (g.ca "Book") "cut" (He.fAd K ("Book", some "cut"))
  mt_Book_pair_of : Meth K (g.ca "Book") "pair_of" (He.fAd K ("Book", some "pair_of"))
  mt_Book_post : Meth K (g.ca "Book") "post" (He.fAd K ("Book", some "post"))
  mt_Book_put_posts : Meth K (g.ca "Book") "put_posts" (He.fAd K ("Book", some "put_posts"))
  mt_Book_step : Meth K (g.ca "Book") "step" (He.fAd K ("Book", some "step"))
  mt_Book_take : Meth K (g.ca "Book") "take" (He.fAd K ("Book", some "take"))
  mt_Book_tie : Meth K (g.ca "Book") "tie" (He.fAd K ("Book", some "tie"))
  fd_is_one_of : ∃ fd, FunD K "is_one_of" "is_one_of" (defArgs (top 11)) (defBody (top 11)) (defScope (top 11)) [] [] (He.fAd K ("is_one_of", none)) fd
  gm_is_one_of : mg "is_one_of" = some (.ref (He.fAd K ("is_one_of", none)))
  fd_is_word : ∃ fd, FunD K "is_word" "is_word" (defArgs (top 12)) (defBody (top 12)) (defScope (top 12)) [] [] (He.fAd K ("is_word", none)) fd
  gm_is_word : mg "is_word" = some (.ref (He.fAd K ("is_word", none)))
  fd_is_name : ∃ fd, FunD K "is_name" "is_name" (defArgs (top 13)) (defBody (top 13)) (defScope (top 13)) [] [] (He.fAd K ("is_name", none)) fd
  gm_is_name : mg "is_name" = some (.ref (He.fAd K ("is_name", none)))
  fd_is_tuple_of : ∃ fd, FunD K "is_tuple_of" "is_tuple_of" (defArgs (top 14)) (defBody (top 14)) (defScope (top 14)) [] [] (He.fAd K ("is_tuple_of", none)) fd
  gm_is_tuple_of : mg "is_tuple_of" = some (.ref (He.fAd K ("is_tuple_of", none)))
  fd_is_pair : ∃ fd, FunD K "is_pair" "is_pair" (defArgs (top 15)) (defBody (top 15)) (defScope (top 15)) [] [] (He.fAd K ("is_pair", none)) fd
  gm_is_pair : mg "is_pair" = some (.ref (He.fAd K ("is_pair", none)))
  fd_wrong_in : ∃ fd, FunD K "wrong_in" "wrong_in" (defArgs (top 16)) (defBody (top 16)) (defScope (top 16)) [] [] (He.fAd K ("wrong_in", none)) fd
  gm_wrong_in : mg "wrong_in" = some (.ref (He.fAd K ("wrong_in", none)))
  fd_are_below : ∃ fd, FunD K "are_below" "are_below" (defArgs (top 17)) (defBody (top 17)) (defScope (top 17)) [] [] (He.fAd K ("are_below", none)) fd
  gm_are_below : mg "are_below" = some (.ref (He.fAd K ("are_below", none)))
  fd_wrong_in_places : ∃ fd, FunD K "wrong_in_places" "wrong_in_places" (defArgs (top 20)) (defBody (top 20)) (defScope (top 20)) [] [] (He.fAd K ("wrong_in_places", none)) fd
  gm_wrong_in_places : mg "wrong_in_places" = some (.ref (He.fAd K ("wrong_in_places", none)))
  fd_is_tie : ∃ fd, FunD K "is_tie" "is_tie" (defArgs (top 21)) (defBody (top 21)) (defScope (top 21)) [] [] (He.fAd K ("is_tie", none)) fd
  gm_is_tie : mg "is_tie" = some (.ref (He.fAd K ("is_tie", none)))
  fd_wrong_in_ties : ∃ fd, FunD K "wrong_in_ties" "wrong_in_ties" (defArgs (top 22)) (defBody (top 22)) (defScope (top 22)) [] [] (He.fAd K ("wrong_in_ties", none)) fd
  gm_wrong_in_ties : mg "wrong_in_ties" = some (.ref (He.fAd K ("wrong_in_ties", none)))
  fd_beside_by : ∃ fd, FunD K "beside_by" "beside_by" (defArgs (top 23)) (defBody (top 23)) (defScope (top 23)) [] [] (He.fAd K ("beside_by", none)) fd
  gm_beside_by : mg "beside_by" = some (.ref (He.fAd K ("beside_by", none)))
  fd_sees_by : ∃ fd, FunD K "sees_by" "sees_by" (defArgs (top 24)) (defBody (top 24)) (defScope (top 24)) [] [] (He.fAd K ("sees_by", none)) fd
  gm_sees_by : mg "sees_by" = some (.ref (He.fAd K ("sees_by", none)))
  fd_Web_ddinitdd : ∃ fd, FunD K "__init__" "Web.__init__" (defArgs (inClass (top 26) 0)) (defBody (inClass (top 26) 0)) (defScope (inClass (top 26) 0)) [] [] (He.fAd K ("Web", some "__init__")) fd
  fd_Web_places : ∃ fd, FunD K "places" "Web.places" (defArgs (inClass (top 26) 1)) (defBody (inClass (top 26) 1)) (defScope (inClass (top 26) 1)) [] [] (gAd K "Web" "places") fd
  pp_Web_places : PropOf K (g.ca "Web") "places" (He.ma K (He.ga K "Web") "places") (gAd K "Web" "places")
  fd_Web_ties : ∃ fd, FunD K "ties" "Web.ties" (defArgs (inClass (top 26) 2)) (defBody (inClass (top 26) 2)) (defScope (inClass (top 26) 2)) [] [] (gAd K "Web" "ties") fd
  pp_Web_ties : PropOf K (g.ca "Web") "ties" (He.ma K (He.ga K "Web") "ties") (gAd K "Web" "ties")
  fd_Web_parts : ∃ fd, FunD K "parts" "Web.parts" (defArgs (inClass (top 26) 3)) (defBody (inClass (top 26) 3)) (defScope (inClass (top 26) 3)) [] [] (gAd K "Web" "parts") fd
  pp_Web_parts : PropOf K (g.ca "Web") "parts" (He.ma K (He.ga K "Web") "parts") (gAd K "Web" "parts")
  fd_Web_ddeqdd : ∃ fd, FunD K "__eq__" "Web.__eq__" (defArgs (inClass (top 26) 4)) (defBody (inClass (top 26) 4)) (defScope (inClass (top 26) 4)) [] [] (He.fAd K ("Web", some "__eq__")) fd
  fd_check_web : ∃ fd, FunD K "check_web" "check_web" (defArgs (top 27)) (defBody (top 27)) (defScope (top 27)) [] [] (He.fAd K ("check_web", none)) fd
  gm_check_web : mg "check_web" = some (.ref (He.fAd K ("check_web", none)))
  fd_check_place : ∃ fd, FunD K "check_place" "check_place" (defArgs (top 28)) (defBody (top 28)) (defScope (top 28)) [] [] (He.fAd K ("check_place", none)) fd
  gm_check_place : mg "check_place" = some (.ref (He.fAd K ("check_place", none)))
  fd_Book_ddinitdd : ∃ fd, FunD K "__init__" "Book.__init__" (defArgs (inClass (top 30) 0)) (defBody (inClass (top 30) 0)) (defScope (inClass (top 30) 0)) [] [] (He.fAd K ("Book", some "__init__")) fd
  fd_Book_web : ∃ fd, FunD K "web" "Book.web" (defArgs (inClass (top 30) 1)) (defBody (inClass (top 30) 1)) (defScope (inClass (top 30) 1)) [] [] (gAd K "Book" "web") fd
  pp_Book_web : PropOf K (g.ca "Book") "web" (He.ma K (He.ga K "Book") "web") (gAd K "Book" "web")
  fd_Book_posts : ∃ fd, FunD K "posts" "Book.posts" (defArgs (inClass (top 30) 2)) (defBody (inClass (top 30) 2)) (defScope (inClass (top 30) 2)) [] [] (gAd K "Book" "posts") fd
  pp_Book_posts : PropOf K (g.ca "Book") "posts" (He.ma K (He.ga K "Book") "posts") (gAd K "Book" "posts")
  fd_Book_pair_of : ∃ fd, FunD K "pair_of" "Book.pair_of" (defArgs (inClass (top 30) 3)) (defBody (inClass (top 30) 3)) (defScope (inClass (top 30) 3)) [] [] (He.fAd K ("Book", some "pair_of")) fd
  fd_Book_tie : ∃ fd, FunD K "tie" "Book.tie" (defArgs (inClass (top 30) 4)) (defBody (inClass (top 30) 4)) (defScope (inClass (top 30) 4)) [] [] (He.fAd K ("Book", some "tie")) fd
  fd_Book_cut : ∃ fd, FunD K "cut" "Book.cut" (defArgs (inClass (top 30) 5)) (defBody (inClass (top 30) 5)) (defScope (inClass (top 30) 5)) [] [] (He.fAd K ("Book", some "cut")) fd
  fd_Book_put_posts : ∃ fd, FunD K "put_posts" "Book.put_posts" (defArgs (inClass (top 30) 6)) (defBody (inClass (top 30) 6)) (defScope (inClass (top 30) 6)) [] [] (He.fAd K ("Book", some "put_posts")) fd
  fd_Book_check_post : ∃ fd, FunD K "check_post" "Book.check_post" (defArgs (inClass (top 30) 7)) (defBody (inClass (top 30) 7)) (defScope (inClass (top 30) 7)) [] [] (He.fAd K ("Book", some "check_post")) fd
  fd_Book_post : ∃ fd, FunD K "post" "Book.post" (defArgs (inClass (top 30) 8)) (defBody (inClass (top 30) 8)) (defScope (inClass (top 30) 8)) [] [] (He.fAd K ("Book", some "post")) fd
  fd_Book_take : ∃ fd, FunD K "take" "Book.take" (defArgs (inClass (top 30) 9)) (defBody (inClass (top 30) 9)) (defScope (inClass (top 30) 9)) [] [] (He.fAd K ("Book", some "take")) fd
  fd_Book_step : ∃ fd, FunD K "step" "Book.step" (defArgs (inClass (top 30) 10)) (defBody (inClass (top 30) 10)) (defScope (inClass (top 30) 10)) [] [] (He.fAd K ("Book", some "step")) fd
  fd_law_well : ∃ fd, FunD K "_law_well" "_law_well" (defArgs (top 32)) (defBody (top 32)) (defScope (top 32)) [] [] (He.fAd K ("_law_well", none)) fd
  gm_law_well : mg "_law_well" = some (.ref (He.fAd K ("_law_well", none)))
  fd_law_draw : ∃ fd, FunD K "_law_draw" "_law_draw" (defArgs (top 33)) (defBody (top 33)) (defScope (top 33)) [] [] (He.fAd K ("_law_draw", none)) fd
  gm_law_draw : mg "_law_draw" = some (.ref (He.fAd K ("_law_draw", none)))
  fd_law_of : ∃ fd, FunD K "_law_of" "_law_of" (defArgs (top 34)) (defBody (top 34)) (defScope (top 34)) [] [] (He.fAd K ("_law_of", none)) fd
  gm_law_of : mg "_law_of" = some (.ref (He.fAd K ("_law_of", none)))
  fd_law_same : ∃ fd, FunD K "_law_same" "_law_same" (defArgs (top 35)) (defBody (top 35)) (defScope (top 35)) [] [] (He.fAd K ("_law_same", none)) fd
  gm_law_same : mg "_law_same" = some (.ref (He.fAd K ("_law_same", none)))
  fd_law_words : ∃ fd, FunD K "_law_words" "_law_words" (defArgs (top 36)) (defBody (top 36)) (defScope (top 36)) [] [] (He.fAd K ("_law_words", none)) fd
  gm_law_words : mg "_law_words" = some (.ref (He.fAd K ("_law_words", none)))
  fd_law_own : ∃ fd, FunD K "_law_own" "_law_own" (defArgs (top 37)) (defBody (top 37)) (defScope (top 37)) [] [] (He.fAd K ("_law_own", none)) fd
  gm_law_own : mg "_law_own" = some (.ref (He.fAd K ("_law_own", none)))
  fd_law_names : ∃ fd, FunD K "_law_names" "_law_names" (defArgs (top 38)) (defBody (top 38)) (defScope (top 38)) [] [] (He.fAd K ("_law_names", none)) fd
  gm_law_names : mg "_law_names" = some (.ref (He.fAd K ("_law_names", none)))
  fd_law_kept_by : ∃ fd, FunD K "_law_kept_by" "_law_kept_by" (defArgs (top 39)) (defBody (top 39)) (defScope (top 39)) [] [] (He.fAd K ("_law_kept_by", none)) fd
  gm_law_kept_by : mg "_law_kept_by" = some (.ref (He.fAd K ("_law_kept_by", none)))
  fd_law_right : ∃ fd, FunD K "_law_right" "_law_right" (defArgs (top 40)) (defBody (top 40)) (defScope (top 40)) [] [] (He.fAd K ("_law_right", none)) fd
  gm_law_right : mg "_law_right" = some (.ref (He.fAd K ("_law_right", none)))
  fd_law : ∃ fd, FunD K "law" "law" (defArgs (top 41)) (defBody (top 41)) (defScope (top 41)) [] [] (He.fAd K ("law", none)) fd
  gm_law : mg "law" = some (.ref (He.fAd K ("law", none)))
  mk_Book : Mk K (g.ca "Book") (He.fAd K ("Book", some "__init__"))
  mk_Web : Mk K (g.ca "Web") (He.fAd K ("Web", some "__init__"))
  tb_wrong_in_places : TabB base mg (He.codeOf K ("wrong_in_places", none)) (He.cT K ("wrong_in_places", none)).2
  ht_wrong_in_places : ((He.cT K ("wrong_in_places", none)).2, (fun _ _ => "wrong_in_places.<locals>.<lambda>" : Nat → Nat → Str)) ∈ g.T
  hu_wrong_in_places : ∀ p ∈ g.T, p.1 = (He.cT K ("wrong_in_places", none)).2 → p.2 = (fun _ _ => "wrong_in_places.<locals>.<lambda>" : Nat → Nat → Str)
  tb_wrong_in_ties : TabB base mg (He.codeOf K ("wrong_in_ties", none)) (He.cT K ("wrong_in_ties", none)).2
  ht_wrong_in_ties : ((He.cT K ("wrong_in_ties", none)).2, (fun _ _ => "wrong_in_ties.<locals>.<lambda>" : Nat → Nat → Str)) ∈ g.T
  hu_wrong_in_ties : ∀ p ∈ g.T, p.1 = (He.cT K ("wrong_in_ties", none)).2 → p.2 = (fun _ _ => "wrong_in_ties.<locals>.<lambda>" : Nat → Nat → Str)
  tb_law_right : TabB base mg (He.codeOf K ("_law_right", none)) (He.cT K ("_law_right", none)).2
  ht_law_right : ((He.cT K ("_law_right", none)).2, (fun _ _ => "_law_right.<locals>.<lambda>" : Nat → Nat → Str)) ∈ g.T
  hu_law_right : ∀ p ∈ g.T, p.1 = (He.cT K ("_law_right", none)).2 → p.2 = (fun _ _ => "_law_right.<locals>.<lambda>" : Nat → Nat → Str)
section
variable {P : Program} {w : World} {K : PySem.W.Frag} {mg : Str → Option Value} {base : Heap} {g : G}
theorem c_law_draw (h : Hx P K mg base g) : Cal P w K mg base g 3 "_law_draw" 2 S_law_draw := by
  obtain ⟨fd, F⟩ := h.fd_law_draw
  exact (cal_of (N := ["well", "limit", "figure", "mixed"]) (ps := ["well", "limit"]) F h.gm_law_draw (by kernel_rfl) rfl (fun kV doc pm an cdv ct => len2 fun _ _ => rfl) (fun cdv A outer s H E hr => d_law_draw (k := 0) h.fx  _ _ A outer s H E hr)).frz 100
theorem c_law_of (h : Hx P K mg base g) : Cal P w K mg base g 6 "_law_of" 2 S_law_of := by
  obtain ⟨fd, F⟩ := h.fd_law_of
  exact (cal_of (N := ["well", "some"]) (ps := ["well", "some"]) F h.gm_law_of (by kernel_rfl) rfl (fun kV doc pm an cdv ct => len2 fun _ _ => rfl) (fun cdv A outer s H E hr => d_law_of (k := 3) h.fx ((c_law_draw h).mono (by decide)) _ _ A outer s H E hr)).frz 100
theorem c_law_words (h : Hx P K mg base g) : Cal P w K mg base g 3 "_law_words" 0 S_law_words := by
  obtain ⟨fd, F⟩ := h.fd_law_words
  exact (cal_of (N := ["words"]) (ps := []) F h.gm_law_words (by kernel_rfl) rfl (fun kV doc pm an cdv ct => len0 rfl) (fun cdv A outer s H E hr => d_law_words (k := 0) h.fx  _ _ A outer s H E hr)).frz 100
theorem c_law_own (h : Hx P K mg base g) : Cal P w K mg base g 3 "_law_own" 0 S_law_own := by
  obtain ⟨fd, F⟩ := h.fd_law_own
  exact (cal_of (N := []) (ps := []) F h.gm_law_own (by kernel_rfl) rfl (fun kV doc pm an cdv ct => len0 rfl) (fun cdv A outer s H E hr => d_law_own (k := 0) h.fx  _ _ A outer s H E hr)).frz 100
theorem c_law_names (h : Hx P K mg base g) : Cal P w K mg base g 9 "_law_names" 2 S_law_names := by
  obtain ⟨fd, F⟩ := h.fd_law_names
  exact (cal_of (N := ["well", "many", "letters", "found", "turn", "name", "size", "lap", "at"]) (ps := ["well", "many"]) F h.gm_law_names (by kernel_rfl) rfl (fun kV doc pm an cdv ct => len2 fun _ _ => rfl) (fun cdv A outer s H E hr => d_law_names (k := 6) h.fx ((c_law_of h).mono (by decide)) ((c_law_draw h).mono (by decide)) ((c_law_words h).mono (by decide)) ((c_law_own h).mono (by decide)) _ _ A outer s H E hr)).frz 100
theorem c_is_word (h : Hx P K mg base g) : Cal P w K mg base g 3 "is_word" 1 S_is_word := by
  obtain ⟨fd, F⟩ := h.fd_is_word
  exact (cal_of (N := ["value", "sign"]) (ps := ["value"]) F h.gm_is_word (by kernel_rfl) rfl (fun kV doc pm an cdv ct => len1 fun _ => rfl) (fun cdv A outer s H E hr => d_is_word (k := 0) h.fx  _ _ A outer s H E hr)).frz 100
theorem c_is_name (h : Hx P K mg base g) : Cal P w K mg base g 6 "is_name" 1 S_is_name := by
  obtain ⟨fd, F⟩ := h.fd_is_name
  exact (cal_of (N := ["value"]) (ps := ["value"]) F h.gm_is_name (by kernel_rfl) rfl (fun kV doc pm an cdv ct => len1 fun _ => rfl) (fun cdv A outer s H E hr => d_is_name (k := 3) h.fx ((c_is_word h).mono (by decide)) _ _ A outer s H E hr)).frz 100
theorem c_are_below (h : Hx P K mg base g) : Cal P w K mg base g 3 "are_below" 2 S_are_below := by
  obtain ⟨fd, F⟩ := h.fd_are_below
  exact (cal_of (N := ["ahead", "value"]) (ps := ["ahead", "value"]) F h.gm_are_below (by kernel_rfl) rfl (fun kV doc pm an cdv ct => len2 fun _ _ => rfl) (fun cdv A outer s H E hr => d_are_below (k := 0) h.fx  _ _ A outer s H E hr)).frz 100
theorem c_wrong_in_places (h : Hx P K mg base g) : Cal P w K mg base g 9 "wrong_in_places" 1 S_wrong_in_places := by
  obtain ⟨fd, F⟩ := h.fd_wrong_in_places
  obtain ⟨fdg, Fg⟩ := h.fd_wrong_in
  exact (cal_ofC (N := ["value"]) (ps := ["value"]) F h.gm_wrong_in_places (by kernel_rfl) rfl (fun kV doc pm an cdv ct => len1 fun _ => rfl) fun A outer s H E hr => d_wrong_in_places (k := 6) h.fx ((c_is_name h).mono (by decide)) ((c_are_below h).mono (by decide)) Fg h.gm_wrong_in h.tb_wrong_in_places h.ht_wrong_in_places (fun _ => rfl) h.hu_wrong_in_places _ A outer s H E hr).frz 100
theorem c_is_tuple_of (h : Hx P K mg base g) : Cal P w K mg base g 3 "is_tuple_of" 2 S_is_tuple_of := by
  obtain ⟨fd, F⟩ := h.fd_is_tuple_of
  exact (cal_of (N := ["value", "many"]) (ps := ["value", "many"]) F h.gm_is_tuple_of (by kernel_rfl) rfl (fun kV doc pm an cdv ct => len2 fun _ _ => rfl) (fun cdv A outer s H E hr => d_is_tuple_of (k := 0) h.fx  _ _ A outer s H E hr)).frz 100
theorem c_is_pair (h : Hx P K mg base g) : Cal P w K mg base g 6 "is_pair" 1 S_is_pair := by
  obtain ⟨fd, F⟩ := h.fd_is_pair
  exact (cal_of (N := ["value"]) (ps := ["value"]) F h.gm_is_pair (by kernel_rfl) rfl (fun kV doc pm an cdv ct => len1 fun _ => rfl) (fun cdv A outer s H E hr => d_is_pair (k := 3) h.fx ((c_is_tuple_of h).mono (by decide)) _ _ A outer s H E hr)).frz 100
theorem c_is_one_of (h : Hx P K mg base g) : Cal P w K mg base g 3 "is_one_of" 2 S_is_one_of := by
  obtain ⟨fd, F⟩ := h.fd_is_one_of
  exact (cal_of (N := ["value", "words"]) (ps := ["value", "words"]) F h.gm_is_one_of (by kernel_rfl) rfl (fun kV doc pm an cdv ct => len2 fun _ _ => rfl) (fun cdv A outer s H E hr => d_is_one_of (k := 0) h.fx  _ _ A outer s H E hr)).frz 100
theorem c_is_tie (h : Hx P K mg base g) : Cal P w K mg base g 9 "is_tie" 2 S_is_tie := by
  obtain ⟨fd, F⟩ := h.fd_is_tie
  exact (cal_of (N := ["places", "value"]) (ps := ["places", "value"]) F h.gm_is_tie (by kernel_rfl) rfl (fun kV doc pm an cdv ct => len2 fun _ _ => rfl) (fun cdv A outer s H E hr => d_is_tie (k := 6) h.fx ((c_is_pair h).mono (by decide)) ((c_is_one_of h).mono (by decide)) _ _ A outer s H E hr)).frz 100
theorem c_wrong_in_ties (h : Hx P K mg base g) : Cal P w K mg base g 12 "wrong_in_ties" 2 S_wrong_in_ties := by
  obtain ⟨fd, F⟩ := h.fd_wrong_in_ties
  obtain ⟨fdg, Fg⟩ := h.fd_wrong_in
  exact (cal_ofC (N := ["places", "value"]) (ps := ["places", "value"]) F h.gm_wrong_in_ties (by kernel_rfl) rfl (fun kV doc pm an cdv ct => len2 fun _ _ => rfl) fun A outer s H E hr => d_wrong_in_ties (k := 9) h.fx ((c_is_tie h).mono (by decide)) ((c_are_below h).mono (by decide)) Fg h.gm_wrong_in h.tb_wrong_in_ties h.ht_wrong_in_ties (fun _ => rfl) h.hu_wrong_in_ties _ A outer s H E hr).frz 100
theorem k_Web (h : Hx P K mg base g) : MakC P w K mg base g 15 "Web" "Web" 2 S_Web_ddinitdd := by
  obtain ⟨fd, F⟩ := h.fd_Web_ddinitdd
  exact (mak_of (N := ["self", "places", "ties", "index"]) (ps := ["self", "places", "ties"]) F h.mk_Web h.fx.g_Web (by kernel_rfl) rfl (fun kV doc pm an cdv ct => len3 fun _ _ _ => rfl) (fun cdv A outer s H E hr => d_Web_ddinitdd (k := 12) h.fx ((c_wrong_in_places h).mono (by decide)) ((c_wrong_in_ties h).mono (by decide)) _ _ A outer s H E hr)).frz 100
theorem p_Web_parts (h : Hx P K mg base g) : PropC P w K mg base g 3 "Web" "parts" S_Web_parts := by
  obtain ⟨fd, F⟩ := h.fd_Web_parts
  exact (prop_of (N := ["self"]) (ps := ["self"]) F h.pp_Web_parts h.fx.cl_Web (by kernel_rfl) rfl (fun kV doc pm an cdv ct => len1 fun _ => rfl) (fun cdv A outer s H E hr => d_Web_parts (k := 0) h.fx  _ _ A outer s H E hr)).frz 100
theorem c_law_same_n (h : Hx P K mg base g) : ∀ n : Nat, Cal P w K mg base g (3 * n) "_law_same" 2 (S_law_same n)
  | 0 => by
    obtain ⟨fd, F⟩ := h.fd_law_same
    exact cal_none (ps := ["one", "two"]) F h.gm_law_same rfl (fun kV doc pm an cdv ct => len2 fun _ _ => rfl)
  | n + 1 => by
    obtain ⟨fd, F⟩ := h.fd_law_same
    have ih := c_law_same_n h n
    exact (cal_of (N := ["one", "two", "alike", "k"]) (ps := ["one", "two"]) F h.gm_law_same (by kernel_rfl) rfl (fun kV doc pm an cdv ct => len2 fun _ _ => rfl) fun cdv A outer s H E hr => d_law_same (k := 3 * n) h.fx ih _ _ A outer s H E hr).frz 100
theorem c_law_same (h : Hx P K mg base g) : Cal P w K mg base g 18 "_law_same" 2 (S_law_same 6) := c_law_same_n h 6
theorem c_check_web (h : Hx P K mg base g) : CalX P w K mg base g 3 "check_web" 1 S_check_web [] := by
  obtain ⟨fd, F⟩ := h.fd_check_web
  exact (calX_of (kx := []) (N := ["web"]) (ps := ["web"]) F h.gm_check_web (by kernel_rfl) rfl (fun kV doc pm an cdv ct => len1 fun _ => rfl) (fun q hq => nomatch hq) (fun cdv A outer s H E hr => d_check_web (k := 0) h.fx  _ _ A outer s H E hr)).frz 100
theorem k_Book (h : Hx P K mg base g) : MakX P w K mg base g 6 "Book" "Book" 1 S_Book_ddinitdd [(["web"], [0])] := by
  obtain ⟨fd, F⟩ := h.fd_Book_ddinitdd
  exact (makX_of (kx := [(["web"], [0])]) (N := ["self", "web"]) (ps := ["self", "web"]) F h.mk_Book h.fx.g_Book (by kernel_rfl) rfl (fun kV doc pm an cdv ct => len2 fun _ _ => rfl) (fun q hq => by
    simp only [List.mem_cons, List.not_mem_nil, or_false] at hq
    subst hq
    · exact kb_of F (fun kV doc pm an cdv ct us ws h1 h2 => len1 (P := fun us => ∀ ws : List Value, ws.length = 1 → bindArgs _ ⟨us, (["web"] : List Str).zip ws⟩ = pure ((["self", "web"] : List Str).zip (us ++ pick [0] ws))) (fun _ => len1 fun _ => rfl) us h1 ws h2)) (fun cdv A outer s H E hr => d_Book_ddinitdd (k := 3) h.fx ((c_check_web h).mono (by decide)) _ _ A outer s H E hr)).frz 100
theorem p_Web_places (h : Hx P K mg base g) : PropC P w K mg base g 3 "Web" "places" S_Web_places := by
  obtain ⟨fd, F⟩ := h.fd_Web_places
  exact (prop_of (N := ["self"]) (ps := ["self"]) F h.pp_Web_places h.fx.cl_Web (by kernel_rfl) rfl (fun kV doc pm an cdv ct => len1 fun _ => rfl) (fun cdv A outer s H E hr => d_Web_places (k := 0) h.fx  _ _ A outer s H E hr)).frz 100
theorem c_check_place (h : Hx P K mg base g) : CalX P w K mg base g 6 "check_place" 2 S_check_place [] := by
  obtain ⟨fd, F⟩ := h.fd_check_place
  exact (calX_of (kx := []) (N := ["web", "place"]) (ps := ["web", "place"]) F h.gm_check_place (by kernel_rfl) rfl (fun kV doc pm an cdv ct => len2 fun _ _ => rfl) (fun q hq => nomatch hq) (fun cdv A outer s H E hr => d_check_place (k := 3) h.fx ((c_is_one_of h).mono (by decide)) ((p_Web_places h).mono (by decide)) _ _ A outer s H E hr)).frz 100
theorem p_Book_web (h : Hx P K mg base g) : PropC P w K mg base g 3 "Book" "web" S_Book_web := by
  obtain ⟨fd, F⟩ := h.fd_Book_web
  exact (prop_of (N := ["self"]) (ps := ["self"]) F h.pp_Book_web h.fx.cl_Book (by kernel_rfl) rfl (fun kV doc pm an cdv ct => len1 fun _ => rfl) (fun cdv A outer s H E hr => d_Book_web (k := 0) h.fx  _ _ A outer s H E hr)).frz 100
theorem x_Book_put_posts (h : Hx P K mg base g) : MetX P w K mg base g 6 "Book" "put_posts" 1 S_Book_put_posts [] := by
  obtain ⟨fd, F⟩ := h.fd_Book_put_posts
  exact (metX_of (kx := []) (N := ["self", "some"]) (ps := ["self", "some"]) F h.mt_Book_put_posts h.fx.cl_Book (by kernel_rfl) rfl (fun kV doc pm an cdv ct => len2 fun _ _ => rfl) (fun q hq => nomatch hq) (fun cdv A outer s H E hr => d_Book_put_posts (k := 3) h.fx ((p_Book_web h).mono (by decide)) _ _ A outer s H E hr)).frz 100
theorem p_Book_posts (h : Hx P K mg base g) : PropC P w K mg base g 3 "Book" "posts" S_Book_posts := by
  obtain ⟨fd, F⟩ := h.fd_Book_posts
  exact (prop_of (N := ["self"]) (ps := ["self"]) F h.pp_Book_posts h.fx.cl_Book (by kernel_rfl) rfl (fun kV doc pm an cdv ct => len1 fun _ => rfl) (fun cdv A outer s H E hr => d_Book_posts (k := 0) h.fx  _ _ A outer s H E hr)).frz 100
theorem x_Book_post (h : Hx P K mg base g) : MetX P w K mg base g 9 "Book" "post" 1 S_Book_post [] := by
  obtain ⟨fd, F⟩ := h.fd_Book_post
  exact (metX_of (kx := []) (N := ["self", "place", "each"]) (ps := ["self", "place"]) F h.mt_Book_post h.fx.cl_Book (by kernel_rfl) rfl (fun kV doc pm an cdv ct => len2 fun _ _ => rfl) (fun q hq => nomatch hq) (fun cdv A outer s H E hr => d_Book_post (k := 6) h.fx ((c_check_place h).mono (by decide)) ((p_Book_web h).mono (by decide)) ((x_Book_put_posts h).mono (by decide)) ((p_Book_posts h).mono (by decide)) _ _ A outer s H E hr)).frz 100
theorem x_Book_check_post (h : Hx P K mg base g) : MetX P w K mg base g 9 "Book" "check_post" 1 S_Book_check_post [] := by
  obtain ⟨fd, F⟩ := h.fd_Book_check_post
  exact (metX_of (kx := []) (N := ["self", "place"]) (ps := ["self", "place"]) F h.mt_Book_check_post h.fx.cl_Book (by kernel_rfl) rfl (fun kV doc pm an cdv ct => len2 fun _ _ => rfl) (fun q hq => nomatch hq) (fun cdv A outer s H E hr => d_Book_check_post (k := 6) h.fx ((c_check_place h).mono (by decide)) ((p_Book_web h).mono (by decide)) ((p_Book_posts h).mono (by decide)) _ _ A outer s H E hr)).frz 100
theorem x_Book_take (h : Hx P K mg base g) : MetX P w K mg base g 12 "Book" "take" 1 S_Book_take [] := by
  obtain ⟨fd, F⟩ := h.fd_Book_take
  exact (metX_of (kx := []) (N := ["self", "place", "each"]) (ps := ["self", "place"]) F h.mt_Book_take h.fx.cl_Book (by kernel_rfl) rfl (fun kV doc pm an cdv ct => len2 fun _ _ => rfl) (fun q hq => nomatch hq) (fun cdv A outer s H E hr => d_Book_take (k := 9) h.fx ((x_Book_check_post h).mono (by decide)) ((x_Book_put_posts h).mono (by decide)) ((p_Book_posts h).mono (by decide)) _ _ A outer s H E hr)).frz 100
theorem p_Web_ties (h : Hx P K mg base g) : PropC P w K mg base g 3 "Web" "ties" S_Web_ties := by
  obtain ⟨fd, F⟩ := h.fd_Web_ties
  exact (prop_of (N := ["self"]) (ps := ["self"]) F h.pp_Web_ties h.fx.cl_Web (by kernel_rfl) rfl (fun kV doc pm an cdv ct => len1 fun _ => rfl) (fun cdv A outer s H E hr => d_Web_ties (k := 0) h.fx  _ _ A outer s H E hr)).frz 100
theorem c_beside_by (h : Hx P K mg base g) : Cal P w K mg base g 6 "beside_by" 2 S_beside_by := by
  obtain ⟨fd, F⟩ := h.fd_beside_by
  exact (cal_of (N := ["web", "place", "one", "other"]) (ps := ["web", "place"]) F h.gm_beside_by (by kernel_rfl) rfl (fun kV doc pm an cdv ct => len2 fun _ _ => rfl) (fun cdv A outer s H E hr => d_beside_by (k := 3) h.fx ((p_Web_ties h).mono (by decide)) _ _ A outer s H E hr)).frz 100
theorem c_sees_by (h : Hx P K mg base g) : Cal P w K mg base g 9 "sees_by" 2 S_sees_by := by
  obtain ⟨fd, F⟩ := h.fd_sees_by
  exact (cal_of (N := ["web", "place"]) (ps := ["web", "place"]) F h.gm_sees_by (by kernel_rfl) rfl (fun kV doc pm an cdv ct => len2 fun _ _ => rfl) (fun cdv A outer s H E hr => d_sees_by (k := 6) h.fx ((c_beside_by h).mono (by decide)) _ _ A outer s H E hr)).frz 100
theorem x_Book_step (h : Hx P K mg base g) : MetX P w K mg base g 12 "Book" "step" 2 S_Book_step [(["place", "other"], [0, 1])] := by
  obtain ⟨fd, F⟩ := h.fd_Book_step
  exact (metX_of (kx := [(["place", "other"], [0, 1])]) (N := ["self", "place", "other", "each"]) (ps := ["self", "place", "other"]) F h.mt_Book_step h.fx.cl_Book (by kernel_rfl) rfl (fun kV doc pm an cdv ct => len3 fun _ _ _ => rfl) (fun q hq => by
    simp only [List.mem_cons, List.not_mem_nil, or_false] at hq
    subst hq
    · exact kb_of F (fun kV doc pm an cdv ct us ws h1 h2 => len1 (P := fun us => ∀ ws : List Value, ws.length = 2 → bindArgs _ ⟨us, (["place", "other"] : List Str).zip ws⟩ = pure ((["self", "place", "other"] : List Str).zip (us ++ pick [0, 1] ws))) (fun _ => len2 fun _ _ => rfl) us h1 ws h2)) (fun cdv A outer s H E hr => d_Book_step (k := 9) h.fx ((c_check_place h).mono (by decide)) ((c_sees_by h).mono (by decide)) ((x_Book_check_post h).mono (by decide)) ((p_Book_web h).mono (by decide)) ((p_Book_posts h).mono (by decide)) ((x_Book_put_posts h).mono (by decide)) _ _ A outer s H E hr)).frz 100
theorem x_Book_pair_of (h : Hx P K mg base g) : MetX P w K mg base g 9 "Book" "pair_of" 2 S_Book_pair_of [] := by
  obtain ⟨fd, F⟩ := h.fd_Book_pair_of
  exact (metX_of (kx := []) (N := ["self", "place", "other"]) (ps := ["self", "place", "other"]) F h.mt_Book_pair_of h.fx.cl_Book (by kernel_rfl) rfl (fun kV doc pm an cdv ct => len3 fun _ _ _ => rfl) (fun q hq => nomatch hq) (fun cdv A outer s H E hr => d_Book_pair_of (k := 6) h.fx ((c_check_place h).mono (by decide)) ((p_Book_web h).mono (by decide)) _ _ A outer s H E hr)).frz 100
theorem x_Book_tie (h : Hx P K mg base g) : MetX P w K mg base g 18 "Book" "tie" 2 S_Book_tie [] := by
  obtain ⟨fd, F⟩ := h.fd_Book_tie
  exact (metX_of (kx := []) (N := ["self", "place", "other", "pair"]) (ps := ["self", "place", "other"]) F h.mt_Book_tie h.fx.cl_Book (by kernel_rfl) rfl (fun kV doc pm an cdv ct => len3 fun _ _ _ => rfl) (fun q hq => nomatch hq) (fun cdv A outer s H E hr => d_Book_tie (k := 15) h.fx ((x_Book_pair_of h).mono (by decide)) ((p_Book_web h).mono (by decide)) ((p_Web_ties h).mono (by decide)) ((k_Web h).mono (by decide)) ((p_Web_places h).mono (by decide)) ((p_Book_posts h).mono (by decide)) _ _ A outer s H E hr)).frz 100
theorem x_Book_cut (h : Hx P K mg base g) : MetX P w K mg base g 18 "Book" "cut" 2 S_Book_cut [(["other", "place"], [1, 0])] := by
  obtain ⟨fd, F⟩ := h.fd_Book_cut
  exact (metX_of (kx := [(["other", "place"], [1, 0])]) (N := ["self", "place", "other", "pair", "each"]) (ps := ["self", "place", "other"]) F h.mt_Book_cut h.fx.cl_Book (by kernel_rfl) rfl (fun kV doc pm an cdv ct => len3 fun _ _ _ => rfl) (fun q hq => by
    simp only [List.mem_cons, List.not_mem_nil, or_false] at hq
    subst hq
    · exact kb_of F (fun kV doc pm an cdv ct us ws h1 h2 => len1 (P := fun us => ∀ ws : List Value, ws.length = 2 → bindArgs _ ⟨us, (["other", "place"] : List Str).zip ws⟩ = pure ((["self", "place", "other"] : List Str).zip (us ++ pick [1, 0] ws))) (fun _ => len2 fun _ _ => rfl) us h1 ws h2)) (fun cdv A outer s H E hr => d_Book_cut (k := 15) h.fx ((x_Book_pair_of h).mono (by decide)) ((p_Book_web h).mono (by decide)) ((p_Web_ties h).mono (by decide)) ((k_Web h).mono (by decide)) ((p_Web_places h).mono (by decide)) ((p_Book_posts h).mono (by decide)) _ _ A outer s H E hr)).frz 100
theorem c_law_right (h : Hx P K mg base g) : Cal P w K mg base g 23 "_law_right" 1 S_law_right := by
  obtain ⟨fd, F⟩ := h.fd_law_right
  obtain ⟨fdg, Fg⟩ := h.fd_law_kept_by
  exact (cal_ofC (N := ["well", "places", "web", "odd", "book", "one", "two", "three", "told", "due"]) (ps := ["well"]) F h.gm_law_right (by kernel_rfl) rfl (fun kV doc pm an cdv ct => len1 fun _ => rfl) fun A outer s H E hr => d_law_right (k := 18) h.fx ((c_law_names h).mono (by decide)) ((c_law_draw h).mono (by decide)) ((c_law_same h).mono (by decide)) ((k_Web h).mono (by decide)) ((p_Web_parts h).mono (by decide)) ((k_Book h).mono (by decide)) ((x_Book_post h).mono (by decide)) ((x_Book_take h).mono (by decide)) ((x_Book_step h).mono (by decide)) ((x_Book_tie h).mono (by decide)) ((x_Book_cut h).mono (by decide)) ((p_Book_web h).mono (by decide)) ((p_Book_posts h).mono (by decide)) Fg h.gm_law_kept_by h.tb_law_right h.ht_law_right (fun _ => rfl) h.hu_law_right _ A outer s H E hr).frz 100
theorem c_law_well (h : Hx P K mg base g) : Cal P w K mg base g 3 "_law_well" 2 S_law_well := by
  obtain ⟨fd, F⟩ := h.fd_law_well
  exact (cal_of (N := ["script", "lap", "stirred", "cell", "own"]) (ps := ["script", "lap"]) F h.gm_law_well (by kernel_rfl) rfl (fun kV doc pm an cdv ct => len2 fun _ _ => rfl) (fun cdv A outer s H E hr => d_law_well (k := 0) h.fx  _ _ A outer s H E hr))
theorem fn_law (h : Hx P K mg base g) {fd : FuncData} (F : FunD K "law" "law" (defArgs (top 41)) (defBody (top 41)) (defScope (top 41)) [] [] (He.fAd K ("law", none)) fd) : FnOk P w K mg base C8.CX0 26 (He.fAd K ("law", none)) fd ["script"] (SpG K g 1 S_law) :=
  (fn_ok (N := ["script", "lap"]) (ps := ["script"]) F (C8.fnScope_by (by kernel_rfl)) (fun cdv A outer s H E hr => d_law (k := 23) h.fx ((c_law_right h).mono (by decide)) ((c_law_well h).mono (by decide)) _ _ A outer s H E hr)).imp (spG_frz 100)
theorem c_law (h : Hx P K mg base g) : Cal P w K mg base g 26 "law" 1 S_law := by
  obtain ⟨fd, F⟩ := h.fd_law
  exact (cal_of (N := ["script", "lap"]) (ps := ["script"]) F h.gm_law (by kernel_rfl) rfl (fun kV doc pm an cdv ct => len1 fun _ => rfl) (fun cdv A outer s H E hr => d_law (k := 23) h.fx ((c_law_right h).mono (by decide)) ((c_law_well h).mono (by decide)) _ _ A outer s H E hr)).frz 100
end
theorem hx_of {w : World} {h : Heap} {K : PySem.W.Frag} {mg : Str → Option Value} {base : Heap} (KX : K.In h) (hg : h.Ns mainGlobals mg) (c : SaysE fa fn tf gs es PySem.Challenge.rw_watchposts_k84_books_refuse.prog ex w h K) (hb : ∀ p ∈ tf.map (He.cT K), TabB base mg p.1 p.2) : Hx PySem.Challenge.rw_watchposts_k84_books_refuse.prog K mg base (gOf K) := by
  have he : ∀ f, f ∈ exs → f K = true := fun f hf => List.all_eq_true.mp c.p.x.more f hf
  have isi : ∀ g : G, g.ca = He.ga K → IsiT K g isiTb isiNb := fun g hg => by
    have sp : ∀ k d b, isiTb k d = some b → b = true ∧ ∃ c, d = .cls c ∧ ((k = "Web" ∧ c = "Web")) := fun k d b e => by
      unfold isiTb at e
      split at e
      · split at e
        · cases e
          exact ⟨rfl, _, rfl, by assumption⟩
        · cases e
      · cases e
    refine ⟨fun k d b e => ?_, fun k t b e => ?_, fun k c b e => ?_, fun n c e hn => ?_, fun k d b e => ?_⟩
    · obtain ⟨_, c, _, h⟩ := sp _ _ _ e
      rw [hg]
      rcases h with ⟨rfl, rfl⟩
      · exact ⟨He.cls_ok (c.p.fact (List.mem_of_getElem? (i := 53) rfl)), He.eqO_ok (he ex1 (List.mem_of_getElem? (i := 1) rfl)), He.eqO_ok (he ex3 (List.mem_of_getElem? (i := 3) rfl)), of_decide_eq_true (he ex4 (List.mem_of_getElem? (i := 4) rfl)), of_decide_eq_true (he ex2 (List.mem_of_getElem? (i := 2) rfl))⟩
    · obtain ⟨_, c, h, _⟩ := sp _ _ _ e
      cases h
    · obtain ⟨hb, c2, h, h2⟩ := sp _ _ _ e
      cases h
      subst hb
      rw [hg]
      rcases h2 with ⟨rfl, rfl⟩
      · exact of_decide_eq_true (he ex5 (List.mem_of_getElem? (i := 5) rfl))
    · have hc : c = "Web" := by simpa [isiNb] using e
      have hm : n ∈ (["NoneType", "bool", "int", "str", "tuple", "list", "dict"] : List String) := by rcases hn with rfl | rfl | rfl | rfl | rfl | rfl | rfl <;> simp
      rw [hg]
      subst hc
      · exact of_decide_eq_true (List.all_eq_true.mp (he ex6 (List.mem_of_getElem? (i := 6) rfl)) n hm)
    · obtain ⟨_, c, h, _⟩ := sp _ _ _ e
      exact .inr ⟨c, h⟩
  have xex : ∀ k d b, xTb k d = some b → (k = "UnknownPlace" ∧ d = .cls "UnknownPlace" ∧ b = true) ∨ (k = "UnknownPlace" ∧ d = .cls "NotAWeb" ∧ b = false) ∨ (k = "NotAWeb" ∧ d = .cls "UnknownPlace" ∧ b = false) ∨ (k = "NotAWeb" ∧ d = .cls "NotAWeb" ∧ b = true) ∨ (k = "UnknownPlace" ∧ d = .ty "ValueError" ∧ b = true) ∨ (k = "NotAWeb" ∧ d = .ty "ValueError" ∧ b = true) := fun k d b e => by
    unfold xTb at e
    split at e
    · (repeat (split at e; rotate_left)) <;> simp_all
    · (repeat (split at e; rotate_left)) <;> simp_all
    · cases e
  have xe_WatchError : ∀ k b, xE_WatchError k = some b → (k = "UnknownPlace" ∧ b = true) ∨ (k = "NotAWeb" ∧ b = true) := fun k b e => by
    unfold xE_WatchError at e
    (repeat (split at e; rotate_left)) <;> simp_all
  have fx : Fx PySem.Challenge.rw_watchposts_k84_books_refuse.prog K mg (He.ga K) := {
    isi := isi
    f_ValueError := He.free_ok KX hg (c.p.fact (List.mem_of_getElem? (i := 25) rfl))
    f_abs := He.free_ok KX hg (c.p.fact (List.mem_of_getElem? (i := 26) rfl))
    f_all := He.free_ok KX hg (c.p.fact (List.mem_of_getElem? (i := 27) rfl))
    f_bool := He.free_ok KX hg (c.p.fact (List.mem_of_getElem? (i := 28) rfl))
    f_dict := He.free_ok KX hg (c.p.fact (List.mem_of_getElem? (i := 29) rfl))
    f_divmod := He.free_ok KX hg (c.p.fact (List.mem_of_getElem? (i := 30) rfl))
    f_enumerate := He.free_ok KX hg (c.p.fact (List.mem_of_getElem? (i := 31) rfl))
    f_int := He.free_ok KX hg (c.p.fact (List.mem_of_getElem? (i := 32) rfl))
    f_isinstance := He.free_ok KX hg (c.p.fact (List.mem_of_getElem? (i := 33) rfl))
    f_len := He.free_ok KX hg (c.p.fact (List.mem_of_getElem? (i := 34) rfl))
    f_list := He.free_ok KX hg (c.p.fact (List.mem_of_getElem? (i := 35) rfl))
    f_max := He.free_ok KX hg (c.p.fact (List.mem_of_getElem? (i := 36) rfl))
    f_min := He.free_ok KX hg (c.p.fact (List.mem_of_getElem? (i := 37) rfl))
    f_range := He.free_ok KX hg (c.p.fact (List.mem_of_getElem? (i := 38) rfl))
    f_sorted := He.free_ok KX hg (c.p.fact (List.mem_of_getElem? (i := 39) rfl))
    f_str := He.free_ok KX hg (c.p.fact (List.mem_of_getElem? (i := 40) rfl))
    f_super := He.free_ok KX hg (c.p.fact (List.mem_of_getElem? (i := 41) rfl))
    f_tuple := He.free_ok KX hg (c.p.fact (List.mem_of_getElem? (i := 42) rfl))
    c_LETTERS := He.str_ok KX hg (c.p.fact (List.mem_of_getElem? (i := 50) rfl))
    c_MOST_LETTERS := He.int_ok KX hg (c.p.fact (List.mem_of_getElem? (i := 48) rfl))
    c_MOST_PLACES := He.int_ok KX hg (c.p.fact (List.mem_of_getElem? (i := 49) rfl))
    c_WORDS := ⟨_, He.glo_ok KX hg (c.p.fact (List.mem_of_getElem? (i := 51) rfl)), fun H => He.tupB_ok (he ex0 (List.mem_of_getElem? (i := 0) rfl)) H⟩
    g_Book := He.glo_ok KX hg (c.p.fact (List.mem_of_getElem? (i := 43) rfl))
    g_NotAWeb := He.glo_ok KX hg (c.p.fact (List.mem_of_getElem? (i := 44) rfl))
    g_UnknownPlace := He.glo_ok KX hg (c.p.fact (List.mem_of_getElem? (i := 45) rfl))
    g_WatchError := He.glo_ok KX hg (c.p.fact (List.mem_of_getElem? (i := 46) rfl))
    g_Web := He.glo_ok KX hg (c.p.fact (List.mem_of_getElem? (i := 47) rfl))
    cl_Book := He.cls_ok (c.p.fact (List.mem_of_getElem? (i := 52) rfl))
    na_Book_standing := He.noat_ok (c.p.fact (List.mem_of_getElem? (i := 56) rfl))
    cl_Web := He.cls_ok (c.p.fact (List.mem_of_getElem? (i := 53) rfl))
    na_Web_all_told := He.noat_ok (c.p.fact (List.mem_of_getElem? (i := 57) rfl))
    sx_NotAWeb := ⟨_, _, (c.exc (d := ed_NotAWeb) (List.mem_of_getElem? (i := 1) rfl) (by kernel_rfl)).1⟩
    sx_UnknownPlace := ⟨_, _, (c.exc (d := ed_UnknownPlace) (List.mem_of_getElem? (i := 0) rfl) (by kernel_rfl)).1⟩
    xL_given := fun k hk => by
      simp only [xL_given, List.mem_cons, List.not_mem_nil, or_false] at hk
      rcases hk with rfl | rfl
      · exact ⟨(c.exc (d := ed_UnknownPlace) (List.mem_of_getElem? (i := 0) rfl) (by kernel_rfl)).2.1.xf, (c.exc (d := ed_UnknownPlace) (List.mem_of_getElem? (i := 0) rfl) (by kernel_rfl)).2.2⟩
      · exact ⟨(c.exc (d := ed_NotAWeb) (List.mem_of_getElem? (i := 1) rfl) (by kernel_rfl)).2.1.xf, (c.exc (d := ed_NotAWeb) (List.mem_of_getElem? (i := 1) rfl) (by kernel_rfl)).2.2⟩
    xTb := fun g hg k d b e => by
      rcases xex k d b e with ⟨rfl, rfl, rfl⟩ | ⟨rfl, rfl, rfl⟩ | ⟨rfl, rfl, rfl⟩ | ⟨rfl, rfl, rfl⟩ | ⟨rfl, rfl, rfl⟩ | ⟨rfl, rfl, rfl⟩
      · exact ⟨(c.exc (d := ed_UnknownPlace) (List.mem_of_getElem? (i := 0) rfl) (by kernel_rfl)).2.1.ex, _, (show ClsD g (.cls "UnknownPlace") (.ref (He.ga K "UnknownPlace")) from (show Value.ref (He.ga K "UnknownPlace") = Value.ref (g.ca "UnknownPlace") by rw [hg])), of_decide_eq_true (he ex7 (List.mem_of_getElem? (i := 7) rfl))⟩
      · exact ⟨(c.exc (d := ed_UnknownPlace) (List.mem_of_getElem? (i := 0) rfl) (by kernel_rfl)).2.1.ex, _, (show ClsD g (.cls "NotAWeb") (.ref (He.ga K "NotAWeb")) from (show Value.ref (He.ga K "NotAWeb") = Value.ref (g.ca "NotAWeb") by rw [hg])), of_decide_eq_true (he ex8 (List.mem_of_getElem? (i := 8) rfl))⟩
      · exact ⟨(c.exc (d := ed_NotAWeb) (List.mem_of_getElem? (i := 1) rfl) (by kernel_rfl)).2.1.ex, _, (show ClsD g (.cls "UnknownPlace") (.ref (He.ga K "UnknownPlace")) from (show Value.ref (He.ga K "UnknownPlace") = Value.ref (g.ca "UnknownPlace") by rw [hg])), of_decide_eq_true (he ex9 (List.mem_of_getElem? (i := 9) rfl))⟩
      · exact ⟨(c.exc (d := ed_NotAWeb) (List.mem_of_getElem? (i := 1) rfl) (by kernel_rfl)).2.1.ex, _, (show ClsD g (.cls "NotAWeb") (.ref (He.ga K "NotAWeb")) from (show Value.ref (He.ga K "NotAWeb") = Value.ref (g.ca "NotAWeb") by rw [hg])), of_decide_eq_true (he ex10 (List.mem_of_getElem? (i := 10) rfl))⟩
      · exact ⟨(c.exc (d := ed_UnknownPlace) (List.mem_of_getElem? (i := 0) rfl) (by kernel_rfl)).2.1.ex, _, rfl, of_decide_eq_true (he ex11 (List.mem_of_getElem? (i := 11) rfl))⟩
      · exact ⟨(c.exc (d := ed_NotAWeb) (List.mem_of_getElem? (i := 1) rfl) (by kernel_rfl)).2.1.ex, _, rfl, of_decide_eq_true (he ex12 (List.mem_of_getElem? (i := 12) rfl))⟩
    xe_WatchError := fun k b e => by
      rcases xe_WatchError k b e with ⟨rfl, rfl⟩ | ⟨rfl, rfl⟩
      · exact He.exm_ok (c.p.fact (List.mem_of_getElem? (i := 66) rfl))
      · exact He.exm_ok (c.p.fact (List.mem_of_getElem? (i := 67) rfl)) }
  have nd : (tf.map fun p => (He.cT K p).2).Nodup := of_decide_eq_true (he ex13 (List.mem_of_getElem? (i := 13) rfl))
  have hu : ∀ (i j : Nat) (a b : NTab), (gOf K).T[i]? = some a → (gOf K).T[j]? = some b → a.1 = b.1 → a = b := fun i j a b h1 h2 e => by
    have el : (gOf K).T.map (·.1) = tf.map fun p => (He.cT K p).2 := rfl
    rw [← el] at nd
    have e1 : ((gOf K).T.map (·.1))[i]? = some a.1 := by rw [List.getElem?_map, h1]; rfl
    have e2 : ((gOf K).T.map (·.1))[j]? = some a.1 := by rw [List.getElem?_map, h2, e]; rfl
    obtain ⟨l1, g1⟩ := List.getElem?_eq_some_iff.mp e1
    obtain ⟨l2, g2⟩ := List.getElem?_eq_some_iff.mp e2
    have hij : i = j := (List.getElem_inj nd).mp (g1.trans g2.symm)
    subst hij
    rw [h1] at h2
    exact Option.some.inj h2
  exact {
    fx := fx
    mt_Book_check_post := He.meth_ok (c.p.fact (List.mem_of_getElem? (i := 58) rfl))
    mt_Book_cut := He.meth_ok (c.p.fact (List.mem_of_getElem? (i := 59) rfl))
    mt_Book_pair_of := He.meth_ok (c.p.fact (List.mem_of_getElem? (i := 60) rfl))
    mt_Book_post := He.meth_ok (c.p.fact (List.mem_of_getElem? (i := 61) rfl))
    mt_Book_put_posts := He.meth_ok (c.p.fact (List.mem_of_getElem? (i := 62) rfl))
    mt_Book_step := He.meth_ok (c.p.fact (List.mem_of_getElem? (i := 63) rfl))
    mt_Book_take := He.meth_ok (c.p.fact (List.mem_of_getElem? (i := 64) rfl))
    mt_Book_tie := He.meth_ok (c.p.fact (List.mem_of_getElem? (i := 65) rfl))
    fd_is_one_of := c.p.def_ (d := dd_is_one_of) (List.mem_of_getElem? (i := 0) rfl)
    gm_is_one_of := He.glo_ok KX hg (c.p.fact (List.mem_of_getElem? (i := 1) rfl))
    fd_is_word := c.p.def_ (d := dd_is_word) (List.mem_of_getElem? (i := 1) rfl)
    gm_is_word := He.glo_ok KX hg (c.p.fact (List.mem_of_getElem? (i := 2) rfl))
    fd_is_name := c.p.def_ (d := dd_is_name) (List.mem_of_getElem? (i := 2) rfl)
    gm_is_name := He.glo_ok KX hg (c.p.fact (List.mem_of_getElem? (i := 3) rfl))
    fd_is_tuple_of := c.p.def_ (d := dd_is_tuple_of) (List.mem_of_getElem? (i := 3) rfl)
    gm_is_tuple_of := He.glo_ok KX hg (c.p.fact (List.mem_of_getElem? (i := 4) rfl))
    fd_is_pair := c.p.def_ (d := dd_is_pair) (List.mem_of_getElem? (i := 4) rfl)
    gm_is_pair := He.glo_ok KX hg (c.p.fact (List.mem_of_getElem? (i := 5) rfl))
    fd_wrong_in := c.p.def_ (d := dd_wrong_in) (List.mem_of_getElem? (i := 5) rfl)
    gm_wrong_in := He.glo_ok KX hg (c.p.fact (List.mem_of_getElem? (i := 6) rfl))
    fd_are_below := c.p.def_ (d := dd_are_below) (List.mem_of_getElem? (i := 6) rfl)
    gm_are_below := He.glo_ok KX hg (c.p.fact (List.mem_of_getElem? (i := 7) rfl))
    fd_wrong_in_places := c.p.def_ (d := dd_wrong_in_places) (List.mem_of_getElem? (i := 7) rfl)
    gm_wrong_in_places := He.glo_ok KX hg (c.p.fact (List.mem_of_getElem? (i := 8) rfl))
    fd_is_tie := c.p.def_ (d := dd_is_tie) (List.mem_of_getElem? (i := 8) rfl)
    gm_is_tie := He.glo_ok KX hg (c.p.fact (List.mem_of_getElem? (i := 9) rfl))
    fd_wrong_in_ties := c.p.def_ (d := dd_wrong_in_ties) (List.mem_of_getElem? (i := 9) rfl)
    gm_wrong_in_ties := He.glo_ok KX hg (c.p.fact (List.mem_of_getElem? (i := 10) rfl))
    fd_beside_by := c.p.def_ (d := dd_beside_by) (List.mem_of_getElem? (i := 10) rfl)
    gm_beside_by := He.glo_ok KX hg (c.p.fact (List.mem_of_getElem? (i := 11) rfl))
    fd_sees_by := c.p.def_ (d := dd_sees_by) (List.mem_of_getElem? (i := 11) rfl)
    gm_sees_by := He.glo_ok KX hg (c.p.fact (List.mem_of_getElem? (i := 12) rfl))
    fd_Web_ddinitdd := c.p.def_ (d := dd_Web_ddinitdd) (List.mem_of_getElem? (i := 12) rfl)
    fd_Web_places := (c.p.getter (d := gd_Web_places) (List.mem_of_getElem? (i := 0) rfl)).1
    pp_Web_places := (c.p.getter (d := gd_Web_places) (List.mem_of_getElem? (i := 0) rfl)).2
    fd_Web_ties := (c.p.getter (d := gd_Web_ties) (List.mem_of_getElem? (i := 1) rfl)).1
    pp_Web_ties := (c.p.getter (d := gd_Web_ties) (List.mem_of_getElem? (i := 1) rfl)).2
    fd_Web_parts := (c.p.getter (d := gd_Web_parts) (List.mem_of_getElem? (i := 2) rfl)).1
    pp_Web_parts := (c.p.getter (d := gd_Web_parts) (List.mem_of_getElem? (i := 2) rfl)).2
    fd_Web_ddeqdd := c.p.def_ (d := dd_Web_ddeqdd) (List.mem_of_getElem? (i := 13) rfl)
    fd_check_web := c.p.def_ (d := dd_check_web) (List.mem_of_getElem? (i := 14) rfl)
    gm_check_web := He.glo_ok KX hg (c.p.fact (List.mem_of_getElem? (i := 13) rfl))
    fd_check_place := c.p.def_ (d := dd_check_place) (List.mem_of_getElem? (i := 15) rfl)
    gm_check_place := He.glo_ok KX hg (c.p.fact (List.mem_of_getElem? (i := 14) rfl))
    fd_Book_ddinitdd := c.p.def_ (d := dd_Book_ddinitdd) (List.mem_of_getElem? (i := 16) rfl)
    fd_Book_web := (c.p.getter (d := gd_Book_web) (List.mem_of_getElem? (i := 3) rfl)).1
    pp_Book_web := (c.p.getter (d := gd_Book_web) (List.mem_of_getElem? (i := 3) rfl)).2
    fd_Book_posts := (c.p.getter (d := gd_Book_posts) (List.mem_of_getElem? (i := 4) rfl)).1
    pp_Book_posts := (c.p.getter (d := gd_Book_posts) (List.mem_of_getElem? (i := 4) rfl)).2
    fd_Book_pair_of := c.p.def_ (d := dd_Book_pair_of) (List.mem_of_getElem? (i := 17) rfl)
    fd_Book_tie := c.p.def_ (d := dd_Book_tie) (List.mem_of_getElem? (i := 18) rfl)
    fd_Book_cut := c.p.def_ (d := dd_Book_cut) (List.mem_of_getElem? (i := 19) rfl)
    fd_Book_put_posts := c.p.def_ (d := dd_Book_put_posts) (List.mem_of_getElem? (i := 20) rfl)
    fd_Book_check_post := c.p.def_ (d := dd_Book_check_post) (List.mem_of_getElem? (i := 21) rfl)
    fd_Book_post := c.p.def_ (d := dd_Book_post) (List.mem_of_getElem? (i := 22) rfl)
    fd_Book_take := c.p.def_ (d := dd_Book_take) (List.mem_of_getElem? (i := 23) rfl)
    fd_Book_step := c.p.def_ (d := dd_Book_step) (List.mem_of_getElem? (i := 24) rfl)
    fd_law_well := c.p.def_ (d := dd_law_well) (List.mem_of_getElem? (i := 25) rfl)
    gm_law_well := He.glo_ok KX hg (c.p.fact (List.mem_of_getElem? (i := 15) rfl))
    fd_law_draw := c.p.def_ (d := dd_law_draw) (List.mem_of_getElem? (i := 26) rfl)
    gm_law_draw := He.glo_ok KX hg (c.p.fact (List.mem_of_getElem? (i := 16) rfl))
    fd_law_of := c.p.def_ (d := dd_law_of) (List.mem_of_getElem? (i := 27) rfl)
    gm_law_of := He.glo_ok KX hg (c.p.fact (List.mem_of_getElem? (i := 17) rfl))
    fd_law_same := c.p.def_ (d := dd_law_same) (List.mem_of_getElem? (i := 28) rfl)
    gm_law_same := He.glo_ok KX hg (c.p.fact (List.mem_of_getElem? (i := 18) rfl))
    fd_law_words := c.p.def_ (d := dd_law_words) (List.mem_of_getElem? (i := 29) rfl)
    gm_law_words := He.glo_ok KX hg (c.p.fact (List.mem_of_getElem? (i := 19) rfl))
    fd_law_own := c.p.def_ (d := dd_law_own) (List.mem_of_getElem? (i := 30) rfl)
    gm_law_own := He.glo_ok KX hg (c.p.fact (List.mem_of_getElem? (i := 20) rfl))
    fd_law_names := c.p.def_ (d := dd_law_names) (List.mem_of_getElem? (i := 31) rfl)
    gm_law_names := He.glo_ok KX hg (c.p.fact (List.mem_of_getElem? (i := 21) rfl))
    fd_law_kept_by := c.p.def_ (d := dd_law_kept_by) (List.mem_of_getElem? (i := 32) rfl)
    gm_law_kept_by := He.glo_ok KX hg (c.p.fact (List.mem_of_getElem? (i := 22) rfl))
    fd_law_right := c.p.def_ (d := dd_law_right) (List.mem_of_getElem? (i := 33) rfl)
    gm_law_right := He.glo_ok KX hg (c.p.fact (List.mem_of_getElem? (i := 23) rfl))
    fd_law := c.p.def_ (d := dd_law) (List.mem_of_getElem? (i := 34) rfl)
    gm_law := He.glo_ok KX hg (c.p.fact (List.mem_of_getElem? (i := 24) rfl))
    mk_Book := He.mkr_ok (c.p.fact (List.mem_of_getElem? (i := 54) rfl))
    mk_Web := He.mkr_ok (c.p.fact (List.mem_of_getElem? (i := 55) rfl))
    tb_wrong_in_places := hb (He.cT K ("wrong_in_places", none)) (List.mem_of_getElem? (i := 0) rfl)
    ht_wrong_in_places := List.mem_of_getElem? (i := 0) rfl
    hu_wrong_in_places := fun p hp e => by
      obtain ⟨j, hj⟩ := List.mem_iff_getElem?.mp hp
      rw [hu j 0 p _ hj rfl e]
    tb_wrong_in_ties := hb (He.cT K ("wrong_in_ties", none)) (List.mem_of_getElem? (i := 1) rfl)
    ht_wrong_in_ties := List.mem_of_getElem? (i := 1) rfl
    hu_wrong_in_ties := fun p hp e => by
      obtain ⟨j, hj⟩ := List.mem_iff_getElem?.mp hp
      rw [hu j 1 p _ hj rfl e]
    tb_law_right := hb (He.cT K ("_law_right", none)) (List.mem_of_getElem? (i := 2) rfl)
    ht_law_right := List.mem_of_getElem? (i := 2) rfl
    hu_law_right := fun p hp e => by
      obtain ⟨j, hj⟩ := List.mem_iff_getElem?.mp hp
      rw [hu j 2 p _ hj rfl e] }
theorem law_at {w : World} {h : Heap} {K : PySem.W.Frag} {mg : Str → Option Value} {f : Addr} (KX : K.In h) (hg : h.Ns mainGlobals mg) (hf : mg "law" = some (.ref f)) (c : SaysE fa fn tf gs es PySem.Challenge.rw_watchposts_k84_books_refuse.prog ex w h K)
    (hm : ∀ ns : List Int, ns.length ≤ 63 → (∀ z ∈ ns, Builtin.Int.intBits z ≤ 1048576) → ∀ d : D, d = .ro (ns.map D.int) ∨ d = .lst (ns.map D.int) → ∃ st, S_law [.d d] [] = some (.bl true, st)) :
    LawAtS PySem.Challenge.rw_watchposts_k84_books_refuse w K C8.CX0 26 63 "script" mg f h := by
  obtain ⟨fd, F⟩ := c.p.def_ (d := dd_law) (List.mem_of_getElem? (i := 34) rfl)
  have e := hf.symm.trans (He.glo_ok KX hg (c.p.fact (List.mem_of_getElem? (i := 24) rfl)))
  cases e
  have b := FunD.bindsA (ps := ["script"]) F (fun kV doc pm an cdv ct => len1 fun _ => rfl)
  refine ⟨fd, tf.map (He.cT K), SpG K (gOf K) 1 S_law, fun p hp => ?_, fun p hp => ?_, fun p hp => ?_, fun s u => b s [u] rfl, fun H a ns hl hbits hT hS => ?_, fun base hK hN hTB => ?_⟩
  · obtain ⟨q, hq, e⟩ := List.mem_map.mp hp
    rw [← e]
    exact c.p.x.empty q hq
  · obtain ⟨q, hq, e⟩ := List.mem_map.mp hp
    rw [← e]
    exact c.p.x.out q hq
  · obtain ⟨q, hq, e⟩ := List.mem_map.mp hp
    rw [← e]
    exact PySem.W.codeHd_of_K KX (c.p.x.hd q hq)
  · refine law_sp (fun p hp => ?_) hS (hm ns hl hbits)
    have : p.1 ∈ tf.map fun q => (He.cT K q).2 := by
      have e : ((gOf K).T.map (·.1)) = tf.map fun q => (He.cT K q).2 := rfl
      rw [← e]
      exact List.mem_map_of_mem hp
    obtain ⟨q, hq, e⟩ := List.mem_map.mp this
    exact TabN.nil (by rw [← e]; exact hT _ (List.mem_map_of_mem hq))
  · exact fn_law (hx_of KX hg c hTB) F
end K84
set_option autoImplicit false
set_option maxRecDepth 100000
set_option maxHeartbeats 4000000
namespace K84
open PySem PySem.Spec L2 MM
/-- every object of the store names places that are there -/
def Wf (st : List Ob) : Prop := st.all (Ob.lo st.length) = true
def W3 (a b c : Int) : Ob := .lst [.int a, .int b, .int c]
theorem w3_lo {n : Nat} {a b c : Int} : Ob.lo n (W3 a b c) = true := by simp [W3, Ob.lo, D.loL, D.lo]
theorem Wf.set {st : List Ob} {n : Nat} {o : Ob} (h : Wf st) (ho : Ob.lo st.length o = true) : Wf (st.set n o) := by
  unfold Wf at h ⊢
  rw [List.length_set, List.all_eq_true]
  intro x hx
  rcases List.mem_or_eq_of_mem_set hx with hx | hx
  · exact List.all_eq_true.mp h x hx
  · rw [hx]; exact ho
theorem wp_frzS {k : Nat} {m : Mo D} {st : List Ob} {Q : D → List Ob → Prop} (h : wp m st fun d s => ∃ s0 g, s = s0 ++ g ∧ s0.length = st.length ∧ Wf s0 ∧ ∃ e, frzD s st.length k d = some e ∧ Q e s0) : wp (frzM k m) st Q := by
  rw [wp_frz]
  refine wp_mono h fun d s ⟨s0, g, e1, e2, e3, e, e4, q⟩ => ?_
  subst e1
  have ht : (s0 ++ g).take st.length = s0 := by rw [← e2, List.take_left]
  rw [ht, e4]
  exact ⟨by rw [← e2]; exact e3, q⟩
theorem wp_frz0 {k : Nat} {m : Mo D} {st : List Ob} {Q : D → List Ob → Prop} (h : wp m st fun d s => s.length = st.length ∧ Wf s ∧ ∃ e, frzD s st.length k d = some e ∧ Q e s) : wp (frzM k m) st Q :=
  wp_frzS (wp_mono h fun d s ⟨h1, h2, h3⟩ => ⟨s, [], by simp, h1, h2, h3⟩)
theorem dIx_loc {st : List Ob} {n : Nat} {ds : List D} {i : Int} (h : st[n]? = some (.lst ds)) : dIx st (.loc n) (.int i) = atI ds i := by
  simp [dIx, seqItems, res, h]
theorem dIx_tup {st : List Ob} {ds : List D} {i : Int} : dIx st (.tup ds) (.int i) = atI ds i := by
  simp [dIx, seqItems, res]
theorem dIx_lst {st : List Ob} {ds : List D} {i : Int} : dIx st (.lst ds) (.int i) = atI ds i := by
  simp [dIx, seqItems, res]
theorem dIB_int {f : Int → Int → Bool} {i j : Int} : dIB f (.int i) (.int j) = some (.bl (f i j)) := rfl
theorem dI_int {c : Int → Int → Prop} [∀ i j, Decidable (c i j)] {f : Int → Int → Int} {i j : Int} : dI c f (.int i) (.int j) = if c i j then some (.int (f i j)) else none := rfl
theorem dAdd_int {i j : Int} : dAdd (.int i) (.int j) = some (.int (i + j)) := rfl
theorem dInt_int {st : List Ob} {i : Int} : dInt st [.int i] = some (.int i) := rfl
theorem dDivmod_int {st : List Ob} {i j : Int} : dDivmod st [.int i, .int j] = if cDiv i j then some (.tup [.int (i / j), .int (i % j)]) else none := rfl
theorem frz_int {st : List Ob} {n k : Nat} {i : Int} : frzD st n (k + 1) (.int i) = some (.int i) := by simp [frzD, D.lo]
theorem cMul_r {i j : Int} (h : -(2 ^ 64) < j ∧ j < 2 ^ 64) : cMul i j := .inr h
theorem cMul_l {i j : Int} (h : -(2 ^ 64) < i ∧ i < 2 ^ 64) : cMul i j := .inl h
theorem draw_ok0 {st : List Ob} {n : Nat} {a b c l : Int} (hw : Wf st) (h : st[n]? = some (W3 a b c)) (h1 : 1 ≤ l) (h2 : l < 1073741824) {Q : D → List Ob → Prop}
    (q : ∀ (r : Int) (a' b' c' : Int), 0 ≤ r → r < l → Q (.int r) (st.set n (W3 a' b' c'))) : wp (S_law_draw [.d (.loc n), .d (.int l)]) st Q := by
  have hn : n < st.length := (List.getElem?_eq_some_iff.mp h).1
  have gs : ∀ o : Ob, (st.set n o)[n]? = some o := fun o => List.getElem?_set_self hn
  have fin : ∀ (r : Int) (a' b' c' : Int), 0 ≤ r → r < l → ((st.set n (W3 a' b' c')).length = st.length ∧ Wf (st.set n (W3 a' b' c')) ∧ ∃ e, frzD (st.set n (W3 a' b' c')) st.length 12 (.int r) = some e ∧ Q e (st.set n (W3 a' b' c'))) := fun r a' b' c' hr hl => ⟨List.length_set, hw.set w3_lo, _, frz_int, q r a' b' c' hr hl⟩
  unfold S_law_draw
  refine wp_frz0 ?_
  rw [wp_runF]
  unfold m_law_draw
  unfold W3 at h
  have i0 : ∀ x y z : Int, atI [D.int x, D.int y, D.int z] 0 = some (.int x) := fun _ _ _ => rfl
  have i1 : ∀ x y z : Int, atI [D.int x, D.int y, D.int z] 1 = some (.int y) := fun _ _ _ => rfl
  have i2 : ∀ x y z : Int, atI [D.int x, D.int y, D.int z] 2 = some (.int z) := fun _ _ _ => rfl
  have j0 : ixN 3 0 = some 0 := rfl
  have j1 : ixN 3 1 = some 1 := rfl
  have j2 : ixN 3 2 = some 2 := rfl
  have cd : cDiv a l := ⟨by omega, h2⟩
  have c1 : ∀ x : Int, cMul x 40009 := fun x => cMul_r (by decide)
  have c2 : ∀ x : Int, cMul 15013 x := fun x => cMul_l (by decide)
  have c3 : ∀ x y : Int, cMul x (y % 5003 + 20011) := fun x y => cMul_r (by omega)
  have c4 : ∀ x : Int, cDiv x 1031 := fun x => ⟨by decide, by decide⟩
  have p1 : (0 : Int) < 2147483587 := by decide
  have p2 : (0 : Int) < 5003 := by decide
  have p3 : 0 < l := by omega
  by_cases ha : 0 < a
  · simp only [startE, List.map_cons, List.map_nil, List.length_cons, List.length_nil, List.replicate, List.cons_append, List.nil_append, wp_ySeq, wp_yIf, wp_asB, wp_xBin, wp_var, wp_c, wp_mIx, List.getElem?_cons_zero, List.getElem?_cons_succ, dIx_loc h, i0, wp_lift2, dIB_int, isB_bl, decide_eq_true ha, if_true,
      wp_yAsg, wp_xCall, wp_xCons, wp_xNil, wp_liftL, dDivmod_int, if_pos cd, wp_zTup, wp_zCons, wp_zSub, wp_setLoc, h, j0, List.set_cons_zero, wp_zName, List.set_cons_succ, wp_zNil, onNx_nx, wp_yRet, onNx_rt]
    exact fin _ _ _ _ (Int.emod_nonneg _ (by omega)) (Int.emod_lt_of_pos _ (by omega))
  · simp only [startE, List.map_cons, List.map_nil, List.length_cons, List.length_nil, List.replicate, List.cons_append, List.nil_append, wp_ySeq, wp_yIf, wp_asB, wp_xBin, wp_var, wp_c, wp_mIx, List.getElem?_cons_zero, List.getElem?_cons_succ, dIx_loc h, i0, wp_lift2, dIB_int, isB_bl, decide_eq_false ha, if_false, Bool.false_eq_true, wp_yNil,
      wp_yAsg, wp_xCall, wp_xCons, wp_xNil, wp_liftL, wp_zSub, wp_setLoc, h, j0, List.set_cons_zero, wp_zName, List.set_cons_succ, wp_zNil, onNx_nx, wp_yRet, onNx_rt, wp_ySet, i1, i2, j1, j2, dAdd_int, dI_int, dInt_int, dIx_loc (gs _), gs, List.set_set, c1, c2, c3, c4, p1, p2, p3, if_true]
    exact fin _ _ _ _ (Int.emod_nonneg _ (by omega)) (Int.emod_lt_of_pos _ (by omega))
end K84
set_option autoImplicit false
set_option maxRecDepth 100000
set_option maxHeartbeats 4000000
namespace K84
open PySem PySem.Spec L2 MM
mutual
theorem lo_mono {n m : Nat} (h : n ≤ m) : ∀ d : D, D.lo n d = true → D.lo m d = true
  | .tup ds, e => by simp only [D.lo] at e ⊢; exact loL_mono h ds e
  | .lst ds, e => by simp only [D.lo] at e ⊢; exact loL_mono h ds e
  | .ro ds, e => by simp only [D.lo] at e ⊢; exact loL_mono h ds e
  | .ins _ _ ds, e => by simp only [D.lo] at e ⊢; exact loL_mono h ds e
  | .dct _ ds, e => by simp only [D.lo] at e ⊢; exact loL_mono h ds e
  | .loc k, e => by
    simp only [D.lo] at e ⊢
    exact decide_eq_true (Nat.lt_of_lt_of_le (of_decide_eq_true e) h)
  | .non, _ => by simp only [D.lo]
  | .bl _, _ => by simp only [D.lo]
  | .int _, _ => by simp only [D.lo]
  | .str _, _ => by simp only [D.lo]
  | .ty _, _ => by simp only [D.lo]
  | .cls _, _ => by simp only [D.lo]
theorem loL_mono {n m : Nat} (h : n ≤ m) : ∀ ds : List D, D.loL n ds = true → D.loL m ds = true
  | [], _ => by simp only [D.loL]
  | d :: ds, e => by
    simp only [D.loL, Bool.and_eq_true] at e ⊢
    exact ⟨lo_mono h d e.1, loL_mono h ds e.2⟩
end
theorem obLo_mono {n m : Nat} (h : n ≤ m) {o : Ob} (e : Ob.lo n o = true) : Ob.lo m o = true := by
  cases o <;> exact loL_mono h _ e
theorem Wf.push {st : List Ob} {o : Ob} (h : Wf st) (ho : Ob.lo (st.length + 1) o = true) : Wf (st ++ [o]) := by
  unfold Wf at h ⊢
  rw [List.all_eq_true] at h ⊢
  intro x hx
  rw [List.length_append]
  rcases List.mem_append.mp hx with hx | hx
  · exact obLo_mono (Nat.le_succ _) (h x hx)
  · rw [List.mem_singleton.mp hx]; exact ho
def WAt (st : List Ob) (n : Nat) : Prop := ∃ a b c : Int, st[n]? = some (W3 a b c)
theorem WAt.lt {st : List Ob} {n : Nat} (h : WAt st n) : n < st.length := let ⟨_, _, _, e⟩ := h; (List.getElem?_eq_some_iff.mp e).1
/-- the store has gone on: new objects, the well moved -/
structure Go (n : Nat) (st s : List Ob) : Prop where
  le : st.length ≤ s.length
  old : ∀ m, m < st.length → m ≠ n → s[m]? = st[m]?
  wat : WAt s n
  wf : Wf s
section
variable {n : Nat} {st s s2 : List Ob}
theorem Go.refl (hw : Wf st) (hn : WAt st n) : Go n st st := ⟨Nat.le_refl _, fun _ _ _ => rfl, hn, hw⟩
theorem Go.trans (a : Go n st s) (b : Go n s s2) : Go n st s2 := ⟨Nat.le_trans a.le b.le, fun m h1 h2 => (b.old m (Nat.lt_of_lt_of_le h1 a.le) h2).trans (a.old m h1 h2), b.wat, b.wf⟩
theorem Go.push {o : Ob} (a : Go n st s) (ho : Ob.lo (s.length + 1) o = true) : Go n st (s ++ [o]) :=
  ⟨by rw [List.length_append]; exact Nat.le_succ_of_le a.le, fun m h1 h2 => by rw [List.getElem?_append_left (Nat.lt_of_lt_of_le h1 a.le)]; exact a.old m h1 h2,
    by obtain ⟨x, y, z, e⟩ := a.wat; exact ⟨x, y, z, by rw [List.getElem?_append_left (List.getElem?_eq_some_iff.mp e).1]; exact e⟩, a.wf.push ho⟩
theorem Go.setL {o : Ob} {m : Nat} (a : Go n st s) (hm : st.length ≤ m) (hn : n < st.length) (ho : Ob.lo s.length o = true) : Go n st (s.set m o) :=
  ⟨by rw [List.length_set]; exact a.le, fun j h1 h2 => by rw [List.getElem?_set_ne (by omega)]; exact a.old j h1 h2,
    by obtain ⟨x, y, z, e⟩ := a.wat; exact ⟨x, y, z, by rw [List.getElem?_set_ne (by omega)]; exact e⟩, a.wf.set ho⟩
theorem Go.take (a : Go n st s) (hn : n < st.length) (hw : Wf st) : Go n st (s.take st.length) := by
  have hl : (s.take st.length).length = st.length := by rw [List.length_take]; exact Nat.min_eq_left a.le
  have hg : ∀ m, m < st.length → (s.take st.length)[m]? = s[m]? := fun m h => by rw [List.getElem?_take_of_lt h]
  obtain ⟨x, y, z, e⟩ := a.wat
  refine ⟨Nat.le_of_eq hl.symm, fun m h1 h2 => (hg m h1).trans (a.old m h1 h2), ⟨x, y, z, (hg n hn).trans e⟩, ?_⟩
  unfold Wf
  rw [List.all_eq_true]
  intro o ho
  obtain ⟨m, hm⟩ := List.mem_iff_getElem?.mp ho
  have hml : m < st.length := by have := (List.getElem?_eq_some_iff.mp hm).1; omega
  rw [hl]
  rw [hg m hml] at hm
  by_cases hmn : m = n
  · subst hmn
    rw [e] at hm
    cases hm
    exact w3_lo
  · rw [a.old m hml hmn] at hm
    exact List.all_eq_true.mp hw o (List.mem_of_getElem? hm)
end
theorem wp_frzW {n k : Nat} {m : Mo D} {st : List Ob} {Q : D → List Ob → Prop} (hn : WAt st n) (hw : Wf st)
    (h : wp m st fun d s => Go n st s ∧ ∃ e, frzD s st.length k d = some e ∧ ∀ s', Go n st s' → s'.length = st.length → Q e s') : wp (frzM k m) st Q := by
  rw [wp_frz]
  refine wp_mono h fun d s ⟨g, e, h1, h2⟩ => ?_
  have gt := g.take hn.lt hw
  have hl : (s.take st.length).length = st.length := by rw [List.length_take]; exact Nat.min_eq_left g.le
  refine ⟨?_, ?_⟩
  · have := gt.wf
    unfold Wf at this
    rw [hl] at this
    exact this
  · rw [h1]
    exact h2 _ gt hl
theorem Go.wset {n : Nat} {st : List Ob} {a b c : Int} (hw : Wf st) (hn : n < st.length) : Go n st (st.set n (W3 a b c)) :=
  ⟨by rw [List.length_set]; exact Nat.le_refl _, fun m h1 h2 => List.getElem?_set_ne (Ne.symm h2), ⟨a, b, c, List.getElem?_set_self hn⟩, hw.set w3_lo⟩
theorem draw_ok {st : List Ob} {n : Nat} {l : Int} (hw : Wf st) (h : WAt st n) (h1 : 1 ≤ l) (h2 : l < 1073741824) {Q : D → List Ob → Prop}
    (q : ∀ (r : Int) (s : List Ob), 0 ≤ r → r < l → Go n st s → s.length = st.length → Q (.int r) s) : wp (S_law_draw [.d (.loc n), .d (.int l)]) st Q := by
  obtain ⟨a, b, c, e⟩ := h
  exact draw_ok0 hw e h1 h2 fun r a' b' c' hr hl => q r _ hr hl (Go.wset hw (List.getElem?_eq_some_iff.mp e).1) List.length_set
/-- an element drawn -/
theorem of_ok {st : List Ob} {n : Nat} {ds : List D} (hw : Wf st) (h : WAt st n) (h1 : 0 < ds.length) (h2 : ds.length < 1073741824) (hlo : D.loL 0 ds = true) {Q : D → List Ob → Prop}
    (q : ∀ (d : D) (s : List Ob), d ∈ ds → Go n st s → s.length = st.length → Q d s) {x : D} (hx : x = .tup ds ∨ x = .lst ds) : wp (S_law_of [.d (.loc n), .d x]) st Q := by
  unfold S_law_of
  refine wp_frzW h hw ?_
  rw [wp_runF]
  unfold m_law_of
  have hlen : ∀ s, dLen s [x] = some (.int ds.length) := fun s => by rcases hx with rfl | rfl <;> rfl
  simp only [startE, List.map_cons, List.map_nil, List.length_cons, List.length_nil, List.replicate, List.cons_append, List.nil_append, wp_yRet, wp_xBin, wp_var, List.getElem?_cons_zero, List.getElem?_cons_succ, wp_xFn, wp_xCons, wp_xCall, wp_xNil, wp_liftL, hlen, wp_mIx]
  refine ⟨trivial, draw_ok hw h (by omega) (by omega) fun r s hr hl g hs => ?_⟩
  have hi : r.toNat < ds.length := by omega
  have hat : dIx s x (.int r) = some ds[r.toNat] := by
    have : atI ds r = some ds[r.toNat] := by
      unfold atI ixN
      rw [if_pos hr, if_pos (by omega)]
      exact List.getElem?_eq_getElem hi
    rcases hx with rfl | rfl
    · rw [dIx_tup]; exact this
    · rw [dIx_lst]; exact this
  rw [hat]
  have hm : ds[r.toNat] ∈ ds := List.getElem_mem hi
  have hlo2 : D.lo st.length ds[r.toNat] = true := by
    have gen : ∀ (l : List D), D.loL 0 l = true → ∀ d ∈ l, D.lo 0 d = true := by
      intro l
      induction l with
      | nil => intro _ d hd; cases hd
      | cons a l ih =>
        intro e d hd
        simp only [D.loL, Bool.and_eq_true] at e
        rcases List.mem_cons.mp hd with rfl | hd
        · exact e.1
        · exact ih e.2 d hd
    exact lo_mono (Nat.zero_le _) _ (gen ds hlo _ hm)
  exact ⟨g, _, frz_lo hlo2, fun s' g' hs' => q _ s' hm g' hs'⟩
end K84
set_option autoImplicit false
set_option maxRecDepth 100000
set_option maxHeartbeats 8000000
namespace K84
open PySem PySem.Spec L2 MM
def TA : Str := "all alone apart beside burn case cut double fire game guard in joined lost near next no none of once open"
def TB : Str := " out place post posts quit rule safe set sets step take tie undo watch watched web yes"
def TO : Str := "let odd place web zzzzzzzz"
def SPC : Str := " "
def WS : List Str := Txt.split (TA ++ TB) SPC
def WO : List Str := Txt.split TO SPC
theorem words_ok {st : List Ob} (hw : Wf st) {Q : D → List Ob → Prop} (q : Q (.lst (WS.map .str)) st) : wp (S_law_words []) st Q := by
  unfold S_law_words
  refine wp_frz0 ?_
  rw [wp_runF]
  unfold m_law_words
  have e1 : dAdd (.str TA) (.str TB) = some (.str (TA ++ TB)) := by
    show (if TA.length + TB.length ≤ 1000000 then some (D.str (TA ++ TB)) else none) = _
    rw [if_pos (by decide +kernel)]
  have e2 : mSplit (.str (TA ++ TB)) [.str SPC] st = some (.lst (WS.map .str), st) := by
    show (if (SPC.length == 0) = false ∧ (TA ++ TB).length ≤ 1000000 then some (D.lst ((Txt.split (TA ++ TB) SPC).map .str), st) else none) = _
    rw [if_pos (by decide +kernel)]
    rfl
  have lo : D.lo st.length (.lst (WS.map .str)) = true := by
    simp only [D.lo]
    generalize WS = l
    induction l with
    | nil => rfl
    | cons x l ih => simp only [List.map_cons, D.loL, D.lo, Bool.true_and]; exact ih
  simp only [startE, List.map_cons, List.map_nil, List.length_cons, List.length_nil, List.replicate, List.cons_append, List.nil_append, wp_ySeq, wp_ySet, wp_c, onNx_nx, List.set_cons_zero, wp_xBin, wp_var, List.getElem?_cons_zero, wp_lift2, wp_yRet, wp_xMt, onNx_rt, wp_xCons, wp_xNil]
  rw [show dAdd (.str "all alone apart beside burn case cut double fire game guard in joined lost near next no none of once open") (.str " out place post posts quit rule safe set sets step take tie undo watch watched web yes") = some (.str (TA ++ TB)) from e1]
  refine ⟨rfl, ?_⟩
  rw [wp_def]
  rw [show mSplit (.str (TA ++ TB)) [.str " "] st = some (.lst (WS.map .str), st) from e2]
  exact ⟨rfl, hw, _, frz_lo lo, q⟩
theorem own_ok {st : List Ob} (hw : Wf st) {Q : D → List Ob → Prop} (q : Q (.lst (WO.map .str)) st) : wp (S_law_own []) st Q := by
  unfold S_law_own
  refine wp_frz0 ?_
  rw [wp_runF]
  unfold m_law_own
  have e2 : mSplit (.str TO) [.str SPC] st = some (.lst (WO.map .str), st) := by
    show (if (SPC.length == 0) = false ∧ TO.length ≤ 1000000 then some (D.lst ((Txt.split TO SPC).map .str), st) else none) = _
    rw [if_pos (by decide +kernel)]
    rfl
  have lo : D.lo st.length (.lst (WO.map .str)) = true := by
    simp only [D.lo]
    generalize WO = l
    induction l with
    | nil => rfl
    | cons x l ih => simp only [List.map_cons, D.loL, D.lo, Bool.true_and]; exact ih
  simp only [startE, List.map_nil, List.length_nil, List.replicate, List.nil_append, wp_c, wp_yRet, wp_xMt, wp_xCons, wp_xNil]
  refine ⟨rfl, ?_⟩
  rw [wp_def]
  rw [show mSplit (.str "let odd place web zzzzzzzz") [.str " "] st = some (.lst (WO.map .str), st) from e2]
  exact ⟨rfl, hw, _, frz_lo lo, q⟩
def WL : List Str := [("all" : Str), ("alone" : Str), ("apart" : Str), ("beside" : Str), ("burn" : Str), ("case" : Str), ("cut" : Str), ("double" : Str), ("fire" : Str), ("game" : Str), ("guard" : Str), ("in" : Str), ("joined" : Str), ("lost" : Str), ("near" : Str), ("next" : Str), ("no" : Str), ("none" : Str), ("of" : Str), ("once" : Str), ("open" : Str), ("out" : Str), ("place" : Str), ("post" : Str), ("posts" : Str), ("quit" : Str), ("rule" : Str), ("safe" : Str), ("set" : Str), ("sets" : Str), ("step" : Str), ("take" : Str), ("tie" : Str), ("undo" : Str), ("watch" : Str), ("watched" : Str), ("web" : Str), ("yes" : Str)]
theorem c_WORDS_eq : c_WORDS = .tup (WL.map .str) := rfl
theorem wl_ws : ∀ w ∈ WL, w ∈ WS := by
  have h : (WL.all fun w => decide (w ∈ WS)) = true := by decide +kernel
  exact fun w hw => of_decide_eq_true (List.all_eq_true.mp h w hw)
/-! ### membership of texts -/
theorem eqFl_str {a b : Str} : eqFl (.str a) (.str b) = decide (a = b) := by
  simp only [eqFl]
  by_cases h : a = b <;> simp [h]
theorem in_strs {st : List Ob} {y : D} {x : Str} {l : List Str} (h : seqItems st y = some (l.map .str)) : inB st (.str x) y = some (decide (x ∈ l)) := by
  unfold inB
  rw [h]
  have hf : (l.map D.str).all flatD = true := by
    rw [List.all_eq_true]
    intro d hd
    obtain ⟨z, _, rfl⟩ := List.mem_map.mp hd
    rfl
  have e : ((l.map D.str).any fun z => eqFl z (.str x)) = decide (x ∈ l) := by
    rw [List.any_map]
    by_cases hx : x ∈ l
    · rw [decide_eq_true hx, List.any_eq_true]
      exact ⟨x, hx, by simp only [Function.comp, eqFl_str, decide_true]⟩
    · rw [decide_eq_false hx, List.any_eq_false]
      intro z hz
      simp only [Function.comp, eqFl_str]
      intro h2
      exact hx (by rw [← of_decide_eq_true h2]; exact hz)
  simp only [hf, e]
  rfl
end K84
set_option autoImplicit false
set_option maxRecDepth 100000
set_option maxHeartbeats 8000000
namespace K84
open PySem PySem.Spec L2 MM
def LS : Str := "abcdefghijklmnopqrstuvwxyz"
theorem ls_eq : LS.cps.toList = (List.range 26).map (97 + ·) := by decide +kernel
theorem ls_len : LS.length = 26 := by decide +kernel
theorem ls_at {i : Nat} (h : i < 26) (st : List Ob) : dIx st (.str LS) (.int (i : Int)) = some (.str ⟨#[97 + i]⟩) := by
  show (if LS.length ≤ 1000000 then (atI LS.cps.toList (i : Int)).map (fun c => D.str ⟨#[c]⟩) else none) = _
  rw [if_pos (by rw [ls_len]; decide)]
  have : atI LS.cps.toList (i : Int) = some (97 + i) := by
    unfold atI ixN
    rw [ls_eq, if_pos (by omega), List.length_map, List.length_range, if_pos (by omega)]
    simp [h]
  rw [this]
  rfl
theorem of_str_ok {st : List Ob} {n : Nat} (hw : Wf st) (h : WAt st n) {Q : D → List Ob → Prop}
    (q : ∀ (c : Nat) (s : List Ob), 97 ≤ c → c ≤ 122 → Go n st s → s.length = st.length → Q (.str ⟨#[c]⟩) s) : wp (S_law_of [.d (.loc n), .d (.str LS)]) st Q := by
  unfold S_law_of
  refine wp_frzW h hw ?_
  rw [wp_runF]
  unfold m_law_of
  have hlen : ∀ s, dLen s [.str LS] = some (.int 26) := fun s => by
    show (if LS.length ≤ 1000000 then some (D.int LS.length) else none) = _
    rw [ls_len]; rfl
  simp only [startE, List.map_cons, List.map_nil, List.length_cons, List.length_nil, List.replicate, List.cons_append, List.nil_append, wp_yRet, wp_xBin, wp_var, List.getElem?_cons_zero, List.getElem?_cons_succ, wp_xFn, wp_xCons, wp_xCall, wp_xNil, wp_liftL, hlen, wp_mIx]
  refine ⟨trivial, draw_ok hw h (by omega) (by omega) fun r s hr hl g hs => ?_⟩
  obtain ⟨k, rfl⟩ : ∃ k : Nat, r = (k : Int) := ⟨r.toNat, by omega⟩
  rw [ls_at (by omega)]
  exact ⟨g, _, frz_lo (by simp only [D.lo]), fun s' g' hs' => q _ s' (by omega) (by omega) g' hs'⟩
structure GN (s : Str) : Prop where
  ne : s.cps.toList ≠ []
  lt : ∀ c ∈ s.cps.toList, 97 ≤ c ∧ c ≤ 122
  len : s.length ≤ 8
  nw : s ∉ WL
  nz : s ≠ "zzzzzzzz"
theorem GN.ok {s : Str} (h : GN s) : PyData.strOk s = true := by
  unfold PyData.strOk
  rw [Array.all_eq_true]
  intro i hi
  have := h.lt (s.cps[i]) (by simp)
  exact decide_eq_true (by omega)
structure Names (ns : List Str) : Prop where
  g : ∀ x ∈ ns, GN x
  pw : ns.Pairwise fun a b => a.cps.toList < b.cps.toList
/-- the figure's letter eight times -/
theorem rep_toList (c : Nat) : (strRep 8 ⟨#[c]⟩).cps.toList = List.replicate 8 c := by
  simp [strRep, List.replicate]
theorem rep_gn : ∀ i < 7, GN (strRep 8 ⟨#[97 + i]⟩) := fun i hi => by
  refine ⟨by rw [rep_toList]; simp, fun c hc => ?_, ?_, ?_, ?_⟩
  · rw [rep_toList] at hc
    have := List.eq_of_mem_replicate hc
    omega
  · have := rep_toList (97 + i)
    have h2 : (strRep 8 ⟨#[97 + i]⟩).length = 8 := by
      unfold Str.length
      rw [← Array.length_toList, this, List.length_replicate]
    omega
  · have h : ((List.range 7).all fun i => decide (strRep 8 ⟨#[97 + i]⟩ ∉ WL)) = true := by decide +kernel
    exact of_decide_eq_true (List.all_eq_true.mp h i (List.mem_range.mpr hi))
  · have h : ((List.range 7).all fun i => decide (strRep 8 ⟨#[97 + i]⟩ ≠ ("zzzzzzzz" : Str))) = true := by decide +kernel
    exact of_decide_eq_true (List.all_eq_true.mp h i (List.mem_range.mpr hi))
end K84
set_option autoImplicit false
set_option maxRecDepth 100000
set_option maxHeartbeats 8000000
namespace K84
open PySem PySem.Spec L2 MM
/-- what a name drawn has: letters, at most eight, the turn's letter -/
structure Nm (i : Nat) (s : Str) : Prop where
  lt : ∀ c ∈ s.cps.toList, 97 ≤ c ∧ c ≤ 122
  len : s.length ≤ 8
  has : 97 + i ∈ s.cps.toList
theorem zz_toList : ("zzzzzzzz" : Str).cps.toList = List.replicate 8 122 := by decide +kernel
theorem Nm.gn {i : Nat} {s : Str} (h : Nm i s) (hi : i < 7) (w : s ∉ WL) : GN s := ⟨fun e => (by have := h.has; rw [e] at this; cases this), h.lt, h.len, w, fun e => by
  have h1 := h.has
  rw [e, zz_toList] at h1
  have h2 := List.eq_of_mem_replicate h1
  omega⟩
theorem rep_nm {i : Nat} (hi : i < 7) : Nm i (strRep 8 ⟨#[97 + i]⟩) := ⟨(rep_gn i hi).lt, (rep_gn i hi).len, by rw [rep_toList]; simp⟩
/-- the letter is put in -/
theorem put_nm {i k : Nat} {w : Str} (hi : i < 7) (hw : ∀ c ∈ w.cps.toList, 97 ≤ c ∧ c ≤ 122) (hl : w.length ≤ 7) : Nm i (cutS w none (some (k : Int)) ++ ⟨#[97 + i]⟩ ++ cutS w (some (k : Int)) none) := by
  have e : (cutS w none (some (k : Int)) ++ ⟨#[97 + i]⟩ ++ cutS w (some (k : Int)) none).cps.toList = w.cps.toList.take (min k w.length) ++ (97 + i) :: w.cps.toList.drop (min k w.length) := by
    rw [PySem.Str.cps_append, PySem.Str.cps_append]
    unfold cutS
    rw [HT.sIx_none, HT.sIx_none, HT.sIx_nat]
    simp
    rw [List.take_of_length_le (by rw [List.length_drop, Array.length_toList]; exact Nat.le_refl _), HT.sIx_nat]
  refine ⟨fun c hc => ?_, ?_, ?_⟩
  · rw [e] at hc
    rcases List.mem_append.mp hc with hc | hc
    · exact hw c (List.mem_of_mem_take hc)
    · rcases List.mem_cons.mp hc with hc | hc
      · omega
      · exact hw c (List.mem_of_mem_drop hc)
  · have h2 := congrArg List.length e
    rw [List.length_append, List.length_cons, List.length_take, List.length_drop] at h2
    have h3 : w.cps.toList.length = w.length := by simp [Str.length]
    have h4 : (cutS w none (some (k : Int)) ++ ⟨#[97 + i]⟩ ++ cutS w (some (k : Int)) none).cps.toList.length = (cutS w none (some (k : Int)) ++ ⟨#[97 + i]⟩ ++ cutS w (some (k : Int)) none).length := by simp [Str.length]
    omega
  · rw [e]
    simp
/-- the rows of names found so far -/
structure Fnd (l : List Str) : Prop where
  nm : ∀ (j : Nat) (x : Str), l[j]? = some x → Nm j x ∧ x ∉ WL
  nd : l.Nodup
theorem Fnd.add {l : List Str} {x : Str} (h : Fnd l) (hx : Nm l.length x) (hw : x ∉ WL) (hn : x ∉ l) : Fnd (l ++ [x]) := by
  refine ⟨fun j y hy => ?_, ?_⟩
  · by_cases hj : j < l.length
    · rw [List.getElem?_append_left hj] at hy
      exact h.nm j y hy
    · rw [List.getElem?_append_right (by omega)] at hy
      have hj2 : j - l.length = 0 := by
        have := (List.getElem?_eq_some_iff.mp hy).1
        simp at this
        omega
      rw [hj2] at hy
      cases hy
      have : j = l.length := by omega
      rw [this]
      exact ⟨hx, hw⟩
  · exact List.nodup_append.mpr ⟨h.nd, by simp, fun a ha b hb => by rw [List.mem_singleton.mp hb]; rintro rfl; exact hn ha⟩
theorem Fnd.rep {l : List Str} (h : Fnd l) (hl : l.length < 7) : strRep 8 ⟨#[97 + l.length]⟩ ∉ l := fun hm => by
  obtain ⟨j, hj⟩ := List.mem_iff_getElem?.mp hm
  have h1 := (h.nm j _ hj).1.has
  rw [rep_toList] at h1
  have h2 := List.eq_of_mem_replicate h1
  have h3 := (List.getElem?_eq_some_iff.mp hj).1
  omega
theorem cut_len (w : Str) (lo hi : Option Int) : (cutS w lo hi).length ≤ w.length := by
  show (cutS w lo hi).cps.size ≤ w.cps.size
  unfold cutS
  simp only [List.size_toArray, List.length_take, List.length_drop, Array.length_toList]
  omega
theorem dNil (st : List Ob) : D.loL st.length [] = true := rfl
theorem loL_strs {n : Nat} (l : List Str) : D.loL n (l.map .str) = true := by
  induction l with
  | nil => rfl
  | cons x l ih => simp only [List.map_cons, D.loL, D.lo, Bool.true_and]; exact ih
theorem names_ok {st : List Ob} {n m : Nat} (hw : Wf st) (h : WAt st n) (h1 : 1 ≤ m) (h2 : m ≤ 7) {Q : D → List Ob → Prop}
    (q : ∀ (ns : List Str) (s : List Ob), ns.length = m → Names ns → Go n st s → s.length = st.length → Q (.tup (ns.map .str)) s) : wp (S_law_names [.d (.loc n), .d (.int m)]) st Q := by
  unfold S_law_names
  refine wp_frzW h hw ?_
  rw [wp_runF]
  unfold m_law_names
  have hn := h.lt
  simp only [startE, List.map_cons, List.map_nil, List.length_cons, List.length_nil, List.replicate, List.cons_append, List.nil_append, wp_ySeq, wp_yPar, wp_xCons, wp_c, wp_xNil, wp_xLstM, List.set_cons_zero, List.set_cons_succ, onNx_nx, wp_yFor, wp_itemsR1, wp_var, List.getElem?_cons_zero, List.getElem?_cons_succ]
  refine ⟨by decide, ⟨by omega, by omega⟩, ?_⟩
  refine wp_forM (fun i ρ s => ∃ x4 x5 x6 x7 x8, ρ = [some (.d (.loc n)), some (.d (.int m)), some (.d (.str LS)), some (.d (.loc st.length)), x4, x5, x6, x7, x8] ∧ Go n st s ∧ s.length = st.length + 1 ∧ ∃ l : List Str, s[st.length]? = some (.lst (l.map .str)) ∧ l.length = i ∧ Fnd l) ?_ ?_ ?_
  · exact ⟨_, _, _, _, _, rfl, (Go.refl hw h).push rfl, by simp, [], by simp, rfl, ⟨fun j x e => by simp at e, .nil⟩⟩
  · rintro i hi ρ s ⟨x4, x5, x6, x7, x8, rfl, g, hs, l, hl, hli, hf⟩
    have him : i < m := by simpa [rangeD] using hi
    have hit : (rangeD 0 (m : Int).toNat)[i] = .int (i : Int) := by simp [rangeD]
    rw [hit]
    simp only [wp_zName, List.set_cons_zero, List.set_cons_succ, wp_ySeq, wp_yPar, wp_xCons, wp_c, wp_xNil, wp_xFn, wp_var, List.getElem?_cons_zero, List.getElem?_cons_succ, wp_xTup, List.map_cons, List.map_nil, List.length_cons, List.length_nil]
    refine ⟨by decide, trivial, of_ok (ds := [.int 0, .int 0, .int 1, .int 2, .int 3, .int 7]) g.wf g.wat (by decide) (by decide) rfl (fun d s1 hd g1 hs1 => ?_) (.inl rfl)⟩
    obtain ⟨z, hz, hz7⟩ : ∃ z : Nat, d = .int (z : Int) ∧ z ≤ 7 := by
      simp only [List.mem_cons, List.not_mem_nil, or_false] at hd
      rcases hd with rfl | rfl | rfl | rfl | rfl | rfl
      · exact ⟨0, rfl, by omega⟩
      · exact ⟨0, rfl, by omega⟩
      · exact ⟨1, rfl, by omega⟩
      · exact ⟨2, rfl, by omega⟩
      · exact ⟨3, rfl, by omega⟩
      · exact ⟨7, rfl, by omega⟩
    subst hz
    simp only [onNx_nx, wp_yFor, wp_itemsR1, wp_xCons, wp_var, wp_xNil, List.getElem?_cons_zero, List.getElem?_cons_succ]
    refine ⟨⟨by omega, by omega⟩, ?_⟩
    refine wp_forM (fun j ρ s2 => ∃ x7 x8 w, ρ = [some (.d (.loc n)), some (.d (.int m)), some (.d (.str LS)), some (.d (.loc st.length)), some (.d (.int i)), some (.d (.str w)), some (.d (.int z)), x7, x8] ∧ Go n s1 s2 ∧ s2.length = s1.length ∧ w.length = j ∧ ∀ c ∈ w.cps.toList, 97 ≤ c ∧ c ≤ 122) ?_ ?_ ?_
    · exact ⟨_, _, "", rfl, Go.refl g1.wf g1.wat, rfl, rfl, fun c hc => by cases hc⟩
    · rintro j hj ρ s2 ⟨x7, x8, w, rfl, g2, hs2, hwj, hwl⟩
      have hjz : j < z := by simpa [rangeD] using hj
      simp only [wp_zName, List.set_cons_zero, List.set_cons_succ, wp_ySet, wp_xBin, wp_var, List.getElem?_cons_zero, List.getElem?_cons_succ, wp_xFn, wp_xCons, wp_xNil, List.map_cons, List.map_nil, List.length_cons, List.length_nil, wp_lift2]
      refine ⟨trivial, of_str_ok g2.wf g2.wat fun c s3 hc1 hc2 g3 hs3 => ?_⟩
      have ea : dAdd (.str w) (.str ⟨#[c]⟩) = some (.str (w ++ ⟨#[c]⟩)) := by
        show (if w.length + (⟨#[c]⟩ : Str).length ≤ 1000000 then some (D.str (w ++ ⟨#[c]⟩)) else none) = _
        rw [if_pos (by show w.length + 1 ≤ 1000000; omega)]
      rw [ea]
      refine ⟨_, _, w ++ ⟨#[c]⟩, rfl, g2.trans g3, by omega, by rw [PySem.Str.length_append]; show w.length + 1 = _; omega, fun c' hc' => ?_⟩
      rw [PySem.Str.cps_append, Array.toList_append] at hc'
      rcases List.mem_append.mp hc' with hc' | hc'
      · exact hwl c' hc'
      · have : c' = c := by simpa using hc'
        omega
    · rintro ρ s2 ⟨x7, x8, w, rfl, g2, hs2, hwj, hwl⟩
      have hwz : w.length ≤ 7 := by
        have : (rangeD 0 (z : Int).toNat).length = z := by simp [rangeD]
        omega
      simp only [onNx_nx, wp_ySeq, wp_ySet, wp_xFn, wp_xCons, wp_var, List.getElem?_cons_zero, List.getElem?_cons_succ, wp_xBin, wp_c, wp_lift2, dAdd_int, wp_xNil, List.map_cons, List.map_nil, List.length_cons, List.length_nil]
      refine ⟨trivial, draw_ok g2.wf g2.wat (by omega) (by omega) fun r s3 hr hr2 g3 hs3 => ?_⟩
      obtain ⟨k, rfl⟩ : ∃ k : Nat, r = (k : Int) := ⟨r.toNat, by omega⟩
      have hi6 : i < 7 := by omega
      have sl : ∀ (s : List Ob) (lo hi : Option Int), dSlice s (.str w) lo hi = some (.str (cutS w lo hi)) := fun s lo hi => by
        show (if w.length ≤ 1000000 then some (D.str (cutS w lo hi)) else none) = _
        rw [if_pos (by omega)]
      have l1 := cut_len w none (some (k : Int))
      have l2 := cut_len w (some (k : Int)) none
      have ad : ∀ (a b : Str), a.length ≤ 1000 → b.length ≤ 1000 → dAdd (.str a) (.str b) = some (.str (a ++ b)) := fun a b h1 h2 => by
        show (if a.length + b.length ≤ 1000000 then some (D.str (a ++ b)) else none) = _
        rw [if_pos (by omega)]
      have hone : (⟨#[97 + i]⟩ : Str).length = 1 := rfl
      simp only [onNx_nx, List.set_cons_zero, List.set_cons_succ, wp_var, List.getElem?_cons_zero, List.getElem?_cons_succ, wp_xSlice, wp_oNone, wp_oSome, sl, wp_mIx, ls_at (show i < 26 by omega)]
      rw [ad _ _ (by omega) (by omega)]
      simp only []
      rw [ad _ _ (by rw [PySem.Str.length_append]; omega) (by omega)]
      simp only []
      have hx := put_nm (k := k) hi6 hwl hwz
      generalize cutS w none (some (k : Int)) ++ ⟨#[97 + i]⟩ ++ cutS w (some (k : Int)) none = x at hx ⊢
      have gg := (g1.trans g2).trans g3
      have hf3 : s3[st.length]? = some (.lst (l.map .str)) := (gg.old st.length (by omega) (by omega)).trans hl
      have hsq : seqItems s3 (.loc st.length) = some (l.map .str) := by simp [seqItems, res, hf3]
      have hty : tyD "list" s3 (.loc st.length) = true := by simp [tyD, lstItems, res, hf3]
      have key : ∀ y : Str, Nm i y → y ∉ WL → y ∉ l → wp (mAppend (.loc st.length) [.str y]) s3 fun _ s => ∃ y4 y5 y6 y7 y8, [some (A.d (D.loc n)), some (.d (.int m)), some (.d (.str LS)), some (.d (.loc st.length)), some (.d (.int i)), some (.d (.str x)), some (.d (.int z)), x7, some (.d (.int k))] = [some (.d (.loc n)), some (.d (.int m)), some (.d (.str LS)), some (.d (.loc st.length)), y4, y5, y6, y7, y8] ∧ Go n st s ∧ s.length = st.length + 1 ∧ ∃ l : List Str, s[st.length]? = some (.lst (l.map .str)) ∧ l.length = i + 1 ∧ Fnd l := fun y h1 h2 h3 => by
        refine wp_append hf3 (by rw [List.length_map]; omega) ?_
        refine ⟨_, _, _, _, _, rfl, (g.trans gg).setL (Nat.le_refl _) hn ?_, by rw [List.length_set]; omega, l ++ [y], ?_, by simp [hli], hf.add (hli ▸ h1) h2 h3⟩
        · show D.loL _ (l.map D.str ++ [D.str y]) = true
          rw [show l.map D.str ++ [D.str y] = (l ++ [y]).map D.str by simp]
          exact loL_strs _
        · rw [List.getElem?_set_self (by omega)]
          simp
      have hw3 : Wf s3 := gg.wf
      have rp : lift2 dRepS (.str ⟨#[97 + i]⟩) (.int 8) s3 = some (.str (strRep 8 ⟨#[97 + i]⟩), s3) := rfl
      have krep := key _ (rep_nm hi6) (rep_gn i hi6).nw (hli ▸ hf.rep (by omega))
      have rdr : dRepS (.str ⟨#[97 + i]⟩) (.int 8) = some (.str (strRep 8 ⟨#[97 + i]⟩)) := rfl
      have wsq : seqItems s3 (.lst (WS.map .str)) = some (WS.map .str) := rfl
      have woq : seqItems s3 (.lst (WO.map .str)) = some (WO.map .str) := rfl
      simp only [wp_yDrop, wp_xMt, wp_var, List.set_cons_zero, List.set_cons_succ, List.getElem?_cons_zero, List.getElem?_cons_succ, wp_xCons, wp_xIf, wp_xOrB, wp_asB, wp_xBin, wp_mIn, in_strs hsq, isB_bl, wp_xNil]
      refine ⟨hty, ?_⟩
      by_cases hxl : x ∈ l
      · simp only [decide_eq_true hxl, if_true, wp_xBin, wp_mIx, wp_var, List.getElem?_cons_zero, List.getElem?_cons_succ, ls_at (show i < 26 by omega), wp_c, wp_lift2, rdr]
        exact wp_mono krep fun _ s h => h
      · simp only [decide_eq_false hxl, Bool.false_eq_true, if_false, wp_xFn, wp_xNil, List.map_nil, List.length_nil]
        refine ⟨trivial, words_ok hw3 ?_⟩
        simp only [in_strs wsq, isB_bl]
        by_cases hxw : x ∈ WS
        · simp only [decide_eq_true hxw, if_true, wp_xBin, wp_mIx, wp_var, List.getElem?_cons_zero, List.getElem?_cons_succ, ls_at (show i < 26 by omega), wp_c, wp_lift2, rdr]
          exact wp_mono krep fun _ s h => h
        · simp only [decide_eq_false hxw, Bool.false_eq_true, if_false]
          refine ⟨trivial, own_ok hw3 ?_⟩
          simp only [in_strs woq, isB_bl]
          by_cases hxo : x ∈ WO
          · simp only [decide_eq_true hxo, if_true, wp_xBin, wp_mIx, wp_var, List.getElem?_cons_zero, List.getElem?_cons_succ, ls_at (show i < 26 by omega), wp_c, wp_lift2, rdr]
            exact wp_mono krep fun _ s h => h
          · simp only [decide_eq_false hxo, Bool.false_eq_true, if_false, wp_var, List.getElem?_cons_zero, List.getElem?_cons_succ]
            exact wp_mono (key x hx (fun hxl => hxw (wl_ws x hxl)) hxl) fun _ s h => h
  · rintro ρ s ⟨x4, x5, x6, x7, x8, rfl, g, hs, l, hl, hli, hf⟩
    have hlm : l.length = m := by simpa [rangeD] using hli
    have hsq : seqItems s (.loc st.length) = some (l.map .str) := by simp [seqItems, res, hl]
    have gn : ∀ x ∈ l, GN x := fun x hx => by
      obtain ⟨j, hj⟩ := List.mem_iff_getElem?.mp hx
      exact (hf.nm j x hj).1.gn (by have := (List.getElem?_eq_some_iff.mp hj).1; omega) (hf.nm j x hj).2
    obtain ⟨ns, e1, e2, e3⟩ := sort_strs l hf.nd
    have hso : dSorted s [.loc st.length] = some (.lst (ns.map .str)) := by
      show (match seqItems s (.loc st.length) with | some ds => if sortOk ds = true then some (D.lst (sortD ds)) else none | none => none) = _
      rw [hsq]
      simp only []
      rw [if_pos (sortOk_strs l (by omega) fun x hx => (gn x hx).ok), e1]
    have htu : dTuple s [.lst (ns.map .str)] = some (.tup (ns.map .str)) := rfl
    simp only [onNx_nx, wp_yRet, wp_xCall, wp_xCons, wp_var, List.getElem?_cons_zero, List.getElem?_cons_succ, wp_xNil, wp_liftL, hso, htu]
    exact ⟨g, _, frz_lo (by simp only [D.lo]; exact loL_strs ns), fun s' g' hs' => q ns s' (by rw [e2.length_eq, hlm]) ⟨fun x hx => gn x (e2.mem_iff.mp hx), e3⟩ g' hs'⟩
end K84
set_option autoImplicit false
set_option maxRecDepth 100000
set_option maxHeartbeats 8000000
namespace K84
open PySem PySem.Spec L2 MM
theorem frzL_lo {st : List Ob} {n : Nat} : ∀ (k : Nat) (ds : List D), ds.length ≤ k → D.loL n ds = true → frzL st n (k + 1) ds = some ds
  | _, [], _, _ => by simp only [frzL]
  | 0, d :: ds, h, _ => by simp at h
  | k + 1, d :: ds, h, e => by
    simp only [D.loL, Bool.and_eq_true] at e
    simp only [frzL]
    rw [frz_lo e.1, frzL_lo k ds (by simpa using h) e.2]
    rfl
theorem frz_locL {s : List Ob} {n i k : Nat} {ds : List D} (h : s[i]? = some (.lst ds)) (hi : n ≤ i) (hl : ds.length ≤ k) (e : D.loL n ds = true) : frzD s n (k + 2) (.loc i) = some (.lst ds) := by
  simp only [frzD]
  rw [if_neg (by omega), h]
  simp only []
  rw [frzL_lo k ds hl e]
  rfl
structure Ties (ns : List Str) (ts : List (Str × Str)) : Prop where
  mem : ∀ p ∈ ts, p.1 ∈ ns ∧ p.2 ∈ ns ∧ p.1.cps.toList < p.2.cps.toList
  pw : ts.Pairwise fun p q => lexLtS [p.1, p.2] [q.1, q.2] = true
  len : ts.length ≤ 60
theorem loL_prs {n : Nat} (l : List (Str × Str)) : D.loL n (l.map tieD) = true := by
  induction l with
  | nil => rfl
  | cons x l ih => simp only [List.map_cons, D.loL, D.lo, Bool.true_and, Bool.and_true]; exact ih
theorem tie_alike (a b : Str × Str) : PySem.W.alike (toPy (tieD a)) (toPy (tieD b)) = true := by
  simp [toPy, toPys, PySem.W.alike, PySem.W.alikeAll]
theorem sortOk_ties {l : List (Str × Str)} (hl : l.length ≤ 1000000) (h : ∀ p ∈ l, PyData.strOk p.1 = true ∧ PyData.strOk p.2 = true) : sortOk (l.map tieD) = true := by
  refine sortOk_gen tieD l hl (fun a ha => ?_) tie_alike (fun a => rfl) (fun a ha => ?_)
  · simp [pyOk, pyOks, h a ha]
  · show (toPy (tieD a)).depth ≤ 60
    simp [toPy, toPys, PyData.depth, PyData.depthAll]
theorem dsort_ties {s : List Ob} {l : List (Str × Str)} (hl : l.length ≤ 1000000) (h : ∀ p ∈ l, PyData.strOk p.1 = true ∧ PyData.strOk p.2 = true) : dSorted s [.lst (l.map tieD)] = some (.lst (sortD (l.map tieD))) := by
  show (match seqItems s (.lst (l.map tieD)) with | some ds => if sortOk ds = true then some (D.lst (sortD ds)) else none | none => none) = _
  rw [show seqItems s (.lst (l.map tieD)) = some (l.map tieD) from rfl]
  simp only []
  rw [if_pos (sortOk_ties hl h)]
theorem names_nd {ns : List Str} (h : Names ns) : ns.Nodup := h.pw.imp fun hab e => by rw [e] at hab; exact List.lt_irrefl _ hab
theorem names_lt {ns : List Str} (h : Names ns) {a b : Nat} {x y : Str} (ha : ns[a]? = some x) (hb : ns[b]? = some y) (hab : a < b) : x.cps.toList < y.cps.toList := by
  obtain ⟨l1, e1⟩ := List.getElem?_eq_some_iff.mp ha
  obtain ⟨l2, e2⟩ := List.getElem?_eq_some_iff.mp hb
  have := List.pairwise_iff_getElem.mp h.pw a b l1 l2 hab
  rwa [e1, e2] at this
theorem at_nat {ds : List D} {i : Nat} : atI ds (i : Int) = ds[i]? := by
  unfold atI ixN
  rw [if_pos (by omega)]
  by_cases h : (i : Int) < ds.length
  · rw [if_pos h]; simp
  · rw [if_neg h]
    simp
    omega
theorem inS {s : List Ob} {ps : List Str} {y : Str} : inB s (.str y) (.tup (ps.map .str)) = some (decide (y ∈ ps)) := in_strs rfl
theorem eqv_int {a b : Int} : PyData.eqv (.int a) (.int b) = decide (a = b) := by
  have e : PyData.eqv (.int a) (.int b) = (a == b) := by simp only [PyData.eqv]
  rw [e]
  by_cases h : a = b <;> simp [h]
theorem eqv_str {a b : Str} : PyData.eqv (.str a) (.str b) = decide (a = b) := by
  have e : PyData.eqv (.str a) (.str b) = (a == b) := by simp only [PyData.eqv]
  rw [e]
  by_cases h : a = b <;> simp [h]
theorem toPys_strs (l : List Str) : toPys (l.map .str) = l.map .str := by
  induction l with
  | nil => rfl
  | cons x l ih => simp only [List.map_cons, toPys, toPy, ih]
theorem pyOks_strs {l : List Str} (h : ∀ x ∈ l, PyData.strOk x = true) : pyOks (l.map .str) = true := by
  induction l with
  | nil => rfl
  | cons x l ih => simp only [List.map_cons, pyOks, pyOk, Bool.and_eq_true]; exact ⟨h x (by simp), ih fun y hy => h y (by simp [hy])⟩
theorem depthAll_strs (l : List Str) : PyData.depthAll (l.map .str) ≤ 5 := by
  induction l with
  | nil => simp [PyData.depthAll]
  | cons x l ih => simp only [List.map_cons, PyData.depthAll, PyData.depth]; omega
theorem okD_str {s : List Ob} {x : Str} (h : PyData.strOk x = true) : okD (res s (.str x)) = true := by
  show okD (.str x) = true
  unfold okD
  rw [Bool.and_eq_true]
  exact ⟨by simp only [pyOk]; exact h, by simp only [toPy, PyData.depth]; rfl⟩
end K84
set_option autoImplicit false
set_option maxRecDepth 100000
set_option maxHeartbeats 8000000
namespace K84
open PySem PySem.Spec L2 MM
theorem wp_xLam {ρ : Ev} {st : List Ob} {i n np : Nat} {ml : Ev → Mo D} {mm : Ev → Mo (List D)} {k : Nat} {caps : List D} {Q : D → List Ob → Prop} (h : ρ[i]? = some (some (.clo k caps))) : wp (xLam i n np ml mm ρ) st Q ↔ wp (mm ρ) st fun ds s => ds.length = np ∧ wp (ml (startE n ((ds ++ caps).map .d))) s Q := by
  have e : xLam i n np ml mm ρ st = ((mm ρ).bind fun ds => if ds.length = np then ml (startE n ((ds ++ caps).map .d)) else Mo.fail) st := by
    unfold xLam
    rw [h]
  have e2 : wp (xLam i n np ml mm ρ) st Q ↔ wp ((mm ρ).bind fun ds => if ds.length = np then ml (startE n ((ds ++ caps).map .d)) else Mo.fail) st Q := by
    rw [wp_def, wp_def, e]
  rw [e2, wp_bind]
  constructor <;> (intro h; refine wp_mono h fun a s q => ?_)
  · rw [wp_ite] at q
    split at q
    · exact ⟨by assumption, q⟩
    · exact (wp_fail.mp q).elim
  · rw [wp_ite, if_pos q.1]
    exact q.2
theorem isi_tup {st : List Ob} {ds : List D} : dIsi isiTb isiNb st [.tup ds, .ty "tuple"] = some (.bl true) := by
  show (kitB "tuple" "tuple").map D.bl = _
  rfl
theorem wrong_ok {st : List Ob} {vs : List D} {least : Int} {most : D} {n np : Nat} {body : Ev → Mo D} {caps : List D} {Q : D → List Ob → Prop} (hl : least ≤ vs.length) (hl2 : vs.length ≤ 1000) (hmo : okD most = true) (hm : ∀ i, i < vs.length → PyData.eqv (.int (i : Int)) (toPy most) = false) (hres : ∀ s, res s most = most)
    (hb : ∀ (i : Nat) (h : i < vs.length), wp (body (startE n (([.tup (vs.take i), vs[i]] ++ caps).map .d))) st fun d s => d = .bl true ∧ s = st) (hnp : np = 2) (q : Q (.lst []) st) :
    wp (runF 6 (m_wrong_in fun i => xLam i n np body) [.d (.tup vs), .d (.int least), .d most, .clo 0 caps]) st Q := by
  rw [wp_runF]
  unfold m_wrong_in
  have ln : dLen st [.tup vs] = some (.int vs.length) := rfl
  have lt : dLt (.int vs.length) (.int least) = some (.bl false) := by
    show some (D.bl (decide ((vs.length : Int) < least))) = _
    rw [decide_eq_false (by omega)]
  simp only [startE, List.map_cons, List.map_nil, List.length_cons, List.length_nil, List.replicate, List.cons_append, List.nil_append, wp_ySeq, wp_yIf, wp_xOrB, wp_xNotB, wp_asB, wp_xCall, wp_xCons, wp_var, wp_c, List.getElem?_cons_zero, List.getElem?_cons_succ, wp_xNil, wp_liftL, isi_tup, isB_bl, Bool.not_true, Bool.false_eq_true, if_false, wp_xBin, ln, wp_lift2, lt, wp_yNil, onNx_nx, wp_yFor, wp_itemsET]
  refine wp_forM (fun i ρ s => s = st ∧ ∃ x4 x5, ρ = [some (.d (.tup vs)), some (.d (.int least)), some (.d most), some (.clo 0 caps), x4, x5]) ?_ ?_ ?_
  · exact ⟨rfl, _, _, rfl⟩
  · rintro i hi ρ s ⟨rfl, x4, x5, rfl⟩
    have hel : ∀ (k : Nat) (ds : List D), (enumD k ds).length = ds.length := fun k ds => by
      induction ds generalizing k with
      | nil => rfl
      | cons d ds ih => simp [enumD, ih]
    have hiv : i < vs.length := by rw [hel] at hi; exact hi
    have hit : (enumD 0 vs)[i] = .tup [.int i, vs[i]] := by
      have := enumD_get (ds := vs) (n := 0) (i := i)
      rw [List.getElem?_eq_getElem hi, List.getElem?_eq_getElem hiv] at this
      simpa using Option.some.inj this
    rw [hit]
    simp only [wp_zTup, wp_zCons, wp_zName, List.set_cons_zero, List.set_cons_succ, wp_zNil, wp_yIf, wp_xOrB, wp_asB, wp_xBin, wp_var, List.getElem?_cons_zero, List.getElem?_cons_succ, wp_mEq, hres]
    refine ⟨⟨rfl, hmo⟩, ?_⟩
    have he : PyData.eqv (toPy (res s (.int (i : Int)))) (toPy most) = false := hm i hiv
    rw [he, isB_bl, if_neg (by decide)]
    simp only [wp_xNotB, wp_asB]
    rw [wp_xLam (caps := caps) (k := 0) rfl]
    have sl : dSlice s (.tup vs) none (some (i : Int)) = some (.tup (vs.take i)) := by
      show some (D.tup (cutD vs none (some (i : Int)))) = _
      unfold cutD
      rw [HT.sIx_none, HT.sIx_nat, Nat.min_eq_left (by omega), List.drop_zero, Nat.sub_zero]
    simp only [wp_xCons, wp_xSlice, wp_var, wp_oNone, wp_oSome, List.getElem?_cons_zero, List.getElem?_cons_succ, sl, wp_xNil, List.length_cons, List.length_nil]
    refine ⟨by rw [hnp], wp_mono (hb i hiv) fun d s2 ⟨e1, e2⟩ => ?_⟩
    subst e1 e2
    rw [isB_bl, Bool.not_true, if_neg (by decide)]
    simp only [wp_yNil]
    exact ⟨trivial, _, _, rfl⟩
  · rintro ρ s ⟨rfl, x4, x5, rfl⟩
    simp only [onNx_nx, wp_yRet, wp_xLst, wp_xNil, List.length_nil]
    exact ⟨by decide, q⟩
theorem isi_str {st : List Ob} {x : Str} : dIsi isiTb isiNb st [.str x, .ty "str"] = some (.bl true) := by
  show (kitB "str" "str").map D.bl = _
  rfl
theorem one_of_ok {st : List Ob} {x : Str} {l : List Str} (hw : Wf st) {Q : D → List Ob → Prop} (q : Q (.bl (decide (x ∈ l))) st) : wp (S_is_one_of [.d (.str x), .d (.tup (l.map .str))]) st Q := by
  unfold S_is_one_of
  refine wp_frz0 ?_
  rw [wp_runF]
  unfold m_is_one_of
  simp only [startE, List.map_cons, List.map_nil, List.length_cons, List.length_nil, List.replicate, List.cons_append, List.nil_append, wp_yRet, wp_xAnd, wp_xCall, wp_xCons, wp_var, wp_c, List.getElem?_cons_zero, List.getElem?_cons_succ, wp_xNil, wp_liftL, isi_str, isB_bl, if_true, wp_xBin, wp_mIn, inS]
  exact ⟨trivial, hw, _, frz_lo rfl, q⟩
end K84
set_option autoImplicit false
set_option maxRecDepth 100000
set_option maxHeartbeats 8000000
namespace K84
open PySem PySem.Spec L2 MM
theorem allT {l : List D} (h : ∀ d ∈ l, d = .bl true) (st : List Ob) : dAll st [.lst l] = some (.bl true) := by
  have hc : ∀ l : List D, (∀ d ∈ l, d = .bl true) → ∃ bs, l.mapM asBl = some bs ∧ bs.all id = true := fun l => by
    induction l with
    | nil => exact fun _ => ⟨[], rfl, rfl⟩
    | cons d l ih =>
      intro h
      obtain ⟨bs, e1, e2⟩ := ih fun x hx => h x (by simp [hx])
      have hd := h d (by simp)
      subst hd
      exact ⟨true :: bs, by simp [List.mapM_cons, asBl, e1], by simpa using e2⟩
  obtain ⟨bs, e1, e2⟩ := hc l h
  show ((some l).bind fun ds => ds.mapM asBl).map (fun bs => D.bl (bs.all id)) = _
  rw [Option.bind_some, e1, Option.map_some, e2]
theorem word_ok {st : List Ob} {x : Str} (hw : Wf st) (hx : GN x) {Q : D → List Ob → Prop} (q : Q (.bl true) st) : wp (S_is_word [.d (.str x)]) st Q := by
  unfold S_is_word
  refine wp_frz0 ?_
  rw [wp_runF]
  unfold m_is_word
  have e1 : PyData.eqv (toPy (res st (.str x))) (toPy (res st (.str ""))) = false := by
    show PyData.eqv (.str x) (.str "") = false
    rw [eqv_str]
    exact decide_eq_false fun e => hx.ne (by rw [e]; rfl)
  have hlen : (x.cps.toList.map fun c => D.str ⟨#[c]⟩).length ≤ 1000000 := by
    have h1 := hx.len
    have h2 : x.cps.toList.length = x.length := by simp [Str.length]
    rw [List.length_map]
    omega
  simp only [startE, List.map_cons, List.map_nil, List.length_cons, List.length_nil, List.replicate, List.cons_append, List.nil_append, wp_yRet, wp_xAnd, wp_xCall, wp_xCons, wp_var, wp_c, List.getElem?_cons_zero, List.getElem?_cons_succ, wp_xNil, wp_liftL, isi_str, isB_bl, if_true, wp_xBin, wp_mNe, e1, Bool.not_false, wp_xComp, wp_itemsS]
  refine ⟨⟨okD_str hx.ok, okD_str (by decide +kernel)⟩, hlen, ?_⟩
  simp only [wipeE, List.set_cons_zero, List.set_cons_succ]
  refine wp_compP (p := fun _ => true) (f := fun _ => .bl true) (fun d hd => ?_) ?_
  · obtain ⟨c, hc, rfl⟩ := List.mem_map.mp hd
    have hin : inB st (.str ⟨#[c]⟩) c_LETTERS = some true := by
      show (if (⟨#[c]⟩ : Str).length = 1 then some (decide (((⟨#[c]⟩ : Str).cps.getD 0 0) ∈ LS.cps.toList)) else none) = _
      rw [if_pos (show (⟨#[c]⟩ : Str).length = 1 from rfl), ls_eq]
      have h1 := hx.lt c hc
      have : c ∈ (List.range 26).map (97 + ·) := List.mem_map.mpr ⟨c - 97, List.mem_range.mpr (by omega), by omega⟩
      rw [decide_eq_true (by exact this)]
    simp only [wp_zName, List.set_cons_zero, List.set_cons_succ, wp_tYes, wp_xBin, wp_var, List.getElem?_cons_zero, List.getElem?_cons_succ, wp_c, wp_mIn, hin, true_and]
    exact fun _ => trivial
  · rw [allT (fun d hd => by
      obtain ⟨_, _, rfl⟩ := List.mem_map.mp hd
      rfl) st]
    exact ⟨rfl, hw, _, frz_lo rfl, q⟩
theorem name_ok {st : List Ob} {x : Str} (hw : Wf st) (hx : GN x) {Q : D → List Ob → Prop} (q : Q (.bl true) st) : wp (S_is_name [.d (.str x)]) st Q := by
  unfold S_is_name
  refine wp_frz0 ?_
  rw [wp_runF]
  unfold m_is_name
  have hl := hx.len
  have ln : dLen st [.str x] = some (.int x.length) := by
    show (if x.length ≤ 1000000 then some (D.int x.length) else none) = _
    rw [if_pos (by omega)]
  have h8 : (fun i j : Int => decide (i ≤ j)) (x.length : Int) 8 = true := decide_eq_true (by omega)
  have nin : inB st (.str x) c_WORDS = some false := by
    rw [c_WORDS_eq, inS, decide_eq_false hx.nw]
  simp only [startE, List.map_cons, List.map_nil, List.length_cons, List.length_nil, List.replicate, List.cons_append, List.nil_append, wp_yRet, wp_xAnd, wp_xFn, wp_xCons, wp_var, List.getElem?_cons_zero, List.getElem?_cons_succ, wp_xNil]
  refine ⟨trivial, word_ok hw hx ?_⟩
  rw [isB_bl, if_pos rfl]
  simp only [wp_xBin, wp_xCall, wp_xCons, wp_var, List.getElem?_cons_zero, List.getElem?_cons_succ, wp_xNil, wp_liftL, ln, wp_c, wp_lift2]
  rw [show dIB (fun i j => decide (i ≤ j)) (.int x.length) c_MOST_LETTERS = some (.bl (decide ((x.length : Int) ≤ 8))) from rfl, decide_eq_true (show (x.length : Int) ≤ 8 by omega)]
  simp only [isB_bl, if_true, wp_mNotIn, nin, Bool.not_false]
  exact ⟨trivial, hw, _, frz_lo rfl, q⟩
/-- below: the row so far ends below the next -/
theorem last_at {l : List D} {d : D} (st : List Ob) : dIx st (.tup (l ++ [d])) (.int (-1)) = some d := by
  rw [dIx_tup]
  unfold atI ixN
  rw [if_neg (by decide), if_pos (by simp; omega)]
  have e : ((-1 : Int) + ((l ++ [d]).length : Nat)).toNat = l.length := by simp; omega
  rw [Option.bind_some, e]
  simp
theorem below_ok {st : List Ob} {l : List D} {v : D} (hw : Wf st) (ho : okD (.tup l) = true) (h : ∀ l' d, l = l' ++ [d] → dLt d v = some (.bl true)) {Q : D → List Ob → Prop} (q : Q (.bl true) st) : wp (S_are_below [.d (.tup l), .d v]) st Q := by
  unfold S_are_below
  refine wp_frz0 ?_
  rw [wp_runF]
  unfold m_are_below
  simp only [startE, List.map_cons, List.map_nil, List.length_cons, List.length_nil, List.replicate, List.cons_append, List.nil_append, wp_yRet, wp_xOr, wp_xBin, wp_var, List.getElem?_cons_zero, List.getElem?_cons_succ, wp_xTup, wp_xNil, wp_mEq]
  refine ⟨by decide, ⟨ho, rfl⟩, ?_⟩
  rw [isB_bl]
  split
  · first | exact ⟨rfl, hw, _, frz_lo rfl, q⟩ | exact ⟨trivial, hw, _, frz_lo rfl, q⟩
  · rename_i hne
    rcases List.eq_nil_or_concat l with rfl | ⟨l', d, rfl⟩
    · exact absurd (by simp [res, toPy, toPys, PyData.eqv, PyData.eqvAll]) hne
    · have hn : dNeg (.int 1) = some (.int (-1)) := rfl
      simp only [wp_xBin, wp_var, List.getElem?_cons_zero, List.getElem?_cons_succ, wp_xNeg, wp_c, hn, wp_mIx, List.concat_eq_append, last_at, wp_lift2]
      rw [h l' d (by simp)]
      first | exact ⟨rfl, hw, _, frz_lo rfl, q⟩ | exact ⟨trivial, hw, _, frz_lo rfl, q⟩
theorem okD_tup_strs {l : List Str} (h : ∀ x ∈ l, PyData.strOk x = true) : okD (.tup (l.map .str)) = true := by
  unfold okD
  rw [Bool.and_eq_true]
  refine ⟨by simp only [pyOk]; exact pyOks_strs h, ?_⟩
  have := depthAll_strs l
  simp only [toPy, toPys_strs, PyData.depth]
  exact decide_eq_true (by omega)
theorem take_end {α : Type} {l : List α} {i : Nat} {l' : List α} {d : α} (hi : i < l.length) (h : l.take i = l' ++ [d]) : ∃ j, j + 1 = i ∧ l[j]? = some d := by
  have hl := congrArg List.length h
  rw [List.length_take, List.length_append, List.length_singleton, Nat.min_eq_left (by omega)] at hl
  refine ⟨l'.length, by omega, ?_⟩
  have : (l.take i)[l'.length]? = some d := by rw [h]; simp
  rwa [List.getElem?_take_of_lt (by omega)] at this
/-- strictly rising texts, each end of a part below the next -/
theorem below_strs {l : List Str} (hp : l.Pairwise fun a b => a.cps.toList < b.cps.toList) {i : Nat} (hi : i < l.length) (l' : List D) (d : D) (h : (l.map D.str).take i = l' ++ [d]) : dLt d (.str l[i]) = some (.bl true) := by
  obtain ⟨j, hj, hd⟩ := take_end (by rw [List.length_map]; exact hi) h
  rw [List.getElem?_map] at hd
  obtain ⟨x, hx, rfl⟩ := Option.map_eq_some_iff.mp hd
  obtain ⟨hlj, ex⟩ := List.getElem?_eq_some_iff.mp hx
  have := List.pairwise_iff_getElem.mp hp j i hlj hi (by omega)
  rw [ex] at this
  show some (D.bl (decide (x.cps.toList < l[i].cps.toList))) = _
  rw [decide_eq_true this]
theorem take_strs {l : List Str} {i : Nat} : (l.map D.str).take i = (l.take i).map .str := by rw [List.map_take]
theorem places_ok {st : List Ob} {ns : List Str} (hw : Wf st) (hN : Names ns) (h1 : 1 ≤ ns.length) (h6 : ns.length ≤ 7) {Q : D → List Ob → Prop} (q : Q (.lst []) st) : wp (S_wrong_in_places [.d (.tup (ns.map .str))]) st Q := by
  unfold S_wrong_in_places
  refine wp_frz0 ?_
  rw [wp_runF]
  unfold m_wrong_in_places
  simp only [startE, List.map_cons, List.map_nil, List.length_cons, List.length_nil, List.replicate, List.cons_append, List.nil_append, wp_yRet]
  have e : ∀ R : D → List Ob → Prop, wp (runF 6 (m_wrong_in fun i => xLam i 2 2 (xAnd (xFn 1 S_is_name (xCons (xVar 1) xNil)) (xFn 2 S_are_below (xCons (xVar 0) (xCons (xVar 1) xNil))))) [.d (.tup (ns.map .str)), .d (.int 1), .d c_MOST_PLACES, .clo 0 []]) st R ↔
      wp (xLamCall 4 [] (xCons (xVar 0) (xCons (xC (.int 1)) (xCons (xC c_MOST_PLACES) xNil))) (runF 6 (m_wrong_in fun i => xLam i 2 2 (xAnd (xFn 1 S_is_name (xCons (xVar 1) xNil)) (xFn 2 S_are_below (xCons (xVar 0) (xCons (xVar 1) xNil)))))) [some (.d (.tup (ns.map .str)))]) st R := fun R => Iff.rfl
  refine (e _).mp ?_
  refine wrong_ok (by simp; omega) (by simp; omega) rfl (fun i hi => ?_) (fun s => rfl) (fun i hi => ?_) rfl ⟨rfl, hw, _, frz_lo rfl, q⟩
  · show PyData.eqv (.int (i : Int)) (.int 9) = false
    rw [eqv_int]
    simp at hi
    exact decide_eq_false (by omega)
  · have hin : i < ns.length := by simpa using hi
    have hit : (ns.map D.str)[i] = .str ns[i] := by simp
    rw [hit]
    simp only [startE, List.map_cons, List.map_nil, List.length_cons, List.length_nil, List.replicate, List.cons_append, List.nil_append, List.append_nil, wp_xAnd, wp_xFn, wp_xCons, wp_var, List.getElem?_cons_zero, List.getElem?_cons_succ, wp_xNil]
    refine ⟨trivial, name_ok hw (hN.g _ (List.getElem_mem hin)) ?_⟩
    rw [isB_bl, if_pos rfl]
    have hi2 : i < ns.length := by rw [List.length_map] at hi; exact hi
    refine ⟨trivial, below_ok hw (by rw [take_strs]; exact okD_tup_strs fun x hx => (hN.g x (List.mem_of_mem_take hx)).ok) (fun l' d h => below_strs hN.pw hin l' d h) ⟨rfl, rfl⟩⟩
end K84
set_option autoImplicit false
set_option maxRecDepth 100000
set_option maxHeartbeats 8000000
namespace K84
open PySem PySem.Spec L2 MM
theorem pair_ok {st : List Ob} {p : Str × Str} (hw : Wf st) {Q : D → List Ob → Prop} (q : Q (.bl true) st) : wp (S_is_pair [.d (tieD p)]) st Q := by
  unfold S_is_pair
  refine wp_frz0 ?_
  rw [wp_runF]
  unfold m_is_pair
  simp only [startE, List.map_cons, List.map_nil, List.length_cons, List.length_nil, List.replicate, List.cons_append, List.nil_append, wp_yRet, wp_xFn, wp_xCons, wp_var, wp_c, List.getElem?_cons_zero, List.getElem?_cons_succ, wp_xNil]
  refine ⟨trivial, ?_⟩
  unfold S_is_tuple_of
  refine wp_frz0 ?_
  rw [wp_runF]
  unfold m_is_tuple_of
  have ln : dLen st [tieD p] = some (.int 2) := rfl
  have ti : dIsi isiTb isiNb st [tieD p, .ty "tuple"] = some (.bl true) := isi_tup
  have ee : PyData.eqv (toPy (res st (.int 2))) (toPy (res st (.int 2))) = true := by
    show PyData.eqv (.int 2) (.int 2) = true
    rw [eqv_int]; rfl
  simp only [startE, List.map_cons, List.map_nil, List.length_cons, List.length_nil, List.replicate, List.cons_append, List.nil_append, wp_yRet, wp_xAnd, wp_xCall, wp_xCons, wp_var, wp_c, List.getElem?_cons_zero, List.getElem?_cons_succ, wp_xNil, wp_liftL, ti, isB_bl, if_true, wp_xBin, ln, wp_mEq, ee]
  exact ⟨⟨rfl, rfl⟩, trivial, hw, _, frz_lo rfl, trivial, hw, _, frz_lo rfl, q⟩
theorem tie_ok {st : List Ob} {ns : List Str} {p : Str × Str} (hw : Wf st) (h1 : p.1 ∈ ns) (h2 : p.2 ∈ ns) (h3 : p.1.cps.toList < p.2.cps.toList) {Q : D → List Ob → Prop} (q : Q (.bl true) st) : wp (S_is_tie [.d (.tup (ns.map .str)), .d (tieD p)]) st Q := by
  unfold S_is_tie
  refine wp_frz0 ?_
  rw [wp_runF]
  unfold m_is_tie
  have i0 : ∀ s, dIx s (tieD p) (.int 0) = some (.str p.1) := fun s => rfl
  have i1 : ∀ s, dIx s (tieD p) (.int 1) = some (.str p.2) := fun s => rfl
  have lt : dLt (.str p.1) (.str p.2) = some (.bl true) := by
    show some (D.bl (decide (p.1.cps.toList < p.2.cps.toList))) = _
    rw [decide_eq_true h3]
  simp only [startE, List.map_cons, List.map_nil, List.length_cons, List.length_nil, List.replicate, List.cons_append, List.nil_append, wp_yRet, wp_xAnd, wp_xFn, wp_xCons, wp_var, List.getElem?_cons_zero, List.getElem?_cons_succ, wp_xNil]
  refine ⟨trivial, pair_ok hw ?_⟩
  rw [isB_bl, if_pos rfl]
  simp only [wp_xBin, wp_var, wp_c, wp_mIx, List.getElem?_cons_zero, List.getElem?_cons_succ, i0, i1]
  refine ⟨trivial, one_of_ok hw ?_⟩
  rw [decide_eq_true h1, isB_bl, if_pos rfl]
  refine ⟨trivial, one_of_ok hw ?_⟩
  rw [decide_eq_true h2, isB_bl, if_pos rfl]
  simp only [wp_lift2, lt]
  exact ⟨trivial, hw, _, frz_lo rfl, q⟩
theorem ties_lt {p q : Str × Str} (h : lexLtS [p.1, p.2] [q.1, q.2] = true) : dLt (tieD p) (tieD q) = some (.bl true) := by
  show some (D.bl (lexLtS [p.1, p.2] [q.1, q.2])) = _
  rw [h]
theorem pyOks_ties {l : List (Str × Str)} (h : ∀ p ∈ l, PyData.strOk p.1 = true ∧ PyData.strOk p.2 = true) : pyOks (l.map tieD) = true := by
  induction l with
  | nil => rfl
  | cons x l ih =>
    have hx := h x (by simp)
    simp only [List.map_cons, pyOks, Bool.and_eq_true]
    exact ⟨by simp [pyOk, pyOks, hx], ih fun p hp => h p (by simp [hp])⟩
theorem depthAll_ties (l : List (Str × Str)) : PyData.depthAll (toPys (l.map tieD)) ≤ 20 := by
  induction l with
  | nil => decide
  | cons x l ih =>
    simp only [List.map_cons, toPys, PyData.depthAll]
    have : (toPy (tieD x)).depth ≤ 20 := by simp [toPy, toPys, PyData.depth, PyData.depthAll]
    omega
theorem okD_ties {l : List (Str × Str)} (h : ∀ p ∈ l, PyData.strOk p.1 = true ∧ PyData.strOk p.2 = true) : okD (.tup (l.map tieD)) = true := by
  unfold okD
  rw [Bool.and_eq_true]
  refine ⟨by simp only [pyOk]; exact pyOks_ties h, ?_⟩
  have := depthAll_ties l
  simp only [toPy, PyData.depth]
  exact decide_eq_true (by omega)
theorem below_ties {l : List (Str × Str)} (hp : l.Pairwise fun p q => lexLtS [p.1, p.2] [q.1, q.2] = true) {i : Nat} (hi : i < l.length) (l' : List D) (d : D) (h : (l.map tieD).take i = l' ++ [d]) : dLt d (tieD l[i]) = some (.bl true) := by
  obtain ⟨j, hj, hd⟩ := take_end (by rw [List.length_map]; exact hi) h
  rw [List.getElem?_map] at hd
  obtain ⟨x, hx, rfl⟩ := Option.map_eq_some_iff.mp hd
  obtain ⟨hlj, ex⟩ := List.getElem?_eq_some_iff.mp hx
  have := List.pairwise_iff_getElem.mp hp j i hlj hi (by omega)
  rw [ex] at this
  exact ties_lt this
theorem ties_ok {st : List Ob} {ns : List Str} {ts : List (Str × Str)} (hw : Wf st) (hN : Names ns) (hT : Ties ns ts) {Q : D → List Ob → Prop} (q : Q (.lst []) st) : wp (S_wrong_in_ties [.d (.tup (ns.map .str)), .d (.tup (ts.map tieD))]) st Q := by
  unfold S_wrong_in_ties
  refine wp_frz0 ?_
  rw [wp_runF]
  unfold m_wrong_in_ties
  have hl := hT.len
  simp only [startE, List.map_cons, List.map_nil, List.length_cons, List.length_nil, List.replicate, List.cons_append, List.nil_append, wp_yRet]
  have e : ∀ R : D → List Ob → Prop, wp (runF 6 (m_wrong_in fun i => xLam i 3 2 (xAnd (xFn 2 S_is_tie (xCons (xVar 2) (xCons (xVar 1) xNil))) (xFn 2 S_are_below (xCons (xVar 0) (xCons (xVar 1) xNil))))) [.d (.tup (ts.map tieD)), .d (.int 0), .d .non, .clo 0 [.tup (ns.map .str)]]) st R ↔
      wp (xLamCall 4 [0] (xCons (xVar 1) (xCons (xC (.int 0)) (xCons (xC .non) xNil))) (runF 6 (m_wrong_in fun i => xLam i 3 2 (xAnd (xFn 2 S_is_tie (xCons (xVar 2) (xCons (xVar 1) xNil))) (xFn 2 S_are_below (xCons (xVar 0) (xCons (xVar 1) xNil)))))) [some (.d (.tup (ns.map .str))), some (.d (.tup (ts.map tieD)))]) st R := fun R => Iff.rfl
  refine (e _).mp ?_
  refine wrong_ok (by simp) (by simp; omega) rfl (fun i hi => by simp [toPy, PyData.eqv]) (fun s => rfl) (fun i hi => ?_) rfl ⟨rfl, hw, _, frz_lo rfl, q⟩
  have hin : i < ts.length := by simpa using hi
  have hit : (ts.map tieD)[i] = tieD ts[i] := by simp
  have hm := hT.mem _ (List.getElem_mem hin)
  rw [hit]
  simp only [startE, List.map_cons, List.map_nil, List.length_cons, List.length_nil, List.replicate, List.cons_append, List.nil_append, List.append_nil, wp_xAnd, wp_xFn, wp_xCons, wp_var, List.getElem?_cons_zero, List.getElem?_cons_succ, wp_xNil]
  refine ⟨trivial, tie_ok hw hm.1 hm.2.1 hm.2.2 ?_⟩
  rw [isB_bl, if_pos rfl]
  have hok : okD (.tup ((ts.map tieD).take i)) = true := by
    rw [← List.map_take]
    exact okD_ties fun p hp => by
      have := hT.mem p (List.mem_of_mem_take hp)
      exact ⟨(hN.g _ this.1).ok, (hN.g _ this.2.1).ok⟩
  exact ⟨trivial, below_ok hw hok (fun l' d h => below_ties hT.pw hin l' d h) ⟨rfl, rfl⟩⟩
end K84
set_option autoImplicit false
set_option maxRecDepth 100000
set_option maxHeartbeats 4000000
/-! MW3: weakest preconditions of the mirrors that may raise. -/
namespace MM
open PySem PySem.Spec L2
section
variable {st : List Ob} {ρ : Ev}
variable {Q : D → List Ob → Prop} {QR : Rs D → List Ob → Prop} {QRL : Rs (List D) → List Ob → Prop} {QX : OutX → List Ob → Prop} {QO : Out → List Ob → Prop}
@[simp] theorem wp_vLift {α : Type} {m : Ev → Mo α} {Q : Rs α → List Ob → Prop} : wp (vLift m ρ) st Q ↔ wp (m ρ) st fun d s => Q (.ok d) s := by simp [vLift]
theorem wp_rsB {α β : Type} {m : Mo (Rs α)} {f : α → Mo (Rs β)} {Q : Rs β → List Ob → Prop} : wp (rsB m f) st Q ↔ wp m st fun r s => match r with | .ok a => wp (f a) s Q | .ex e => Q (.ex e) s := by
  unfold rsB
  rw [wp_bind]
  constructor <;> (intro h; refine wp_mono h fun r s q => ?_) <;> (cases r <;> simp_all)
@[simp] theorem wp_vFn {n : Nat} {md : List A → Mo (Rs D)} {ml : Ev → Mo (Rs (List D))} : wp (vFn n md ml ρ) st QR ↔ wp (ml ρ) st fun r s => match r with | .ok ds => ds.length = n ∧ wp (md (ds.map .d)) s QR | .ex e => QR (.ex e) s := by
  unfold vFn
  rw [wp_rsB]
  constructor <;> (intro h; refine wp_mono h fun r s q => ?_)
  · cases r with
    | ok ds =>
      simp only [wp_ite, wp_fail] at q
      split at q
      · exact ⟨by assumption, q⟩
      · exact q.elim
    | ex e => exact q
  · cases r with
    | ok ds =>
      simp only [wp_ite, wp_fail]
      rw [if_pos q.1]; exact q.2
    | ex e => exact q
@[simp] theorem wp_vMt {c f : Str} {n : Nat} {md : List A → Mo (Rs D)} {mo : Ev → Mo D} {ml : Ev → Mo (Rs (List D))} : wp (vMt c f n md mo ml ρ) st QR ↔ wp (mo ρ) st fun x s => match insOf s x with
    | some (c', ns, _) => (c' = c ∧ f ∉ ns) ∧ wp (ml ρ) s fun r s => match r with | .ok ds => ds.length = n ∧ wp (md (.d x :: ds.map .d)) s QR | .ex e => QR (.ex e) s
    | none => False := by
  unfold vMt
  rw [wp_bind]
  constructor <;> (intro h; refine wp_mono h fun x s q => ?_)
  · rcases e : insOf s x with _ | ⟨c', ns, ds⟩
    · rw [wp_def] at q; simp [e] at q
    · by_cases hc : c' = c ∧ f ∉ ns
      · refine ⟨hc, ?_⟩
        have q2 : wp (rsB (ml ρ) fun ds => if ds.length = n then md (.d x :: ds.map .d) else Mo.fail) s QR := by
          rw [wp_def] at q ⊢
          simpa [e, hc] using q
        rw [wp_rsB] at q2
        refine wp_mono q2 fun r s q => ?_
        cases r with
        | ok ds =>
          simp only [wp_ite, wp_fail] at q ⊢
          split at q
          · exact ⟨by assumption, q⟩
          · exact q.elim
        | ex e => exact q
      · rw [wp_def] at q; simp [e, hc] at q
  · rcases e : insOf s x with _ | ⟨c', ns, ds⟩
    · rw [e] at q; exact q.elim
    · rw [e] at q
      obtain ⟨hc, q⟩ := q
      have q2 : wp (rsB (ml ρ) fun ds => if ds.length = n then md (.d x :: ds.map .d) else Mo.fail) s QR := by
        rw [wp_rsB]
        refine wp_mono q fun r s q => ?_
        cases r with
        | ok ds => simp only [wp_ite, wp_fail]; rw [if_pos q.1]; exact q.2
        | ex e => exact q
      rw [wp_def] at q2 ⊢
      simpa [e, hc] using q2
@[simp] theorem wp_vMtK {c f : Str} {m : Nat} {is : List Nat} {md : List A → Mo (Rs D)} {mo : Ev → Mo D} {ml : Ev → Mo (List D)} : wp (vMtK c f m is md mo ml ρ) st QR ↔ wp (mo ρ) st fun x s => match insOf s x with
    | some (c', ns, _) => (c' = c ∧ f ∉ ns) ∧ wp (ml ρ) s fun ds s => ds.length = m ∧ wp (md (.d x :: (pick is ds).map .d)) s QR
    | none => False := by
  unfold vMtK
  rw [wp_bind]
  constructor <;> (intro h; refine wp_mono h fun x s q => ?_)
  · rcases e : insOf s x with _ | ⟨c', ns, ds⟩
    · rw [wp_def] at q; simp [e] at q
    · by_cases hc : c' = c ∧ f ∉ ns
      · refine ⟨hc, ?_⟩
        have q2 : wp ((ml ρ).bind fun ds => if ds.length = m then md (.d x :: (pick is ds).map .d) else Mo.fail) s QR := by
          rw [wp_def] at q ⊢
          simpa [e, hc] using q
        rw [wp_bind] at q2
        refine wp_mono q2 fun ds s q => ?_
        simp only [wp_ite, wp_fail] at q
        split at q
        · exact ⟨by assumption, q⟩
        · exact q.elim
      · rw [wp_def] at q; simp [e, hc] at q
  · rcases e : insOf s x with _ | ⟨c', ns, ds⟩
    · rw [e] at q; exact q.elim
    · rw [e] at q
      obtain ⟨hc, q⟩ := q
      have q2 : wp ((ml ρ).bind fun ds => if ds.length = m then md (.d x :: (pick is ds).map .d) else Mo.fail) s QR := by
        rw [wp_bind]
        refine wp_mono q fun ds s q => ?_
        simp only [wp_ite, wp_fail]
        rw [if_pos q.1]; exact q.2
      rw [wp_def] at q2 ⊢
      simpa [e, hc] using q2
theorem wp_mkMx {c : Str} {n : Nat} {md : List A → Mo (Rs D)} {ds : List D} : wp (mkMx c n md ds) st QR ↔ ds.length = n ∧ wp (md (.d (.loc st.length) :: ds.map .d)) (st ++ [.ins c [] []]) fun r s => match r with | .ok .non => QR (.ok (.loc st.length)) s | .ex e => QR (.ex e) s | _ => False := by
  rw [wp_def, wp_def]
  unfold mkMx
  by_cases hn : ds.length = n
  · simp only [hn, if_true, true_and]
    generalize md (A.d (D.loc st.length) :: List.map A.d ds) (st ++ [Ob.ins c [] []]) = z
    rcases z with _ | ⟨r, s⟩
    · exact Iff.rfl
    · rcases r with d | e
      · cases d <;> exact Iff.rfl
      · exact Iff.rfl
  · simp [hn]
@[simp] theorem wp_vMake {c : Str} {n : Nat} {md : List A → Mo (Rs D)} {ml : Ev → Mo (Rs (List D))} : wp (vMake c n md ml ρ) st QR ↔ wp (ml ρ) st fun r s => match r with | .ok ds => wp (mkMx c n md ds) s QR | .ex e => QR (.ex e) s := by
  unfold vMake
  rw [wp_rsB]
  constructor <;> (intro h; refine wp_mono h fun r s q => ?_) <;> (cases r <;> exact q)
@[simp] theorem wp_vKw {m : Nat} {is : List Nat} {md : List D → Mo (Rs D)} {ml : Ev → Mo (List D)} : wp (vKw m is md ml ρ) st QR ↔ wp (ml ρ) st fun ds s => ds.length = m ∧ wp (md (pick is ds)) s QR := by
  unfold vKw
  rw [wp_bind]
  constructor <;> (intro h; refine wp_mono h fun a s q => ?_)
  · simp only [wp_ite, wp_fail] at q
    split at q
    · exact ⟨by assumption, q⟩
    · exact q.elim
  · simp only [wp_ite, wp_fail]
    rw [if_pos q.1]; exact q.2
/-! statements -/
def onX (R : Ev → List Ob → Prop) (QX : OutX → List Ob → Prop) : OutX → List Ob → Prop := fun r s => match r with
  | .o (.nx ρ') => R ρ' s
  | r => QX r s
@[simp] theorem onX_nx {R : Ev → List Ob → Prop} {ρ' : Ev} : onX R QX (.o (.nx ρ')) st ↔ R ρ' st := Iff.rfl
@[simp] theorem onX_rt {R : Ev → List Ob → Prop} {d : D} : onX R QX (.o (.rt d)) st ↔ QX (.o (.rt d)) st := Iff.rfl
@[simp] theorem onX_ex {R : Ev → List Ob → Prop} {e : Ex} {ρ' : Ev} : onX R QX (.ex e ρ') st ↔ QX (.ex e ρ') st := Iff.rfl
@[simp] theorem wp_zSeq {m n : Ev → Mo OutX} : wp (zSeq m n ρ) st QX ↔ wp (m ρ) st (onX (fun ρ' s => wp (n ρ') s QX) QX) := by
  unfold zSeq
  rw [wp_bind]
  constructor <;> (intro h; refine wp_mono h fun r s q => ?_) <;> (rcases r with (_ | _ | _ | _) | ⟨e, ρ'⟩ <;> simp_all [onX])
@[simp] theorem wp_zLift {m : Ev → Mo Out} : wp (zLift m ρ) st QX ↔ wp (m ρ) st fun o s => QX (.o o) s := by simp [zLift]
theorem wp_rsO {m : Mo (Rs D)} {f : D → Mo OutX} : wp (rsO ρ m f) st QX ↔ wp m st fun r s => match r with | .ok d => wp (f d) s QX | .ex e => QX (.ex e ρ) s := by
  unfold rsO
  rw [wp_bind]
  constructor <;> (intro h; refine wp_mono h fun r s q => ?_) <;> (cases r <;> simp_all)
@[simp] theorem wp_zRaise {c f : Str} {m : Ev → Mo D} : wp (zRaise c f m ρ) st QX ↔ wp (m ρ) st fun d s => QX (.ex ⟨c, f, d⟩ ρ) s := by simp [zRaise]
@[simp] theorem wp_zIf {c : Ev → Mo Bool} {m n : Ev → Mo OutX} : wp (zIf c m n ρ) st QX ↔ wp (c ρ) st fun b s => if b = true then wp (m ρ) s QX else wp (n ρ) s QX := by simp [zIf, wp_ite]
@[simp] theorem wp_zRet {m : Ev → Mo (Rs D)} : wp (zRet m ρ) st QX ↔ wp (m ρ) st fun r s => match r with | .ok d => QX (.o (.rt d)) s | .ex e => QX (.ex e ρ) s := by
  unfold zRet
  rw [wp_rsO]
  simp only [wp_pure]
@[simp] theorem wp_zDrop {m : Ev → Mo (Rs D)} : wp (zDrop m ρ) st QX ↔ wp (m ρ) st fun r s => match r with | .ok d => QX (.o (.nx ρ)) s | .ex e => QX (.ex e ρ) s := by
  unfold zDrop
  rw [wp_rsO]
  simp only [wp_pure]
@[simp] theorem wp_zSet {i : Nat} {m : Ev → Mo (Rs D)} : wp (zSet i m ρ) st QX ↔ wp (m ρ) st fun r s => match r with | .ok d => QX (.o (.nx (ρ.set i (some (.d d))))) s | .ex e => QX (.ex e ρ) s := by
  unfold zSet
  rw [wp_rsO]
  simp only [wp_pure]
/-! answers -/
def endQ (QR : Rs D → List Ob → Prop) : OutX → List Ob → Prop := fun o s => match o with
  | .o (.rt d) => QR (.ok d) s
  | .o (.nx _) => QR (.ok .non) s
  | .ex e _ => QR (.ex e) s
  | _ => False
theorem wp_runX {n : Nat} {m : Ev → Mo OutX} {as : List A} : wp (runX n m as) st QR ↔ wp (m (startE n as)) st (endQ QR) := by
  unfold runX
  rw [wp_bind]
  constructor <;> (intro h; refine wp_mono h fun r s q => ?_) <;> (rcases r with (_ | _ | _ | _) | ⟨e, ρ'⟩ <;> simp_all [endX, endQ])
@[simp] theorem endQ_rt {d : D} : endQ QR (.o (.rt d)) st ↔ QR (.ok d) st := Iff.rfl
@[simp] theorem endQ_nx {ρ' : Ev} : endQ QR (.o (.nx ρ')) st ↔ QR (.ok .non) st := Iff.rfl
@[simp] theorem endQ_ex {e : Ex} {ρ' : Ev} : endQ QR (.ex e ρ') st ↔ QR (.ex e) st := Iff.rfl
def frzQ (n k : Nat) (QR : Rs D → List Ob → Prop) : Rs D → List Ob → Prop := fun r s => match r with
  | .ok d => ∃ e, frzD s n k d = some e ∧ QR (.ok e) (s.take n)
  | .ex x => ∃ e, frzD s n k x.x = some e ∧ QR (.ex ⟨x.c, x.f, e⟩) (s.take n)
theorem wp_frzX {k : Nat} {m : Mo (Rs D)} (h : wp m st fun r s => (s.take st.length).all (Ob.lo st.length) = true ∧ frzQ st.length k QR r s) : wp (frzX k m) st QR := by
  obtain ⟨r, s, e, h1, h2⟩ := h
  rw [wp_def]
  unfold frzX
  rw [e]
  dsimp only
  rw [if_pos h1]
  cases r with
  | ok d => obtain ⟨z, h3, q⟩ := h2; simp only [h3, Option.map_some]; exact q
  | ex x => obtain ⟨z, h3, q⟩ := h2; simp only [h3, Option.map_some]; exact q
@[simp] theorem wp_unX {m : Ev → Mo (Rs D)} : wp (unX m ρ) st Q ↔ wp (m ρ) st fun r s => match r with | .ok d => Q d s | .ex _ => False := by
  unfold unX
  rw [wp_bind]
  constructor <;> (intro h; refine wp_mono h fun r s q => ?_) <;> (cases r <;> simp_all)
@[simp] theorem wp_unS {m : Ev → Mo OutX} : wp (unS m ρ) st QO ↔ wp (m ρ) st fun r s => match r with | .o o => QO o s | .ex _ _ => False := by
  unfold unS
  rw [wp_bind]
  constructor <;> (intro h; refine wp_mono h fun r s q => ?_) <;> (cases r <;> simp_all)
theorem wp_zTry {tb : Str → Option Bool} {i : Nat} {mb : Ev → Mo OutX} {ms : Ev → Mo Out} (h : wp (mb ρ) st fun o s => match o with
    | .o o => QX (.o o) s
    | .ex e ρ' => tb e.c = some true ∧ noExc ρ' = true ∧ wp (ms (ρ'.set i (some (.clo 77 [.str e.c, .str e.f, e.x])))) s fun o s => match goneO i o with | some o => QX (.o o) s | none => False) : wp (zTry tb i mb ms ρ) st QX := by
  unfold zTry
  rw [wp_bind]
  refine wp_mono h fun o s q => ?_
  cases o with
  | o o => exact wp_pure.mpr q
  | ex e ρ' =>
    obtain ⟨q1, q2, q3⟩ := q
    simp only [q1, q2, if_true]
    rw [wp_bind]
    refine wp_mono q3 fun o s q => ?_
    rw [wp_def]
    cases hg : goneO i o with
    | none => rw [hg] at q; exact q.elim
    | some o2 => rw [hg] at q; exact q
theorem wp_xEf {L : List Str} {i : Nat} {f : Str} {e : Ex} (he : excAt ρ i = some e) (h1 : e.c ∈ L) (h2 : e.f = f) (q : Q e.x st) : wp (xEf L i f ρ) st Q := by
  unfold xEf
  rw [he]
  simp only [h1, h2, and_self, if_true]
  exact wp_pure.mpr q
theorem wp_xEi {tb : Str → D → Option Bool} {i : Nat} {m : Ev → Mo D} {e : Ex} (he : excAt ρ i = some e) : wp (xEi tb i m ρ) st Q ↔ wp (m ρ) st fun c s => match tb e.c c with | some b => Q (.bl b) s | none => False := by
  unfold xEi
  rw [he]
  simp only [wp_bind]
  constructor <;> (intro h; refine wp_mono h fun c s q => ?_) <;> (rw [wp_def] at *; cases e2 : tb e.c c <;> simp_all)
theorem wp_vAct {i n k : Nat} {js : List Nat} {mb : Ev → Mo (Rs D)} {caps : List D} (h : ρ[i]? = some (some (.clo 0 caps))) : wp (vAct i n js mb ρ) st QR ↔ wp (mb (putCaps n js caps)) st QR := by
  unfold vAct
  rw [h]
  simp only [if_true]
theorem wp_xLam0 {js : List Nat} {md : List A → Mo D} {caps : List D} (h : capsOf ρ js = some caps) : wp (xLam0 js md ρ) st Q ↔ wp (md [.clo 0 caps]) st Q := by
  unfold xLam0
  rw [h]
@[simp] theorem wp_mInD {x y : D} : wp (mInD x y) st Q ↔ match inDeep st x y with | some b => Q (.bl b) st | none => False := by
  rw [wp_def]
  unfold mInD
  cases inDeep st x y <;> rfl
@[simp] theorem wp_mNotInD {x y : D} : wp (mNotInD x y) st Q ↔ match inDeep st x y with | some b => Q (.bl (!b)) st | none => False := by
  rw [wp_def]
  unfold mNotInD
  cases inDeep st x y <;> rfl
end
end MM
set_option autoImplicit false
set_option maxRecDepth 100000
set_option maxHeartbeats 8000000
namespace K84
open PySem PySem.Spec L2 MM
structure Cs where
  ns : List Str
  ts : List (Str × Str)
abbrev webD (c : Cs) : D := .tup [.tup (c.ns.map .str), .tup (c.ts.map tieD)]
structure Cs.Ok (c : Cs) : Prop where
  n1 : 1 ≤ c.ns.length
  n6 : c.ns.length ≤ 7
  names : Names c.ns
  ties : Ties c.ns c.ts
def IsW (s : List Ob) (x : D) (c : Cs) : Prop := insOf s x = some (("Web" : Str), [("all_told" : Str)], [webD c])
theorem lo_web {n : Nat} {c : Cs} : D.lo n (webD c) = true := by simp only [D.lo, D.loL, loL_strs, loL_prs, Bool.true_and, Bool.and_true]
theorem fldW {s : List Ob} {x : D} {c : Cs} (h : IsW s x c) : dFld "Web" "all_told" s x = some (webD c) := by
  unfold dFld
  unfold IsW at h
  rw [h]
  rfl
section
variable {st : List Ob} {x w : D} {c : Cs} {Q : D → List Ob → Prop}
theorem wplaces_ok (hw : Wf st) (h : IsW st x c) (q : Q (.tup (c.ns.map .str)) st) : wp (S_Web_places [.d x]) st Q := by
  unfold S_Web_places
  refine wp_frz0 ?_
  rw [wp_runF]
  unfold m_Web_places
  have i0 : dIx st (webD c) (.int 0) = some (.tup (c.ns.map .str)) := rfl
  simp only [startE, List.map_cons, List.map_nil, List.length_cons, List.length_nil, List.replicate, List.cons_append, List.nil_append, wp_yRet, wp_xBin, wp_xFld, wp_var, wp_c, List.getElem?_cons_zero, fldW h, wp_mIx, i0]
  exact ⟨trivial, hw, _, frz_lo (by simp only [D.lo, loL_strs]), q⟩
theorem wparts_ok (hw : Wf st) (h : IsW st x c) (q : Q (webD c) st) : wp (S_Web_parts [.d x]) st Q := by
  unfold S_Web_parts
  refine wp_frz0 ?_
  rw [wp_runF]
  unfold m_Web_parts
  simp only [startE, List.map_cons, List.map_nil, List.length_cons, List.length_nil, List.replicate, List.cons_append, List.nil_append, wp_yRet, wp_xFld, wp_var, List.getElem?_cons_zero, fldW h]
  exact ⟨trivial, hw, _, frz_lo lo_web, q⟩
theorem wties_ok (hw : Wf st) (h : IsW st x c) (q : Q (.tup (c.ts.map tieD)) st) : wp (S_Web_ties [.d x]) st Q := by
  unfold S_Web_ties
  refine wp_frz0 ?_
  rw [wp_runF]
  unfold m_Web_ties
  have i0 : dIx st (webD c) (.int 1) = some (.tup (c.ts.map tieD)) := rfl
  simp only [startE, List.map_cons, List.map_nil, List.length_cons, List.length_nil, List.replicate, List.cons_append, List.nil_append, wp_yRet, wp_xBin, wp_xFld, wp_var, wp_c, List.getElem?_cons_zero, fldW h, wp_mIx, i0]
  exact ⟨trivial, hw, _, frz_lo (by simp only [D.lo, loL_prs]), q⟩
end
theorem ins_ty {s : List Ob} {x : D} {c : Str} {ns : List Str} {ds : List D} (h : insOf s x = some (c, ns, ds)) : tyNm s x = none ∧ insCls s x = some c := by
  cases x with
  | ins c' ns' ds' => cases h; exact ⟨rfl, rfl⟩
  | loc n =>
    simp only [insOf] at h
    cases e : s[n]? with
    | none => rw [e] at h; cases h
    | some o =>
      rw [e] at h
      cases o with
      | ins c' ns' ds' => cases h; simp [tyNm, insCls, e]
      | lst l => cases h
      | dK a b => cases h
  | _ => cases h
theorem isi_own {s : List Ob} {x : D} {c : Str} {ns : List Str} {ds : List D} (h : insOf s x = some (c, ns, ds)) (hc : c = "Web") : dIsi isiTb isiNb s [x, .cls c] = some (.bl true) := by
  obtain ⟨h1, h2⟩ := ins_ty h
  simp only [dIsi]
  rw [h1, h2]
  subst hc; rfl
theorem webi_ok {st : List Ob} {n : Nat} {c : Cs} (hw : Wf st) (hn : st[n]? = some (.ins "Web" [] [])) (hc : c.Ok) {Q : D → List Ob → Prop} (q : Q .non (st.set n (.ins "Web" ["all_told"] [webD c]))) : wp (S_Web_ddinitdd [.d (.loc n), .d (.tup (c.ns.map .str)), .d (.tup (c.ts.map tieD))]) st Q := by
  unfold S_Web_ddinitdd
  refine wp_frz0 ?_
  rw [wp_runF]
  unfold m_Web_ddinitdd
  simp only [startE, List.map_cons, List.map_nil, List.length_cons, List.length_nil, List.replicate, List.cons_append, List.nil_append, wp_ySeq, wp_yFor, wp_itemsL, wp_xFn, wp_xCons, wp_xNil, wp_var, List.getElem?_cons_zero, List.getElem?_cons_succ]
  refine ⟨trivial, places_ok hw hc.names hc.n1 hc.n6 ?_⟩
  simp only [MM.forM, wp_pure, onNx_nx, wp_ySeq, wp_yFor, wp_itemsL, wp_xFn, wp_xCons, wp_xNil, wp_var, List.getElem?_cons_zero, List.getElem?_cons_succ, List.length_cons, List.length_nil]
  refine ⟨trivial, ties_ok hw hc.names hc.ties ?_⟩
  simp only [MM.forM, wp_pure, onNx_nx, wp_setF, wp_xTup, wp_xCons, wp_xNil, wp_var, List.getElem?_cons_zero, List.getElem?_cons_succ, List.length_cons, List.length_nil, hn]
  refine ⟨by decide, ⟨trivial, by decide⟩, ?_⟩
  have hlo : Ob.lo st.length (.ins "Web" ["all_told"] [webD c]) = true := by
    simp only [Ob.lo, D.loL, lo_web, Bool.true_and, Bool.and_true]
  exact ⟨List.length_set, hw.set hlo, _, frz_lo rfl, q⟩
abbrev webV (c : Cs) : D := .ins "Web" ["all_told"] [webD c]
abbrev webO (c : Cs) : MM.Ob := .ins "Web" ["all_told"] [webD c]
theorem set_last {α : Type} {l : List α} {x y : α} : (l ++ [x]).set l.length y = l ++ [y] := by
  rw [List.set_append_right _ _ (Nat.le_refl _), Nat.sub_self]
  rfl
theorem get_last {α : Type} {l : List α} {x : α} : (l ++ [x])[l.length]? = some x := by simp
theorem mkweb_ok {st : List Ob} {c : Cs} (hw : Wf st) (hc : c.Ok) {Q : D → List Ob → Prop} (q : Wf (st ++ [webO c]) → Q (.loc st.length) (st ++ [webO c])) : wp (mkM "Web" 2 S_Web_ddinitdd [.tup (c.ns.map .str), .tup (c.ts.map tieD)]) st Q := by
  refine wp_make.mpr ⟨rfl, ?_⟩
  have hw1 : Wf (st ++ [.ins "Web" [] []]) := hw.push rfl
  refine webi_ok hw1 get_last hc ?_
  rw [set_last]
  exact q (hw.push (by simp only [Ob.lo, D.loL, lo_web, Bool.true_and, Bool.and_true]))
theorem IsW.push {st : List Ob} {w : D} {c : Cs} {o : Ob} (h : IsW st w c) : IsW (st ++ [o]) w c := by
  unfold IsW at h ⊢
  cases w with
  | ins a b d => exact h
  | loc n =>
    simp only [insOf] at h ⊢
    cases e : st[n]? with
    | none => rw [e] at h; cases h
    | some x =>
      rw [e] at h
      have : (st ++ [o])[n]? = some x := by rw [List.getElem?_append_left (List.getElem?_eq_some_iff.mp e).1]; exact e
      rw [this]
      exact h
  | _ => cases h
theorem lo_up {st : List Ob} {w : D} {c : Cs} (h : IsW st w c) (hlo : D.lo st.length w = true) : D.lo (st.length + 1) w = true := by
  cases w with
  | ins a b d =>
    cases h
    show D.lo _ (webV c) = true
    simp only [D.lo, D.loL, loL_strs, loL_prs, Bool.true_and, Bool.and_true]
  | loc n =>
    simp only [D.lo] at hlo ⊢
    have := of_decide_eq_true hlo
    exact decide_eq_true (by omega)
  | _ => cases h
theorem isW_loc {st : List Ob} {c : Cs} {n : Nat} (h : st[n]? = some (webO c)) : IsW st (.loc n) c := by
  unfold IsW
  simp only [insOf]
  rw [h]
end K84
set_option autoImplicit false
set_option maxRecDepth 100000
set_option maxHeartbeats 8000000
namespace K84
open PySem PySem.Spec L2 MM
theorem wp_frzR {m : Mo (Rs D)} {st : List Ob} {QR : Rs D → List Ob → Prop} (h : wp m st fun r s => s.length = st.length ∧ Wf s ∧ (match r with | .ok d => D.lo st.length d = true | .ex x => D.lo st.length x.x = true) ∧ QR r s) : wp (frzX 100 m) st QR := by
  refine wp_frzX (wp_mono h fun r s ⟨h1, h2, h3, h4⟩ => ?_)
  have ht : s.take st.length = s := by rw [← h1, List.take_length]
  refine ⟨by rw [ht, ← h1]; exact h2, ?_⟩
  cases r with
  | ok d => exact ⟨_, frz_lo h3, by rw [ht]; exact h4⟩
  | ex x => exact ⟨_, frz_lo h3, by rw [ht]; exact h4⟩
/-- an odd value: no Web, a text or none -/
structure Odd (y : D) : Prop where
  web : ∀ s, dIsi isiTb isiNb s [y, .cls "Web"] = some (.bl false)
  str : (∃ x, y = .str x) ∨ ∀ s, dIsi isiTb isiNb s [y, .ty "str"] = some (.bl false)
def inP (y : D) (l : List Str) : Bool := match y with
  | .str x => decide (x ∈ l)
  | _ => false
theorem odd_str {x : Str} : Odd (.str x) := ⟨fun s => rfl, .inl ⟨x, rfl⟩⟩
theorem odd_non : Odd .non := ⟨fun s => rfl, .inr fun s => rfl⟩
theorem odd_int {i : Int} : Odd (.int i) := ⟨fun s => rfl, .inr fun s => rfl⟩
theorem odd_bl {b : Bool} : Odd (.bl b) := ⟨fun s => rfl, .inr fun s => rfl⟩
theorem odd_tup {ds : List D} : Odd (.tup ds) := ⟨fun s => rfl, .inr fun s => rfl⟩
theorem odd_lst {ds : List D} : Odd (.lst ds) := ⟨fun s => rfl, .inr fun s => rfl⟩
theorem one_of_any {st : List Ob} {y : D} {l : List Str} (hw : Wf st) (hy : Odd y) {Q : D → List Ob → Prop} (q : Q (.bl (inP y l)) st) : wp (S_is_one_of [.d y, .d (.tup (l.map .str))]) st Q := by
  rcases hy.str with ⟨x, rfl⟩ | h
  · exact one_of_ok hw q
  · unfold S_is_one_of
    refine wp_frz0 ?_
    rw [wp_runF]
    unfold m_is_one_of
    have e : inP y l = false := by
      cases y with
      | str x => have := h []; rw [isi_str] at this; cases this
      | _ => rfl
    rw [e] at q
    simp only [startE, List.map_cons, List.map_nil, List.length_cons, List.length_nil, List.replicate, List.cons_append, List.nil_append, wp_yRet, wp_xAnd, wp_xCall, wp_xCons, wp_var, wp_c, List.getElem?_cons_zero, List.getElem?_cons_succ, wp_xNil, wp_liftL, h, isB_bl, if_false, Bool.false_eq_true]
    exact ⟨trivial, hw, _, frz_lo rfl, q⟩
abbrev exU (y : D) : Ex := ⟨"UnknownPlace", "given", y⟩
abbrev exW (y : D) : Ex := ⟨"NotAWeb", "given", y⟩
section
variable {st : List Ob} {w b y z : D} {c : Cs} {ps : List Str} {QR : Rs D → List Ob → Prop} {Q : D → List Ob → Prop}
theorem place_no (hw : Wf st) (h : IsW st w c) (hy : Odd y) (hlo : D.lo st.length y = true) (hn : inP y c.ns = false) (q : QR (.ex (exU y)) st) : wp (S_check_place [.d w, .d y]) st QR := by
  unfold S_check_place
  refine wp_frzR ?_
  rw [wp_runX]
  unfold m_check_place
  have h2 := h
  unfold IsW at h2
  simp only [startE, List.map_cons, List.map_nil, List.length_cons, List.length_nil, List.replicate, List.cons_append, List.nil_append, wp_zIf, wp_xNotB, wp_asB, wp_xFn, wp_xCons, wp_xProp, wp_xNil, wp_var, wp_c, List.getElem?_cons_zero, List.getElem?_cons_succ]
  rw [h2]
  refine ⟨rfl, wplaces_ok hw h ⟨trivial, one_of_any hw hy ?_⟩⟩
  simp only [hn, isB_bl, Bool.not_false, if_true, wp_zRaise, wp_var, List.getElem?_cons_zero, List.getElem?_cons_succ, endQ_ex]
  exact ⟨trivial, hw, hlo, q⟩
theorem place_yes (hw : Wf st) (h : IsW st w c) {x : Str} (hx : x ∈ c.ns) (q : QR (.ok .non) st) : wp (S_check_place [.d w, .d (.str x)]) st QR := by
  unfold S_check_place
  refine wp_frzR ?_
  rw [wp_runX]
  unfold m_check_place
  have h2 := h
  unfold IsW at h2
  simp only [startE, List.map_cons, List.map_nil, List.length_cons, List.length_nil, List.replicate, List.cons_append, List.nil_append, wp_zIf, wp_xNotB, wp_asB, wp_xFn, wp_xCons, wp_xProp, wp_xNil, wp_var, wp_c, List.getElem?_cons_zero, List.getElem?_cons_succ]
  rw [h2]
  refine ⟨rfl, wplaces_ok hw h ⟨trivial, one_of_ok hw ?_⟩⟩
  simp only [decide_eq_true hx, isB_bl, Bool.not_true, Bool.false_eq_true, if_false, wp_zLift, wp_yNil, endQ_nx]
  exact ⟨trivial, hw, rfl, q⟩
theorem chweb_yes (hw : Wf st) (h : IsW st w c) (q : QR (.ok .non) st) : wp (S_check_web [.d w]) st QR := by
  unfold S_check_web
  refine wp_frzR ?_
  rw [wp_runX]
  unfold m_check_web
  have ti := isi_own h rfl
  simp only [startE, List.map_cons, List.map_nil, List.length_cons, List.length_nil, List.replicate, List.cons_append, List.nil_append, wp_zIf, wp_xNotB, wp_asB, wp_xCall, wp_xCons, wp_xNil, wp_liftL, wp_var, wp_c, List.getElem?_cons_zero, ti, isB_bl, Bool.not_true, Bool.false_eq_true, if_false, wp_zLift, wp_yNil, endQ_nx]
  exact ⟨trivial, hw, rfl, q⟩
theorem chweb_no (hw : Wf st) (hy : Odd y) (hlo : D.lo st.length y = true) (q : QR (.ex (exW y)) st) : wp (S_check_web [.d y]) st QR := by
  unfold S_check_web
  refine wp_frzR ?_
  rw [wp_runX]
  unfold m_check_web
  simp only [startE, List.map_cons, List.map_nil, List.length_cons, List.length_nil, List.replicate, List.cons_append, List.nil_append, wp_zIf, wp_xNotB, wp_asB, wp_xCall, wp_xCons, wp_xNil, wp_liftL, wp_var, wp_c, List.getElem?_cons_zero, hy.web, isB_bl, Bool.not_false, if_true, wp_zRaise, endQ_ex]
  exact ⟨trivial, hw, hlo, q⟩
/-! ### books -/
abbrev bookO (w : D) (ps : List Str) : MM.Ob := .ins "Book" ["standing"] [.tup [w, .tup (ps.map .str)]]
def IsB (s : List Ob) (b w : D) (ps : List Str) : Prop := insOf s b = some (("Book" : Str), [("standing" : Str)], [.tup [w, .tup (ps.map .str)]])
theorem fldB (h : IsB st b w ps) : dFld "Book" "standing" st b = some (.tup [w, .tup (ps.map .str)]) := by
  unfold dFld
  unfold IsB at h
  rw [h]
  rfl
theorem isB_loc {n : Nat} (h : st[n]? = some (bookO w ps)) : IsB st (.loc n) w ps := by
  unfold IsB
  simp only [insOf]
  rw [h]
theorem bweb_ok (hw : Wf st) (h : IsB st b w ps) (hlo : D.lo st.length w = true) (q : Q w st) : wp (S_Book_web [.d b]) st Q := by
  unfold S_Book_web
  refine wp_frz0 ?_
  rw [wp_runF]
  unfold m_Book_web
  have i0 : ∀ s u v, dIx s (.tup [u, v]) (.int 0) = some u := fun _ _ _ => rfl
  simp only [startE, List.map_cons, List.map_nil, List.length_cons, List.length_nil, List.replicate, List.cons_append, List.nil_append, wp_yRet, wp_xBin, wp_xFld, wp_var, wp_c, List.getElem?_cons_zero, fldB h, wp_mIx, i0]
  exact ⟨trivial, hw, _, frz_lo hlo, q⟩
theorem bposts_ok (hw : Wf st) (h : IsB st b w ps) (q : Q (.tup (ps.map .str)) st) : wp (S_Book_posts [.d b]) st Q := by
  unfold S_Book_posts
  refine wp_frz0 ?_
  rw [wp_runF]
  unfold m_Book_posts
  have i0 : ∀ s u v, dIx s (.tup [u, v]) (.int 1) = some v := fun _ _ _ => rfl
  simp only [startE, List.map_cons, List.map_nil, List.length_cons, List.length_nil, List.replicate, List.cons_append, List.nil_append, wp_yRet, wp_xBin, wp_xFld, wp_var, wp_c, List.getElem?_cons_zero, fldB h, wp_mIx, i0]
  exact ⟨trivial, hw, _, frz_lo (by simp only [D.lo, loL_strs]), q⟩
theorem booki_no {n : Nat} (hw : Wf st) (hn : n < st.length) (hy : Odd y) (hlo : D.lo st.length y = true) (q : QR (.ex (exW y)) st) : wp (S_Book_ddinitdd [.d (.loc n), .d y]) st QR := by
  unfold S_Book_ddinitdd
  refine wp_frzR ?_
  rw [wp_runX]
  unfold m_Book_ddinitdd
  simp only [startE, List.map_cons, List.map_nil, List.length_cons, List.length_nil, List.replicate, List.cons_append, List.nil_append, wp_zSeq, wp_zDrop, wp_vFn, wp_vLift, wp_xCons, wp_xNil, wp_var, List.getElem?_cons_zero, List.getElem?_cons_succ]
  refine ⟨trivial, chweb_no hw hy hlo ?_⟩
  simp only [onX_ex, endQ_ex]
  exact ⟨trivial, hw, hlo, q⟩
theorem booki_yes {n : Nat} (hw : Wf st) (hn : st[n]? = some (.ins "Book" [] [])) (h : IsW st w c) (hlo : D.lo st.length w = true) (q : QR (.ok .non) (st.set n (bookO w []))) : wp (S_Book_ddinitdd [.d (.loc n), .d w]) st QR := by
  unfold S_Book_ddinitdd
  refine wp_frzR ?_
  rw [wp_runX]
  unfold m_Book_ddinitdd
  simp only [startE, List.map_cons, List.map_nil, List.length_cons, List.length_nil, List.replicate, List.cons_append, List.nil_append, wp_zSeq, wp_zDrop, wp_vFn, wp_vLift, wp_xCons, wp_xNil, wp_var, List.getElem?_cons_zero, List.getElem?_cons_succ]
  refine ⟨trivial, chweb_yes hw h ?_⟩
  simp only [onX_nx, wp_zLift, wp_setF, wp_xTup, wp_xCons, wp_xNil, wp_var, List.getElem?_cons_zero, List.getElem?_cons_succ, List.length_cons, List.length_nil, hn, endQ_nx]
  refine ⟨by decide, by decide, ⟨trivial, by decide⟩, List.length_set, hw.set ?_, rfl, q⟩
  show Ob.lo st.length (bookO w []) = true
  simp only [Ob.lo, D.loL, D.lo, hlo, List.map_nil, Bool.true_and, Bool.and_true]
/-! ### check_post -/
theorem cp_no0 (hw : Wf st) (hb : IsB st b w ps) (h : IsW st w c) (hwl : D.lo st.length w = true) (hy : Odd y) (hlo : D.lo st.length y = true) (hn : inP y c.ns = false) (q : QR (.ex (exU y)) st) : wp (S_Book_check_post [.d b, .d y]) st QR := by
  unfold S_Book_check_post
  refine wp_frzR ?_
  rw [wp_runX]
  unfold m_Book_check_post
  have h2 := hb
  unfold IsB at h2
  simp only [startE, List.map_cons, List.map_nil, List.length_cons, List.length_nil, List.replicate, List.cons_append, List.nil_append, wp_zSeq, wp_zDrop, wp_vFn, wp_vLift, wp_xCons, wp_xNil, wp_var, List.getElem?_cons_zero, List.getElem?_cons_succ, wp_xProp]
  rw [h2]
  refine ⟨rfl, bweb_ok hw hb hwl ⟨trivial, place_no hw h hy hlo hn ?_⟩⟩
  simp only [onX_ex, endQ_ex]
  exact ⟨trivial, hw, hlo, q⟩
theorem cp_no1 (hw : Wf st) (hb : IsB st b w ps) (h : IsW st w c) (hwl : D.lo st.length w = true) {x : Str} (hx : x ∈ c.ns) (hn : x ∉ ps) (q : QR (.ex (exU (.str x))) st) : wp (S_Book_check_post [.d b, .d (.str x)]) st QR := by
  unfold S_Book_check_post
  refine wp_frzR ?_
  rw [wp_runX]
  unfold m_Book_check_post
  have h2 := hb
  unfold IsB at h2
  simp only [startE, List.map_cons, List.map_nil, List.length_cons, List.length_nil, List.replicate, List.cons_append, List.nil_append, wp_zSeq, wp_zDrop, wp_vFn, wp_vLift, wp_xCons, wp_xNil, wp_var, List.getElem?_cons_zero, List.getElem?_cons_succ, wp_xProp]
  rw [h2]
  refine ⟨rfl, bweb_ok hw hb hwl ⟨trivial, place_yes hw h hx ?_⟩⟩
  simp only [onX_nx, wp_zIf, wp_asB, wp_xBin, wp_xProp, wp_var, List.getElem?_cons_zero, List.getElem?_cons_succ]
  rw [h2]
  refine ⟨rfl, bposts_ok hw hb ?_⟩
  simp only [wp_mNotIn, inS, isB_bl, decide_eq_false hn, Bool.not_false, if_true, wp_zRaise, wp_var, List.getElem?_cons_zero, List.getElem?_cons_succ, endQ_ex]
  exact ⟨trivial, hw, rfl, q⟩
theorem cp_yes (hw : Wf st) (hb : IsB st b w ps) (h : IsW st w c) (hwl : D.lo st.length w = true) {x : Str} (hx : x ∈ c.ns) (hp : x ∈ ps) (q : QR (.ok .non) st) : wp (S_Book_check_post [.d b, .d (.str x)]) st QR := by
  unfold S_Book_check_post
  refine wp_frzR ?_
  rw [wp_runX]
  unfold m_Book_check_post
  have h2 := hb
  unfold IsB at h2
  simp only [startE, List.map_cons, List.map_nil, List.length_cons, List.length_nil, List.replicate, List.cons_append, List.nil_append, wp_zSeq, wp_zDrop, wp_vFn, wp_vLift, wp_xCons, wp_xNil, wp_var, List.getElem?_cons_zero, List.getElem?_cons_succ, wp_xProp]
  rw [h2]
  refine ⟨rfl, bweb_ok hw hb hwl ⟨trivial, place_yes hw h hx ?_⟩⟩
  simp only [onX_nx, wp_zIf, wp_asB, wp_xBin, wp_xProp, wp_var, List.getElem?_cons_zero, List.getElem?_cons_succ]
  rw [h2]
  refine ⟨rfl, bposts_ok hw hb ?_⟩
  simp only [wp_mNotIn, inS, isB_bl, decide_eq_true hp, Bool.not_true, Bool.false_eq_true, if_false, wp_zLift, wp_yNil, endQ_nx]
  exact ⟨trivial, hw, rfl, q⟩
end
end K84
set_option autoImplicit false
set_option maxRecDepth 100000
set_option maxHeartbeats 8000000
namespace K84
open PySem PySem.Spec L2 MM
theorem srt {l ns : List Str} (hp : l.Perm ns) (hs : ns.Pairwise fun a b => a.cps.toList < b.cps.toList) : sortD (l.map .str) = ns.map .str := by
  have hnd : l.Nodup := hp.nodup_iff.mpr (hs.imp fun hab e => by rw [e] at hab; exact List.lt_irrefl _ hab)
  obtain ⟨ms, e1, e2, e3⟩ := sort_strs l hnd
  rw [e1]
  have : ms = ns := List.Perm.eq_of_pairwise (le := fun (a b : Str) => a.cps.toList < b.cps.toList) (fun a b _ _ x1 x2 => absurd (List.lt_trans x1 x2) (List.lt_irrefl _)) e3 hs (e2.trans hp)
  rw [this]
theorem dsrt {s : List Ob} {l ns : List Str} (hl : l.length ≤ 1000000) (ho : ∀ x ∈ l, PyData.strOk x = true) (hp : l.Perm ns) (hs : ns.Pairwise fun a b => a.cps.toList < b.cps.toList) : dSorted s [.lst (l.map .str)] = some (.lst (ns.map .str)) := by
  show (match seqItems s (.lst (l.map .str)) with | some ds => if sortOk ds = true then some (D.lst (sortD ds)) else none | none => none) = _
  rw [show seqItems s (.lst (l.map .str)) = some (l.map .str) from rfl]
  simp only []
  rw [if_pos (sortOk_strs l hl ho), srt hp hs]
theorem wp_xDs {ρ : Ev} {st : List Ob} {mk mv md : Ev → Mo D} {Q : D → List Ob → Prop} (h : wp (mk ρ) st fun x s => wp (mv ρ) s fun y s => wp (md ρ) s fun z s => ∃ k ks ds, keyD x = some k ∧ dctOf s z = some (ks, ds) ∧ ks.length ≤ 1000000 ∧ Q (dctD (mergeD [(k, y)] (ks.zip ds))) s) : wp (xDs mk mv md ρ) st Q := by
  unfold xDs
  rw [wp_bind]
  refine wp_mono h fun x s h => ?_
  rw [wp_bind]
  refine wp_mono h fun y s h => ?_
  rw [wp_bind]
  refine wp_mono h fun z s ⟨k, ks, ds, h1, h2, h3, h4⟩ => ?_
  rw [wp_def]
  simp only [h1, h2, if_pos h3]
  exact h4
section
variable {st : List Ob} {w b y z : D} {c : Cs} {ps : List Str} {QR : Rs D → List Ob → Prop} {Q : D → List Ob → Prop}
theorem put_ok {n : Nat} {d : D} {ps' : List Str} (hw : Wf st) (hb : st[n]? = some (bookO w ps)) (hwl : D.lo st.length w = true) (hl : ps'.length ≤ 1000) (hs : dSortedA st [d] = some (.lst (ps'.map .str))) (q : QR (.ok .non) (st.set n (bookO w ps'))) : wp (S_Book_put_posts [.d (.loc n), .d d]) st QR := by
  unfold S_Book_put_posts
  refine wp_frzR ?_
  rw [wp_runX]
  unfold m_Book_put_posts
  have h2 := isB_loc hb
  have h3 := h2
  unfold IsB at h2
  have tu : ∀ s, dTuple s [.lst (ps'.map .str)] = some (.tup (ps'.map .str)) := fun s => rfl
  simp only [startE, List.map_cons, List.map_nil, List.length_cons, List.length_nil, List.replicate, List.cons_append, List.nil_append, wp_zLift, wp_setF, wp_xTup, wp_xCons, wp_xNil, wp_xProp, wp_xCall, wp_liftL, wp_var, List.getElem?_cons_zero, List.getElem?_cons_succ]
  rw [h2]
  refine ⟨rfl, bweb_ok hw h3 hwl ?_⟩
  simp only [hs, tu, hb, endQ_nx]
  refine ⟨by decide, ⟨trivial, by decide⟩, List.length_set, hw.set ?_, rfl, q⟩
  show Ob.lo st.length (bookO w ps') = true
  simp only [Ob.lo, D.loL, D.lo, hwl, loL_strs, Bool.true_and, Bool.and_true]
theorem post_no (hw : Wf st) (hb : IsB st b w ps) (h : IsW st w c) (hwl : D.lo st.length w = true) (hy : Odd y) (hlo : D.lo st.length y = true) (hn : inP y c.ns = false) (q : QR (.ex (exU y)) st) : wp (S_Book_post [.d b, .d y]) st QR := by
  unfold S_Book_post
  refine wp_frzR ?_
  rw [wp_runX]
  unfold m_Book_post
  have h2 := hb
  unfold IsB at h2
  simp only [startE, List.map_cons, List.map_nil, List.length_cons, List.length_nil, List.replicate, List.cons_append, List.nil_append, wp_zSeq, wp_zDrop, wp_vFn, wp_vLift, wp_xCons, wp_xNil, wp_var, List.getElem?_cons_zero, List.getElem?_cons_succ, wp_xProp]
  rw [h2]
  refine ⟨rfl, bweb_ok hw hb hwl ⟨trivial, place_no hw h hy hlo hn ?_⟩⟩
  simp only [onX_ex, endQ_ex]
  exact ⟨trivial, hw, hlo, q⟩
theorem post_one {n : Nat} {x : Str} (hw : Wf st) (hb : st[n]? = some (bookO w [])) (h : IsW st w c) (hwl : D.lo st.length w = true) (hx : x ∈ c.ns) (q : QR (.ok .non) (st.set n (bookO w [x]))) : wp (S_Book_post [.d (.loc n), .d (.str x)]) st QR := by
  unfold S_Book_post
  refine wp_frzR ?_
  rw [wp_runX]
  unfold m_Book_post
  have h3 := isB_loc hb
  have h2 := h3
  unfold IsB at h2
  have pk : (("put_posts" : Str) ∉ [("standing" : Str)]) := by decide
  simp only [startE, List.map_cons, List.map_nil, List.length_cons, List.length_nil, List.replicate, List.cons_append, List.nil_append, wp_zSeq, wp_zDrop, wp_vFn, wp_vLift, wp_xCons, wp_xNil, wp_var, List.getElem?_cons_zero, List.getElem?_cons_succ, wp_xProp]
  rw [h2]
  refine ⟨rfl, bweb_ok hw h3 hwl ⟨trivial, place_yes hw h hx ?_⟩⟩
  simp only [onX_nx, wp_zDrop, wp_vMt, wp_vLift, wp_xCons, wp_xNil, wp_var, List.getElem?_cons_zero, List.getElem?_cons_succ]
  rw [h2]
  refine ⟨⟨rfl, pk⟩, wp_xDs ?_⟩
  simp only [wp_var, wp_c, List.getElem?_cons_zero, List.getElem?_cons_succ, xDComp, wp_bind, wp_itemsT, wp_xProp]
  rw [h2]
  refine ⟨rfl, bposts_ok hw h3 ?_⟩
  simp only [List.map_nil, List.length_nil, wp_ite]
  rw [if_pos (by decide)]
  simp only [dcompM, wp_bind, wp_pure]
  refine ⟨.inr x, [], [], rfl, rfl, by decide, rfl, ?_⟩
  refine put_ok hw hb hwl (by simp) (ps' := [x]) ?_ ?_
  · show (match dctOf st (.dct [.inr x] [.bl true]) with
      | some (ks, _) => (match txtKeys ks with | some xs => if xs.length < 64 then some (D.lst (sortD (xs.map .str))) else none | none => none)
      | none => dSorted st [.dct [.inr x] [.bl true]]) = _
    have e : dctOf st (.dct [.inr x] [.bl true]) = some ([.inr x], [.bl true]) := rfl
    rw [e]
    show some (D.lst (sortD ([x].map .str))) = _
    rw [srt (.refl _) (by simp)]
  · simp only [endQ_nx]
    refine ⟨List.length_set, hw.set ?_, rfl, q⟩
    show Ob.lo st.length (bookO w [x]) = true
    simp only [Ob.lo, D.loL, D.lo, hwl, loL_strs, Bool.true_and, Bool.and_true]
theorem post_two {n : Nat} {x u : Str} (hw : Wf st) (hb : st[n]? = some (bookO w [u])) (h : IsW st w c) (hwl : D.lo st.length w = true) (hx : x ∈ c.ns) (hux : u.cps.toList < x.cps.toList) (q : QR (.ok .non) (st.set n (bookO w [u, x]))) : wp (S_Book_post [.d (.loc n), .d (.str x)]) st QR := by
  unfold S_Book_post
  refine wp_frzR ?_
  rw [wp_runX]
  unfold m_Book_post
  have h3 := isB_loc hb
  have h2 := h3
  unfold IsB at h2
  have pk : (("put_posts" : Str) ∉ [("standing" : Str)]) := by decide
  have hne : ¬ x = u := fun e => by rw [e] at hux; exact List.lt_irrefl _ hux
  simp only [startE, List.map_cons, List.map_nil, List.length_cons, List.length_nil, List.replicate, List.cons_append, List.nil_append, wp_zSeq, wp_zDrop, wp_vFn, wp_vLift, wp_xCons, wp_xNil, wp_var, List.getElem?_cons_zero, List.getElem?_cons_succ, wp_xProp]
  rw [h2]
  refine ⟨rfl, bweb_ok hw h3 hwl ⟨trivial, place_yes hw h hx ?_⟩⟩
  simp only [onX_nx, wp_zDrop, wp_vMt, wp_vLift, wp_xCons, wp_xNil, wp_var, List.getElem?_cons_zero, List.getElem?_cons_succ]
  rw [h2]
  refine ⟨⟨rfl, pk⟩, wp_xDs ?_⟩
  simp only [wp_var, wp_c, List.getElem?_cons_zero, List.getElem?_cons_succ, xDComp, wp_bind, wp_itemsT, wp_xProp]
  rw [h2]
  refine ⟨rfl, bposts_ok hw h3 ?_⟩
  simp only [List.map_cons, List.map_nil, List.length_cons, List.length_nil, wp_ite]
  rw [if_pos (by decide)]
  simp only [dcompM, wipeE, List.set_cons_zero, List.set_cons_succ, wp_zName, wp_tYes, wp_var, wp_c, List.getElem?_cons_zero, List.getElem?_cons_succ, if_true, wp_bind, wp_pure, wp_ite, keyD]
  refine ⟨.inr x, [.inr u], [.bl true], rfl, rfl, by simp, trivial, ?_⟩
  have em : dctD (mergeD [((.inr x : L2.Key), D.bl true)] ([(.inr u : L2.Key)].zip [D.bl true])) = .dct [.inr x, .inr u] [.bl true, .bl true] := by
    show dctD (putD [((.inr x : L2.Key), D.bl true)] (.inr u) (.bl true)) = _
    unfold putD
    rw [if_neg (by simp [hne])]
    rfl
  rw [em]
  refine put_ok hw hb hwl (by simp) (ps' := [u, x]) ?_ ?_
  · show (match dctOf st (.dct [.inr x, .inr u] [.bl true, .bl true]) with
      | some (ks, _) => (match txtKeys ks with | some xs => if xs.length < 64 then some (D.lst (sortD (xs.map .str))) else none | none => none)
      | none => dSorted st [.dct [.inr x, .inr u] [.bl true, .bl true]]) = _
    have e : dctOf st (.dct [.inr x, .inr u] [.bl true, .bl true]) = some ([.inr x, .inr u], [.bl true, .bl true]) := rfl
    rw [e]
    show some (D.lst (sortD ([x, u].map .str))) = _
    rw [srt (ns := [u, x]) (List.Perm.swap _ _ _) (List.Pairwise.cons (by simpa using hux) (List.Pairwise.cons (by simp) .nil))]
  · simp only [endQ_nx]
    refine ⟨List.length_set, hw.set ?_, rfl, q⟩
    show Ob.lo st.length (bookO w [u, x]) = true
    simp only [Ob.lo, D.loL, D.lo, hwl, loL_strs, Bool.true_and, Bool.and_true]
/-! ### take, step -/
theorem take_ex {e : Ex} (hw : Wf st) (hb : IsB st b w ps) (he : D.lo st.length e.x = true) (hc : ∀ QR : Rs D → List Ob → Prop, QR (.ex e) st → wp (S_Book_check_post [.d b, .d y]) st QR) (q : QR (.ex e) st) : wp (S_Book_take [.d b, .d y]) st QR := by
  unfold S_Book_take
  refine wp_frzR ?_
  rw [wp_runX]
  unfold m_Book_take
  have h2 := hb
  unfold IsB at h2
  simp only [startE, List.map_cons, List.map_nil, List.length_cons, List.length_nil, List.replicate, List.cons_append, List.nil_append, wp_zSeq, wp_zDrop, wp_vMt, wp_vLift, wp_xCons, wp_xNil, wp_var, List.getElem?_cons_zero, List.getElem?_cons_succ]
  rw [h2]
  refine ⟨⟨rfl, by decide⟩, trivial, hc _ ?_⟩
  simp only [onX_ex, endQ_ex]
  exact ⟨trivial, hw, he, q⟩
theorem step_ex {e : Ex} (hw : Wf st) (hb : IsB st b w ps) (he : D.lo st.length e.x = true) (hc : ∀ QR : Rs D → List Ob → Prop, QR (.ex e) st → wp (S_Book_check_post [.d b, .d y]) st QR) (q : QR (.ex e) st) : wp (S_Book_step [.d b, .d y, .d z]) st QR := by
  unfold S_Book_step
  refine wp_frzR ?_
  rw [wp_runX]
  unfold m_Book_step
  have h2 := hb
  unfold IsB at h2
  simp only [startE, List.map_cons, List.map_nil, List.length_cons, List.length_nil, List.replicate, List.cons_append, List.nil_append, wp_zSeq, wp_zDrop, wp_vMt, wp_vLift, wp_xCons, wp_xNil, wp_var, List.getElem?_cons_zero, List.getElem?_cons_succ]
  rw [h2]
  refine ⟨⟨rfl, by decide⟩, trivial, hc _ ?_⟩
  simp only [onX_ex, endQ_ex]
  exact ⟨trivial, hw, he, q⟩
theorem step_no1 {x : Str} (hw : Wf st) (hb : IsB st b w ps) (h : IsW st w c) (hwl : D.lo st.length w = true) (hx : x ∈ c.ns) (hp : x ∈ ps) (hz : Odd z) (hlo : D.lo st.length z = true) (hn : inP z c.ns = false) (q : QR (.ex (exU z)) st) : wp (S_Book_step [.d b, .d (.str x), .d z]) st QR := by
  unfold S_Book_step
  refine wp_frzR ?_
  rw [wp_runX]
  unfold m_Book_step
  have h2 := hb
  unfold IsB at h2
  simp only [startE, List.map_cons, List.map_nil, List.length_cons, List.length_nil, List.replicate, List.cons_append, List.nil_append, wp_zSeq, wp_zDrop, wp_vMt, wp_vLift, wp_xCons, wp_xNil, wp_var, List.getElem?_cons_zero, List.getElem?_cons_succ]
  rw [h2]
  refine ⟨⟨rfl, by decide⟩, trivial, cp_yes hw hb h hwl hx hp ?_⟩
  simp only [onX_nx, wp_zSeq, wp_zDrop, wp_vFn, wp_vLift, wp_xCons, wp_xNil, wp_var, List.getElem?_cons_zero, List.getElem?_cons_succ, wp_xProp]
  rw [h2]
  refine ⟨rfl, bweb_ok hw hb hwl ⟨rfl, place_no hw h hz hlo hn ?_⟩⟩
  simp only [onX_ex, endQ_ex]
  exact ⟨trivial, hw, hlo, q⟩
theorem step_no2 {x v : Str} (hw : Wf st) (hb : IsB st b w ps) (h : IsW st w c) (hwl : D.lo st.length w = true) (hx : x ∈ c.ns) (hp : x ∈ ps) (hz : v ∈ c.ns) (hv : v ∈ ps) (q : QR (.ex (exU (.str v))) st) : wp (S_Book_step [.d b, .d (.str x), .d (.str v)]) st QR := by
  unfold S_Book_step
  refine wp_frzR ?_
  rw [wp_runX]
  unfold m_Book_step
  have h2 := hb
  unfold IsB at h2
  simp only [startE, List.map_cons, List.map_nil, List.length_cons, List.length_nil, List.replicate, List.cons_append, List.nil_append, wp_zSeq, wp_zDrop, wp_vMt, wp_vLift, wp_xCons, wp_xNil, wp_var, List.getElem?_cons_zero, List.getElem?_cons_succ]
  rw [h2]
  refine ⟨⟨rfl, by decide⟩, trivial, cp_yes hw hb h hwl hx hp ?_⟩
  simp only [onX_nx, wp_zSeq, wp_zDrop, wp_vFn, wp_vLift, wp_xCons, wp_xNil, wp_var, List.getElem?_cons_zero, List.getElem?_cons_succ, wp_xProp]
  rw [h2]
  refine ⟨rfl, bweb_ok hw hb hwl ⟨rfl, place_yes hw h hz ?_⟩⟩
  simp only [onX_nx, wp_zSeq, wp_zIf, wp_xOrB, wp_asB, wp_xBin, wp_xProp, wp_var, List.getElem?_cons_zero, List.getElem?_cons_succ]
  rw [h2]
  refine ⟨rfl, bposts_ok hw hb ?_⟩
  simp only [wp_mIn, inS, isB_bl, decide_eq_true hv, if_true, wp_zRaise, wp_var, List.getElem?_cons_zero, List.getElem?_cons_succ, onX_ex, endQ_ex]
  exact ⟨trivial, hw, rfl, q⟩
theorem beside_ok {x v : Str} (hw : Wf st) (h : IsW st w c) (ht : c.ts = [(x, v)]) (hne : ¬ v = x) (ho : PyData.strOk x = true ∧ PyData.strOk v = true) (q : Q (.tup [.str v]) st) : wp (S_beside_by [.d w, .d (.str x)]) st Q := by
  unfold S_beside_by
  refine wp_frz0 ?_
  rw [wp_runF]
  unfold m_beside_by
  have h2 := h
  unfold IsW at h2
  have ee : PyData.eqv (toPy (res st (.str v))) (toPy (res st (.str x))) = false := by
    show PyData.eqv (.str _) (.str _) = false
    rw [eqv_str]; exact decide_eq_false hne
  have ds := dsrt (s := st) (l := [v]) (ns := [v]) (by simp) (by simp [ho.2]) (.refl _) (by simp)
  have tu : ∀ s, dTuple s [.lst ([v].map .str)] = some (.tup [.str v]) := fun s => rfl
  have hin : inB st (.str x) (.tup ([x, v].map .str)) = some (decide (x ∈ [x, v])) := inS
  simp only [startE, List.map_cons, List.map_nil, List.length_cons, List.length_nil, List.replicate, List.cons_append, List.nil_append, wp_yRet, wp_xCall, wp_xCons, wp_xNil, wp_liftL, wp_xComp, wp_itemsT, wp_xProp, wp_var, List.getElem?_cons_zero, List.getElem?_cons_succ]
  rw [h2]
  refine ⟨rfl, wties_ok hw h ?_⟩
  rw [ht]
  refine ⟨by simp, ?_⟩
  simp only [wipeE, List.set_cons_zero, List.set_cons_succ, List.map_cons, List.map_nil]
  refine wp_compP (p := fun _ => true) (f := fun _ => .str v) (fun d hd => ?_) ?_
  · rw [List.mem_singleton.mp hd]
    simp only [wp_zTup, wp_zCons, wp_zName, wp_zNil, List.set_cons_zero, List.set_cons_succ, wp_asB, wp_xBin, wp_xTup, wp_xCons, wp_xNil, wp_var, List.getElem?_cons_zero, List.getElem?_cons_succ, wp_mIn, wp_xIf, wp_mEq, ee]
    refine ⟨trivial, by simp, ?_⟩
    rw [show inB st (.str x) (.tup [.str x, .str v]) = some (decide (x ∈ [x, v])) from hin]
    simp only [isB_bl]
    refine ⟨trivial, by simp, fun _ => ⟨⟨okD_str ho.2, okD_str ho.1⟩, ?_⟩⟩
    rw [if_neg (by decide)]
    exact ⟨trivial, trivial⟩
  · simp only [List.filter_cons, List.filter_nil, if_true, List.map_cons, List.map_nil] at ds tu ⊢
    rw [ds]
    simp only [tu, onNx_rt]
    exact ⟨trivial, hw, _, frz_lo rfl, q⟩
theorem sees_ok {x v : Str} (hw : Wf st) (h : IsW st w c) (ht : c.ts = [(x, v)]) (hlt : x.cps.toList < v.cps.toList) (ho : PyData.strOk x = true ∧ PyData.strOk v = true) (q : Q (.tup [.str x, .str v]) st) : wp (S_sees_by [.d w, .d (.str x)]) st Q := by
  unfold S_sees_by
  refine wp_frz0 ?_
  rw [wp_runF]
  unfold m_sees_by
  have hne : ¬ v = x := fun e => by rw [e] at hlt; exact List.lt_irrefl _ hlt
  have ds := dsrt (s := st) (l := [x, v]) (ns := [x, v]) (by simp) (by simp [ho.1, ho.2]) (.refl _) (List.Pairwise.cons (by simpa using hlt) (List.Pairwise.cons (by simp) .nil))
  have tu : ∀ s, dTuple s [.lst ([x, v].map .str)] = some (.tup [.str x, .str v]) := fun s => rfl
  simp only [startE, List.map_cons, List.map_nil, List.length_cons, List.length_nil, List.replicate, List.cons_append, List.nil_append, wp_yRet, wp_xCall, wp_xCons, wp_xNil, wp_liftL, wp_xLst, wp_xStar, wp_xFn, wp_var, List.getElem?_cons_zero, List.getElem?_cons_succ]
  refine ⟨trivial, beside_ok hw h ht hne ho ?_⟩
  have sq : seqItems st (.tup [.str v]) = some [.str v] := rfl
  simp only [List.map_cons, List.map_nil] at ds tu
  simp only [sq, List.cons_append, List.nil_append, List.append_nil, ds, tu, onNx_rt]
  exact ⟨by simp, trivial, hw, _, frz_lo rfl, q⟩
theorem step_no3 {x u v : Str} (hw : Wf st) (hb : IsB st b w ps) (h : IsW st w c) (hwl : D.lo st.length w = true) (hx : x ∈ c.ns) (hp : x ∈ ps) (hz : v ∈ c.ns) (hv : v ∉ ps) (ht : c.ts = [(x, u)]) (hlt : x.cps.toList < u.cps.toList) (ho : PyData.strOk x = true ∧ PyData.strOk u = true) (hv2 : v ∉ [x, u]) (q : QR (.ex (exU (.str v))) st) : wp (S_Book_step [.d b, .d (.str x), .d (.str v)]) st QR := by
  unfold S_Book_step
  refine wp_frzR ?_
  rw [wp_runX]
  unfold m_Book_step
  have h2 := hb
  unfold IsB at h2
  simp only [startE, List.map_cons, List.map_nil, List.length_cons, List.length_nil, List.replicate, List.cons_append, List.nil_append, wp_zSeq, wp_zDrop, wp_vMt, wp_vLift, wp_xCons, wp_xNil, wp_var, List.getElem?_cons_zero, List.getElem?_cons_succ]
  rw [h2]
  refine ⟨⟨rfl, by decide⟩, trivial, cp_yes hw hb h hwl hx hp ?_⟩
  simp only [onX_nx, wp_zSeq, wp_zDrop, wp_vFn, wp_vLift, wp_xCons, wp_xNil, wp_var, List.getElem?_cons_zero, List.getElem?_cons_succ, wp_xProp]
  rw [h2]
  refine ⟨rfl, bweb_ok hw hb hwl ⟨rfl, place_yes hw h hz ?_⟩⟩
  simp only [onX_nx, wp_zSeq, wp_zIf, wp_xOrB, wp_asB, wp_xBin, wp_xProp, wp_var, List.getElem?_cons_zero, List.getElem?_cons_succ]
  rw [h2]
  refine ⟨rfl, bposts_ok hw hb ?_⟩
  simp only [wp_mIn, inS, isB_bl, decide_eq_false hv, Bool.false_eq_true, if_false, wp_xFn, wp_xCons, wp_xNil, wp_xProp, wp_var, List.getElem?_cons_zero, List.getElem?_cons_succ]
  rw [h2]
  refine ⟨rfl, bweb_ok hw hb hwl ⟨rfl, sees_ok hw h ht hlt ho ?_⟩⟩
  have hin : inB st (.str v) (.tup ([x, u].map .str)) = some (decide (v ∈ [x, u])) := inS
  rw [decide_eq_false hv2] at hin
  simp only [List.map_cons, List.map_nil] at hin
  simp only [wp_mNotIn, hin, isB_bl, Bool.not_false, if_true, wp_zRaise, wp_var, List.getElem?_cons_zero, List.getElem?_cons_succ, onX_ex, endQ_ex]
  exact ⟨trivial, hw, rfl, q⟩
/-! ### pair_of, tie, cut -/
theorem pair_no0 (hw : Wf st) (hb : IsB st b w ps) (h : IsW st w c) (hwl : D.lo st.length w = true) (hy : Odd y) (hlo : D.lo st.length y = true) (hn : inP y c.ns = false) (q : QR (.ex (exU y)) st) : wp (S_Book_pair_of [.d b, .d y, .d z]) st QR := by
  unfold S_Book_pair_of
  refine wp_frzR ?_
  rw [wp_runX]
  unfold m_Book_pair_of
  have h2 := hb
  unfold IsB at h2
  simp only [startE, List.map_cons, List.map_nil, List.length_cons, List.length_nil, List.replicate, List.cons_append, List.nil_append, wp_zSeq, wp_zDrop, wp_vFn, wp_vLift, wp_xCons, wp_xNil, wp_var, List.getElem?_cons_zero, List.getElem?_cons_succ, wp_xProp]
  rw [h2]
  refine ⟨rfl, bweb_ok hw hb hwl ⟨trivial, place_no hw h hy hlo hn ?_⟩⟩
  simp only [onX_ex, endQ_ex]
  exact ⟨trivial, hw, hlo, q⟩
theorem pair_no1 {x : Str} (hw : Wf st) (hb : IsB st b w ps) (h : IsW st w c) (hwl : D.lo st.length w = true) (hx : x ∈ c.ns) (hy : Odd y) (hlo : D.lo st.length y = true) (hn : inP y c.ns = false) (q : QR (.ex (exU y)) st) : wp (S_Book_pair_of [.d b, .d (.str x), .d y]) st QR := by
  unfold S_Book_pair_of
  refine wp_frzR ?_
  rw [wp_runX]
  unfold m_Book_pair_of
  have h2 := hb
  unfold IsB at h2
  simp only [startE, List.map_cons, List.map_nil, List.length_cons, List.length_nil, List.replicate, List.cons_append, List.nil_append, wp_zSeq, wp_zDrop, wp_vFn, wp_vLift, wp_xCons, wp_xNil, wp_var, List.getElem?_cons_zero, List.getElem?_cons_succ, wp_xProp]
  rw [h2]
  refine ⟨rfl, bweb_ok hw hb hwl ⟨trivial, place_yes hw h hx ?_⟩⟩
  simp only [onX_nx, wp_zSeq, wp_zDrop, wp_vFn, wp_vLift, wp_xCons, wp_xNil, wp_var, List.getElem?_cons_zero, List.getElem?_cons_succ, wp_xProp]
  rw [h2]
  refine ⟨rfl, bweb_ok hw hb hwl ⟨trivial, place_no hw h hy hlo hn ?_⟩⟩
  simp only [onX_ex, endQ_ex]
  exact ⟨trivial, hw, hlo, q⟩
theorem pair_two {x v : Str} (hw : Wf st) (hb : IsB st b w ps) (h : IsW st w c) (hwl : D.lo st.length w = true) (hx : x ∈ c.ns) (hv : v ∈ c.ns) (ho : PyData.strOk x = true ∧ PyData.strOk v = true)
    (q : if x = v then QR (.ex (exU (.str v))) st else QR (.ok (.tup [.str (if v.cps.toList < x.cps.toList then v else x), .str (if x.cps.toList < v.cps.toList then v else x)])) st) : wp (S_Book_pair_of [.d b, .d (.str x), .d (.str v)]) st QR := by
  unfold S_Book_pair_of
  refine wp_frzR ?_
  rw [wp_runX]
  unfold m_Book_pair_of
  have h2 := hb
  unfold IsB at h2
  have mi : ∀ s, dMin2S s [.str x, .str v] = some (.str (if v.cps.toList < x.cps.toList then v else x)) := fun _ => rfl
  have ma : ∀ s, dMax2S s [.str x, .str v] = some (.str (if x.cps.toList < v.cps.toList then v else x)) := fun _ => rfl
  simp only [startE, List.map_cons, List.map_nil, List.length_cons, List.length_nil, List.replicate, List.cons_append, List.nil_append, wp_zSeq, wp_zDrop, wp_vFn, wp_vLift, wp_xCons, wp_xNil, wp_var, List.getElem?_cons_zero, List.getElem?_cons_succ, wp_xProp]
  rw [h2]
  refine ⟨rfl, bweb_ok hw hb hwl ⟨trivial, place_yes hw h hx ?_⟩⟩
  simp only [onX_nx, wp_zSeq, wp_zDrop, wp_vFn, wp_vLift, wp_xCons, wp_xNil, wp_var, List.getElem?_cons_zero, List.getElem?_cons_succ, wp_xProp]
  rw [h2]
  refine ⟨rfl, bweb_ok hw hb hwl ⟨trivial, place_yes hw h hv ?_⟩⟩
  simp only [onX_nx, wp_zSeq, wp_zIf, wp_asB, wp_xBin, wp_var, List.getElem?_cons_zero, List.getElem?_cons_succ, wp_mEq]
  refine ⟨⟨okD_str ho.1, okD_str ho.2⟩, ?_⟩
  have ee : PyData.eqv (toPy (res st (.str x))) (toPy (res st (.str v))) = decide (x = v) := by
    show PyData.eqv (.str _) (.str _) = _
    rw [eqv_str]
  rw [ee, isB_bl]
  by_cases hxv : x = v
  · rw [if_pos hxv] at q
    rw [if_pos (decide_eq_true hxv)]
    simp only [wp_zRaise, wp_var, List.getElem?_cons_zero, List.getElem?_cons_succ, onX_ex, endQ_ex]
    exact ⟨trivial, hw, rfl, q⟩
  · rw [if_neg hxv] at q
    rw [if_neg (by simp [hxv])]
    simp only [wp_zLift, wp_yNil, onX_nx, wp_yRet, wp_xTup, wp_xCons, wp_xNil, wp_xCall, wp_liftL, wp_var, List.getElem?_cons_zero, List.getElem?_cons_succ, mi, ma, List.length_cons, List.length_nil, endQ_rt]
    exact ⟨by decide, trivial, hw, rfl, q⟩
theorem tie_ex {e : Ex} (hw : Wf st) (hb : IsB st b w ps) (he : D.lo st.length e.x = true) (hc : ∀ QR : Rs D → List Ob → Prop, QR (.ex e) st → wp (S_Book_pair_of [.d b, .d y, .d z]) st QR) (q : QR (.ex e) st) : wp (S_Book_tie [.d b, .d y, .d z]) st QR := by
  unfold S_Book_tie
  refine wp_frzR ?_
  rw [wp_runX]
  unfold m_Book_tie
  have h2 := hb
  unfold IsB at h2
  simp only [startE, List.map_cons, List.map_nil, List.length_cons, List.length_nil, List.replicate, List.cons_append, List.nil_append, wp_zSeq, wp_zSet, wp_vMt, wp_vLift, wp_xCons, wp_xNil, wp_var, List.getElem?_cons_zero, List.getElem?_cons_succ]
  rw [h2]
  refine ⟨⟨rfl, by decide⟩, trivial, hc _ ?_⟩
  simp only [onX_ex, endQ_ex]
  exact ⟨trivial, hw, he, q⟩
theorem cut_ex {e : Ex} (hw : Wf st) (hb : IsB st b w ps) (he : D.lo st.length e.x = true) (hc : ∀ QR : Rs D → List Ob → Prop, QR (.ex e) st → wp (S_Book_pair_of [.d b, .d y, .d z]) st QR) (q : QR (.ex e) st) : wp (S_Book_cut [.d b, .d y, .d z]) st QR := by
  unfold S_Book_cut
  refine wp_frzR ?_
  rw [wp_runX]
  unfold m_Book_cut
  have h2 := hb
  unfold IsB at h2
  simp only [startE, List.map_cons, List.map_nil, List.length_cons, List.length_nil, List.replicate, List.cons_append, List.nil_append, wp_zSeq, wp_zSet, wp_vMt, wp_vLift, wp_xCons, wp_xNil, wp_var, List.getElem?_cons_zero, List.getElem?_cons_succ]
  rw [h2]
  refine ⟨⟨rfl, by decide⟩, trivial, hc _ ?_⟩
  simp only [onX_ex, endQ_ex]
  exact ⟨trivial, hw, he, q⟩
theorem inD_one {p r : Str × Str} (h1 : PyData.strOk p.1 = true ∧ PyData.strOk p.2 = true) (h2 : PyData.strOk r.1 = true ∧ PyData.strOk r.2 = true) : inDeep st (tieD p) (.tup [tieD r]) = some (decide (r = p)) := by
  have o1 : okD (res st (tieD p)) = true := by
    have := okD_tup_strs (l := [p.1, p.2]) (by simp [h1])
    exact this
  have o2 : okD (.tup [tieD r]) = true := okD_ties (l := [r]) (by simp; exact h2)
  show (if okD (res st (tieD p)) = true ∧ okD (.tup [tieD r]) = true then some (([tieD r] : List D).any fun z => PyData.eqv (toPy z) (toPy (res st (tieD p)))) else none) = _
  rw [if_pos ⟨o1, o2⟩]
  congr 1
  have e : PyData.eqv (toPy (tieD r)) (toPy (tieD p)) = decide (r = p) := by
    show PyData.eqv (.tuple [.str r.1, .str r.2]) (.tuple [.str p.1, .str p.2]) = _
    simp only [PyData.eqv, PyData.eqvAll, eqv_str, Bool.and_true]
    by_cases h : r = p
    · simp [h]
    · rw [decide_eq_false h]
      by_cases h3 : r.1 = p.1
      · have : ¬ r.2 = p.2 := fun h4 => h (Prod.ext h3 h4)
        simp [this]
      · simp [h3]
  show (PyData.eqv (toPy (tieD r)) (toPy (tieD p)) || false) = _
  rw [e, Bool.or_false]
theorem tie_in {p : Str × Str} {v : Str} (hw : Wf st) (hb : IsB st b w ps) (h : IsW st w c) (hwl : D.lo st.length w = true) (ht : c.ts = [p]) (ho : PyData.strOk p.1 = true ∧ PyData.strOk p.2 = true) (hc : ∀ QR : Rs D → List Ob → Prop, QR (.ok (tieD p)) st → wp (S_Book_pair_of [.d b, .d y, .d (.str v)]) st QR) (q : QR (.ex (exU (.str v))) st) : wp (S_Book_tie [.d b, .d y, .d (.str v)]) st QR := by
  unfold S_Book_tie
  refine wp_frzR ?_
  rw [wp_runX]
  unfold m_Book_tie
  have h2 := hb
  unfold IsB at h2
  have h3 := h
  unfold IsW at h3
  simp only [startE, List.map_cons, List.map_nil, List.length_cons, List.length_nil, List.replicate, List.cons_append, List.nil_append, wp_zSeq, wp_zSet, wp_vMt, wp_vLift, wp_xCons, wp_xNil, wp_var, List.getElem?_cons_zero, List.getElem?_cons_succ]
  rw [h2]
  refine ⟨⟨rfl, by decide⟩, trivial, hc _ ?_⟩
  simp only [onX_nx, List.set_cons_zero, List.set_cons_succ, wp_zSeq, wp_zIf, wp_asB, wp_xBin, wp_xProp, wp_var, List.getElem?_cons_zero, List.getElem?_cons_succ]
  rw [h2]
  refine ⟨rfl, bweb_ok hw hb hwl ?_⟩
  rw [h3]
  refine ⟨rfl, wties_ok hw h ?_⟩
  rw [ht]
  simp only [List.map_cons, List.map_nil, wp_mInD, inD_one ho ho, isB_bl, decide_true, if_true, wp_zRaise, wp_var, List.getElem?_cons_zero, List.getElem?_cons_succ, onX_ex, endQ_ex]
  exact ⟨trivial, hw, rfl, q⟩
theorem cut_out {p r : Str × Str} {v : Str} (hw : Wf st) (hb : IsB st b w ps) (h : IsW st w c) (hwl : D.lo st.length w = true) (ht : c.ts = [r]) (ho : PyData.strOk p.1 = true ∧ PyData.strOk p.2 = true) (ho2 : PyData.strOk r.1 = true ∧ PyData.strOk r.2 = true) (hne : ¬ r = p) (hc : ∀ QR : Rs D → List Ob → Prop, QR (.ok (tieD p)) st → wp (S_Book_pair_of [.d b, .d y, .d (.str v)]) st QR) (q : QR (.ex (exU (.str v))) st) : wp (S_Book_cut [.d b, .d y, .d (.str v)]) st QR := by
  unfold S_Book_cut
  refine wp_frzR ?_
  rw [wp_runX]
  unfold m_Book_cut
  have h2 := hb
  unfold IsB at h2
  have h3 := h
  unfold IsW at h3
  simp only [startE, List.map_cons, List.map_nil, List.length_cons, List.length_nil, List.replicate, List.cons_append, List.nil_append, wp_zSeq, wp_zSet, wp_vMt, wp_vLift, wp_xCons, wp_xNil, wp_var, List.getElem?_cons_zero, List.getElem?_cons_succ]
  rw [h2]
  refine ⟨⟨rfl, by decide⟩, trivial, hc _ ?_⟩
  simp only [onX_nx, List.set_cons_zero, List.set_cons_succ, wp_zSeq, wp_zIf, wp_asB, wp_xBin, wp_xProp, wp_var, List.getElem?_cons_zero, List.getElem?_cons_succ]
  rw [h2]
  refine ⟨rfl, bweb_ok hw hb hwl ?_⟩
  rw [h3]
  refine ⟨rfl, wties_ok hw h ?_⟩
  rw [ht]
  simp only [List.map_cons, List.map_nil, wp_mNotInD, inD_one ho ho2, isB_bl, decide_eq_false hne, Bool.not_false, if_true, wp_zRaise, wp_var, List.getElem?_cons_zero, List.getElem?_cons_succ, onX_ex, endQ_ex]
  exact ⟨trivial, hw, rfl, q⟩
end
end K84
set_option autoImplicit false
set_option maxRecDepth 100000
set_option maxHeartbeats 8000000
namespace K84
open PySem PySem.Spec L2 MM
theorem eqv_bool {a b : Bool} : PyData.eqv (.bool a) (.bool b) = (a == b) := by simp only [PyData.eqv]
/-- what _law_same looks through -/
def SD : Nat → D → Bool
  | 0, _ => false
  | _ + 1, .int _ => true
  | _ + 1, .str x => PyData.strOk x
  | _ + 1, .non => true
  | _ + 1, .bl _ => true
  | _ + 1, .lst ds => sameL ds ds
  | n + 1, .tup ds => decide (ds.length ≤ 1000) && ds.all (SD n)
  | _ + 1, _ => false
theorem wp_mEqA_same {ds : List D} {st : List Ob} {Q : D → List Ob → Prop} (h : sameL ds ds = true) (q : Q (.bl true) st) : wp (mEqA (.lst ds) (.lst ds)) st Q := by
  rw [wp_def]
  unfold mEqA
  simp only [h, if_true]
  exact q
theorem SD_strs {n : Nat} {l : List Str} (hl : l.length ≤ 1000) (h : ∀ x ∈ l, PyData.strOk x = true) : SD (n + 2) (.tup (l.map .str)) = true := by
  simp only [SD, Bool.and_eq_true, List.all_eq_true, decide_eq_true_eq, List.length_map]
  refine ⟨hl, fun d hd => ?_⟩
  obtain ⟨x, hx, rfl⟩ := List.mem_map.mp hd
  exact h x hx
theorem SD_ties {n : Nat} {l : List (Str × Str)} (hl : l.length ≤ 1000) (h : ∀ p ∈ l, PyData.strOk p.1 = true ∧ PyData.strOk p.2 = true) : SD (n + 3) (.tup (l.map tieD)) = true := by
  simp only [SD, Bool.and_eq_true, List.all_eq_true, decide_eq_true_eq, List.length_map]
  refine ⟨hl, fun d hd => ?_⟩
  obtain ⟨p, hp, rfl⟩ := List.mem_map.mp hd
  have := h p hp
  simp [tieD, SD, this]
theorem same_ok {st : List Ob} (hw : Wf st) : ∀ (n : Nat) (d : D), SD n d = true → ∀ {Q : D → List Ob → Prop}, Q (.bl true) st → wp (S_law_same n [.d d, .d d]) st Q := fun n => by
  induction n with
  | zero => intro d h; cases h
  | succ n ih =>
    intro d h Q q
    unfold S_law_same
    refine wp_frz0 ?_
    rw [wp_runF]
    unfold m_law_same
    cases d with
    | tup ds =>
      simp only [SD, Bool.and_eq_true, List.all_eq_true, decide_eq_true_eq] at h
      have ln : dLen st [.tup ds] = some (.int ds.length) := rfl
      have ee : PyData.eqv (toPy (res st (.int ds.length))) (toPy (res st (.int ds.length))) = true := by
        show PyData.eqv (.int _) (.int _) = true
        rw [eqv_int]; exact decide_eq_true rfl
      simp only [startE, List.map_cons, List.map_nil, List.length_cons, List.length_nil, List.replicate, List.cons_append, List.nil_append, wp_ySeq, wp_yIf, wp_asB, wp_xCall, wp_xCons, wp_xNil, wp_liftL, wp_var, wp_c, List.getElem?_cons_zero, List.getElem?_cons_succ, isi_tup, isB_bl, if_true, wp_xOrB, wp_xNotB, Bool.not_true, Bool.false_eq_true, if_false, wp_xBin, ln, wp_mNe, ee, wp_yNil, onNx_nx, wp_yRet, wp_xComp, wp_itemsR1]
      have hl := h.1
      refine ⟨⟨rfl, rfl⟩, by omega, by simp [rangeD]; omega, ?_⟩
      simp only [wipeE, List.set_cons_zero, List.set_cons_succ]
      refine wp_compP (p := fun _ => true) (f := fun _ => .bl true) (fun d hd => ?_) ?_
      · obtain ⟨i, hi, rfl⟩ : ∃ i : Nat, i < ds.length ∧ d = .int i := by
          simp [rangeD] at hd
          obtain ⟨i, hi, rfl⟩ := hd
          exact ⟨i, hi, rfl⟩
        have ix : dIx st (.tup ds) (.int (i : Int)) = some ds[i] := by
          rw [dIx_tup, at_nat, List.getElem?_eq_getElem hi]
        simp only [wp_zName, List.set_cons_zero, List.set_cons_succ, wp_tYes, wp_xFn, wp_xCons, wp_xNil, wp_xBin, wp_mIx, wp_var, List.getElem?_cons_zero, List.getElem?_cons_succ, ix, true_and]
        exact fun _ => ⟨rfl, ih ds[i] (h.2 _ (List.getElem_mem hi)) ⟨rfl, rfl⟩⟩
      · rw [allT (fun d hd => by
          obtain ⟨_, _, rfl⟩ := List.mem_map.mp hd
          rfl) st]
        simp only [onNx_rt]
        exact ⟨trivial, hw, _, frz_lo rfl, q⟩
    | int i =>
      have t0 : dIsi isiTb isiNb st [.int i, .ty "tuple"] = some (.bl false) := by
        show (kitB "int" "tuple").map D.bl = _
        rfl
      have t1 : dIsi isiTb isiNb st [.int i, .ty "int"] = some (.bl true) := by
        show (kitB "int" "int").map D.bl = _
        rfl
      have t2 : dIsi isiTb isiNb st [.int i, .ty "bool"] = some (.bl false) := by
        show (kitB "int" "bool").map D.bl = _
        rfl
      have ee : PyData.eqv (toPy (res st (.int i))) (toPy (res st (.int i))) = true := by
        show PyData.eqv (.int _) (.int _) = true
        rw [eqv_int]; exact decide_eq_true rfl
      simp only [startE, List.map_cons, List.map_nil, List.length_cons, List.length_nil, List.replicate, List.cons_append, List.nil_append, wp_ySeq, wp_yIf, wp_asB, wp_xCall, wp_xCons, wp_xNil, wp_liftL, wp_var, wp_c, List.getElem?_cons_zero, List.getElem?_cons_succ, t0, t1, t2, isB_bl, if_true, wp_xAnd, wp_xNot, Bool.not_false, Bool.false_eq_true, if_false, wp_xBin, wp_mEq, ee, wp_yNil, onNx_nx, onNx_rt, wp_yRet]
      exact ⟨⟨rfl, rfl⟩, trivial, hw, _, frz_lo rfl, q⟩
    | str x =>
      have t0 : dIsi isiTb isiNb st [.str x, .ty "tuple"] = some (.bl false) := by
        show (kitB "str" "tuple").map D.bl = _
        rfl
      have t1 : dIsi isiTb isiNb st [.str x, .ty "int"] = some (.bl false) := by
        show (kitB "str" "int").map D.bl = _
        rfl
      have t2 : dIsi isiTb isiNb st [.str x, .ty "bool"] = some (.bl false) := by
        show (kitB "str" "bool").map D.bl = _
        rfl
      have ee : PyData.eqv (toPy (res st (.str x))) (toPy (res st (.str x))) = true := by
        show PyData.eqv (.str _) (.str _) = true
        rw [eqv_str]; exact decide_eq_true rfl
      simp only [startE, List.map_cons, List.map_nil, List.length_cons, List.length_nil, List.replicate, List.cons_append, List.nil_append, wp_ySeq, wp_yIf, wp_asB, wp_xCall, wp_xCons, wp_xNil, wp_liftL, wp_var, wp_c, List.getElem?_cons_zero, List.getElem?_cons_succ, t0, t1, t2, isi_str, isB_bl, if_true, wp_xAnd, wp_xNot, Bool.not_false, Bool.false_eq_true, if_false, wp_xBin, wp_mEq, ee, wp_yNil, onNx_nx, onNx_rt, wp_yRet]
      exact ⟨⟨okD_str h, okD_str h⟩, trivial, hw, _, frz_lo rfl, q⟩
    | non =>
      have t0 : dIsi isiTb isiNb st [.non, .ty "tuple"] = some (.bl false) := rfl
      have t1 : dIsi isiTb isiNb st [.non, .ty "int"] = some (.bl false) := rfl
      have t2 : dIsi isiTb isiNb st [.non, .ty "bool"] = some (.bl false) := rfl
      have t3 : dIsi isiTb isiNb st [.non, .ty "str"] = some (.bl false) := rfl
      have ii : dIs2 .non .non = some (.bl true) := rfl
      simp only [startE, List.map_cons, List.map_nil, List.length_cons, List.length_nil, List.replicate, List.cons_append, List.nil_append, wp_ySeq, wp_yIf, wp_asB, wp_xCall, wp_xCons, wp_xNil, wp_liftL, wp_var, wp_c, List.getElem?_cons_zero, List.getElem?_cons_succ, t0, t1, t2, t3, isB_bl, if_true, Bool.false_eq_true, if_false, wp_xBin, wp_lift2, ii, wp_yNil, onNx_nx, onNx_rt, wp_yRet]
      exact ⟨trivial, hw, _, frz_lo rfl, q⟩
    | bl b =>
      have t0 : dIsi isiTb isiNb st [.bl b, .ty "tuple"] = some (.bl false) := rfl
      have t2 : dIsi isiTb isiNb st [.bl b, .ty "bool"] = some (.bl true) := rfl
      have ee : PyData.eqv (toPy (res st (.bl b))) (toPy (res st (.bl b))) = true := by
        show PyData.eqv (.bool _) (.bool _) = true
        rw [eqv_bool]; exact beq_self_eq_true b
      simp only [startE, List.map_cons, List.map_nil, List.length_cons, List.length_nil, List.replicate, List.cons_append, List.nil_append, wp_ySeq, wp_yIf, wp_asB, wp_xCall, wp_xCons, wp_xNil, wp_liftL, wp_var, wp_c, List.getElem?_cons_zero, List.getElem?_cons_succ, t0, t2, isB_bl, if_true, wp_xAnd, Bool.false_eq_true, if_false, wp_xBin, wp_mEq, ee, wp_yNil, onNx_nx, onNx_rt, wp_yRet]
      exact ⟨⟨rfl, rfl⟩, trivial, hw, _, frz_lo rfl, q⟩
    | lst ds =>
      have t0 : dIsi isiTb isiNb st [.lst ds, .ty "tuple"] = some (.bl false) := rfl
      have t1 : dIsi isiTb isiNb st [.lst ds, .ty "int"] = some (.bl false) := rfl
      have t2 : dIsi isiTb isiNb st [.lst ds, .ty "bool"] = some (.bl false) := rfl
      have t3 : dIsi isiTb isiNb st [.lst ds, .ty "str"] = some (.bl false) := rfl
      have t4 : dIsi isiTb isiNb st [.lst ds, .ty "list"] = some (.bl true) := rfl
      have t5 : dIsi isiTb isiNb st [.lst ds, .ty "dict"] = some (.bl false) := rfl
      have ii : dIs2 (.lst ds) .non = some (.bl false) := rfl
      have ij : dIs2 (.bl true) (.bl true) = some (.bl true) := rfl
      have e1 : ∀ b : Bool, PyData.eqv (toPy (res st (.bl b))) (toPy (res st (.bl b))) = true := fun b => by
        show PyData.eqv (.bool _) (.bool _) = true
        rw [eqv_bool]; exact beq_self_eq_true b
      have oo : ∀ b : Bool, okD (res st (.bl b)) = true := fun b => rfl
      simp only [startE, List.map_cons, List.map_nil, List.length_cons, List.length_nil, List.replicate, List.cons_append, List.nil_append, wp_ySeq, wp_yIf, wp_asB, wp_xCall, wp_xCons, wp_xNil, wp_liftL, wp_var, wp_c, List.getElem?_cons_zero, List.getElem?_cons_succ, t0, t1, t2, t3, t4, t5, isB_bl, if_true, Bool.false_eq_true, if_false, wp_xBin, wp_lift2, ii, wp_yNil, onNx_nx, onNx_rt, wp_yRet, wp_ySet, wp_xAnd, wp_xNot, wp_mEq, e1, oo, true_and, List.set_cons_zero, List.set_cons_succ, Bool.not_false]
      refine wp_mEqA_same h ?_
      simp only [wp_lift2, wp_c, ij]
      exact ⟨trivial, hw, _, frz_lo rfl, q⟩
    | _ => cases h
end K84
set_option autoImplicit false
set_option maxRecDepth 100000
set_option maxHeartbeats 8000000
namespace K84
open PySem PySem.Spec L2 MM
theorem kept_core {mb : Ev → Mo (Rs D)} {js : List Nat} {caps : List D} {st : List Ob} {Q : D → List Ob → Prop}
    (h : wp (mb (putCaps 10 js caps)) st fun r s => match r with
      | .ex e => e.f = "given" ∧ ((e.c = "UnknownPlace" ∧ Q (.tup [.str "place", e.x]) s) ∨ (e.c = "NotAWeb" ∧ Q (.tup [.str "web", e.x]) s))
      | _ => False) : wp (runF 2 (m_law_kept_by (vAct 0 10 js mb)) [.clo 0 caps]) st Q := by
  have a1 : xTb "UnknownPlace" (.cls "UnknownPlace") = some true := by decide +kernel
  have a2 : xTb "UnknownPlace" (.cls "NotAWeb") = some false := by decide +kernel
  have a3 : xTb "NotAWeb" (.cls "UnknownPlace") = some false := by decide +kernel
  have a4 : xTb "NotAWeb" (.cls "NotAWeb") = some true := by decide +kernel
  have a5 : xTb "UnknownPlace" (.ty "ValueError") = some true := by decide +kernel
  have a6 : xTb "NotAWeb" (.ty "ValueError") = some true := by decide +kernel
  have b1 : xE_WatchError "UnknownPlace" = some true := by decide +kernel
  have b2 : xE_WatchError "NotAWeb" = some true := by decide +kernel
  have m1 : ("UnknownPlace" : Str) ∈ xL_given := by decide +kernel
  have m2 : ("NotAWeb" : Str) ∈ xL_given := by decide +kernel
  have e1 : ∀ s, PyData.eqv (toPy (res s (.bl true))) (toPy (res s (.bl false))) = false := fun s => by
    show PyData.eqv (.bool _) (.bool _) = false
    rw [eqv_bool]; rfl
  have e2 : ∀ s, PyData.eqv (toPy (res s (.bl false))) (toPy (res s (.bl true))) = false := fun s => by
    show PyData.eqv (.bool _) (.bool _) = false
    rw [eqv_bool]; rfl
  have oo : ∀ s (b : Bool), okD (res s (.bl b)) = true := fun s b => rfl
  rw [wp_runF]
  unfold m_law_kept_by
  simp only [startE, List.map_cons, List.map_nil, List.length_cons, List.length_nil, List.replicate, List.cons_append, List.nil_append, wp_unS, wp_zSeq]
  refine wp_zTry ?_
  rw [wp_zDrop, wp_vAct (k := 0) rfl]
  refine wp_mono h fun r s q => ?_
  cases r with
  | ok d => exact q.elim
  | ex e =>
    obtain ⟨c, f, x⟩ := e
    obtain ⟨hf, hc⟩ := q
    dsimp only at hf hc
    subst hf
    rcases hc with ⟨rfl, q⟩ | ⟨rfl, q⟩
    · have hx : excAt [some (A.clo 0 caps), some (.clo 77 [.str "UnknownPlace", .str "given", x])] 1 = some ⟨"UnknownPlace", "given", x⟩ := rfl
      refine ⟨b1, rfl, ?_⟩
      simp only [List.set_cons_zero, List.set_cons_succ, wp_ySeq, wp_yIf, wp_xOrB, wp_xNotB, wp_asB, wp_xBin, wp_xEi hx, wp_c, a1, a2, a5, wp_mEq, e1, oo, true_and, isB_bl, Bool.false_eq_true, if_false, if_true, Bool.not_true, wp_yNil, onNx_nx, wp_yRet, wp_xTup, wp_xCons, wp_xNil, wp_xIf]
      refine wp_xEf hx m1 rfl ?_
      exact ⟨by simp, q⟩
    · have hx : excAt [some (A.clo 0 caps), some (.clo 77 [.str "NotAWeb", .str "given", x])] 1 = some ⟨"NotAWeb", "given", x⟩ := rfl
      refine ⟨b2, rfl, ?_⟩
      simp only [List.set_cons_zero, List.set_cons_succ, wp_ySeq, wp_yIf, wp_xOrB, wp_xNotB, wp_asB, wp_xBin, wp_xEi hx, wp_c, a3, a4, a6, wp_mEq, e2, oo, true_and, isB_bl, Bool.false_eq_true, if_false, if_true, Bool.not_true, wp_yNil, onNx_nx, wp_yRet, wp_xTup, wp_xCons, wp_xNil, wp_xIf]
      refine wp_xEf hx m2 rfl ?_
      exact ⟨by simp, q⟩
theorem kept_ok {ρ : Ev} {mb : Ev → Mo (Rs D)} {js : List Nat} {caps : List D} {st : List Ob} {Q : D → List Ob → Prop} (hc : capsOf ρ js = some caps)
    (h : wp (mb (putCaps 10 js caps)) st fun r s => match r with
      | .ex e => e.f = "given" ∧ ((e.c = "UnknownPlace" ∧ Q (.tup [.str "place", e.x]) s) ∨ (e.c = "NotAWeb" ∧ Q (.tup [.str "web", e.x]) s))
      | _ => False) : wp (xLam0 js (runF 2 (m_law_kept_by (vAct 0 10 js mb))) ρ) st Q := by
  rw [wp_xLam0 hc]
  exact kept_core h
/-- a call of the book's that names no place -/
theorem kept_mt {ρ : Ev} {st : List Ob} {Q : D → List Ob → Prop} {js : List Nat} {caps : List D} {f : Str} {n : Nat} {md : List A → Mo (Rs D)} {ml : Ev → Mo (List D)} {b w : D} {ps : List Str} {ds : List D} {y : D} (hc : capsOf ρ js = some caps) (hb : IsB st b w ps) (hf : f ∉ [("standing" : Str)])
    (h4 : (putCaps 10 js caps)[4]? = some (some (.d b))) (hm : ml (putCaps 10 js caps) st = some (ds, st)) (hn : ds.length = n)
    (h : ∀ QR : Rs D → List Ob → Prop, QR (.ex (exU y)) st → wp (md (.d b :: ds.map .d)) st QR) (q : Q (.tup [.str "place", y]) st) :
    wp (xLam0 js (runF 2 (m_law_kept_by (vAct 0 10 js (vMt "Book" f n md (xVar 4) (vLift ml))))) ρ) st Q := by
  refine kept_ok hc ?_
  have h2 := hb
  unfold IsB at h2
  rw [wp_vMt, wp_var, h4]
  dsimp only
  rw [h2]
  refine ⟨⟨rfl, hf⟩, ?_⟩
  rw [wp_vLift]
  exact ⟨ds, st, hm, hn, h _ ⟨rfl, .inl ⟨rfl, q⟩⟩⟩
theorem kept_mtK {ρ : Ev} {st : List Ob} {Q : D → List Ob → Prop} {js is : List Nat} {caps : List D} {f : Str} {n : Nat} {md : List A → Mo (Rs D)} {ml : Ev → Mo (List D)} {b w : D} {ps : List Str} {ds : List D} {y : D} (hc : capsOf ρ js = some caps) (hb : IsB st b w ps) (hf : f ∉ [("standing" : Str)])
    (h4 : (putCaps 10 js caps)[4]? = some (some (.d b))) (hm : ml (putCaps 10 js caps) st = some (ds, st)) (hn : ds.length = n)
    (h : ∀ QR : Rs D → List Ob → Prop, QR (.ex (exU y)) st → wp (md (.d b :: (pick is ds).map .d)) st QR) (q : Q (.tup [.str "place", y]) st) :
    wp (xLam0 js (runF 2 (m_law_kept_by (vAct 0 10 js (vMtK "Book" f n is md (xVar 4) ml)))) ρ) st Q := by
  refine kept_ok hc ?_
  have h2 := hb
  unfold IsB at h2
  rw [wp_vMtK, wp_var, h4]
  dsimp only
  rw [h2]
  exact ⟨⟨rfl, hf⟩, ds, st, hm, hn, h _ ⟨rfl, .inl ⟨rfl, q⟩⟩⟩
/-- a Book that is refused -/
theorem kept_mk {ρ : Ev} {st : List Ob} {Q : D → List Ob → Prop} {js : List Nat} {caps : List D} {ml : Ev → Mo (List D)} {y : D} (hc : capsOf ρ js = some caps) (hw : Wf st) (hy : Odd y) (hlo : D.lo st.length y = true)
    (hm : ml (putCaps 10 js caps) st = some ([y], st)) (q : Wf (st ++ [.ins "Book" [] []]) → Q (.tup [.str "web", y]) (st ++ [.ins "Book" [] []])) :
    wp (xLam0 js (runF 2 (m_law_kept_by (vAct 0 10 js (vMake "Book" 1 S_Book_ddinitdd (vLift ml))))) ρ) st Q := by
  refine kept_ok hc ?_
  rw [wp_vMake, wp_vLift]
  refine ⟨[y], st, hm, ?_⟩
  dsimp only
  rw [wp_mkMx]
  have hw2 : Wf (st ++ [.ins "Book" [] []]) := hw.push rfl
  exact ⟨rfl, booki_no hw2 (by simp) hy (lo_mono (by simp) y hlo) ⟨rfl, .inr ⟨rfl, q hw2⟩⟩⟩
theorem kept_mkK {ρ : Ev} {st : List Ob} {Q : D → List Ob → Prop} {js : List Nat} {caps : List D} {ml : Ev → Mo (List D)} {y : D} (hc : capsOf ρ js = some caps) (hw : Wf st) (hy : Odd y) (hlo : D.lo st.length y = true)
    (hm : ml (putCaps 10 js caps) st = some ([y], st)) (q : Wf (st ++ [.ins "Book" [] []]) → Q (.tup [.str "web", y]) (st ++ [.ins "Book" [] []])) :
    wp (xLam0 js (runF 2 (m_law_kept_by (vAct 0 10 js (vKw 1 [0] (mkMx "Book" 1 S_Book_ddinitdd) ml)))) ρ) st Q := by
  refine kept_ok hc ?_
  rw [wp_vKw]
  refine ⟨[y], st, hm, rfl, ?_⟩
  rw [wp_mkMx]
  have hw2 : Wf (st ++ [.ins "Book" [] []]) := hw.push rfl
  exact ⟨rfl, booki_no hw2 (by simp) hy (lo_mono (by simp) y hlo) ⟨rfl, .inr ⟨rfl, q hw2⟩⟩⟩
end K84
set_option autoImplicit false
set_option maxRecDepth 100000
set_option maxHeartbeats 8000000
namespace K84
open PySem PySem.Spec L2 MM
theorem Go.app {n : Nat} {st s g : List Ob} (a : Go n st s) (hw : Wf (s ++ g)) : Go n st (s ++ g) :=
  ⟨by rw [List.length_append]; exact Nat.le_trans a.le (Nat.le_add_right _ _), fun m h1 h2 => by rw [List.getElem?_append_left (Nat.lt_of_lt_of_le h1 a.le)]; exact a.old m h1 h2,
    by obtain ⟨x, y, z, e⟩ := a.wat; exact ⟨x, y, z, by rw [List.getElem?_append_left (List.getElem?_eq_some_iff.mp e).1]; exact e⟩, hw⟩
theorem dAdd_tup {as bs : List D} (h : as.length + bs.length ≤ 1000000) : dAdd (.tup as) (.tup bs) = some (.tup (as ++ bs)) := by
  show (if as.length + bs.length ≤ 1000000 then some (D.tup (as ++ bs)) else none) = _
  rw [if_pos h]
structure Odds (n : Nat) (y : D) : Prop where
  odd : Odd y
  sd : SD 4 y = true
  lo : ∀ m, n ≤ m → D.lo m y = true
theorem sd_pair {t : Str} {y : D} (ht : PyData.strOk t = true) (h : SD 4 y = true) : SD 5 (.tup [.str t, y]) = true := by
  simp [SD, ht] at h ⊢
  exact h
/-- the first walk: no Web, no Book -/
theorem loop1 {S : List Ob} {x0 x1 x2 : Option A} {items : List D} (hw : Wf S) (hi : ∀ y ∈ items, Odds S.length y) {QO : Out → List Ob → Prop}
    (q : ∀ (x3 : Option A) (g : List Ob), Wf (S ++ g) → QO (.nx [x0, x1, x2, x3, none, none, none, none, none, none]) (S ++ g)) :
    wp (MM.forM (zName 3) (yIf (xNotB (asB (xFn 2 (S_law_same 6) (xCons (xTup (xCons (xLam0 [3] (runF 2 (m_law_kept_by (vAct 0 10 [3] (vMake "Book" 1 S_Book_ddinitdd (vLift (xCons (xVar 3) xNil))))))) (xCons (xLam0 [3] (runF 2 (m_law_kept_by (vAct 0 10 [3] (vKw 1 [0] (mkMx "Book" 1 S_Book_ddinitdd) (xCons (xVar 3) xNil)))))) xNil))) (xCons (xBin (lift2 dRepT) (xTup (xCons (xTup (xCons (xC (.str "web")) (xCons (xVar 3) xNil))) xNil)) (xC (.int 2))) xNil))))) (yRet (xC (.bl false))) yNil) items [x0, x1, x2, none, none, none, none, none, none, none]) S QO := by
  refine wp_forM (fun i ρ s => ∃ (x3 : Option A) (g : List Ob), ρ = [x0, x1, x2, x3, none, none, none, none, none, none] ∧ s = S ++ g ∧ Wf s) ⟨none, [], rfl, by simp, hw⟩ ?_ ?_
  · rintro i h ρ s ⟨x3, g, rfl, rfl, hwS⟩
    have P := hi _ (List.getElem_mem h)
    generalize items[i] = y at P ⊢
    have rp : ∀ p : D, dRepT (.tup [p]) (.int 2) = some (.tup [p, p]) := fun p => rfl
    simp only [wp_zName, List.set_cons_zero, List.set_cons_succ, wp_yIf, wp_xNotB, wp_asB, wp_xFn, wp_xCons, wp_xTup, wp_xNil]
    refine kept_mk (y := y) rfl hwS P.odd (P.lo _ (by simp)) rfl fun hw1 => ?_
    refine kept_mkK (y := y) rfl hw1 P.odd (P.lo _ (by simp)) rfl fun hw2 => ?_
    simp only [wp_xBin, wp_xTup, wp_xCons, wp_xNil, wp_c, wp_var, List.getElem?_cons_zero, List.getElem?_cons_succ, wp_lift2, rp, List.map_cons, List.map_nil]
    refine ⟨by simp, by simp, by simp, rfl, same_ok hw2 6 _ ?_ ?_⟩
    · have := sd_pair (t := "web") (by decide +kernel) P.sd
      show (decide (([_, _] : List D).length ≤ 1000) && ([_, _] : List D).all (SD 5)) = true
      simp only [List.all_cons, List.all_nil, this]
      rfl
    · simp only [isB_bl, Bool.not_true, Bool.false_eq_true, if_false, wp_yNil]
      exact ⟨_, g ++ [.ins "Book" [] []] ++ [.ins "Book" [] []], rfl, by simp, hw2⟩
  · rintro ρ s ⟨x3, g, rfl, rfl, hwS⟩
    exact q x3 g hwS
end K84
set_option autoImplicit false
set_option maxRecDepth 100000
set_option maxHeartbeats 8000000
namespace K84
open PySem PySem.Spec L2 MM
abbrev body2 : Ev → Mo Out := (ySeq (ySet 8 (xTup (xCons (xLam0 [3, 4] (runF 2 (m_law_kept_by (vAct 0 10 [3, 4] (vMt "Book" "post" 1 S_Book_post (xVar 4) (vLift (xCons (xVar 3) xNil))))))) (xCons (xLam0 [3, 4] (runF 2 (m_law_kept_by (vAct 0 10 [3, 4] (vMt "Book" "take" 1 S_Book_take (xVar 4) (vLift (xCons (xVar 3) xNil))))))) (xCons (xLam0 [3, 4] (runF 2 (m_law_kept_by (vAct 0 10 [3, 4] (vMt "Book" "step" 2 S_Book_step (xVar 4) (vLift (xCons (xVar 3) (xCons (xC .non) xNil)))))))) xNil))))) (ySeq (ySet 8 (xBin mAdd (xVar 8) (xTup (xCons (xLam0 [3, 4] (runF 2 (m_law_kept_by (vAct 0 10 [3, 4] (vMt "Book" "tie" 2 S_Book_tie (xVar 4) (vLift (xCons (xVar 3) (xCons (xC .non) xNil)))))))) (xCons (xLam0 [3, 4] (runF 2 (m_law_kept_by (vAct 0 10 [3, 4] (vMt "Book" "cut" 2 S_Book_cut (xVar 4) (vLift (xCons (xVar 3) (xCons (xC .non) xNil)))))))) (xCons (xLam0 [5, 3, 4] (runF 2 (m_law_kept_by (vAct 0 10 [5, 3, 4] (vMt "Book" "tie" 2 S_Book_tie (xVar 4) (vLift (xCons (xVar 5) (xCons (xVar 3) xNil)))))))) xNil)))))) (ySeq (ySet 8 (xBin mAdd (xVar 8) (xTup (xCons (xLam0 [4, 3, 5] (runF 2 (m_law_kept_by (vAct 0 10 [4, 3, 5] (vMtK "Book" "cut" 2 [1, 0] (fun as => if as.length = 2 + 1 then S_Book_cut as else Mo.fail) (xVar 4) (xCons (xVar 3) (xCons (xVar 5) xNil))))))) (xCons (xLam0 [5, 3, 4] (runF 2 (m_law_kept_by (vAct 0 10 [5, 3, 4] (vMt "Book" "step" 2 S_Book_step (xVar 4) (vLift (xCons (xVar 5) (xCons (xVar 3) xNil)))))))) xNil))))) (yIf (xNotB (asB (xFn 2 (S_law_same 6) (xCons (xVar 8) (xCons (xBin (lift2 dRepT) (xTup (xCons (xTup (xCons (xC (.str "place")) (xCons (xVar 3) xNil))) xNil)) (xC (.int 8))) xNil))))) (yRet (xC (.bl false))) yNil))))
theorem of3 {md : List A → Mo (Rs D)} {a b c : A} {st : List Ob} {QR : Rs D → List Ob → Prop} (h : wp (md [a, b, c]) st QR) : wp ((fun as : List A => if as.length = 2 + 1 then md as else Mo.fail) [a, b, c]) st QR := by
  show wp (if ([a, b, c] : List A).length = 2 + 1 then md [a, b, c] else Mo.fail) st QR
  rw [if_pos (show ([a, b, c] : List A).length = 2 + 1 from rfl)]
  exact h
/-- the second walk: odd places -/
theorem loop2 {S : List Ob} {a0 a1 a2 a9 : Option A} {w b : D} {c : Cs} {x0 x1 x2 : Str} {items : List D} (hw : Wf S) (hb : IsB S b w [x0]) (hW : IsW S w c) (hwl : D.lo S.length w = true) (hbl : D.lo S.length b = true) (h0 : x0 ∈ c.ns) (hi : ∀ y ∈ items, Odds S.length y ∧ inP y c.ns = false) {QO : Out → List Ob → Prop}
    (q : ∀ (x3 x8 : Option A), QO (.nx [a0, a1, a2, x3, some (.d b), some (.d (.str x0)), some (.d (.str x1)), some (.d (.str x2)), x8, a9]) S) :
    ∀ x3, wp (MM.forM (zName 3) body2 items [a0, a1, a2, x3, some (.d b), some (.d (.str x0)), some (.d (.str x1)), some (.d (.str x2)), none, a9]) S QO := fun x3 => by
  refine wp_forM (fun i ρ s => ∃ (x3 x8 : Option A), ρ = [a0, a1, a2, x3, some (.d b), some (.d (.str x0)), some (.d (.str x1)), some (.d (.str x2)), x8, a9] ∧ s = S) ⟨_, _, rfl, rfl⟩ ?_ ?_
  · rintro i h ρ s ⟨x3, x8, rfl, rfl⟩
    obtain ⟨P, hn⟩ := hi _ (List.getElem_mem h)
    generalize items[i] = y at P hn ⊢
    have rp : ∀ p : D, dRepT (.tup [p]) (.int 8) = some (.tup [p, p, p, p, p, p, p, p]) := fun p => rfl
    have lo : D.lo s.length y = true := P.lo _ (Nat.le_refl _)
    have nf : ∀ f : Str, f ≠ "standing" → f ∉ [("standing" : Str)] := fun f h => by simpa using h
    simp only [wp_zName, List.set_cons_zero, List.set_cons_succ, wp_ySeq, wp_ySet, wp_xTup, wp_xCons, wp_xNil]
    refine kept_mt (y := y) rfl hb (nf _ (by decide)) rfl rfl rfl (fun QR q => post_no hw hb hW hwl P.odd lo hn q) ?_
    refine kept_mt (y := y) rfl hb (nf _ (by decide)) rfl rfl rfl (fun QR q => take_ex hw hb lo (fun QR q => cp_no0 hw hb hW hwl P.odd lo hn q) q) ?_
    refine kept_mt (y := y) rfl hb (nf _ (by decide)) rfl rfl rfl (fun QR q => step_ex hw hb lo (fun QR q => cp_no0 hw hb hW hwl P.odd lo hn q) q) ?_
    simp only [onNx_nx, List.set_cons_zero, List.set_cons_succ, wp_ySeq, wp_ySet, wp_xBin, wp_var, List.getElem?_cons_zero, List.getElem?_cons_succ, wp_xTup, wp_xCons, wp_xNil]
    refine ⟨by simp, ?_⟩
    refine kept_mt (y := y) rfl hb (nf _ (by decide)) rfl rfl rfl (fun QR q => tie_ex hw hb lo (fun QR q => pair_no0 hw hb hW hwl P.odd lo hn q) q) ?_
    refine kept_mt (y := y) rfl hb (nf _ (by decide)) rfl rfl rfl (fun QR q => cut_ex hw hb lo (fun QR q => pair_no0 hw hb hW hwl P.odd lo hn q) q) ?_
    refine kept_mt (y := y) rfl hb (nf _ (by decide)) rfl rfl rfl (fun QR q => tie_ex hw hb lo (fun QR q => pair_no1 hw hb hW hwl h0 P.odd lo hn q) q) ?_
    refine ⟨by simp, ?_⟩
    simp only [wp_lift2, dAdd_tup (as := [D.tup [D.str "place", y], D.tup [D.str "place", y], D.tup [D.str "place", y]]) (bs := [D.tup [D.str "place", y], D.tup [D.str "place", y], D.tup [D.str "place", y]]) (by simp), List.cons_append, List.nil_append, onNx_nx, List.set_cons_zero, List.set_cons_succ, wp_ySeq, wp_ySet, wp_xBin, wp_var, List.getElem?_cons_zero, List.getElem?_cons_succ, wp_xTup, wp_xCons, wp_xNil]
    refine kept_mtK (y := y) rfl hb (nf _ (by decide)) rfl rfl rfl (fun QR q => of3 (cut_ex hw hb lo (fun QR q => pair_no1 hw hb hW hwl h0 P.odd lo hn q) q)) ?_
    refine kept_mt (y := y) rfl hb (nf _ (by decide)) rfl rfl rfl (fun QR q => step_no1 hw hb hW hwl h0 (by simp) P.odd lo hn q) ?_
    refine ⟨by simp, ?_⟩
    simp only [wp_lift2, dAdd_tup (as := [D.tup [D.str "place", y], D.tup [D.str "place", y], D.tup [D.str "place", y], D.tup [D.str "place", y], D.tup [D.str "place", y], D.tup [D.str "place", y]]) (bs := [D.tup [D.str "place", y], D.tup [D.str "place", y]]) (by simp), List.cons_append, List.nil_append, onNx_nx, List.set_cons_zero, List.set_cons_succ, wp_yIf, wp_xNotB, wp_asB, wp_xFn, wp_xBin, wp_c, wp_var, List.getElem?_cons_zero, List.getElem?_cons_succ, wp_xTup, wp_xCons, wp_xNil, rp, List.map_cons, List.map_nil]
    refine ⟨by simp, by simp, rfl, same_ok hw 6 _ ?_ ?_⟩
    · have := sd_pair (t := "place") (by decide +kernel) P.sd
      show (decide (([_, _, _, _, _, _, _, _] : List D).length ≤ 1000) && ([_, _, _, _, _, _, _, _] : List D).all (SD 5)) = true
      simp only [List.all_cons, List.all_nil, this]
      rfl
    · simp only [isB_bl, Bool.not_true, Bool.false_eq_true, if_false, wp_yNil]
      exact ⟨_, _, rfl, trivial⟩
  · rintro ρ s ⟨x3, x8, rfl, rfl⟩
    exact q x3 x8
end K84
set_option autoImplicit false
set_option maxRecDepth 100000
set_option maxHeartbeats 8000000
namespace K84
open PySem PySem.Spec L2 MM
theorem sd_name {n : Nat} {x : Str} (h : GN x) : SD (n + 1) (.str x) = true := h.ok
theorem sd_web {n : Nat} {c : Cs} (hc : c.Ok) : SD (n + 4) (webD c) = true := by
  have h1 : SD (n + 3) (.tup (c.ns.map .str)) = true := SD_strs (n := n + 1) (by have := hc.n6; omega) fun x hx => (hc.names.g x hx).ok
  have h2 : SD (n + 3) (.tup (c.ts.map tieD)) = true := SD_ties (n := n) (by have := hc.ties.len; omega) fun p hp => by
    have := hc.ties.mem p hp
    exact ⟨(hc.names.g _ this.1).ok, (hc.names.g _ this.2.1).ok⟩
  show (decide (([_, _] : List D).length ≤ 1000) && ([_, _] : List D).all (SD (n + 3))) = true
  simp only [List.all_cons, List.all_nil, h1, h2]
  rfl
theorem slice3 {s : List Ob} {x0 x1 x2 : Str} {r : List Str} : dSlice s (.tup ((x0 :: x1 :: x2 :: r).map .str)) none (some 3) = some (.tup [.str x0, .str x1, .str x2]) := by
  show some (D.tup (cutD ((x0 :: x1 :: x2 :: r).map .str) none (some 3))) = _
  unfold cutD
  rw [HT.sIx_none, show (3 : Int) = ((3 : Nat) : Int) from rfl, HT.sIx_nat]
  simp
theorem right_ok {st : List Ob} {n : Nat} (hw : Wf st) (h : WAt st n) {Q : D → List Ob → Prop} (q : ∀ s, Go n st s → s.length = st.length → Q (.bl true) s) : wp (S_law_right [.d (.loc n)]) st Q := by
  unfold S_law_right
  refine wp_frzW h hw ?_
  rw [wp_runF]
  unfold m_law_right
  simp only [startE, List.map_cons, List.map_nil, List.length_cons, List.length_nil, List.replicate, List.cons_append, List.nil_append, wp_ySeq, wp_ySet, wp_xFn, wp_xCons, wp_xNil, wp_xBin, wp_var, wp_c, List.getElem?_cons_zero, List.getElem?_cons_succ]
  refine ⟨trivial, draw_ok hw h (by decide) (by decide) fun r s1 hr1 hr2 g1 hs1 => ?_⟩
  obtain ⟨k, rfl⟩ := Int.eq_ofNat_of_zero_le hr1
  rw [wp_lift2, dAdd_int, show (3 : Int) + (k : Int) = ((k + 3 : Nat) : Int) by omega]
  refine ⟨trivial, names_ok g1.wf g1.wat (by omega) (by omega) fun ns s2 hl hN g2 hs2 => ?_⟩
  have g12 := g1.trans g2
  obtain ⟨x0, x1, x2, rest, rfl⟩ : ∃ x0 x1 x2 rest, ns = x0 :: x1 :: x2 :: rest := by
    match ns, hl with
    | x0 :: x1 :: x2 :: rest, _ => exact ⟨_, _, _, _, rfl⟩
  have l01 : x0.cps.toList < x1.cps.toList := names_lt hN (a := 0) (b := 1) rfl rfl (by decide)
  have l02 : x0.cps.toList < x2.cps.toList := names_lt hN (a := 0) (b := 2) rfl rfl (by decide)
  have l12 : x1.cps.toList < x2.cps.toList := names_lt hN (a := 1) (b := 2) rfl rfl (by decide)
  have ne : ∀ {a b : Str}, a.cps.toList < b.cps.toList → ¬ a = b := fun h e => by rw [e] at h; exact List.lt_irrefl _ h
  have nl : ∀ {a b : Str}, a.cps.toList < b.cps.toList → ¬ b.cps.toList < a.cps.toList := fun h e => List.lt_irrefl _ (List.lt_trans h e)
  have G0 := hN.g x0 (by simp)
  have G1 := hN.g x1 (by simp)
  have G2 := hN.g x2 (by simp)
  obtain ⟨c, hcn, hct⟩ : ∃ c : Cs, c.ns = x0 :: x1 :: x2 :: rest ∧ c.ts = [(x0, x1)] := ⟨⟨_, _⟩, rfl, rfl⟩
  have hc : c.Ok := by
    refine ⟨by rw [hcn]; simp, by rw [hcn, hl]; omega, by rw [hcn]; exact hN, ⟨?_, ?_, ?_⟩⟩
    · rw [hct, hcn]
      intro p hp
      rw [List.mem_singleton.mp hp]
      exact ⟨by simp, by simp, l01⟩
    · rw [hct]; simp
    · rw [hct]; simp
  have i0 : x0 ∈ c.ns := by rw [hcn]; simp
  have i1 : x1 ∈ c.ns := by rw [hcn]; simp
  have i2 : x2 ∈ c.ns := by rw [hcn]; simp
  have t0 : ∀ s (a b d : D) (r : List D), dIx s (.tup (a :: b :: d :: r)) (.int 0) = some a := fun s a b d r => by rw [dIx_tup]; exact at_nat (i := 0)
  have t1 : ∀ s (a b d : D) (r : List D), dIx s (.tup (a :: b :: d :: r)) (.int 1) = some b := fun s a b d r => by rw [dIx_tup]; exact at_nat (i := 1)
  rw [onNx_nx]
  simp only [List.set_cons_zero, List.set_cons_succ, List.map_cons, wp_ySeq, wp_ySet, wp_xMake, wp_xTup, wp_xCons, wp_xNil, wp_xBin, wp_var, wp_c, List.getElem?_cons_zero, List.getElem?_cons_succ, wp_mIx, t0, t1]
  refine ⟨by simp, by simp, ?_⟩
  have mk := fun (Q : D → List Ob → Prop) (q : Wf (s2 ++ [webO c]) → Q (.loc s2.length) (s2 ++ [webO c])) => mkweb_ok g12.wf hc q
  rw [hcn, hct] at mk
  refine mk _ fun hw3 => ?_
  generalize hS : s2 ++ [webO c] = S at hw3 ⊢
  have hSl : S.length = s2.length + 1 := by rw [← hS]; simp
  have hSw : S[s2.length]? = some (webO c) := by rw [← hS]; exact get_last
  have hW0 : IsW S (.loc s2.length) c := isW_loc hSw
  have hW0' := hW0
  unfold IsW at hW0'
  rw [onNx_nx]
  simp only [List.set_cons_zero, List.set_cons_succ, wp_ySeq, wp_yFor, wp_itemsT, wp_xTup, wp_xLst, wp_xCons, wp_xNil, wp_xProp, wp_var, wp_c, List.getElem?_cons_zero, List.getElem?_cons_succ]
  rw [hW0']
  refine ⟨rfl, wparts_ok hw3 hW0 ⟨by simp, by simp, by simp, ?_⟩⟩
  refine loop1 hw3 (fun y hy => ?_) fun x3 g hwg => ?_
  · simp only [List.mem_cons, List.not_mem_nil, or_false] at hy
    rcases hy with rfl | rfl | rfl | rfl | rfl | rfl
    · exact ⟨odd_non, rfl, fun m hm => rfl⟩
    · exact ⟨odd_tup, sd_web (n := 0) hc, fun m hm => lo_web⟩
    · exact ⟨odd_int, rfl, fun m hm => rfl⟩
    · exact ⟨odd_str, by decide +kernel, fun m hm => rfl⟩
    · exact ⟨odd_tup, rfl, fun m hm => rfl⟩
    · refine ⟨odd_lst, by simp [SD, sameL], fun m hm => ?_⟩
      simp only [D.lo, D.loL, Bool.and_true]
      exact decide_eq_true (by omega)
  have hB0 : Wf ((S ++ g) ++ [.ins "Book" [] []]) := hwg.push rfl
  have hgw : (S ++ g)[s2.length]? = some (webO c) := by rw [List.getElem?_append_left (by omega)]; exact hSw
  generalize hT : S ++ g = T at hwg hB0 hgw ⊢
  have hTl : s2.length < T.length := (List.getElem?_eq_some_iff.mp hgw).1
  have hWT : ∀ o : Ob, IsW (T ++ [o]) (.loc s2.length) c := fun o => isW_loc (by rw [List.getElem?_append_left hTl]; exact hgw)
  have wlo : ∀ m, T.length ≤ m → D.lo m (.loc s2.length) = true := fun m hm => by
    simp only [D.lo]
    exact decide_eq_true (by omega)
  rw [onNx_nx]
  simp only [List.set_cons_zero, List.set_cons_succ, wp_ySeq, wp_ySet, wp_unX, wp_vMake, wp_vLift, wp_xCons, wp_xNil, wp_var, List.getElem?_cons_zero, List.getElem?_cons_succ]
  rw [wp_mkMx]
  refine ⟨rfl, booki_yes hB0 get_last (hWT _) (wlo _ (by simp)) ?_⟩
  dsimp only
  have hlen : ∀ o : Ob, (T ++ [o]).length = T.length + 1 := fun o => by simp
  have bWf : ∀ ps : List Str, Wf (T ++ [bookO (.loc s2.length) ps]) := fun ps => hwg.push (by
    show Ob.lo (T.length + 1) (bookO (.loc s2.length) ps) = true
    simp only [Ob.lo, D.loL, D.lo, loL_strs, Bool.true_and, Bool.and_true]
    exact decide_eq_true (by omega))
  have bSet : ∀ ps ps' : List Str, (T ++ [bookO (.loc s2.length) ps]).set T.length (bookO (.loc s2.length) ps') = T ++ [bookO (.loc s2.length) ps'] := fun ps ps' => set_last
  have hBk : ∀ ps : List Str, IsB (T ++ [bookO (.loc s2.length) ps]) (.loc T.length) (.loc s2.length) ps := fun ps => isB_loc get_last
  have hBk' := hBk
  unfold IsB at hBk'
  rw [set_last, onNx_nx]
  have nf : ∀ f : Str, f ≠ "standing" → f ∉ [("standing" : Str)] := fun f h => by simpa using h
  simp only [List.set_cons_zero, List.set_cons_succ, wp_ySeq, wp_yDrop, wp_unX, wp_vMt, wp_vLift, wp_xCons, wp_xNil, wp_xBin, wp_mIx, t0, t1, wp_c, wp_var, List.getElem?_cons_zero, List.getElem?_cons_succ]
  rw [hBk' []]
  refine ⟨⟨rfl, nf _ (by decide)⟩, rfl, post_one (bWf _) get_last (hWT _) (wlo _ (by simp)) i0 ?_⟩
  dsimp only
  rw [bSet, onNx_nx]
  have sl : ∀ s, dSlice s (.tup (.str x0 :: .str x1 :: .str x2 :: rest.map .str)) none (some 3) = some (.tup [.str x0, .str x1, .str x2]) := fun s => slice3
  simp only [wp_ySeq, wp_yAsg, wp_xSlice, wp_oNone, wp_oSome, wp_var, List.getElem?_cons_zero, List.getElem?_cons_succ, sl, wp_zTup, wp_zCons, wp_zName, wp_zNil, List.set_cons_zero, List.set_cons_succ, onNx_nx, wp_yFor, wp_itemsT, wp_xTup, wp_xCons, wp_xNil, wp_c]
  refine ⟨by simp, by simp, ?_⟩
  have inS2 : ∀ x : Str, inP (.str x) c.ns = decide (x ∈ c.ns) := fun x => rfl
  refine loop2 (w := .loc s2.length) (c := c) (bWf _) (hBk _) (hWT _) (wlo _ (by simp)) (by simp only [D.lo]; exact decide_eq_true (by simp)) i0 (fun y hy => ?_) (fun x3 x8 => ?_) _
  · simp only [List.mem_cons, List.not_mem_nil, or_false] at hy
    rcases hy with rfl | rfl | rfl | rfl | rfl | rfl | rfl
    · exact ⟨⟨odd_non, rfl, fun m hm => rfl⟩, rfl⟩
    · exact ⟨⟨odd_str, by decide +kernel, fun m hm => rfl⟩, by rw [inS2]; exact decide_eq_false fun hm => (hc.names.g _ hm).nz rfl⟩
    · exact ⟨⟨odd_str, by decide +kernel, fun m hm => rfl⟩, by rw [inS2]; exact decide_eq_false fun hm => (hc.names.g _ hm).ne rfl⟩
    · exact ⟨⟨odd_int, rfl, fun m hm => rfl⟩, rfl⟩
    · refine ⟨⟨odd_tup, ?_, fun m hm => rfl⟩, rfl⟩
      simp only [SD, List.all_cons, List.all_nil, G0.ok, Bool.and_true]
      exact decide_eq_true (by simp)
    · exact ⟨⟨odd_bl, rfl, fun m hm => rfl⟩, rfl⟩
    · refine ⟨⟨odd_tup, ?_, fun m hm => ?_⟩, rfl⟩
      · have := SD_strs (n := 2) (l := x0 :: x1 :: x2 :: rest) (by rw [hl]; omega) fun x hx => (hN.g x hx).ok
        exact this
      · have := loL_strs (n := m) (x0 :: x1 :: x2 :: rest)
        simp only [D.lo]
        exact this
  have w5 := bWf [x0]
  have b5 := hBk [x0]
  have W5 := hWT (bookO (.loc s2.length) [x0])
  have wl5 := wlo (T ++ [bookO (.loc s2.length) [x0]]).length (by simp)
  have n10 : x1 ∉ [x0] := by simp; exact fun e => ne l01 e.symm
  have n20 : x2 ∉ [x0] := by simp; exact fun e => ne l02 e.symm
  have n201 : x2 ∉ [x0, x1] := by simp; exact ⟨fun e => ne l02 e.symm, fun e => ne l12 e.symm⟩
  have p01 : ∀ QR : Rs D → List Ob → Prop, QR (.ok (tieD (x0, x1))) (T ++ [bookO (.loc s2.length) [x0]]) → wp (S_Book_pair_of [.d (.loc T.length), .d (.str x0), .d (.str x1)]) (T ++ [bookO (.loc s2.length) [x0]]) QR := fun QR q => pair_two w5 b5 W5 wl5 i0 i1 ⟨G0.ok, G1.ok⟩ (by rw [if_neg (ne l01), if_neg (nl l01), if_pos l01]; exact q)
  have p10 : ∀ QR : Rs D → List Ob → Prop, QR (.ok (tieD (x0, x1))) (T ++ [bookO (.loc s2.length) [x0]]) → wp (S_Book_pair_of [.d (.loc T.length), .d (.str x1), .d (.str x0)]) (T ++ [bookO (.loc s2.length) [x0]]) QR := fun QR q => pair_two w5 b5 W5 wl5 i1 i0 ⟨G1.ok, G0.ok⟩ (by rw [if_neg fun e => ne l01 e.symm, if_pos l01, if_neg (nl l01)]; exact q)
  have p02 : ∀ QR : Rs D → List Ob → Prop, QR (.ok (tieD (x0, x2))) (T ++ [bookO (.loc s2.length) [x0]]) → wp (S_Book_pair_of [.d (.loc T.length), .d (.str x0), .d (.str x2)]) (T ++ [bookO (.loc s2.length) [x0]]) QR := fun QR q => pair_two w5 b5 W5 wl5 i0 i2 ⟨G0.ok, G2.ok⟩ (by rw [if_neg (ne l02), if_neg (nl l02), if_pos l02]; exact q)
  have p00 : ∀ QR : Rs D → List Ob → Prop, QR (.ex (exU (.str x0))) (T ++ [bookO (.loc s2.length) [x0]]) → wp (S_Book_pair_of [.d (.loc T.length), .d (.str x0), .d (.str x0)]) (T ++ [bookO (.loc s2.length) [x0]]) QR := fun QR q => pair_two w5 b5 W5 wl5 i0 i0 ⟨G0.ok, G0.ok⟩ (by rw [if_pos rfl]; exact q)
  have p11 : ∀ QR : Rs D → List Ob → Prop, QR (.ex (exU (.str x1))) (T ++ [bookO (.loc s2.length) [x0]]) → wp (S_Book_pair_of [.d (.loc T.length), .d (.str x1), .d (.str x1)]) (T ++ [bookO (.loc s2.length) [x0]]) QR := fun QR q => pair_two w5 b5 W5 wl5 i1 i1 ⟨G1.ok, G1.ok⟩ (by rw [if_pos rfl]; exact q)
  rw [onNx_nx]
  refine kept_mt (y := .str x1) rfl b5 (nf _ (by decide)) rfl rfl rfl (fun QR q => take_ex w5 b5 rfl (fun QR q => cp_no1 w5 b5 W5 wl5 i1 n10 q) q) ?_
  refine kept_mt (y := .str x1) rfl b5 (nf _ (by decide)) rfl rfl rfl (fun QR q => step_ex w5 b5 rfl (fun QR q => cp_no1 w5 b5 W5 wl5 i1 n10 q) q) ?_
  refine kept_mt (y := .str x2) rfl b5 (nf _ (by decide)) rfl rfl rfl (fun QR q => step_no3 w5 b5 W5 wl5 i0 (by simp) i2 n20 hct l01 ⟨G0.ok, G1.ok⟩ n201 q) ?_
  refine ⟨by simp, ?_⟩
  simp only [onNx_nx, List.set_cons_zero, List.set_cons_succ, wp_ySeq, wp_ySet, wp_xBin, wp_var, List.getElem?_cons_zero, List.getElem?_cons_succ, wp_xTup, wp_xCons, wp_xNil]
  refine kept_mt (y := .str x0) rfl b5 (nf _ (by decide)) rfl rfl rfl (fun QR q => step_no2 w5 b5 W5 wl5 i0 (by simp) i0 (by simp) q) ?_
  refine kept_mt (y := .str x1) rfl b5 (nf _ (by decide)) rfl rfl rfl (fun QR q => tie_in (p := (x0, x1)) w5 b5 W5 wl5 hct ⟨G0.ok, G1.ok⟩ p01 q) ?_
  refine kept_mt (y := .str x0) rfl b5 (nf _ (by decide)) rfl rfl rfl (fun QR q => tie_in (p := (x0, x1)) w5 b5 W5 wl5 hct ⟨G0.ok, G1.ok⟩ p10 q) ?_
  refine ⟨by simp, ?_⟩
  simp only [wp_lift2, dAdd_tup (as := [D.tup [D.str "place", .str x1], D.tup [D.str "place", .str x1], D.tup [D.str "place", .str x2]]) (bs := [D.tup [D.str "place", .str x0], D.tup [D.str "place", .str x1], D.tup [D.str "place", .str x0]]) (by simp), List.cons_append, List.nil_append, onNx_nx, List.set_cons_zero, List.set_cons_succ, wp_ySeq, wp_ySet, wp_xBin, wp_var, List.getElem?_cons_zero, List.getElem?_cons_succ, wp_xTup, wp_xCons, wp_xNil]
  refine kept_mt (y := .str x0) rfl b5 (nf _ (by decide)) rfl rfl rfl (fun QR q => tie_ex w5 b5 rfl p00 q) ?_
  refine kept_mt (y := .str x2) rfl b5 (nf _ (by decide)) rfl rfl rfl (fun QR q => cut_out (p := (x0, x2)) (r := (x0, x1)) w5 b5 W5 wl5 hct ⟨G0.ok, G2.ok⟩ ⟨G0.ok, G1.ok⟩ (fun e => ne l12 (Prod.mk.inj e).2) p02 q) ?_
  refine kept_mt (y := .str x1) rfl b5 (nf _ (by decide)) rfl rfl rfl (fun QR q => cut_ex w5 b5 rfl p11 q) ?_
  refine ⟨by simp, ?_⟩
  simp only [wp_lift2, dAdd_tup (as := [D.tup [D.str "place", .str x1], D.tup [D.str "place", .str x1], D.tup [D.str "place", .str x2], D.tup [D.str "place", .str x0], D.tup [D.str "place", .str x1], D.tup [D.str "place", .str x0]]) (bs := [D.tup [D.str "place", .str x0], D.tup [D.str "place", .str x2], D.tup [D.str "place", .str x1]]) (by simp), List.cons_append, List.nil_append, onNx_nx, List.set_cons_zero, List.set_cons_succ, wp_ySeq, wp_ySet, wp_yIf, wp_xOrB, wp_xNotB, wp_asB, wp_xFn, wp_c, wp_var, List.getElem?_cons_zero, List.getElem?_cons_succ, wp_xTup, wp_xCons, wp_xNil, List.map_cons, List.map_nil]
  have pk : ∀ x : Str, GN x → SD 5 (.tup [.str "place", .str x]) = true := fun x hx => sd_pair (by decide +kernel) hx.ok
  refine ⟨by simp, by simp, by simp, by simp, by simp, by simp, by simp, by simp, by simp, by simp, rfl, same_ok w5 6 _ ?_ ?_⟩
  · show (decide (([_, _, _, _, _, _, _, _, _] : List D).length ≤ 1000) && ([_, _, _, _, _, _, _, _, _] : List D).all (SD 5)) = true
    simp only [List.all_cons, List.all_nil, pk _ G0, pk _ G1, pk _ G2]
    rfl
  simp only [isB_bl, Bool.not_true, Bool.false_eq_true, if_false, wp_xProp, wp_var, List.getElem?_cons_zero, List.getElem?_cons_succ]
  have W5' := W5
  unfold IsW at W5'
  rw [hBk' [x0]]
  refine ⟨rfl, bweb_ok w5 b5 wl5 ?_⟩
  rw [W5']
  refine ⟨rfl, wparts_ok w5 W5 ?_⟩
  rw [hBk' [x0]]
  refine ⟨rfl, bposts_ok w5 b5 ?_⟩
  refine ⟨by simp, ?_⟩
  rw [W5']
  refine ⟨rfl, wparts_ok w5 W5 ?_⟩
  refine ⟨by simp, by simp, rfl, same_ok w5 6 _ ?_ ?_⟩
  · have h1 := sd_web (n := 1) hc
    have h2 : SD 5 (.tup ([x0].map .str)) = true := SD_strs (n := 3) (by simp) (by simp [G0.ok])
    show (decide (([_, _] : List D).length ≤ 1000) && ([_, _] : List D).all (SD 5)) = true
    simp only [List.all_cons, List.all_nil, h1, h2]
    rfl
  simp only [isB_bl, Bool.not_true, Bool.false_eq_true, if_false, wp_yNil, onNx_nx, wp_ySeq, wp_yDrop, wp_unX, wp_vMt, wp_vLift, wp_xCons, wp_xNil, wp_var, List.getElem?_cons_zero, List.getElem?_cons_succ]
  rw [hBk' [x0]]
  refine ⟨⟨rfl, nf _ (by decide)⟩, rfl, post_two w5 get_last W5 wl5 i1 l01 ?_⟩
  dsimp only
  rw [bSet]
  have w6 := bWf [x0, x1]
  have b6 := hBk [x0, x1]
  have W6 := hWT (bookO (.loc s2.length) [x0, x1])
  have wl6 := wlo (T ++ [bookO (.loc s2.length) [x0, x1]]).length (by simp)
  simp only [wp_yRet, wp_xFn, wp_xTup, wp_xCons, wp_xNil]
  refine kept_mt (y := .str x1) rfl b6 (nf _ (by decide)) rfl rfl rfl (fun QR q => step_no2 w6 b6 W6 wl6 i0 (by simp) i1 (by simp) q) ?_
  refine kept_mtK (y := .str x0) rfl b6 (nf _ (by decide)) rfl rfl rfl (fun QR q => of3 (step_no2 w6 b6 W6 wl6 i1 (by simp) i0 (by simp) q)) ?_
  simp only [wp_xProp, wp_var, List.getElem?_cons_zero, List.getElem?_cons_succ]
  rw [hBk' [x0, x1]]
  refine ⟨rfl, bposts_ok w6 b6 ?_⟩
  simp only [wp_c, wp_var, List.getElem?_cons_zero, List.getElem?_cons_succ, List.map_cons, List.map_nil]
  refine ⟨by simp, by simp, by simp, by simp, by simp, rfl, same_ok w6 6 _ ?_ ?_⟩
  · have h2 : SD 5 (.tup ([x0, x1].map .str)) = true := SD_strs (n := 3) (by simp) (by simp [G0.ok, G1.ok])
    simp only [List.map_cons, List.map_nil] at h2
    show (decide (([_, _, _] : List D).length ≤ 1000) && ([_, _, _] : List D).all (SD 5)) = true
    simp only [List.all_cons, List.all_nil, pk _ G0, pk _ G1, h2]
    rfl
  refine ⟨?_, _, frz_lo rfl, fun s' g' hs' => q s' g' hs'⟩
  rw [← hT, ← hS, List.append_assoc, List.append_assoc] at w6 ⊢
  exact g12.app w6
end K84
set_option autoImplicit false
set_option maxRecDepth 100000
set_option maxHeartbeats 8000000
namespace K84
open PySem PySem.Spec L2 MM
theorem cut_ints {ns : List Int} {lo hi : Option Int} : ∃ ms : List Int, cutD (ns.map D.int) lo hi = ms.map D.int := by
  unfold cutD
  exact ⟨_, by rw [← List.map_drop, ← List.map_take]⟩
theorem slice_ints {st : List Ob} {ns : List Int} {d : D} (hd : d = .ro (ns.map D.int) ∨ d = .lst (ns.map D.int)) {lo hi : Option Int} : ∃ ms : List Int, dSlice st d lo hi = some (.lst (ms.map D.int)) := by
  obtain ⟨ms, h⟩ := cut_ints (ns := ns) (lo := lo) (hi := hi)
  refine ⟨ms, ?_⟩
  rcases hd with rfl | rfl <;> simp [dSlice, lstItems, res, h]
theorem dLt_int {i j : Int} : dLt (.int i) (.int j) = some (.bl (decide (i < j))) := rfl
theorem well_ok {st : List Ob} {ns : List Int} {d : D} (hd : d = .ro (ns.map D.int) ∨ d = .lst (ns.map D.int)) (k : Nat) {Q : D → List Ob → Prop}
    (q : ∀ a b : Int, Q (.loc st.length) (st ++ [W3 a b 0])) : wp (S_law_well [.d d, .d (.int (k : Int))]) st Q := by
  unfold S_law_well
  rw [wp_runF]
  unfold m_law_well
  have p1 : (0 : Int) < 2147483587 := by decide
  have p2 : (0 : Int) < 2147483549 := by decide
  have c1 : ∀ x : Int, cMul x 48271 := fun x => cMul_r (by decide)
  have c2 : ∀ x : Int, cMul x 53 := fun x => cMul_r (by decide)
  have c3 : ∀ x : Int, cMul x 15013 := fun x => cMul_r (by decide)
  have c4 : ∀ x : Int, cMul 6121 x := fun x => cMul_l (by decide)
  have c5 : cPow 10 15 := by decide
  obtain ⟨ms, hs⟩ := slice_ints (st := st) hd (lo := none) (hi := some 16)
  simp only [startE, List.map_cons, List.map_nil, List.length_cons, List.length_nil, List.replicate, List.cons_append, List.nil_append, wp_ySeq, wp_ySet, wp_xBin, wp_var, wp_c, List.getElem?_cons_zero, List.getElem?_cons_succ, wp_lift2, dI_int, dAdd_int, c4, if_true, List.set_cons_zero, List.set_cons_succ, onNx_nx, wp_yFor, wp_itemsL, wp_xSlice, wp_oNone, wp_oSome, hs]
  refine wp_forM (fun i ρ s => s = st ∧ ∃ (x : Int) (o : Option A), ρ = [some (.d d), some (.d (.int (k : Int))), some (.d (.int x)), o, none]) ⟨rfl, _, _, rfl⟩ ?_ ?_
  · rintro i hi ρ s ⟨rfl, x, o, rfl⟩
    have e : (ms.map D.int)[i] = .int (ms[i]'(by simpa using hi)) := by simp
    rw [e]
    simp only [wp_zName, List.set_cons_zero, List.set_cons_succ, wp_ySet, wp_xBin, wp_xCall, wp_xCons, wp_xNil, wp_var, wp_c, List.getElem?_cons_zero, List.getElem?_cons_succ, wp_lift2, wp_liftL, dInt_int, dI_int, dAdd_int, p1, p2, c1, if_true]
    exact ⟨trivial, _, _, rfl⟩
  · rintro ρ s ⟨rfl, x, o, rfl⟩
    have hln : ∀ s, dLen s [d] = some (.int ns.length) := fun s => by rcases hd with rfl | rfl <;> simp [dLen, seqItems, res]
    have fin : ∀ (a b : Int), wp (xLstM (xCons (xIf (xOrB (asB (xBin mLt (xVar 4) (xC (.int 0)))) (asB (xBin mGe (xVar 4) (xBin mPow (xC (.int 10)) (xC (.int 15)))))) (xCall (liftL dAbs) (xCons (xVar 4) xNil)) (xC (.int 0))) (xCons (xVar 2) (xCons (xC (.int 0)) xNil))) [some (.d d), some (.d (.int (k : Int))), some (.d (.int b)), o, some (.d (.int a))]) s Q := fun a b => by
      simp only [wp_xLstM, wp_xCons, wp_xNil, wp_xIf, wp_xOrB, wp_asB, wp_xBin, wp_xCall, wp_var, wp_c, List.getElem?_cons_zero, List.getElem?_cons_succ, wp_lift2, wp_liftL, dLt_int, dIB_int, dI_int, dAbs, c5, if_true, isB_bl, List.length_cons, List.length_nil]
      split
      · exact ⟨by decide, q _ _⟩
      · split
        · exact ⟨by decide, q _ _⟩
        · exact ⟨by decide, q _ _⟩
    by_cases hk : k < ns.length
    · have hx : dIx s d (.int (k : Int)) = some (.int ns[k]) := by
        have e2 : atI (ns.map D.int) (k : Int) = some (.int ns[k]) := by
          unfold atI ixN
          simp [hk]
        rcases hd with rfl | rfl
        · simp [dIx, seqItems, res, e2]
        · simp [dIx, seqItems, res, e2]
      simp only [wp_ySeq, wp_ySet, wp_xIf, wp_asB, wp_xBin, wp_xCall, wp_xCons, wp_xNil, wp_var, wp_c, List.getElem?_cons_zero, List.getElem?_cons_succ, wp_lift2, wp_liftL, hln, dLt_int, isB_bl, wp_mIx, hx, dInt_int, decide_eq_true (show (k : Int) < (ns.length : Int) by omega), if_true, List.set_cons_zero, List.set_cons_succ, onNx_nx, dI_int, dAdd_int, p1, p2, c2, c3, wp_yRet]
      exact fin _ _
    · simp only [wp_ySeq, wp_ySet, wp_xIf, wp_asB, wp_xBin, wp_xCall, wp_xCons, wp_xNil, wp_var, wp_c, List.getElem?_cons_zero, List.getElem?_cons_succ, wp_lift2, wp_liftL, hln, dLt_int, isB_bl, dInt_int, decide_eq_false (show ¬ (k : Int) < (ns.length : Int) by omega), if_true, Bool.false_eq_true, if_false, List.set_cons_zero, List.set_cons_succ, onNx_nx, dI_int, dAdd_int, p1, p2, c2, c3, wp_yRet]
      exact fin _ _
theorem law_ok {ns : List Int} {d : D} (hd : d = .ro (ns.map D.int) ∨ d = .lst (ns.map D.int)) (hl : ns.length ≤ 63) : wp (S_law [.d d]) [] fun e _ => e = .bl true := by
  unfold S_law
  refine wp_frzS ?_
  rw [wp_runF]
  unfold m_law
  have hln : ∀ s, dLen s [d] = some (.int ns.length) := fun s => by rcases hd with rfl | rfl <;> simp [dLen, seqItems, res]
  obtain ⟨L, hL3, hL⟩ : ∃ L : Nat, L ≤ 3 ∧ ∀ s, (match dMin2 s [.int ns.length, .int 2] with | some m => dMax2 s [.int 1, m] | none => none) = some (.int L) := by
    refine ⟨max 1 (min ns.length 2), by omega, fun s => ?_⟩
    simp only [dMin2, dMax2]
    congr 2
    split <;> split <;> omega
  simp only [dMin2] at hL
  simp only [startE, List.map_cons, List.map_nil, List.length_cons, List.length_nil, List.replicate, List.cons_append, List.nil_append, wp_yRet, wp_xComp, wp_itemsR1, wp_xCons, wp_xNil, wp_xCall, wp_liftL, wp_var, wp_c, List.getElem?_cons_zero, List.getElem?_cons_succ, hln, dMin2, hL]
  refine ⟨⟨by omega, by omega⟩, by simp [rangeD]; omega, ?_⟩
  simp only [wipeE, List.set_cons_zero, List.set_cons_succ]
  have hr : ∀ (n i : Nat) (h : i < (rangeD 0 n).length), (rangeD 0 n)[i] = .int (i : Int) := fun n i h => by simp [rangeD]
  refine wp_compM (fun i acc s => (∀ e ∈ acc, e = .bl true) ∧ Wf s) ⟨fun e he => (by cases he), rfl⟩ ?_ ?_
  · rintro i hi acc s ⟨ha, hw⟩
    rw [hr]
    simp only [wp_zName, List.set_cons_zero, List.set_cons_succ, wp_tYes, if_true, wp_xFn, wp_xCons, wp_xNil, wp_var, List.getElem?_cons_zero, List.getElem?_cons_succ, List.map_cons, List.map_nil]
    refine ⟨rfl, well_ok hd i fun a b => ⟨rfl, right_ok (hw.push w3_lo) ⟨a, b, 0, get_last⟩ fun s' g hs' => ⟨fun e he => ?_, g.wf⟩⟩⟩
    rcases List.mem_append.mp he with he | he
    · exact ha e he
    · exact List.mem_singleton.mp he
  · rintro acc s ⟨ha, hw⟩
    rw [allT ha]
    simp only [onNx_rt]
    exact ⟨[], s, rfl, rfl, rfl, _, frz_lo rfl, rfl⟩
theorem math (ns : List Int) (hl : ns.length ≤ 63) (hb : ∀ z ∈ ns, Builtin.Int.intBits z ≤ 1048576) (d : D) (hd : d = .ro (ns.map D.int) ∨ d = .lst (ns.map D.int)) : ∃ st, S_law [.d d] [] = some (.bl true, st) := by
  obtain ⟨e, s, h, rfl⟩ := law_ok hd hl
  exact ⟨s, h⟩
end K84
set_option maxRecDepth 100000
set_option maxHeartbeats 0
open PySem PySem.W PySem.Calls PyProof.Rows
theorem PySem.Challenge.cw_watchposts_k84_books_refuse_holds : PySem.Challenge.rw_watchposts_k84_books_refuse.Holds := by
  w_on; o_law
  refine HandSHeadRun.head_any (r := OpenLaw.row PySem.Challenge.rw_watchposts_k84_books_refuse) (q := view (OpenLaw.row PySem.Challenge.rw_watchposts_k84_books_refuse).prog [41]) (H := K84.hk) (ob := K84.ob) (M := 9000) (loose := K84.loose) (d := HandSHeadRun.topDef (OpenLaw.row PySem.Challenge.rw_watchposts_k84_books_refuse).prog 41) (kwd := []) K84.ob_eq
    (by kernel_rfl) (fun s => by kernel_rfl) K84.run (by kernel_rfl) (by kernel_rfl) (by kernel_rfl) (by rfl) (by first | assumption | decide +kernel) (by decide +kernel) ⟨rfl, rfl, rfl, rfl, rfl, by decide +kernel⟩ ?hw ?hc
  case hw => w_witness2
  case hc =>
    refine LamX.walk_ofTsE (l := PySem.Challenge.rw_watchposts_k84_books_refuse) (n := 63) (k := 26) (x := "script") (CX := fun _ => C8.CX0) rfl (by decide) (by kernel_rfl) ⟨rfl, by decide, by decide⟩ ?F (fun _ _ _ _ _ z => z)
    intro w mg fa h Y G hmg0
    obtain ⟨K, KX, c⟩ := Y
    have hmg : mg ("law" : PySem.Str) = some (.ref fa) := by
      have e : (HandSHeadRun.topDef (OpenLaw.row PySem.Challenge.rw_watchposts_k84_books_refuse).prog 41).name = ("law" : PySem.Str) := by kernel_rfl
      rw [← e]
      exact hmg0
    exact ⟨K, KX, K84.law_at KX G hmg c K84.math⟩
