import PyProof.Rows.All
import HandS.ForMost
import HandS.ForExc
import HandS.Walk
import HandS.HeadHook2
import HandS.TupAny
import HandS.TupMul
import HandS.IsInst
import HandS.FStr
import HandS.Star
import HandS.Property
import HandS.ClsMeth
import HandS.Text
import HandS.More
import HandS.RaiseMore
import HandS.Dict
import HandS.Zip
import PyProof.Draws
import PyProof.EnumMake
import HandS.Comp
import HandS.Exc
import PyProof.CallStr
import PyProof.MeetsIn
import PyProof.NeKinds
import HandS.Ends
import HandS.HeadEnd
import HandS.Words
import HandS.Head2
import PySem.Challenge.RW_ringvotes_k65_desks_set_one_by_one
set_option Elab.async false
set_option linter.all false
set_option maxRecDepth 100000
set_option maxHeartbeats 4000000
/-! Rv1: plain data, stores, what stands for what, and the judgement that a mirror is right. -/
namespace Rv
open PySem PySem.Spec L2

/-! ### data -/
/-- a dict's key, plain -/
inductive Dk where
  | int (i : Int) | str (s : List Nat)
  deriving DecidableEq, Inhabited
inductive D where
  | non | bl (b : Bool) | int (i : Int) | str (s : List Nat)
  | tup (ds : List D) | lst (ds : List D) | dct (ks : List Dk) (ds : List D)
  | obj (c : Str) (ns : List Str) (ds : List D)
  | ref (n : Nat) | cls (c : Str) | ty (n : String)
  /-- the law's script: read, never written -/
  | scr (ns : List Int)
  deriving Inhabited
/-- a thing that may be changed -/
inductive MO where
  | lst (ds : List D) | dct (ks : List Dk) (ds : List D) | ins (c : Str) (ns : List Str) (ds : List D)
  deriving Inhabited
abbrev Store := List MO
abbrev Env' := List (Option D)
inductive Out (α : Type) where
  | ok (a : α) (μ : Store) | exc (c : Str) (ns : List Str) (ds : List D) (μ : Store) | stuck
/-- expressions' mirrors -/
abbrev M (α : Type) := Env' → Store → Out α
def Out.bind {α β : Type} : Out α → (α → Store → Out β) → Out β
  | .ok a μ, f => f a μ
  | .exc c ns ds μ, _ => .exc c ns ds μ
  | .stuck, _ => .stuck
@[simp] theorem Out.bind_ok {α β : Type} (a : α) (μ : Store) (f : α → Store → Out β) : (Out.ok a μ).bind f = f a μ := rfl
@[simp] theorem Out.bind_exc {α β : Type} (c ns ds μ) (f : α → Store → Out β) : (Out.exc c ns ds μ : Out α).bind f = .exc c ns ds μ := rfl
@[simp] theorem Out.bind_stuck {α β : Type} (f : α → Store → Out β) : (Out.stuck : Out α).bind f = .stuck := rfl

def toS (s : List Nat) : Str := ⟨s.toArray⟩
def ofS (s : Str) : List Nat := s.cps.toList
@[simp] theorem ofS_toS (s : List Nat) : ofS (toS s) = s := rfl
@[simp] theorem toS_ofS (s : Str) : toS (ofS s) = s := by cases s; simp [toS, ofS]
theorem toS_inj {a b : List Nat} : toS a = toS b ↔ a = b := ⟨fun h => by have := congrArg ofS h; simpa using this, fun h => h ▸ rfl⟩
def dk : Dk → Key
  | .int i => .inl i
  | .str s => .inr (toS s)

/-! ### what stands for what: H is the part of the heap that stays as it is -/
/-- the script stands at a: one of the module's own lists, or a list whose object is known -/
def ScrAt (K : PySem.W.Frag) (H : Hp) (a : Addr) (ns : List Int) : Prop :=
  (∃ (o : Obj) (its : Array Value) (n : Nat), K.lookup a = some o ∧ o.cls = .type "list" ∧ o.dict = none ∧ o.data = .seq its n ∧ its.size ≤ sizeLine ∧ Vals (ns.map V.int) its.toList) ∨
    ∃ us : List Value, H a = some (.ext fun h => h.get? a = some { cls := .type "list", data := .seq us.toArray }) ∧ Vals (ns.map V.int) us ∧ ns.length ≤ sizeLine
section
variable (K : PySem.W.Frag) (H : Hp) (π : List Addr)
mutual
def Rep : D → V → Prop
  | .non, v => v = .non
  | .bl b, v => v = .bl b
  | .int i, v => v = .int i
  | .str s, v => v = .str (toS s)
  | .tup ds, v => ∃ a vs, v = .ref a ∧ SqT K H a vs ∧ RepL ds vs
  | .lst ds, v => ∃ a vs, v = .ref a ∧ H a = some (.lst vs) ∧ RepL ds vs
  | .dct ks ds, v => ∃ a kvs, v = .ref a ∧ H a = some (.dK kvs) ∧ kvs.map (·.1) = ks.map dk ∧ RepL ds (kvs.map (·.2))
  | .obj c ns ds, v => ∃ a dx fs, v = .ref a ∧ H a = some (.ins (He.ga K c) dx fs) ∧ fs.map (·.1) = ns ∧ RepL ds (fs.map (·.2))
  | .ref n, v => ∃ a, π[n]? = some a ∧ v = .ref a
  | .cls c, v => v = .ref (He.ga K c)
  | .ty n, v => v = .ty n
  | .scr ns, v => ∃ a, v = .ref a ∧ ScrAt K H a ns
def RepL : List D → List V → Prop
  | [], vs => vs = []
  | d :: ds, vs => ∃ v r, vs = v :: r ∧ Rep d v ∧ RepL ds r
end
end
def off (π : List Addr) (H : Hp) : Hp := fun a => if a ∈ π then none else H a
theorem off_ne {π : List Addr} {H : Hp} {a : Addr} (h : a ∉ π) : off π H a = H a := if_neg h
theorem off_some {π : List Addr} {H : Hp} {a : Addr} {o : HO} (h : off π H a = some o) : a ∉ π ∧ H a = some o := by
  unfold off at h
  by_cases q : a ∈ π
  · rw [if_pos q] at h; cases h
  · rw [if_neg q] at h; exact ⟨q, h⟩
theorem off_none {π : List Addr} {H : Hp} {a : Addr} (h : H a = none) : off π H a = none := by
  unfold off
  split
  · rfl
  · exact h
abbrev Rp (K : PySem.W.Frag) (π : List Addr) (H : Hp) : D → V → Prop := Rep K (off π H) π
abbrev RpL (K : PySem.W.Frag) (π : List Addr) (H : Hp) : List D → List V → Prop := RepL K (off π H) π
def RepO (K : PySem.W.Frag) (H : Hp) (π : List Addr) : MO → Option HO → Prop
  | .lst ds, o => ∃ vs, o = some (.lst vs) ∧ RepL K H π ds vs
  | .dct ks ds, o => ∃ kvs, o = some (.dK kvs) ∧ kvs.map (·.1) = ks.map dk ∧ RepL K H π ds (kvs.map (·.2))
  | .ins c ns ds, o => ∃ dx fs, o = some (.ins (He.ga K c) dx fs) ∧ fs.map (·.1) = ns ∧ RepL K H π ds (fs.map (·.2))
/-- an exception's class and dict -/
def RepX (K : PySem.W.Frag) (H : Hp) (π : List Addr) (ns : List Str) (ds : List D) (d : Option Addr) : Prop :=
  (ns = [] ∧ ds = [] ∧ d = none) ∨ ∃ dx fs, d = some dx ∧ H dx = some (.xd fs) ∧ fs.map (·.1) = ns ∧ RepL K H π ds (fs.map (·.2))
structure SimM (K : PySem.W.Frag) (π : List Addr) (μ : Store) (H : Hp) : Prop where
  nd : π.Nodup
  len : π.length = μ.length
  obj : ∀ (n : Nat) (a : Addr) (m : MO), π[n]? = some a → μ[n]? = some m → RepO K (off π H) π m (H a)
structure SimL (K : PySem.W.Frag) (π : List Addr) (H : Hp) (ρ : Env') (σ : L2.St) : Prop where
  len : σ.length = ρ.length
  loc : ∀ (i : Nat) (d : D), ρ[i]? = some (some d) → ∃ v, σ[i]? = some (some v) ∧ Rp K π H d v
/-- the heap has grown; what may be changed is as it stood or new -/
structure Gr (π : List Addr) (H : Hp) (π' : List Addr) (H' : Hp) : Prop where
  pre : ∃ t, π' = π ++ t
  keep : ∀ b o, off π H b = some o → off π' H' b = some o
section
variable {K : PySem.W.Frag} {π π1 π2 : List Addr} {H H1 H2 : Hp}
theorem Gr.refl : Gr π H π H := ⟨⟨[], by simp⟩, fun _ _ h => h⟩
theorem Gr.trans (a : Gr π H π1 H1) (b : Gr π1 H1 π2 H2) : Gr π H π2 H2 := by
  obtain ⟨t, e⟩ := a.pre
  obtain ⟨u, f⟩ := b.pre
  exact ⟨⟨t ++ u, by rw [f, e, List.append_assoc]⟩, fun x o h => b.keep x o (a.keep x o h)⟩
theorem Gr.get (a : Gr π H π1 H1) {n : Nat} {p : Addr} (h : π[n]? = some p) : π1[n]? = some p := by
  obtain ⟨t, e⟩ := a.pre
  rw [e, List.getElem?_append_left (List.getElem?_eq_some_iff.mp h).1]
  exact h
/-- a new thing that stays -/
theorem Gr.new {p : Addr} {o : HO} (h : H p = none) : Gr π H π (upd H p o) := ⟨⟨[], by simp⟩, fun b u q => by
  obtain ⟨q1, q2⟩ := off_some q
  rw [off_ne q1, upd_ne (ne_of_none q2 h)]
  exact q2⟩
theorem ext_rd {a : Addr} {u : HO} (e : ∀ b o, H b = some o → H1 b = some o) (h : Rd H a u) : Rd H1 a u := by
  rcases h with h | ⟨o, h⟩
  · exact .inl (e _ _ h)
  · exact .inr ⟨o, e _ _ h⟩
theorem ext_l {a : Addr} {xs : List V} (e : ∀ b o, H b = some o → H1 b = some o) (h : SqL K H a xs) : SqL K H1 a xs :=
  h.elim (fun h => .inl (ext_rd e h)) .inr
theorem ext_t {a : Addr} {xs : List V} (e : ∀ b o, H b = some o → H1 b = some o) (h : SqT K H a xs) : SqT K H1 a xs :=
  h.elim (fun h => .inl (ext_rd e h)) .inr
mutual
theorem Rep.mono (e : ∀ b o, H b = some o → H1 b = some o) (p : ∀ (n : Nat) a, π[n]? = some a → π1[n]? = some a) : ∀ {d : D} {v : V}, Rep K H π d v → Rep K H1 π1 d v
  | .non, _, h => h
  | .bl _, _, h => h
  | .int _, _, h => h
  | .str _, _, h => h
  | .tup ds, _, h => by
    unfold Rep at h ⊢
    obtain ⟨a, vs, h1, h2, h3⟩ := h
    exact ⟨a, vs, h1, ext_t e h2, RepL.mono e p h3⟩
  | .lst ds, _, h => by
    unfold Rep at h ⊢
    obtain ⟨a, vs, h1, h2, h3⟩ := h
    exact ⟨a, vs, h1, e _ _ h2, RepL.mono e p h3⟩
  | .dct ks ds, _, h => by
    unfold Rep at h ⊢
    obtain ⟨a, vs, h1, h2, h3, h4⟩ := h
    exact ⟨a, vs, h1, e _ _ h2, h3, RepL.mono e p h4⟩
  | .obj c ns ds, _, h => by
    unfold Rep at h ⊢
    obtain ⟨a, dx, fs, h1, h2, h3, h4⟩ := h
    exact ⟨a, dx, fs, h1, e _ _ h2, h3, RepL.mono e p h4⟩
  | .ref n, _, h => by
    unfold Rep at h ⊢
    obtain ⟨a, h1, h2⟩ := h
    exact ⟨a, p _ _ h1, h2⟩
  | .cls _, _, h => h
  | .ty _, _, h => h
  | .scr ns, _, h => by
    unfold Rep at h ⊢
    obtain ⟨a, h1, h2⟩ := h
    refine ⟨a, h1, ?_⟩
    rcases h2 with h2 | ⟨us, h2, h3⟩
    · exact .inl h2
    · exact .inr ⟨us, e _ _ h2, h3⟩
theorem RepL.mono (e : ∀ b o, H b = some o → H1 b = some o) (p : ∀ (n : Nat) a, π[n]? = some a → π1[n]? = some a) : ∀ {ds : List D} {vs : List V}, RepL K H π ds vs → RepL K H1 π1 ds vs
  | [], _, h => h
  | d :: ds, _, h => by
    unfold RepL at h ⊢
    obtain ⟨v, r, h1, h2, h3⟩ := h
    exact ⟨v, r, h1, Rep.mono e p h2, RepL.mono e p h3⟩
end
theorem Gr.rep (g : Gr π H π1 H1) {d : D} {v : V} (h : Rp K π H d v) : Rp K π1 H1 d v := Rep.mono g.keep (fun _ _ => g.get) h
theorem Gr.repL (g : Gr π H π1 H1) {ds : List D} {vs : List V} (h : RpL K π H ds vs) : RpL K π1 H1 ds vs := RepL.mono g.keep (fun _ _ => g.get) h
theorem Gr.loc (g : Gr π H π1 H1) {ρ : Env'} {σ : L2.St} (h : SimL K π H ρ σ) : SimL K π1 H1 ρ σ :=
  ⟨h.len, fun i d e => let ⟨v, a, b⟩ := h.loc i d e; ⟨v, a, g.rep b⟩⟩
theorem RepL.length : ∀ {ds : List D} {vs : List V}, RepL K H π ds vs → vs.length = ds.length
  | [], _, h => by unfold RepL at h; rw [h]; rfl
  | d :: ds, _, h => by
    unfold RepL at h
    obtain ⟨v, r, h1, h2, h3⟩ := h
    rw [h1, List.length_cons, List.length_cons, RepL.length h3]
theorem RepL.get : ∀ {ds : List D} {vs : List V} {i : Nat} {d : D}, RepL K H π ds vs → ds[i]? = some d → ∃ v, vs[i]? = some v ∧ Rep K H π d v
  | [], _, _, _, _, e => by simp at e
  | d :: ds, _, 0, _, h, e => by
    unfold RepL at h
    obtain ⟨v, r, h1, h2, h3⟩ := h
    simp at e; subst e
    exact ⟨v, by rw [h1]; rfl, h2⟩
  | d :: ds, _, i + 1, _, h, e => by
    unfold RepL at h
    obtain ⟨v, r, h1, h2, h3⟩ := h
    obtain ⟨u, a, b⟩ := RepL.get (i := i) h3 (by simpa using e)
    exact ⟨u, by rw [h1]; simpa using a, b⟩
theorem RepL.append : ∀ {ds es : List D} {vs us : List V}, RepL K H π ds vs → RepL K H π es us → RepL K H π (ds ++ es) (vs ++ us)
  | [], _, _, _, h, q => by unfold RepL at h; rw [h]; exact q
  | d :: ds, _, _, _, h, q => by
    unfold RepL at h
    obtain ⟨v, r, h1, h2, h3⟩ := h
    rw [h1, List.cons_append, List.cons_append]
    unfold RepL
    exact ⟨v, _, rfl, h2, RepL.append h3 q⟩
theorem RepL.one {d : D} {v : V} (h : Rep K H π d v) : RepL K H π [d] [v] := by
  unfold RepL
  exact ⟨v, [], rfl, h, by unfold RepL; rfl⟩
theorem RepL.nil : RepL K H π [] [] := by unfold RepL; rfl
theorem RepL.cons {d : D} {v : V} {ds : List D} {vs : List V} (h : Rep K H π d v) (t : RepL K H π ds vs) : RepL K H π (d :: ds) (v :: vs) := by
  unfold RepL
  exact ⟨v, vs, rfl, h, t⟩
theorem RepL.uncons {d : D} {ds : List D} {vs : List V} (h : RepL K H π (d :: ds) vs) : ∃ v r, vs = v :: r ∧ Rep K H π d v ∧ RepL K H π ds r := by
  unfold RepL at h
  exact h
theorem RepL.take : ∀ (n : Nat) {ds : List D} {vs : List V}, RepL K H π ds vs → RepL K H π (ds.take n) (vs.take n)
  | 0, _, _, _ => by simp [RepL]
  | n + 1, [], _, h => by unfold RepL at h; rw [h]; simp [RepL]
  | n + 1, d :: ds, _, h => by
    obtain ⟨v, r, h1, h2, h3⟩ := h.uncons
    rw [h1, List.take_succ_cons, List.take_succ_cons]
    exact .cons h2 (RepL.take n h3)
theorem RepL.drop : ∀ (n : Nat) {ds : List D} {vs : List V}, RepL K H π ds vs → RepL K H π (ds.drop n) (vs.drop n)
  | 0, _, _, h => h
  | n + 1, [], _, h => by unfold RepL at h; rw [h]; simp [RepL]
  | n + 1, d :: ds, _, h => by
    obtain ⟨v, r, h1, h2, h3⟩ := h.uncons
    rw [h1, List.drop_succ_cons, List.drop_succ_cons]
    exact RepL.drop n h3
theorem RepL.set : ∀ {ds : List D} {vs : List V} {d : D} {v : V} (i : Nat), Rep K H π d v → RepL K H π ds vs → RepL K H π (ds.set i d) (vs.set i v)
  | [], _, _, _, _, _, h => by unfold RepL at h; rw [h]; simp [RepL]
  | _ :: _, _, _, _, 0, q, h => by
    obtain ⟨v, r, h1, h2, h3⟩ := h.uncons
    rw [h1]
    exact .cons q h3
  | _ :: _, _, _, _, i + 1, q, h => by
    obtain ⟨v, r, h1, h2, h3⟩ := h.uncons
    rw [h1]
    exact .cons h2 (RepL.set i q h3)
theorem RepL.getV : ∀ {ds : List D} {vs : List V} {i : Nat} {v : V}, RepL K H π ds vs → vs[i]? = some v → ∃ d, ds[i]? = some d ∧ Rep K H π d v := fun {ds vs i v} h e => by
  have h1 := h.length
  have h2 := (List.getElem?_eq_some_iff.mp e).1
  have h3 : i < ds.length := by omega
  obtain ⟨u, a, b⟩ := h.get (List.getElem?_eq_getElem h3)
  rw [e] at a
  cases a
  exact ⟨_, List.getElem?_eq_getElem h3, b⟩
theorem RepO.mono {m : MO} {o : Option HO} (e : ∀ b o, H b = some o → H1 b = some o) (p : ∀ (n : Nat) a, π[n]? = some a → π1[n]? = some a) (h : RepO K H π m o) : RepO K H1 π1 m o := by
  cases m with
  | lst ds => obtain ⟨vs, a, b⟩ := h; exact ⟨vs, a, b.mono e p⟩
  | dct ks ds => obtain ⟨vs, a, b, c⟩ := h; exact ⟨vs, a, b, c.mono e p⟩
  | ins c ns ds => obtain ⟨dx, fs, a, b, c⟩ := h; exact ⟨dx, fs, a, b, c.mono e p⟩
theorem RepX.mono {ns : List Str} {ds : List D} {d : Option Addr} (e : ∀ b o, H b = some o → H1 b = some o) (p : ∀ (n : Nat) a, π[n]? = some a → π1[n]? = some a) (h : RepX K H π ns ds d) : RepX K H1 π1 ns ds d := by
  rcases h with h | ⟨dx, fs, h1, h2, h3, h4⟩
  · exact .inl h
  · exact .inr ⟨dx, fs, h1, e _ _ h2, h3, h4.mono e p⟩
/-- nothing that may be changed has changed -/
theorem SimM.grow {μ : Store} (s : SimM K π μ H) (k : ∀ b o, H b = some o → H1 b = some o) : SimM K π μ H1 ∧ Gr π H π H1 := by
  have g : ∀ b o, off π H b = some o → off π H1 b = some o := fun b o e => by
    obtain ⟨q1, q2⟩ := off_some e
    rw [off_ne q1]
    exact k _ _ q2
  refine ⟨⟨s.nd, s.len, fun n a m h1 h2 => ?_⟩, ⟨⟨[], by simp⟩, g⟩⟩
  have q := (s.obj n a m h1 h2).mono g fun _ _ h => h
  have : H1 a = H a := by
    have : ∃ o, H a = some o := by
      cases m with
      | lst ds => obtain ⟨vs, e, _⟩ := q; exact ⟨_, e⟩
      | dct ks ds => obtain ⟨vs, e, _⟩ := q; exact ⟨_, e⟩
      | ins c ns ds => obtain ⟨dx, fs, e, _⟩ := q; exact ⟨_, e⟩
    obtain ⟨o, e⟩ := this
    rw [k _ _ e, e]
  rw [this]
  exact q
theorem SimM.new {μ : Store} (s : SimM K π μ H) {p : Addr} {o : HO} (h : H p = none) : SimM K π μ (upd H p o) :=
  (s.grow fun b u e => by rw [upd_ne (ne_of_none e h)]; exact e).1
theorem SimM.in_ {μ : Store} (s : SimM K π μ H) {a : Addr} (h : H a = none) : a ∉ π := fun q => by
  obtain ⟨n, hn, e⟩ := List.getElem_of_mem q
  have hm : n < μ.length := by rw [← s.len]; exact hn
  have z := s.obj n a μ[n] (by rw [List.getElem?_eq_getElem hn, e]) (List.getElem?_eq_getElem hm)
  rw [h] at z
  cases hq : μ[n] with
  | lst ds => rw [hq] at z; obtain ⟨vs, e, _⟩ := z; cases e
  | dct ks ds => rw [hq] at z; obtain ⟨vs, e, _⟩ := z; cases e
  | ins c ns ds => rw [hq] at z; obtain ⟨dx, fs, e, _⟩ := z; cases e
/-- a new thing that may be changed -/
theorem SimM.push {μ : Store} (s : SimM K π μ H) {p : Addr} {o : HO} {m : MO} (h : H p = none) (r : RepO K (off π H) π m (some o)) :
    SimM K (π ++ [p]) (μ ++ [m]) (upd H p o) ∧ Gr π H (π ++ [p]) (upd H p o) := by
  have hp := s.in_ h
  have g : ∀ b u, off π H b = some u → off (π ++ [p]) (upd H p o) b = some u := fun b u e => by
    obtain ⟨q1, q2⟩ := off_some e
    have nb : b ≠ p := ne_of_none q2 h
    rw [off_ne (by simp [q1, nb]), upd_ne nb]
    exact q2
  have gp : ∀ (n : Nat) a, π[n]? = some a → (π ++ [p])[n]? = some a := fun n a e => by
    rw [List.getElem?_append_left (List.getElem?_eq_some_iff.mp e).1]
    exact e
  refine ⟨⟨?_, by simp [s.len], fun n a m' h1 h2 => ?_⟩, ⟨⟨[p], rfl⟩, g⟩⟩
  · rw [List.nodup_append]
    refine ⟨s.nd, by simp, fun x hx y hy => ?_⟩
    simp at hy
    subst hy
    exact fun e => hp (e ▸ hx)
  · by_cases hn : n < π.length
    · rw [List.getElem?_append_left hn] at h1
      rw [List.getElem?_append_left (by rw [← s.len]; exact hn)] at h2
      have q := (s.obj n a m' h1 h2).mono g gp
      have na : a ≠ p := fun e => hp (e ▸ List.mem_of_getElem? h1)
      rw [upd_ne na]
      exact q
    · have hl := (List.getElem?_eq_some_iff.mp h1).1
      have hn' : n = π.length := by
        rw [List.length_append, List.length_singleton] at hl
        omega
      subst hn'
      have e1 : a = p := by simpa using h1.symm
      have e2 : m' = m := by
        rw [s.len] at h2
        simpa using h2.symm
      subst e1 e2
      rw [upd_same]
      exact r.mono g gp
end

/-! ### the judgement -/
def WE (X : Cx) (e : Expr) : TE := fun σ H Q => ∀ (pins : List (Addr × Obj)) (s : Shared), Inv X pins σ H s → wpAny (model X.prog X.w) X.A (eval e X.env) (EP X pins σ Q) X.xe s
theorem pe_we {X : Cx} {e : Expr} : PE X e (WE X e) := ⟨fun pins s σ H Q I h => h pins s I⟩
theorem WE.of {X : Cx} {e : Expr} {t : TE} {σ : L2.St} {H : Hp} {Q : VK} (h : PE X e t) (q : t σ H Q) : WE X e σ H Q := fun pins s I => h.run pins s σ H Q I q
/-- an outcome is good: where it is a value, all that may come is wanted -/
def GE {α β : Type} (X : Cx) (W : WX) (R : List Addr → Hp → α → β → Prop) (π : List Addr) (σ : L2.St) (H : Hp) (Q : β → Hp → Prop) : Out α → Prop
  | .ok d μ' => ∀ v H' π', Gr π H π' H' → SimM X.K π' μ' H' → R π' H' d v → Q v H'
  | .exc c ns ds μ' => ∀ d H' π', Gr π H π' H' → SimM X.K π' μ' H' → RepX X.K (off π' H') π' ns ds d → W (.ref (He.ga X.K c)) d σ H'
  | .stuck => False
section
variable {α α' β β' : Type} {X : Cx} {W : WX} {R : List Addr → Hp → α → β → Prop} {R' : List Addr → Hp → α' → β' → Prop} {π π1 : List Addr} {σ : L2.St} {H H1 : Hp} {Q : β → Hp → Prop} {o : Out α}
theorem GE.mono (g : Gr π H π1 H1) (h : GE X W R π σ H Q o) : GE X W R π1 σ H1 Q o := by
  cases o with
  | ok d μ => exact fun v H' π' g' s r => h v H' π' (g.trans g') s r
  | exc c ns ds μ => exact fun d H' π' g' s r => h d H' π' (g.trans g') s r
  | stuck => exact h
/-- one thing behind another -/
theorem GE.bind {f : α → Store → Out α'} {Q' : β' → Hp → Prop} (h : GE X W R' π σ H Q' (o.bind f))
    (k : ∀ d μ1 v H1 π1, o = .ok d μ1 → Gr π H π1 H1 → SimM X.K π1 μ1 H1 → R π1 H1 d v → GE X W R' π1 σ H1 Q' (f d μ1) → Q v H1) : GE X W R π σ H Q o := by
  cases o with
  | ok d μ => exact fun v H' π' g s r => k d μ v H' π' rfl g s r (GE.mono g h)
  | exc c ns ds μ => exact h
  | stuck => exact h
theorem GE.imp {Q' : β → Hp → Prop} (h : GE X W R π σ H Q o) (k : ∀ v H', Q v H' → Q' v H') : GE X W R π σ H Q' o := by
  cases o with
  | ok d μ => exact fun v H' π' g s r => k _ _ (h v H' π' g s r)
  | exc c ns ds μ => exact h
  | stuck => exact h
end
/-- the mirror m of an expression is right; W: what is wanted of an exception -/
def SE (X : Cx) (W : WX) (e : Expr) (m : M D) : Prop := ∀ (π : List Addr) (ρ : Env') (μ : Store) (σ : L2.St) (H : Hp) (Q : VK), SimM X.K π μ H → SimL X.K π H ρ σ → GE X W (Rp X.K) π σ H Q (m ρ μ) → WE X e σ H Q
/-- the mirror of a test -/
def WT (X : Cx) (e : Expr) : TT := fun σ H Q => ∀ (pins : List (Addr × Obj)) (s : Shared), Inv X pins σ H s → wpAny (model X.prog X.w) X.A (isTrue e X.env (eval e X.env)) (TP X pins σ Q) X.xe s
theorem pt_wt {X : Cx} {e : Expr} : PT X e (WT X e) := ⟨fun pins s σ H Q I h => h pins s I⟩
theorem WT.of {X : Cx} {e : Expr} {t : TT} {σ : L2.St} {H : Hp} {Q : Bool → Hp → Prop} (h : PT X e t) (q : t σ H Q) : WT X e σ H Q := fun pins s I => h.run pins s σ H Q I q
abbrev RB : List Addr → Hp → Bool → Bool → Prop := fun _ _ b c => b = c
def ST (X : Cx) (W : WX) (e : Expr) (m : M Bool) : Prop := ∀ (π : List Addr) (ρ : Env') (μ : Store) (σ : L2.St) (H : Hp) (Q : Bool → Hp → Prop), SimM X.K π μ H → SimL X.K π H ρ σ → GE X W RB π σ H Q (m ρ μ) → WT X e σ H Q
/-- .. of arguments -/
def WA (X : Cx) (es : List Expr) : TA := fun σ H Q => ∀ (pos : Pos) (pins : List (Addr × Obj)) (s : Shared), Inv X pins σ H s → wpAny (model X.prog X.w) X.A (spliced (backTo pos (starEach es X.env))) (AP X pins σ Q) X.xe s
theorem pa_wa {X : Cx} {es : List Expr} : PA X es (WA X es) := ⟨fun pos pins s σ H Q I h => h pos pins s I⟩
theorem WA.of {X : Cx} {es : List Expr} {t : TA} {σ : L2.St} {H : Hp} {Q : List V → Hp → Prop} (h : PA X es t) (q : t σ H Q) : WA X es σ H Q := fun pos pins s I => h.run pos pins s σ H Q I q
def SA (X : Cx) (W : WX) (es : List Expr) (m : M (List D)) : Prop := ∀ (π : List Addr) (ρ : Env') (μ : Store) (σ : L2.St) (H : Hp) (Q : List V → Hp → Prop), SimM X.K π μ H → SimL X.K π H ρ σ → GE X W (RpL X.K) π σ H Q (m ρ μ) → WA X es σ H Q

/-! ### statements -/
inductive OutS where
  | nx (ρ : Env') (μ : Store) | ret (d : D) (μ : Store) | brk (ρ : Env') (μ : Store) | ct (ρ : Env') (μ : Store)
  | exc (c : Str) (ns : List Str) (ds : List D) (ρ : Env') (μ : Store) | stuck
abbrev C := Env' → Store → OutS
def OutS.bind : OutS → C → OutS
  | .nx ρ μ, f => f ρ μ
  | o, _ => o
/-- an expression's outcome, then a statement's -/
def Out.bindS {α : Type} : Out α → Env' → (α → Store → OutS) → OutS
  | .ok a μ, _, f => f a μ
  | .exc c ns ds μ, ρ, _ => .exc c ns ds ρ μ
  | .stuck, _, _ => .stuck
def WSs (X : Cx) (st : List Stmt) : TS := fun D σ H => ∀ (pins : List (Addr × Obj)) (s : Shared), Inv X pins σ H s → wpAny (model X.prog X.w) X.A (execs st X.env) (SP X pins D) X.xe s
def WS (X : Cx) (st : Stmt) : TS := fun D σ H => ∀ (pins : List (Addr × Obj)) (s : Shared), Inv X pins σ H s → wpAny (model X.prog X.w) X.A (exec st X.env) (SP X pins D) X.xe s
theorem ps_ws {X : Cx} {st : Stmt} : PS X st (WS X st) := ⟨fun pins s σ H D I h => h pins s I⟩
theorem pss_wss {X : Cx} {st : List Stmt} : PSs X st (WSs X st) := ⟨fun pins s σ H D I h => h pins s I⟩
theorem WS.of {X : Cx} {st : Stmt} {t : TS} {σ : L2.St} {H : Hp} {D : Ends} (h : PS X st t) (q : t D σ H) : WS X st D σ H := fun pins s I => h.run pins s σ H D I q
theorem WSs.of {X : Cx} {st : List Stmt} {t : TS} {σ : L2.St} {H : Hp} {D : Ends} (h : PSs X st t) (q : t D σ H) : WSs X st D σ H := fun pins s I => h.run pins s σ H D I q
/-- what is wanted behind an outcome -/
def GS (X : Cx) (W : WX) (π : List Addr) (H : Hp) (D : Ends) : OutS → Prop
  | .nx ρ' μ' => ∀ σ' H' π', Gr π H π' H' → SimM X.K π' μ' H' → SimL X.K π' H' ρ' σ' → D.nx σ' H'
  | .ret d μ' => ∀ v H' π', Gr π H π' H' → SimM X.K π' μ' H' → Rp X.K π' H' d v → D.rt v H'
  | .brk ρ' μ' => ∀ σ' H' π', Gr π H π' H' → SimM X.K π' μ' H' → SimL X.K π' H' ρ' σ' → D.bk σ' H'
  | .ct ρ' μ' => ∀ σ' H' π', Gr π H π' H' → SimM X.K π' μ' H' → SimL X.K π' H' ρ' σ' → D.ct σ' H'
  | .exc c ns ds ρ' μ' => ∀ d σ' H' π', Gr π H π' H' → SimM X.K π' μ' H' → SimL X.K π' H' ρ' σ' → RepX X.K (off π' H') π' ns ds d → W (.ref (He.ga X.K c)) d σ' H'
  | .stuck => False
def SS (X : Cx) (W : WX) (st : Stmt) (c : C) : Prop := ∀ (π : List Addr) (ρ : Env') (μ : Store) (σ : L2.St) (H : Hp) (D : Ends), SimM X.K π μ H → SimL X.K π H ρ σ → GS X W π H D (c ρ μ) → WS X st D σ H
def SSs (X : Cx) (W : WX) (st : List Stmt) (c : C) : Prop := ∀ (π : List Addr) (ρ : Env') (μ : Store) (σ : L2.St) (H : Hp) (D : Ends), SimM X.K π μ H → SimL X.K π H ρ σ → GS X W π H D (c ρ μ) → WSs X st D σ H
section
variable {X : Cx} {W : WX} {π π1 : List Addr} {σ : L2.St} {ρ : Env'} {μ : Store} {H H1 : Hp} {Dn D' : Ends} {o : OutS}
theorem GS.mono (g : Gr π H π1 H1) (h : GS X W π H Dn o) : GS X W π1 H1 Dn o := by
  cases o with
  | nx ρ μ => exact fun σ' H' π' g' => h σ' H' π' (g.trans g')
  | ret d μ => exact fun v H' π' g' => h v H' π' (g.trans g')
  | brk ρ μ => exact fun σ' H' π' g' => h σ' H' π' (g.trans g')
  | ct ρ μ => exact fun σ' H' π' g' => h σ' H' π' (g.trans g')
  | exc c ns ds ρ μ => exact fun d σ' H' π' g' => h d σ' H' π' (g.trans g')
  | stuck => exact h
/-- an expression, then the rest of the statement -/
theorem GE.bindS {α β : Type} {R : List Addr → Hp → α → β → Prop} {o : Out α} {f : α → Store → OutS} {Q : β → Hp → Prop} (sl : SimL X.K π H ρ σ) (h : GS X W π H Dn (o.bindS ρ f))
    (k : ∀ d μ1 v H1 π1, o = .ok d μ1 → Gr π H π1 H1 → SimM X.K π1 μ1 H1 → R π1 H1 d v → GS X W π1 H1 Dn (f d μ1) → Q v H1) : GE X W R π σ H Q o := by
  cases o with
  | ok d μ => exact fun v H' π' g s r => k d μ v H' π' rfl g s r (GS.mono g h)
  | exc c ns ds μ => exact fun d H' π' g s r => h d σ H' π' g s (g.loc sl) r
  | stuck => exact h
theorem GS.bind {f : C} (h : GS X W π H Dn (o.bind f))
    (k : ∀ ρ1 μ1 σ1 H1 π1, o = .nx ρ1 μ1 → Gr π H π1 H1 → SimM X.K π1 μ1 H1 → SimL X.K π1 H1 ρ1 σ1 → GS X W π1 H1 Dn (f ρ1 μ1) → D'.nx σ1 H1) (h1 : D'.rt = Dn.rt) (h2 : D'.bk = Dn.bk) (h3 : D'.ct = Dn.ct) : GS X W π H D' o := by
  cases o with
  | nx ρ μ => exact fun σ' H' π' g s l => k ρ μ σ' H' π' rfl g s l (GS.mono g h)
  | ret d μ => unfold GS; rw [h1]; exact h
  | brk ρ μ => unfold GS; rw [h2]; exact h
  | ct ρ μ => unfold GS; rw [h3]; exact h
  | exc c ns ds ρ μ => exact h
  | stuck => exact h
end
end Rv
set_option Elab.async false
set_option linter.all false
set_option maxRecDepth 100000
set_option maxHeartbeats 4000000
/-! Rv2: equality of data, regions, a def's promise, a def from its body. -/
namespace Rv
open PySem PySem.Spec L2
open PyProof.Rows hiding St

/-! ### equality of data -/
mutual
def D.beq : D → D → Bool
  | .non, .non => true
  | .bl a, .bl b => a == b
  | .int a, .int b => a == b
  | .str a, .str b => a == b
  | .tup a, .tup b => D.beqL a b
  | .lst a, .lst b => D.beqL a b
  | .dct k a, .dct l b => k == l && D.beqL a b
  | .obj c n a, .obj d m b => c == d && (n == m && D.beqL a b)
  | .ref a, .ref b => a == b
  | .cls a, .cls b => a == b
  | .ty a, .ty b => a == b
  | .scr a, .scr b => a == b
  | _, _ => false
def D.beqL : List D → List D → Bool
  | [], [] => true
  | a :: l, b :: r => D.beq a b && D.beqL l r
  | _, _ => false
end
mutual
theorem D.beq_eq : ∀ {a b : D}, D.beq a b = true → a = b := fun {a b} h => by
  cases a <;> cases b <;> simp only [D.beq, Bool.and_eq_true, beq_iff_eq] at h <;> first | rfl | (cases h; done) | (rw [h]; done) | skip
  · rw [D.beqL_eq h]
  · rw [D.beqL_eq h]
  · rw [h.1, D.beqL_eq h.2]
  · rw [h.1, h.2.1, D.beqL_eq h.2.2]
theorem D.beqL_eq : ∀ {a b : List D}, D.beqL a b = true → a = b
  | [], [], _ => rfl
  | a :: l, b :: r, h => by
    simp only [D.beqL, Bool.and_eq_true] at h
    rw [D.beq_eq h.1, D.beqL_eq h.2]
  | [], _ :: _, h => by simp [D.beqL] at h
  | _ :: _, [], h => by simp [D.beqL] at h
end
mutual
theorem D.beq_refl : ∀ a : D, D.beq a a = true
  | .non => rfl
  | .bl a => by simp [D.beq]
  | .int a => by simp [D.beq]
  | .str a => by simp [D.beq]
  | .tup a => by simp only [D.beq]; exact D.beqL_refl a
  | .lst a => by simp only [D.beq]; exact D.beqL_refl a
  | .dct k a => by simp only [D.beq, beq_self_eq_true, Bool.true_and]; exact D.beqL_refl a
  | .obj c n a => by simp only [D.beq, beq_self_eq_true, Bool.true_and]; exact D.beqL_refl a
  | .ref a => by simp [D.beq]
  | .cls a => by simp [D.beq]
  | .ty a => by simp [D.beq]
  | .scr a => by simp [D.beq]
theorem D.beqL_refl : ∀ a : List D, D.beqL a a = true
  | [] => rfl
  | a :: l => by simp only [D.beqL, D.beq_refl a, D.beqL_refl l, Bool.and_self]
end
instance : DecidableEq D := fun a b => if h : D.beq a b = true then isTrue (D.beq_eq h) else isFalse fun e => h (e ▸ D.beq_refl a)
def MO.beq : MO → MO → Bool
  | .lst a, .lst b => D.beqL a b
  | .dct k a, .dct l b => k == l && D.beqL a b
  | .ins c n a, .ins d m b => c == d && (n == m && D.beqL a b)
  | _, _ => false
theorem MO.beq_eq {a b : MO} (h : MO.beq a b = true) : a = b := by
  cases a <;> cases b <;> simp only [MO.beq, Bool.and_eq_true, beq_iff_eq] at h <;> first | (cases h; done) | skip
  · rw [D.beqL_eq h]
  · rw [h.1, D.beqL_eq h.2]
  · rw [h.1, h.2.1, D.beqL_eq h.2.2]
theorem MO.beq_refl (a : MO) : MO.beq a a = true := by
  cases a <;> simp [MO.beq, D.beqL_refl]
instance : DecidableEq MO := fun a b => if h : MO.beq a b = true then isTrue (MO.beq_eq h) else isFalse fun e => h (e ▸ MO.beq_refl a)

/-! ### references below a bound -/
mutual
def D.low (n : Nat) : D → Bool
  | .ref k => decide (k < n)
  | .tup ds => D.lowL n ds
  | .lst ds => D.lowL n ds
  | .dct _ ds => D.lowL n ds
  | .obj _ _ ds => D.lowL n ds
  | _ => true
def D.lowL (n : Nat) : List D → Bool
  | [] => true
  | d :: ds => D.low n d && D.lowL n ds
end
theorem D.lowL_all (n : Nat) : ∀ ds : List D, D.lowL n ds = ds.all (D.low n)
  | [] => rfl
  | d :: ds => by simp only [D.lowL, List.all_cons, D.lowL_all n ds]
def MO.low (n : Nat) : MO → Bool
  | .lst ds => D.lowL n ds
  | .dct _ ds => D.lowL n ds
  | .ins _ _ ds => D.lowL n ds
section
variable {K : PySem.W.Frag} {H : Hp} {π : List Addr} {n : Nat}
mutual
theorem Rep.take : ∀ {d : D} {v : V}, D.low n d = true → Rep K H π d v → Rep K H (π.take n) d v
  | .non, _, _, h => h
  | .bl _, _, _, h => h
  | .int _, _, _, h => h
  | .str _, _, _, h => h
  | .tup ds, _, b, h => by
    unfold Rep at h ⊢
    obtain ⟨a, vs, h1, h2, h3⟩ := h
    exact ⟨a, vs, h1, h2, RepL.takeP b h3⟩
  | .lst ds, _, b, h => by
    unfold Rep at h ⊢
    obtain ⟨a, vs, h1, h2, h3⟩ := h
    exact ⟨a, vs, h1, h2, RepL.takeP b h3⟩
  | .dct ks ds, _, b, h => by
    unfold Rep at h ⊢
    obtain ⟨a, vs, h1, h2, h3, h4⟩ := h
    exact ⟨a, vs, h1, h2, h3, RepL.takeP b h4⟩
  | .obj c ns ds, _, b, h => by
    unfold Rep at h ⊢
    obtain ⟨a, dx, fs, h1, h2, h3, h4⟩ := h
    exact ⟨a, dx, fs, h1, h2, h3, RepL.takeP b h4⟩
  | .ref k, _, b, h => by
    unfold Rep at h ⊢
    obtain ⟨a, h1, h2⟩ := h
    have b' : k < n := by simpa [D.low] using b
    exact ⟨a, by rw [List.getElem?_take_of_lt b']; exact h1, h2⟩
  | .cls _, _, _, h => h
  | .ty _, _, _, h => h
  | .scr _, _, _, h => h
theorem RepL.takeP : ∀ {ds : List D} {vs : List V}, D.lowL n ds = true → RepL K H π ds vs → RepL K H (π.take n) ds vs
  | [], _, _, h => h
  | d :: ds, _, b, h => by
    obtain ⟨v, r, h1, h2, h3⟩ := h.uncons
    rw [h1]
    simp only [D.lowL, Bool.and_eq_true] at b
    exact .cons (Rep.take b.1 h2) (RepL.takeP b.2 h3)
end
theorem RepO.take {m : MO} {o : Option HO} (b : MO.low n m = true) (h : RepO K H π m o) : RepO K H (π.take n) m o := by
  cases m with
  | lst ds => obtain ⟨vs, h1, h2⟩ := h; exact ⟨vs, h1, h2.takeP b⟩
  | dct ks ds => obtain ⟨vs, h1, h2, h3⟩ := h; exact ⟨vs, h1, h2, h3.takeP b⟩
  | ins c ns ds => obtain ⟨dx, fs, h1, h2, h3⟩ := h; exact ⟨dx, fs, h1, h2, h3.takeP b⟩
mutual
/-- what is told by n places names none behind them -/
theorem Rep.low (hn : π.length ≤ n) : ∀ {d : D} {v : V}, Rep K H π d v → D.low n d = true
  | .non, _, _ => rfl
  | .bl _, _, _ => rfl
  | .int _, _, _ => rfl
  | .str _, _, _ => rfl
  | .tup ds, _, h => by
    unfold Rep at h
    obtain ⟨a, vs, h1, h2, h3⟩ := h
    exact RepL.low hn h3
  | .lst ds, _, h => by
    unfold Rep at h
    obtain ⟨a, vs, h1, h2, h3⟩ := h
    exact RepL.low hn h3
  | .dct ks ds, _, h => by
    unfold Rep at h
    obtain ⟨a, vs, h1, h2, h3, h4⟩ := h
    exact RepL.low hn h4
  | .obj c ns ds, _, h => by
    unfold Rep at h
    obtain ⟨a, dx, fs, h1, h2, h3, h4⟩ := h
    exact RepL.low hn h4
  | .ref k, _, h => by
    unfold Rep at h
    obtain ⟨a, h1, h2⟩ := h
    have := (List.getElem?_eq_some_iff.mp h1).1
    simp only [D.low, decide_eq_true_eq]
    omega
  | .cls _, _, _ => rfl
  | .ty _, _, _ => rfl
  | .scr _, _, _ => rfl
theorem RepL.low (hn : π.length ≤ n) : ∀ {ds : List D} {vs : List V}, RepL K H π ds vs → D.lowL n ds = true
  | [], _, _ => rfl
  | d :: ds, _, h => by
    obtain ⟨v, r, h1, h2, h3⟩ := h.uncons
    simp only [D.lowL, Rep.low hn h2, RepL.low hn h3, Bool.and_self]
end
theorem RepO.low {m : MO} {o : Option HO} (hn : π.length ≤ n) (h : RepO K H π m o) : MO.low n m = true := by
  cases m with
  | lst ds => obtain ⟨vs, h1, h2⟩ := h; exact h2.low hn
  | dct ks ds => obtain ⟨vs, h1, h2, h3⟩ := h; exact h3.low hn
  | ins c ns ds => obtain ⟨dx, fs, h1, h2, h3⟩ := h; exact h3.low hn
end

/-! ### regions: what a def makes for itself is let go at its end -/
/-- a list, a dict, an instance that is let go stays as it is from then on -/
def frz (n : Nat) (μ : Store) : D → D
  | .ref k => if k < n then .ref k else match μ[k]? with
    | some (.lst ds) => .lst ds
    | some (.dct ks ds) => .dct ks ds
    | some (.ins c ns ds) => .obj c ns ds
    | none => .ref k
  | d => d
def kept (n : Nat) (μ μ' : Store) : Bool := decide (μ'.take n = μ) || (μ'.take n).all (MO.low n)
theorem kept_same (μ : Store) : kept μ.length μ μ = true := by simp [kept]
theorem kept_app (μ ν : Store) : kept μ.length μ (μ ++ ν) = true := by simp [kept]
/-- the end of a body: the value handed back, all that was made let go -/
def region (μ : Store) : OutS → Out D
  | .ret d μ' => if kept μ.length μ μ' && D.low μ.length (frz μ.length μ' d) then .ok (frz μ.length μ' d) (μ'.take μ.length) else .stuck
  | .nx _ μ' => if kept μ.length μ μ' then .ok .non (μ'.take μ.length) else .stuck
  | .exc c ns ds _ μ' => if kept μ.length μ μ' && D.lowL μ.length (ds.map (frz μ.length μ')) then .exc c ns (ds.map (frz μ.length μ')) (μ'.take μ.length) else .stuck
  | _ => .stuck
/-- .. where the value is one new thing that goes on being changed -/
def region1 (μ : Store) : OutS → Out D
  | .ret (.ref k) μ' => match μ'[k]? with
    | some m => if decide (μ.length ≤ k) && (kept μ.length μ μ' && MO.low μ.length m) then .ok (.ref μ.length) (μ'.take μ.length ++ [m]) else .stuck
    | none => .stuck
  | _ => .stuck
section
variable {K : PySem.W.Frag} {H H0 : Hp} {π π0 : List Addr} {μ μ0 : Store}
/-- the part of the store that stood before -/
theorem SimM.take (s : SimM K π μ H) (s0 : SimM K π0 μ0 H0) (g : Gr π0 H0 π H) (k : kept μ0.length μ0 μ = true) :
    SimM K π0 (μ.take μ0.length) H ∧ Gr π0 H0 π0 H ∧ π.take μ0.length = π0 ∧ (∀ b o, off π H b = some o → off π0 H b = some o) := by
  obtain ⟨t, ht⟩ := g.pre
  have hp : π.take μ0.length = π0 := by rw [ht, ← s0.len, List.take_left]
  have ho : ∀ b o, off π H b = some o → off π0 H b = some o := fun b o e => by
    obtain ⟨q1, q2⟩ := off_some e
    rw [off_ne fun z => q1 (by rw [ht]; exact List.mem_append_left _ z)]
    exact q2
  have hl : μ0.length ≤ μ.length := by rw [← s.len, ← s0.len, ht]; simp
  refine ⟨⟨s0.nd, ?_, fun n a m h1 h2 => ?_⟩, ⟨⟨[], by simp⟩, fun b o e => ho b o (g.keep b o e)⟩, hp, ho⟩
  · rw [List.length_take, s0.len]; omega
  · have hn : n < μ0.length := by rw [← s0.len]; exact (List.getElem?_eq_some_iff.mp h1).1
    rw [List.getElem?_take_of_lt hn] at h2
    have h1' : π[n]? = some a := g.get h1
    have q := s.obj n a m h1' h2
    have hb : MO.low μ0.length m = true := by
      unfold kept at k
      rw [Bool.or_eq_true] at k
      rcases k with k | k
      · have e : μ.take μ0.length = μ0 := of_decide_eq_true k
        have h3 : μ0[n]? = some m := by rw [← e, List.getElem?_take_of_lt hn]; exact h2
        exact (s0.obj n a m h1 h3).low (Nat.le_of_eq s0.len)
      · exact List.all_eq_true.mp k m (List.mem_of_getElem? (by rw [List.getElem?_take_of_lt hn]; exact h2))
    have q2 := q.take hb
    rw [hp] at q2
    exact q2.mono ho fun _ _ h => h
theorem Rep.frz (s : SimM K π μ H) (s0 : SimM K π0 μ0 H0) (hp : π.take μ0.length = π0) (ho : ∀ b o, off π H b = some o → off π0 H b = some o) {d : D} {v : V} (h : Rep K (off π H) π d v)
    (b : D.low μ0.length (Rv.frz μ0.length μ d) = true) : Rep K (off π0 H) π0 (Rv.frz μ0.length μ d) v := by
  have fin : ∀ {d : D}, D.low μ0.length d = true → Rep K (off π H) π d v → Rep K (off π0 H) π0 d v := fun {d} b h => by
    have q := Rep.take b h
    rw [hp] at q
    exact q.mono ho fun _ _ h => h
  cases d with
  | ref k =>
    unfold Rv.frz at b ⊢
    dsimp only at b ⊢
    by_cases hk : k < μ0.length
    · rw [if_pos hk] at b ⊢
      exact fin b h
    · rw [if_neg hk] at b ⊢
      unfold Rep at h
      obtain ⟨a, h1, h2⟩ := h
      have hkl : k < μ.length := by rw [← s.len]; exact (List.getElem?_eq_some_iff.mp h1).1
      have na : a ∉ π0 := fun z => by
        rw [← hp] at z
        obtain ⟨j, hj, e⟩ := List.getElem_of_mem z
        rw [List.length_take] at hj
        rw [List.getElem_take] at e
        have h3 : π[j]? = some a := by rw [List.getElem?_eq_getElem (by omega), e]
        have : j = k := by
          obtain ⟨l1, e1⟩ := List.getElem?_eq_some_iff.mp h3
          obtain ⟨l2, e2⟩ := List.getElem?_eq_some_iff.mp h1
          exact (List.getElem_inj s.nd).mp (e1.trans e2.symm)
        omega
      have q := s.obj k a μ[k] h1 (List.getElem?_eq_getElem hkl)
      rw [List.getElem?_eq_getElem hkl] at b ⊢
      cases hm : μ[k] with
      | lst ds =>
        rw [hm] at q b
        obtain ⟨vs, q1, q2⟩ := q
        unfold Rep
        refine ⟨a, vs, h2, by rw [off_ne na]; exact q1, ?_⟩
        have z := q2.takeP (n := μ0.length) b
        rw [hp] at z
        exact z.mono ho fun _ _ h => h
      | dct ks ds =>
        rw [hm] at q b
        obtain ⟨vs, q1, q2, q3⟩ := q
        unfold Rep
        refine ⟨a, vs, h2, by rw [off_ne na]; exact q1, q2, ?_⟩
        have z := q3.takeP (n := μ0.length) b
        rw [hp] at z
        exact z.mono ho fun _ _ h => h
      | ins c ns ds =>
        rw [hm] at q b
        obtain ⟨dx, fs, q1, q2, q3⟩ := q
        unfold Rep
        refine ⟨a, dx, fs, h2, by rw [off_ne na]; exact q1, q2, ?_⟩
        have z := q3.takeP (n := μ0.length) b
        rw [hp] at z
        exact z.mono ho fun _ _ h => h
  | _ => exact fin b h
theorem RepL.frz (s : SimM K π μ H) (s0 : SimM K π0 μ0 H0) (hp : π.take μ0.length = π0) (ho : ∀ b o, off π H b = some o → off π0 H b = some o) : ∀ {ds : List D} {vs : List V}, RepL K (off π H) π ds vs →
    D.lowL μ0.length (ds.map (Rv.frz μ0.length μ)) = true → RepL K (off π0 H) π0 (ds.map (Rv.frz μ0.length μ)) vs
  | [], _, h, _ => h
  | d :: ds, _, h, b => by
    obtain ⟨v, r, h1, h2, h3⟩ := h.uncons
    rw [h1]
    simp only [List.map_cons, D.lowL, Bool.and_eq_true] at b ⊢
    exact .cons (Rep.frz s s0 hp ho h2 b.1) (RepL.frz s s0 hp ho h3 b.2)
end

/-! ### a def's promise by its mirror -/
abbrev Fn := List D → Store → Out D
/-- called with what stands for ds, the def does what F says -/
def spG (K : PySem.W.Frag) (n : Nat) (F : Fn) : Sp := fun vs H Q E => ∃ (π : List Addr) (μ : Store) (ds : List D), ds.length = n ∧ SimM K π μ H ∧ RpL K π H ds vs ∧ match F ds μ with
  | .ok d μ' => ∀ v H' π', Gr π H π' H' → SimM K π' μ' H' → Rp K π' H' d v → Q v H'
  | .exc c ns ds' μ' => ∀ d H' π', Gr π H π' H' → SimM K π' μ' H' → RepX K (off π' H') π' ns ds' d → E (.ref (He.ga K c)) d H'
  | .stuck => False
/-- a caller's use of the promise -/
theorem spG_of {X : Cx} {W : WX} {n : Nat} {F : Fn} {π : List Addr} {μ : Store} {σ : L2.St} {H : Hp} {Q : VK} {ds : List D} {vs : List V} (s : SimM X.K π μ H) (r : RpL X.K π H ds vs) (hn : ds.length = n) (h : GE X W (Rp X.K) π σ H Q (F ds μ)) :
    spG X.K n F vs H Q (fun c d H' => W c d σ H') := by
  refine ⟨π, μ, ds, hn, s, r, ?_⟩
  cases e : F ds μ with
  | ok d μ' => rw [e] at h; exact h
  | exc c ns ds' μ' => rw [e] at h; exact h
  | stuck => rw [e] at h; exact h
/-- how a body begins: the arguments, the other slots empty -/
def begin (n : Nat) (ds : List D) : Env' := ds.map some ++ List.replicate (n - ds.length) none
/-- the mirror of a def from its body's -/
def runF (n : Nat) (c : C) : Fn := fun ds μ => region μ (c (begin n ds) μ)
def runF1 (n : Nat) (c : C) : Fn := fun ds μ => region1 μ (c (begin n ds) μ)
theorem sim_begin {K : PySem.W.Frag} {π : List Addr} {H : Hp} {ds : List D} {vs : List V} {N : List Str} (r : RpL K π H ds vs) (hl : ds.length ≤ N.length) : SimL K π H (begin N.length ds) (L2.start N vs) := by
  have e := r.length
  refine ⟨?_, fun i d h => ?_⟩
  · unfold L2.start begin
    simp only [List.length_append, List.length_map, List.length_replicate]
    omega
  · unfold begin at h
    by_cases hi : i < ds.length
    · rw [List.getElem?_append_left (by simpa using hi), List.getElem?_map] at h
      rw [List.getElem?_eq_getElem hi] at h
      have h' : ds[i] = d := by simpa using h
      obtain ⟨v, h1, h2⟩ := r.get (List.getElem?_eq_getElem hi)
      refine ⟨v, ?_, h' ▸ h2⟩
      unfold L2.start
      rw [List.getElem?_append_left (by rw [List.length_map]; omega), List.getElem?_map, h1]
      rfl
    · rw [List.getElem?_append_right (by simpa using hi), List.getElem?_replicate] at h
      split at h <;> cases h
/-- what a body must do -/
theorem body_ok {X : Cx} {body : List Stmt} {c : C} {n : Nat} {H : Hp} {Q : VK} {E : XK} {vs : List V} {ps : List Str} (hb : SSs X (fun cls d _ H' => E cls d H') body c) (hn : n ≤ X.N.length)
    (h : spG X.K n (runF X.N.length c) vs H Q E) : WSs X body { nx := fun _ H' => Q .non H', rt := Q } (L2.start X.N vs) H := by
  obtain ⟨π, μ, ds, hd, s, r, h⟩ := h
  refine hb π (begin X.N.length ds) μ _ H _ s (sim_begin r (by omega)) ?_
  unfold runF at h
  cases e : c (begin X.N.length ds) μ with
  | nx ρ μ' =>
    rw [e] at h
    simp only [region] at h
    by_cases hk : kept μ.length μ μ' = true
    · rw [if_pos hk] at h
      intro σ' H' π' g s' l'
      obtain ⟨s1, g1, hp, ho⟩ := s'.take s g hk
      exact h .non H' π g1 s1 rfl
    · rw [if_neg hk] at h
      exact h.elim
  | ret d μ' =>
    rw [e] at h
    simp only [region] at h
    by_cases hk : (kept μ.length μ μ' && D.low μ.length (frz μ.length μ' d)) = true
    · rw [if_pos hk] at h
      rw [Bool.and_eq_true] at hk
      intro v H' π' g s' l'
      obtain ⟨s1, g1, hp, ho⟩ := s'.take s g hk.1
      exact h v H' π g1 s1 (Rep.frz s' s hp ho l' hk.2)
    · rw [if_neg hk] at h
      exact h.elim
  | exc cc ns ds' ρ μ' =>
    rw [e] at h
    simp only [region] at h
    by_cases hk : (kept μ.length μ μ' && D.lowL μ.length (ds'.map (frz μ.length μ'))) = true
    · rw [if_pos hk] at h
      rw [Bool.and_eq_true] at hk
      intro d σ' H' π' g s' l' x
      obtain ⟨s1, g1, hp, ho⟩ := s'.take s g hk.1
      refine h d H' π g1 s1 ?_
      rcases x with ⟨x1, x2, x3⟩ | ⟨dx, fs, x1, x2, x3, x4⟩
      · exact .inl ⟨x1, by rw [x2]; rfl, x3⟩
      · exact .inr ⟨dx, fs, x1, ho _ _ x2, x3, RepL.frz s' s hp ho x4 hk.2⟩
    · rw [if_neg hk] at h
      exact h.elim
  | brk ρ μ' => rw [e] at h; exact h.elim
  | ct ρ μ' => rw [e] at h; exact h.elim
  | stuck => rw [e] at h; exact h.elim
theorem body_ok1 {X : Cx} {body : List Stmt} {c : C} {n : Nat} {H : Hp} {Q : VK} {E : XK} {vs : List V} (hb : SSs X (fun cls d _ H' => E cls d H') body c) (hn : n ≤ X.N.length)
    (h : spG X.K n (runF1 X.N.length c) vs H Q E) : WSs X body { nx := fun _ H' => Q .non H', rt := Q } (L2.start X.N vs) H := by
  obtain ⟨π, μ, ds, hd, s, r, h⟩ := h
  refine hb π (begin X.N.length ds) μ _ H _ s (sim_begin r (by omega)) ?_
  unfold runF1 at h
  cases e : c (begin X.N.length ds) μ with
  | ret d μ' =>
    rw [e] at h
    cases d with
    | ref k =>
      simp only [region1] at h
      cases em : μ'[k]? with
      | none => rw [em] at h; exact h.elim
      | some m =>
        rw [em] at h
        simp only at h
        by_cases hk : (decide (μ.length ≤ k) && (kept μ.length μ μ' && MO.low μ.length m)) = true
        · rw [if_pos hk] at h
          simp only [Bool.and_eq_true, decide_eq_true_eq] at hk
          obtain ⟨hk1, hk2, hk3⟩ := hk
          intro v H' π' g s' l'
          obtain ⟨s1, g1, hp, ho⟩ := s'.take s g hk2
          unfold Rp Rep at l'
          obtain ⟨a, l1, l2⟩ := l'
          have ha : a ∉ π := fun z => by
            rw [← hp] at z
            obtain ⟨j, hj, e⟩ := List.getElem_of_mem z
            rw [List.length_take] at hj
            rw [List.getElem_take] at e
            have h3 : π'[j]? = some a := by rw [List.getElem?_eq_getElem (by omega), e]
            have : j = k := by
              obtain ⟨k1, e1⟩ := List.getElem?_eq_some_iff.mp h3
              obtain ⟨k2, e2⟩ := List.getElem?_eq_some_iff.mp l1
              exact (List.getElem_inj s'.nd).mp (e1.trans e2.symm)
            omega
          have ob := s'.obj k a m l1 em
          have ob2 := ob.take hk3
          rw [hp] at ob2
          have hap : a ∈ π' := List.mem_of_getElem? l1
          have sub : ∀ b o, off π' H' b = some o → off (π ++ [a]) H' b = some o := fun b o q => by
            obtain ⟨q1, q2⟩ := off_some q
            obtain ⟨z1, z2⟩ := off_some (ho b o q)
            rw [off_ne]
            · exact q2
            · simp only [List.mem_append, List.mem_singleton, not_or]
              exact ⟨z1, fun e => q1 (e ▸ hap)⟩
          have gp : ∀ (n : Nat) b, π[n]? = some b → (π ++ [a])[n]? = some b := fun n b e => by
            rw [List.getElem?_append_left (List.getElem?_eq_some_iff.mp e).1]
            exact e
          have lt : (μ'.take μ.length).length = π.length := s1.len.symm
          refine h v H' (π ++ [a]) ⟨⟨[a], rfl⟩, fun b o q => sub b o (g.keep b o q)⟩ ⟨?_, by simp [s1.len], fun j b m' j1 j2 => ?_⟩ ?_
          · rw [List.nodup_append]
            refine ⟨s.nd, by simp, fun x hx y hy => ?_⟩
            simp at hy
            subst hy
            exact fun e => ha (e ▸ hx)
          · by_cases hj : j < π.length
            · rw [List.getElem?_append_left hj] at j1
              rw [List.getElem?_append_left (by omega)] at j2
              have hjm : j < μ.length := by rw [← s.len]; exact hj
              have j2' := j2
              rw [List.getElem?_take_of_lt hjm] at j2'
              have q := s'.obj j b m' (g.get j1) j2'
              have hb : MO.low μ.length m' = true := (s1.obj j b m' j1 j2).low (Nat.le_of_eq s.len)
              have q2 := q.take hb
              rw [hp] at q2
              exact q2.mono sub gp
            · have hl := (List.getElem?_eq_some_iff.mp j1).1
              rw [List.length_append, List.length_singleton] at hl
              have hj' : j = π.length := by omega
              subst hj'
              have e1 : b = a := by simpa using j1.symm
              have e2 : m' = m := by
                rw [← lt] at j2
                simpa using j2.symm
              subst e1 e2
              exact ob2.mono sub gp
          · unfold Rp Rep
            exact ⟨a, by rw [← s.len]; simp, l2⟩
        · rw [if_neg hk] at h
          exact h.elim
    | _ => exact h.elim
  | nx ρ μ' => rw [e] at h; exact h.elim
  | exc cc ns ds' ρ μ' => rw [e] at h; exact h.elim
  | brk ρ μ' => rw [e] at h; exact h.elim
  | ct ρ μ' => rw [e] at h; exact h.elim
  | stuck => rw [e] at h; exact h.elim
/-! ### a def from its body; no repr is under way -/
structure RoomQ (k : Nat) (A : Around) : Prop where
  rm : Room k A
  gd : A.guards = some []
theorem RoomQ.mono {j k : Nat} {A : Around} (r : RoomQ k A) (h : j ≤ k) : RoomQ j A := ⟨r.rm.mono h, r.gd⟩
theorem RoomQ.deeper {k : Nat} {A : Around} (r : RoomQ (k + 1) A) (env : Env) : RoomQ k (A.deeper env) := ⟨r.rm.deeper env, r.gd⟩
theorem RoomQ.in1 {k : Nat} {A : Around} (r : RoomQ (k + 1) A) : RoomQ k A.in1 := ⟨r.rm.in1, r.gd⟩
theorem make_guards {A : Around} {C : Addr} {us : List Value} {kw : List (Str × Value)} : (A.under (.builtin "type.__call__" ⟨.ref C :: us, kw⟩)).guards = A.guards := by
  first | rfl | simp [Around.under, Code.guards, Code.isGuard, guardIds, pushGuards]
theorem RoomQ.make {k : Nat} {A : Around} (r : RoomQ (k + 1) A) (C : Addr) (us : List Value) (kw : List (Str × Value)) : RoomQ k (A.under (.builtin "type.__call__" ⟨.ref C :: us, kw⟩)) :=
  ⟨r.rm.make C us kw, make_guards.trans r.gd⟩
theorem spG_len {K : PySem.W.Frag} {n : Nat} {F : Fn} {vs : List V} {H : Hp} {Q : VK} {E : XK} (h : spG K n F vs H Q E) : vs.length = n := by
  obtain ⟨π, μ, ds, hn, s, r, _⟩ := h
  rw [r.length, hn]
/-- the def at f does what F says -/
structure FnQ (P : Program) (w : World) (K : PySem.W.Frag) (mg : Str → Option Value) (base : Heap) (k : Nat) (f : Addr) (fd : FuncData) (ps : List Str) (F : Fn) : Prop where
  run : ∀ (A : Around) (outer : List Env) (s : Shared) (H : Hp) (args : Args) (us : List Value) (vs : List V) (Q : VK) (E : XK), RoomQ k A → Env0 P w K mg base A outer s H → BindsTo s fd args (ps.zip us) → Vals vs us → spG K ps.length F vs H Q E →
    codeAny (model P w) A (.call (.ref f) args) (CR (L2.CX P w) outer P w H s Q E) s
theorem FnQ.mono {P : Program} {w : World} {K : PySem.W.Frag} {mg : Str → Option Value} {base : Heap} {j k : Nat} {f : Addr} {fd : FuncData} {ps : List Str} {F : Fn} (h : FnQ P w K mg base j f fd ps F) (l : j ≤ k) : FnQ P w K mg base k f fd ps F :=
  ⟨fun A outer s H args us vs Q E r => h.run A outer s H args us vs Q E (r.mono l)⟩
section
variable {P : Program} {w : World} {K : PySem.W.Frag} {mg : Str → Option Value} {base : Heap} {x qual : Str} {params : Arguments} {body : List Stmt} {scope : Scope} {dvs : List V} {kws : List (Str × V)} {f : Addr} {fd : FuncData} {N ps : List Str} {k : Nat} {G : Fn}
theorem fnQ_gen (F : FunD K x qual params body scope dvs kws f fd) (S : FnScope N ps scope)
    (hb : ∀ (cdv : Value) (A : Around) (outer : List Env) (s : Shared) (H : Hp) (vs : List V) (Q : VK) (E : XK), RoomQ k (A.deeper (envOfC qual scope s.heap.objs.size f cdv)) → spG K ps.length G vs H Q E →
      WSs (cxOf (L2.CX P w) P w K mg base N qual scope f cdv A outer s H E) body { nx := fun _ H' => Q .non H', rt := Q } (L2.start N vs) H) : FnQ P w K mg base (k + 1) f fd ps G := by
  obtain ⟨oc, od, dV, kV, doc, pm, an, cdv, ct, osl, rfl, look, code, _, _⟩ := F.ex
  constructor
  intro A outer s H args us vs Q E room e0 bound rel want
  have vl := spG_len want
  have kin : K.In s.heap := e0.mod.kin.keeps fun b o e => (e0.bs b o e).1
  have nolim : s.heap.NoLimit := e0.mod.nolimit.keeps fun b o e => (e0.bs b o e).1
  have kinds : ∀ y ∈ ps.zip us, scope.names.lookup y.1 = some .local ∨ (scope.names.lookup y.1 = some .cell ∧ ((cellsFrom (s.heap.objs.size + 1) scope.names []).lookup y.1).isSome = true) := by
    rintro ⟨m, u⟩ hm
    exact (S.par m (List.of_mem_zip hm).1).elim .inl fun z => .inr ⟨z, PySem.W.cellsFrom_some _ _ _ (.inl z)⟩
  refine codeAny_call_function room.rm.depth (kin _ _ look) rfl S.co S.gen rfl (PySem.W.codeRec_of kin code) (bound _ _ _ _ (wpAny_newFunctionEnv_cells S.kind kinds ?_))
  rintro env rfl s1 inn
  refine ⟨nolim.keeps inn.toInCall.keep, codeAny_func ?_⟩
  have J : Inv (cxOf (L2.CX P w) P w K mg base N qual scope f cdv A outer s H E) [] (L2.start N vs) H s1 := inv_start S room.rm.hd e0 vl rel inn
  refine wpAny_mono (hb cdv A outer s H vs Q E (room.deeper _) want [] s1 J) ?_ fun _ _ z => z
  intro fl s' out
  have fin : ∀ {σ' : L2.St} {H' : Hp} {v : V} {u : Value}, Inv (cxOf (L2.CX P w) P w K mg base N qual scope f cdv A outer s H E) [] σ' H' s' → RelV v u → Q v H' → CE outer P w H s Q u s' := by
    intro σ' H' v u J rv q
    exact ⟨v, H', J.os, J.bare, J.base, J.hok, rv, q⟩
  cases fl with
  | ret u =>
    obtain ⟨v, σ', H', J, rv, q⟩ := out
    exact fin J rv q
  | next =>
    obtain ⟨σ', H', J, q⟩ := out
    exact fin (v := .non) (u := .none) J rfl q
  | brk => exact out.elim fun _ z => z.elim fun _ z => z.2.elim
  | cont => exact out.elim fun _ z => z.elim fun _ z => z.2.elim
/-- a def by its body's mirror -/
theorem fnQ (F : FunD K x qual params body scope dvs kws f fd) (S : FnScope N ps scope) {c : C} (hl : ps.length ≤ N.length)
    (hb : ∀ (cdv : Value) (A : Around) (outer : List Env) (s : Shared) (H : Hp) (E : XK), RoomQ k (A.deeper (envOfC qual scope s.heap.objs.size f cdv)) →
      SSs (cxOf (L2.CX P w) P w K mg base N qual scope f cdv A outer s H E) (fun cls d _ H' => E cls d H') body c) : FnQ P w K mg base (k + 1) f fd ps (runF N.length c) :=
  fnQ_gen F S fun cdv A outer s H vs Q E hr h => body_ok (X := cxOf (L2.CX P w) P w K mg base N qual scope f cdv A outer s H E) (n := ps.length) (ps := ps) (hb cdv A outer s H E hr) hl h
theorem fnQ1 (F : FunD K x qual params body scope dvs kws f fd) (S : FnScope N ps scope) {c : C} (hl : ps.length ≤ N.length)
    (hb : ∀ (cdv : Value) (A : Around) (outer : List Env) (s : Shared) (H : Hp) (E : XK), RoomQ k (A.deeper (envOfC qual scope s.heap.objs.size f cdv)) →
      SSs (cxOf (L2.CX P w) P w K mg base N qual scope f cdv A outer s H E) (fun cls d _ H' => E cls d H') body c) : FnQ P w K mg base (k + 1) f fd ps (runF1 N.length c) :=
  fnQ_gen F S fun cdv A outer s H vs Q E hr h => body_ok1 (X := cxOf (L2.CX P w) P w K mg base N qual scope f cdv A outer s H E) (n := ps.length) (hb cdv A outer s H E hr) hl h
end
theorem FnQ.congr {P : Program} {w : World} {K : PySem.W.Frag} {mg : Str → Option Value} {base : Heap} {k : Nat} {f : Addr} {fd : FuncData} {ps : List Str} {F G : Fn} (h : FnQ P w K mg base k f fd ps F) (e : F = G) : FnQ P w K mg base k f fd ps G := e ▸ h

/-! ### the call, from a body -/
section
variable {X : Cx} {W : WX} {π : List Addr} {μ : Store} {σ : L2.St} {ρ : Env'} {H : Hp} {Q : VK} {k : Nat} {f : Addr} {fd : FuncData} {ps : List Str} {F : Fn} {ds : List D} {vs : List V}
/-- what is wanted of a call's end -/
def RP (X : Cx) (pins : List (Addr × Obj)) (σ : L2.St) (Q : VK) : Result → Shared → Prop := fun r s' => match r with
  | .ok (.ret u) => EP X pins σ Q u s'
  | .ok _ => False
  | .error e => X.xe e s'
/-- how an end of a call is taken -/
theorem back_q {pins : List (Addr × Obj)} {s s' : Shared} {r : Result} (tk : Takes X W) (I : Inv X pins σ H s) (hq : CR (L2.CX X.prog X.w) X.stack X.prog X.w H s Q (fun c d H' => W c d σ H') r s') : RP X pins σ Q r s' := by
  cases r with
  | error e => exact tk e s' (XE.of_call I (fun _ _ _ h => h) hq)
  | ok fl => cases fl with
    | ret u => exact I.after hq
    | _ => exact hq
theorem run_q {pins : List (Addr × Obj)} {s : Shared} {us : List Value} {kw : List (Str × Value)} {ws : List Value} (hF : FnQ X.prog X.w X.K X.mg X.base k f fd ps F) (hr : RoomQ k X.A) (tk : Takes X W) (I : Inv X pins σ H s)
    (bd : BindsTo s fd ⟨us, kw⟩ (ps.zip ws)) (rv : Vals vs ws) (sm : SimM X.K π μ H) (rl : RpL X.K π H ds vs) (hn : ds.length = ps.length) (h : GE X W (Rp X.K) π σ H Q (F ds μ)) :
    codeAny (model X.prog X.w) X.A (.call (.ref f) ⟨us, kw⟩) (RP X pins σ Q) s :=
  codeAny_mono (hF.run X.A X.stack s H _ ws vs Q _ hr I.env0 bd rv (spG_of sm rl hn h)) fun _ _ hq => back_q tk I hq
theorem run_ok {pins : List (Addr × Obj)} {s : Shared} {f : Value} {us : List Value} {kw : List (Str × Value)} (h : codeAny (model X.prog X.w) X.A (.call f ⟨us, kw⟩) (RP X pins σ Q) s) : wpAny (model X.prog X.w) X.A (PySem.call f us kw) (EP X pins σ Q) X.xe s :=
  wpAny_call h
end
end Rv
set_option Elab.async false
set_option linter.all false
set_option maxRecDepth 100000
set_option maxHeartbeats 4000000
/-! Rv3: expressions: names, constants, operators, comparisons, tests, displays, items, slices. -/
namespace Rv
open PySem PySem.Spec L2
open PyProof.Rows hiding St

section
variable {X : Cx} {W : WX} {e a b : Expr} {es : List Expr} {m n : M D} {pos : Pos}

/-! ### names, constants -/
def mVar (i : Nat) : M D := fun ρ μ => match ρ[i]? with
  | some (some d) => .ok d μ
  | _ => .stuck
def mC (d : D) : M D := fun _ μ => .ok d μ
theorem SE.var (i : Nat) {x : Str} {pos : Pos} (hN : X.N[i]? = some x := by rfl) (hv : Vis X.env.scope x := by first | exact Or.inl rfl | exact Or.inr (Or.inl rfl) | exact Or.inr (Or.inr rfl)) (hd : (x == ("__debug__" : Str)) = false := by decide)
    (hcd : (x == ("__classdict__" : Str)) = false := by decide) : SE X W (.Name x pos) (mVar i) := by
  intro π ρ μ σ H Q sm sl h
  unfold mVar at h
  split at h
  · rename_i d e
    obtain ⟨v, h1, h2⟩ := sl.loc i d e
    exact WE.of (pe_var hN hv hd hcd) ⟨v, h1, h v H π Gr.refl sm h2⟩
  · exact h.elim
theorem SE.int {i : Int} {j pos} : SE X W (.Constant (.int i) j pos) (mC (.int i)) := fun π ρ μ σ H Q sm sl h => WE.of pe_int (h (.int i) H π Gr.refl sm rfl)
theorem SE.bl {c : Bool} {j pos} : SE X W (.Constant (.bool c) j pos) (mC (.bl c)) := fun π ρ μ σ H Q sm sl h => WE.of pe_bl (h (.bl c) H π Gr.refl sm rfl)
theorem SE.non {j pos} : SE X W (.Constant .none j pos) (mC .non) := fun π ρ μ σ H Q sm sl h => WE.of pe_non (h .non H π Gr.refl sm rfl)
/-- a text: s its codes -/
theorem SE.str (s : List Nat) {x : Str} {j pos} (hs : toS s = x := by rfl) : SE X W (.Constant (.str x) j pos) (mC (.str s)) := fun π ρ μ σ H Q sm sl h => by
  subst hs
  exact WE.of pe_str (h _ H π Gr.refl sm rfl)
/-- a module's int, text -/
theorem SE.gint {x : Str} {i : Int} {pos : Pos} (hg : Gl X x) (hm : ∃ t, X.mg x = some (.int i t)) (hd : (x == ("__debug__" : Str)) = false := by decide) : SE X W (.Name x pos) (mC (.int i)) := fun π ρ μ σ H Q sm sl h => by
  obtain ⟨t, hm⟩ := hm
  exact WE.of (pe_glob (v := .int i) hg hm ⟨t, rfl⟩ hd) (h _ H π Gr.refl sm rfl)
theorem SE.gstr {x z : Str} {s : List Nat} {pos : Pos} (hg : Gl X x) (hm : ∃ t, X.mg x = some (.str z t)) (hs : toS s = z := by rfl) (hd : (x == ("__debug__" : Str)) = false := by decide) : SE X W (.Name x pos) (mC (.str s)) := fun π ρ μ σ H Q sm sl h => by
  obtain ⟨t, hm⟩ := hm
  subst hs
  exact WE.of (pe_glob (v := .str (toS s)) hg hm ⟨t, rfl⟩ hd) (h _ H π Gr.refl sm rfl)
theorem SE.gcls {x : Str} {pos : Pos} (hg : Gl X x) (hm : X.mg x = some (.ref (He.ga X.K x))) (hd : (x == ("__debug__" : Str)) = false := by decide) : SE X W (.Name x pos) (mC (.cls x)) := fun π ρ μ σ H Q sm sl h =>
  WE.of (pe_glob (v := .ref (He.ga X.K x)) hg hm rfl hd) (h _ H π Gr.refl sm rfl)

/-! ### one and two operands -/
def m1 (f : D → Store → Out D) (a : M D) : M D := fun ρ μ => (a ρ μ).bind f
def m2 (f : D → D → Store → Out D) (a b : M D) : M D := fun ρ μ => (a ρ μ).bind fun x μ1 => (b ρ μ1).bind fun y μ2 => f x y μ2
/-- what a value's operation comes to -/
def VU (X : Cx) (σ : L2.St) (H : Hp) (Q : VK) (g : Value → Sem Value) (x : V) : Prop := ∀ (pins : List (Addr × Obj)) (s : Shared) (v : Value), Inv X pins σ H s → RelV x v → wpAny (model X.prog X.w) X.A (g v) (EP X pins σ Q) X.xe s
def VB (X : Cx) (σ : L2.St) (H : Hp) (Q : VK) (g : Value → Value → Sem Value) (x y : V) : Prop := ∀ (pins : List (Addr × Obj)) (s : Shared) (v u : Value), Inv X pins σ H s → RelV x v → RelV y u → wpAny (model X.prog X.w) X.A (g v u) (EP X pins σ Q) X.xe s
def OpU (X : Cx) (W : WX) (g : Value → Sem Value) (f : D → Store → Out D) : Prop := ∀ (π : List Addr) (μ : Store) (σ : L2.St) (H : Hp) (Q : VK) (d : D) (x : V), SimM X.K π μ H → Rp X.K π H d x → GE X W (Rp X.K) π σ H Q (f d μ) → VU X σ H Q g x
def OpB (X : Cx) (W : WX) (g : Value → Value → Sem Value) (f : D → D → Store → Out D) : Prop := ∀ (π : List Addr) (μ : Store) (σ : L2.St) (H : Hp) (Q : VK) (d1 d2 : D) (x y : V), SimM X.K π μ H → Rp X.K π H d1 x → Rp X.K π H d2 y → GE X W (Rp X.K) π σ H Q (f d1 d2 μ) → VB X σ H Q g x y
theorem OpR.vb {g : Value → Value → Sem Value} {r : R2} (h : OpR X g r) {σ : L2.St} {H : Hp} {Q : VK} {x y : V} (q : r x y H Q) : VB X σ H Q g x y := fun pins s v u I rx ry => h pins s σ H x y v u Q I rx ry q
theorem UnR.vu {g : Value → Sem Value} {r : V → Hp → VK → Prop} (h : UnR X g r) {σ : L2.St} {H : Hp} {Q : VK} {x : V} (q : r x H Q) : VU X σ H Q g x := fun pins s v I rx => h pins s σ H x v Q I rx q
/-- two expressions, then what is done with them -/
theorem SE.two {R : List Addr → Hp → D → V → Prop} {f : D → D → Store → Out D} (ha : SE X W a m) (hb : SE X W b n) {π : List Addr} {ρ : Env'} {μ : Store} {σ : L2.St} {H : Hp} {Q : VK} {B : V → V → Hp → Prop} (sm : SimM X.K π μ H) (sl : SimL X.K π H ρ σ)
    (h : GE X W R π σ H Q (m2 f m n ρ μ)) (k : ∀ d1 d2 μ2 x y H2 π2, Gr π H π2 H2 → SimM X.K π2 μ2 H2 → SimL X.K π2 H2 ρ σ → Rp X.K π2 H2 d1 x → Rp X.K π2 H2 d2 y → GE X W R π2 σ H2 Q (f d1 d2 μ2) → B x y H2) :
    WE X a σ H fun x H1 => WE X b σ H1 fun y H2 => B x y H2 := by
  refine ha π ρ μ σ H _ sm sl (GE.bind h fun d1 μ1 x H1 π1 e1 g1 s1 r1 h1 => ?_)
  refine hb π1 ρ μ1 σ H1 _ s1 (g1.loc sl) (GE.bind h1 fun d2 μ2 y H2 π2 e2 g2 s2 r2 h2 => ?_)
  exact k d1 d2 μ2 x y H2 π2 (g1.trans g2) s2 ((g1.trans g2).loc sl) (g2.rep r1) r2 h2
theorem SE.op {op : Operator} {f : D → D → Store → Out D} (ho : OpB X W (binaryOp op) f) (ha : SE X W a m) (hb : SE X W b n) : SE X W (.BinOp a op b pos) (m2 f m n) := by
  intro π ρ μ σ H Q sm sl h pins s I
  exact wpAny_BinOp (binT pe_we pe_we I (R := fun x y H2 => VB X σ H2 Q (binaryOp op) x y) (SE.two ha hb sm sl h fun d1 d2 μ2 x y H2 π2 g s2 l2 r1 r2 h2 => ho π2 μ2 σ H2 Q d1 d2 x y s2 r1 r2 h2) fun v u s2 x y H2 I2 rx ry q => q pins s2 v u I2 rx ry)
theorem SE.un {op : UnaryOp} {f : D → Store → Out D} (ho : OpU X W (unaryOp op) f) (ha : SE X W a m) : SE X W (.UnaryOp op a pos) (m1 f m) := by
  intro π ρ μ σ H Q sm sl h pins s I
  refine UnaryOp_ (thn (ha π ρ μ σ H (fun x H1 => VU X σ H1 Q (unaryOp op) x) sm sl (GE.bind h fun d μ1 x H1 π1 e1 g1 s1 r1 h1 => ho π1 μ1 σ H1 Q d x s1 r1 h1) pins s I) fun v s1 z => ?_)
  obtain ⟨x, H1, I1, r1, q1⟩ := z
  exact q1 pins s1 v I1 r1

/-! ### views -/
def asL (μ : Store) : D → Option (List D)
  | .lst ds => some ds
  | .ref k => match μ[k]? with
    | some (.lst ds) => some ds
    | _ => none
  | _ => none
def asT : D → Option (List D)
  | .tup ds => some ds
  | _ => none
/-- a list or a tuple -/
def asQ (μ : Store) (d : D) : Option (List D) := match d with
  | .tup ds => some ds
  | d => asL μ d
end
section
variable {K : PySem.W.Frag} {π : List Addr} {H : Hp} {μ : Store} {d : D} {v : V} {ds : List D}
theorem off_sub : ∀ b o, off π H b = some o → H b = some o := fun _ _ h => (off_some h).2
theorem asL_own (s : SimM K π μ H) (r : Rp K π H d v) (h : asL μ d = some ds) : ∃ a vs, v = .ref a ∧ H a = some (.lst vs) ∧ RpL K π H ds vs := by
  unfold asL at h
  split at h
  · cases h
    unfold Rp Rep at r
    obtain ⟨a, vs, h1, h2, h3⟩ := r
    exact ⟨a, vs, h1, off_sub _ _ h2, h3⟩
  · rename_i k
    unfold Rp Rep at r
    obtain ⟨a, h1, h2⟩ := r
    split at h
    · rename_i ds' e
      cases h
      obtain ⟨vs, h3, h4⟩ := s.obj k a _ h1 e
      exact ⟨a, vs, h2, h3, h4⟩
    · cases h
  · cases h
theorem asL_view (s : SimM K π μ H) (r : Rp K π H d v) (h : asL μ d = some ds) : ∃ a vs, v = .ref a ∧ SqL K H a vs ∧ RpL K π H ds vs := by
  obtain ⟨a, vs, h1, h2, h3⟩ := asL_own s r h
  exact ⟨a, vs, h1, SqL.of h2, h3⟩
theorem asT_view (r : Rp K π H d v) (h : asT d = some ds) : ∃ a vs, v = .ref a ∧ SqT K H a vs ∧ RpL K π H ds vs := by
  unfold asT at h
  split at h
  · cases h
    unfold Rp Rep at r
    obtain ⟨a, vs, h1, h2, h3⟩ := r
    exact ⟨a, vs, h1, ext_t off_sub h2, h3⟩
  · cases h
theorem asQ_view (s : SimM K π μ H) (r : Rp K π H d v) (h : asQ μ d = some ds) : ∃ a vs, v = .ref a ∧ (SqL K H a vs ∨ SqT K H a vs) ∧ RpL K π H ds vs := by
  unfold asQ at h
  split at h
  · cases h
    obtain ⟨a, vs, h1, h2, h3⟩ := asT_view (ds := ds) r rfl
    exact ⟨a, vs, h1, .inr h2, h3⟩
  · obtain ⟨a, vs, h1, h2, h3⟩ := asL_view s r h
    exact ⟨a, vs, h1, .inl h2, h3⟩
/-- a new list, a new tuple, that stays -/
theorem rp_lst {p : Addr} {vs : List V} (s : SimM K π μ H) (hp : H p = none) (r : RpL K π H ds vs) : Rp K π (upd H p (.lst vs)) (.lst ds) (.ref p) := by
  unfold Rp Rep
  exact ⟨p, vs, rfl, by rw [off_ne (s.in_ hp), upd_same], (Gr.new hp).repL r⟩
theorem rp_tup {p : Addr} {vs : List V} (s : SimM K π μ H) (hp : H p = none) (r : RpL K π H ds vs) : Rp K π (upd H p (.tup vs)) (.tup ds) (.ref p) := by
  unfold Rp Rep
  exact ⟨p, vs, rfl, SqT.of (by rw [off_ne (s.in_ hp), upd_same]), (Gr.new hp).repL r⟩
end
section
variable {X : Cx} {W : WX} {e a b : Expr} {es : List Expr} {m n : M D} {pos : Pos}
theorem GE.newL {π : List Addr} {σ : L2.St} {H : Hp} {Q : VK} {ds : List D} {vs : List V} {μ : Store} {p : Addr} (h : GE X W (Rp X.K) π σ H Q (.ok (.lst ds) μ)) (s : SimM X.K π μ H) (r : RpL X.K π H ds vs) (hp : H p = none) : Q (.ref p) (upd H p (.lst vs)) :=
  h _ _ π (Gr.new hp) (s.new hp) (rp_lst s hp r)
theorem GE.newT {π : List Addr} {σ : L2.St} {H : Hp} {Q : VK} {ds : List D} {vs : List V} {μ : Store} {p : Addr} (h : GE X W (Rp X.K) π σ H Q (.ok (.tup ds) μ)) (s : SimM X.K π μ H) (r : RpL X.K π H ds vs) (hp : H p = none) : Q (.ref p) (upd H p (.tup vs)) :=
  h _ _ π (Gr.new hp) (s.new hp) (rp_tup s hp r)

/-! ### numbers, texts, + - * // % ** -/
abbrev maxL : Nat := 16777216
def dAdd : D → D → Store → Out D
  | .int i, .int j, μ => .ok (.int (i + j)) μ
  | .str s, .str t, μ => if s.length + t.length ≤ maxL then .ok (.str (s ++ t)) μ else .stuck
  | .tup s, .tup t, μ => if s.length + t.length ≤ maxL then .ok (.tup (s ++ t)) μ else .stuck
  | _, _, _ => .stuck
def dSub : D → D → Store → Out D
  | .int i, .int j, μ => .ok (.int (i - j)) μ
  | _, _, _ => .stuck
def dMul : D → D → Store → Out D
  | .int i, .int j, μ => if (-(2 ^ 64) < i ∧ i < 2 ^ 64) ∨ (-(2 ^ 64) < j ∧ j < 2 ^ 64) then .ok (.int (i * j)) μ else .stuck
  | _, _, _ => .stuck
def dDiv : D → D → Store → Out D
  | .int i, .int j, μ => if 0 < j ∧ j < 1073741824 then .ok (.int (i / j)) μ else .stuck
  | _, _, _ => .stuck
def dMod : D → D → Store → Out D
  | .int i, .int j, μ => if 0 < j then .ok (.int (i % j)) μ else .stuck
  | _, _, _ => .stuck
def dPow : D → D → Store → Out D
  | .int i, .int j, μ => if 0 ≤ j ∧ j ≤ 1000000 ∧ i.natAbs < 2 ^ 64 then .ok (.int (i ^ j.toNat)) μ else .stuck
  | _, _, _ => .stuck
def dNeg : D → Store → Out D
  | .int i, μ => .ok (.int (-i)) μ
  | _, _ => .stuck
theorem toS_append (s t : List Nat) : toS s ++ toS t = toS (s ++ t) := by
  show (⟨(toS s).cps ++ (toS t).cps⟩ : Str) = toS (s ++ t)
  unfold toS
  simp
theorem toS_length (s : List Nat) : (toS s).length = s.length := by
  show (toS s).cps.size = s.length
  unfold toS
  simp
theorem rep_int {K : PySem.W.Frag} {H : Hp} {π : List Addr} {i : Int} {v : V} (h : Rep K H π (.int i) v) : v = .int i := by unfold Rep at h; exact h
theorem rep_str {K : PySem.W.Frag} {H : Hp} {π : List Addr} {s : List Nat} {v : V} (h : Rep K H π (.str s) v) : v = .str (toS s) := by unfold Rep at h; exact h
theorem rep_bl {K : PySem.W.Frag} {H : Hp} {π : List Addr} {c : Bool} {v : V} (h : Rep K H π (.bl c) v) : v = .bl c := by unfold Rep at h; exact h
theorem rep_non {K : PySem.W.Frag} {H : Hp} {π : List Addr} {v : V} (h : Rep K H π .non v) : v = .non := by unfold Rep at h; exact h
theorem opb_add : OpB X W (binaryOp .Add) dAdd := by
  intro π μ σ H Q d1 d2 x y s r1 r2 h
  unfold dAdd at h
  split at h
  · cases rep_int r1; cases rep_int r2
    exact OpR.vb op_add ⟨_, _, rfl, rfl, h _ H π Gr.refl s rfl⟩
  · rename_i s1 s2
    cases rep_str r1; cases rep_str r2
    by_cases hl : s1.length + s2.length ≤ maxL
    · rw [if_pos hl] at h
      refine OpR.vb op_add_str ⟨_, _, rfl, rfl, by rw [toS_length, toS_length, sizeLine_eq]; exact hl, ?_⟩
      rw [toS_append]
      exact h _ H π Gr.refl s rfl
    · rw [if_neg hl] at h
      exact h.elim
  · rename_i s1 s2
    by_cases hl : s1.length + s2.length ≤ maxL
    · rw [if_pos hl] at h
      obtain ⟨p, vs, rfl, hp, rp⟩ := asT_view (ds := s1) r1 rfl
      obtain ⟨q, us, rfl, hq, rq⟩ := asT_view (ds := s2) r2 rfl
      have l1 := rp.length
      have l2 := rq.length
      refine OpR.vb op_catA ⟨p, q, vs, us, rfl, rfl, hp, hq, by rw [l1, l2, sizeLine_eq]; exact hl, fun e => ?_, fun _ e => ?_, fun _ _ t ht => GE.newT h s (rp.append rq) ht⟩
      · have : s1 = [] := by rw [e] at l1; exact List.length_eq_zero_iff.mp l1.symm
        subst this
        exact h _ H π Gr.refl s r2
      · have : s2 = [] := by rw [e] at l2; exact List.length_eq_zero_iff.mp l2.symm
        subst this
        refine h _ H π Gr.refl s ?_
        rw [List.append_nil]
        exact r1
    · rw [if_neg hl] at h
      exact h.elim
  · exact h.elim
theorem opb_int {op : Operator} {f : D → D → Store → Out D} {g : Int → Int → V} {C : Int → Int → Prop} {g' : Int → Int → D} (ho : OpR X (binaryOp op) (rI C g)) (hf : ∀ d1 d2 μ, f d1 d2 μ = .stuck ∨ ∃ i j, d1 = .int i ∧ d2 = .int j ∧ C i j ∧ f d1 d2 μ = .ok (g' i j) μ)
    (hg : ∀ i j π H, Rp X.K π H (g' i j) (g i j)) : OpB X W (binaryOp op) f := by
  intro π μ σ H Q d1 d2 x y s r1 r2 h
  rcases hf d1 d2 μ with e | ⟨i, j, rfl, rfl, c, e⟩
  · rw [e] at h; exact h.elim
  · rw [e] at h
    cases rep_int r1; cases rep_int r2
    exact OpR.vb ho ⟨i, j, rfl, rfl, c, h _ H π Gr.refl s (hg i j π H)⟩
theorem opb_sub : OpB X W (binaryOp .Sub) dSub := by
  intro π μ σ H Q d1 d2 x y s r1 r2 h
  unfold dSub at h
  split at h
  · cases rep_int r1; cases rep_int r2
    exact OpR.vb op_sub ⟨_, _, rfl, rfl, h _ H π Gr.refl s rfl⟩
  · exact h.elim
theorem opb_mul : OpB X W (binaryOp .Mult) dMul := opb_int (g' := fun i j => .int (i * j)) op_mul (fun d1 d2 μ => by
  unfold dMul
  split
  · rename_i i j
    by_cases c : (-(2 ^ 64) < i ∧ i < 2 ^ 64) ∨ (-(2 ^ 64) < j ∧ j < 2 ^ 64)
    · rw [if_pos c]; exact .inr ⟨i, j, rfl, rfl, c, rfl⟩
    · rw [if_neg c]; exact .inl rfl
  · exact .inl rfl) fun _ _ _ _ => rfl
theorem opb_div : OpB X W (binaryOp .FloorDiv) dDiv := opb_int (g' := fun i j => .int (i / j)) op_fdiv (fun d1 d2 μ => by
  unfold dDiv
  split
  · rename_i i j
    by_cases c : 0 < j ∧ j < 1073741824
    · rw [if_pos c]; exact .inr ⟨i, j, rfl, rfl, c, rfl⟩
    · rw [if_neg c]; exact .inl rfl
  · exact .inl rfl) fun _ _ _ _ => rfl
theorem opb_mod : OpB X W (binaryOp .Mod) dMod := opb_int (g' := fun i j => .int (i % j)) op_mod (fun d1 d2 μ => by
  unfold dMod
  split
  · rename_i i j
    by_cases c : 0 < j
    · rw [if_pos c]; exact .inr ⟨i, j, rfl, rfl, c, rfl⟩
    · rw [if_neg c]; exact .inl rfl
  · exact .inl rfl) fun _ _ _ _ => rfl
theorem opb_pow : OpB X W (binaryOp .Pow) dPow := opb_int (g' := fun i j => .int (i ^ j.toNat)) op_pow (fun d1 d2 μ => by
  unfold dPow
  split
  · rename_i i j
    by_cases c : 0 ≤ j ∧ j ≤ 1000000 ∧ i.natAbs < 2 ^ 64
    · rw [if_pos c]; exact .inr ⟨i, j, rfl, rfl, c, rfl⟩
    · rw [if_neg c]; exact .inl rfl
  · exact .inl rfl) fun _ _ _ _ => rfl
theorem opu_neg : OpU X W (unaryOp .USub) dNeg := by
  intro π μ σ H Q d x s r h
  unfold dNeg at h
  split at h
  · cases rep_int r
    exact UnR.vu un_neg ⟨_, rfl, h _ H π Gr.refl s rfl⟩
  · exact h.elim
/-- list + list: a new list -/
def dCat : D → D → Store → Out D := fun d1 d2 μ => match asL μ d1, asL μ d2 with
  | some s, some t => if s.length + t.length ≤ maxL then .ok (.lst (s ++ t)) μ else .stuck
  | _, _ => .stuck

/-! ### comparisons -/
mutual
def pyd0 : D → Option PyData
  | .non => some .none
  | .bl b => some (.bool b)
  | .int i => some (.int i)
  | .str s => some (.str (toS s))
  | .tup ds => (pyd0L ds).map .tuple
  | .lst ds => (pyd0L ds).map .list
  | _ => none
def pyd0L : List D → Option (List PyData)
  | [] => some []
  | d :: ds => match pyd0 d, pyd0L ds with
    | some p, some ps => some (p :: ps)
    | _, _ => none
end
mutual
/-- plain data; a reference to a list of plain data counts -/
def pyd (μ : Store) : D → Option PyData
  | .non => some .none
  | .bl b => some (.bool b)
  | .int i => some (.int i)
  | .str s => some (.str (toS s))
  | .tup ds => (pydL μ ds).map .tuple
  | .lst ds => (pydL μ ds).map .list
  | .ref k => match μ[k]? with
    | some (.lst ds) => (pyd0L ds).map .list
    | _ => none
  | _ => none
def pydL (μ : Store) : List D → Option (List PyData)
  | [] => some []
  | d :: ds => match pyd μ d, pydL μ ds with
    | some p, some ps => some (p :: ps)
    | _, _ => none
end
end
section
variable {K : PySem.W.Frag} {π : List Addr} {H : Hp} {μ : Store}
mutual
theorem dp_of0 : ∀ {d : D} {v : V} {p : PyData}, Rp K π H d v → pyd0 d = some p → Dp K H v p
  | .non, _, _, r, h => by cases rep_non r; cases h; exact .non
  | .bl b, _, _, r, h => by cases rep_bl r; cases h; exact .bl b
  | .int i, _, _, r, h => by cases rep_int r; cases h; exact .int i
  | .str s, _, _, r, h => by cases rep_str r; cases h; exact .str _
  | .tup ds, _, _, r, h => by
    unfold pyd0 at h
    obtain ⟨ps, h1, h2⟩ := Option.map_eq_some_iff.mp h
    cases h2
    obtain ⟨a, vs, rfl, h3, h4⟩ := asT_view (ds := ds) r rfl
    exact .tup h3 (dp_of0L h4 h1)
  | .lst ds, _, _, r, h => by
    unfold pyd0 at h
    obtain ⟨ps, h1, h2⟩ := Option.map_eq_some_iff.mp h
    cases h2
    unfold Rp Rep at r
    obtain ⟨a, vs, rfl, h3, h4⟩ := r
    exact .lst (SqL.of (off_sub _ _ h3)) (dp_of0L h4 h1)
  | .dct _ _, _, _, _, h => by unfold pyd0 at h; cases h
  | .obj _ _ _, _, _, _, h => by unfold pyd0 at h; cases h
  | .ref _, _, _, _, h => by unfold pyd0 at h; cases h
  | .cls _, _, _, _, h => by unfold pyd0 at h; cases h
  | .ty _, _, _, _, h => by unfold pyd0 at h; cases h
  | .scr _, _, _, _, h => by unfold pyd0 at h; cases h
theorem dp_of0L : ∀ {ds : List D} {vs : List V} {ps : List PyData}, RpL K π H ds vs → pyd0L ds = some ps → DpAll K H vs ps
  | [], _, _, r, h => by
    unfold RpL RepL at r
    unfold pyd0L at h
    subst r
    cases h
    exact .nil
  | d :: ds, _, _, r, h => by
    obtain ⟨v, t, rfl, h2, h3⟩ := RepL.uncons r
    unfold pyd0L at h
    split at h
    · rename_i p ps e1 e2
      cases h
      exact .cons (dp_of0 h2 e1) (dp_of0L h3 e2)
    · cases h
end
mutual
theorem dp_of (s : SimM K π μ H) : ∀ {d : D} {v : V} {p : PyData}, Rp K π H d v → pyd μ d = some p → Dp K H v p
  | .non, _, _, r, h => by cases rep_non r; cases h; exact .non
  | .bl b, _, _, r, h => by cases rep_bl r; cases h; exact .bl b
  | .int i, _, _, r, h => by cases rep_int r; cases h; exact .int i
  | .str s, _, _, r, h => by cases rep_str r; cases h; exact .str _
  | .tup ds, _, _, r, h => by
    unfold pyd at h
    obtain ⟨ps, h1, h2⟩ := Option.map_eq_some_iff.mp h
    cases h2
    obtain ⟨a, vs, rfl, h3, h4⟩ := asT_view (ds := ds) r rfl
    exact .tup h3 (dp_ofL s h4 h1)
  | .lst ds, _, _, r, h => by
    unfold pyd at h
    obtain ⟨ps, h1, h2⟩ := Option.map_eq_some_iff.mp h
    cases h2
    unfold Rp Rep at r
    obtain ⟨a, vs, rfl, h3, h4⟩ := r
    exact .lst (SqL.of (off_sub _ _ h3)) (dp_ofL s h4 h1)
  | .ref k, _, _, r, h => by
    unfold pyd at h
    split at h
    · rename_i ds e
      obtain ⟨ps, h1, h2⟩ := Option.map_eq_some_iff.mp h
      cases h2
      obtain ⟨a, vs, rfl, h3, h4⟩ := asL_view (ds := ds) s r (by unfold asL; simp only [e])
      exact .lst h3 (dp_of0L h4 h1)
    · cases h
  | .dct _ _, _, _, _, h => by unfold pyd at h; cases h
  | .obj _ _ _, _, _, _, h => by unfold pyd at h; cases h
  | .cls _, _, _, _, h => by unfold pyd at h; cases h
  | .ty _, _, _, _, h => by unfold pyd at h; cases h
  | .scr _, _, _, _, h => by unfold pyd at h; cases h
theorem dp_ofL (s : SimM K π μ H) : ∀ {ds : List D} {vs : List V} {ps : List PyData}, RpL K π H ds vs → pydL μ ds = some ps → DpAll K H vs ps
  | [], _, _, r, h => by
    unfold RpL RepL at r
    unfold pydL at h
    subst r
    cases h
    exact .nil
  | d :: ds, _, _, r, h => by
    obtain ⟨v, t, rfl, h2, h3⟩ := RepL.uncons r
    unfold pydL at h
    split at h
    · rename_i p ps e1 e2
      cases h
      exact .cons (dp_of s h2 e1) (dp_ofL s h3 e2)
    · cases h
end
end
section
variable {X : Cx} {W : WX} {e a b : Expr} {es : List Expr} {m n : M D} {pos : Pos}
/-- == -/
def eqB (μ : Store) : D → D → Option Bool
  | .str s, .str t => some (decide (s = t))
  | .int i, .int j => some (decide (i = j))
  | .bl c, .bl d => some (c == d)
  | d1, d2 => match pyd μ d1, pyd μ d2 with
    | some p, some q => if SeqAt.shaped p && SeqAt.shaped q then some (PyData.eqv p q) else none
    | _, _ => none
def dB (o : Option Bool) (μ : Store) : Out D := match o with
  | some c => .ok (.bl c) μ
  | none => .stuck
def dEq : D → D → Store → Out D := fun d1 d2 μ => dB (eqB μ d1 d2) μ
def dNe : D → D → Store → Out D := fun d1 d2 μ => dB ((eqB μ d1 d2).map not) μ
theorem dec_toS {s t : List Nat} : decide (V.str (toS s) = V.str (toS t)) = decide (s = t) := by
  by_cases h : s = t
  · subst h; simp
  · rw [decide_eq_false h, decide_eq_false]
    intro e
    exact h (toS_inj.mp (V.str.inj e))
theorem dec_int' {i j : Int} : decide (V.int i = V.int j) = decide (i = j) := by
  by_cases h : i = j
  · subst h; simp
  · rw [decide_eq_false h, decide_eq_false]
    intro e
    exact h (V.int.inj e)
theorem dec_bl' {i j : Bool} : decide (V.bl i = V.bl j) = (i == j) := by cases i <;> cases j <;> rfl
theorem opb_eq (hr : X.A.units + 64 < cLine) : OpB X W (compareOp .Eq) dEq := by
  intro π μ σ H Q d1 d2 x y s r1 r2 h
  unfold dEq at h
  cases q : eqB μ d1 d2 with
  | none => rw [q] at h; exact h.elim
  | some c =>
    rw [q] at h
    have fin : Q (.bl c) H := h _ H π Gr.refl s rfl
    unfold eqB at q
    split at q
    · cases rep_str r1; cases rep_str r2; cases q
      exact OpR.vb op_eq ⟨rfl, by rw [dec_toS]; exact fin⟩
    · cases rep_int r1; cases rep_int r2; cases q
      exact OpR.vb op_eq ⟨rfl, by rw [dec_int']; exact fin⟩
    · cases rep_bl r1; cases rep_bl r2; cases q
      exact OpR.vb op_eq ⟨rfl, by rw [dec_bl']; exact fin⟩
    · split at q
      · rename_i p1 p2 e1 e2
        by_cases hs : (SeqAt.shaped p1 && SeqAt.shaped p2) = true
        · rw [if_pos hs] at q
          rw [Bool.and_eq_true] at hs
          cases q
          exact OpR.vb (op_eqD hr) ⟨p1, p2, dp_of s r1 e1, dp_of s r2 e2, hs.1, hs.2, fin⟩
        · rw [if_neg hs] at q; cases q
      · cases q
theorem opb_ne (hr : X.A.units + 64 < cLine) : OpB X W (compareOp .NotEq) dNe := by
  intro π μ σ H Q d1 d2 x y s r1 r2 h
  unfold dNe at h
  cases q : eqB μ d1 d2 with
  | none => rw [q] at h; exact h.elim
  | some c =>
    rw [q] at h
    have fin : Q (.bl (!c)) H := h _ H π Gr.refl s rfl
    unfold eqB at q
    split at q
    · cases rep_str r1; cases rep_str r2; cases q
      exact OpR.vb op_ne ⟨rfl, by rw [dec_toS]; exact fin⟩
    · cases rep_int r1; cases rep_int r2; cases q
      exact OpR.vb op_ne ⟨rfl, by rw [dec_int']; exact fin⟩
    · cases rep_bl r1; cases rep_bl r2; cases q
      exact OpR.vb op_ne ⟨rfl, by rw [dec_bl']; exact fin⟩
    · split at q
      · rename_i p1 p2 e1 e2
        by_cases hs : (SeqAt.shaped p1 && SeqAt.shaped p2) = true
        · rw [if_pos hs] at q
          rw [Bool.and_eq_true] at hs
          cases q
          exact OpR.vb (op_neD hr) ⟨p1, p2, dp_of s r1 e1, dp_of s r2 e2, hs.1, hs.2, fin⟩
        · rw [if_neg hs] at q; cases q
      · cases q
def dLt : D → D → Store → Out D
  | .int i, .int j, μ => .ok (.bl (decide (i < j))) μ
  | .str s, .str t, μ => .ok (.bl (decide (s < t))) μ
  | _, _, _ => .stuck
def dLe : D → D → Store → Out D
  | .int i, .int j, μ => .ok (.bl (decide (i ≤ j))) μ
  | _, _, _ => .stuck
def dGt : D → D → Store → Out D
  | .int i, .int j, μ => .ok (.bl (decide (j < i))) μ
  | _, _, _ => .stuck
def dGe : D → D → Store → Out D
  | .int i, .int j, μ => .ok (.bl (decide (j ≤ i))) μ
  | _, _, _ => .stuck
theorem opb_lt : OpB X W (compareOp .Lt) dLt := by
  intro π μ σ H Q d1 d2 x y s r1 r2 h
  unfold dLt at h
  split at h
  · cases rep_int r1; cases rep_int r2
    exact OpR.vb op_lt ⟨_, _, rfl, rfl, h _ H π Gr.refl s rfl⟩
  · cases rep_str r1; cases rep_str r2
    exact OpR.vb op_lt_str ⟨_, _, rfl, rfl, h _ H π Gr.refl s rfl⟩
  · exact h.elim
theorem opb_le : OpB X W (compareOp .LtE) dLe := by
  intro π μ σ H Q d1 d2 x y s r1 r2 h
  unfold dLe at h
  split at h
  · cases rep_int r1; cases rep_int r2
    exact OpR.vb op_le ⟨_, _, rfl, rfl, h _ H π Gr.refl s rfl⟩
  · exact h.elim
theorem opb_gt : OpB X W (compareOp .Gt) dGt := by
  intro π μ σ H Q d1 d2 x y s r1 r2 h
  unfold dGt at h
  split at h
  · cases rep_int r1; cases rep_int r2
    exact OpR.vb op_gt ⟨_, _, rfl, rfl, h _ H π Gr.refl s rfl⟩
  · exact h.elim
theorem opb_ge : OpB X W (compareOp .GtE) dGe := by
  intro π μ σ H Q d1 d2 x y s r1 r2 h
  unfold dGe at h
  split at h
  · cases rep_int r1; cases rep_int r2
    exact OpR.vb op_ge ⟨_, _, rfl, rfl, h _ H π Gr.refl s rfl⟩
  · exact h.elim
def dIsN : D → D → Store → Out D
  | d, .non, μ => .ok (.bl (match d with | .non => true | _ => false)) μ
  | _, _, _ => .stuck
def dNotN : D → D → Store → Out D
  | d, .non, μ => .ok (.bl (match d with | .non => false | _ => true)) μ
  | _, _, _ => .stuck
theorem rep_isnon {K : PySem.W.Frag} {H : Hp} {π : List Addr} {d : D} {v : V} (h : Rep K H π d v) : decide (v = .non) = (match d with | .non => true | _ => false) := by
  cases d <;> unfold Rep at h
  case non => subst h; rfl
  case bl => subst h; rfl
  case int => subst h; rfl
  case str => subst h; rfl
  case tup => obtain ⟨a, vs, rfl, _⟩ := h; rfl
  case lst => obtain ⟨a, vs, rfl, _⟩ := h; rfl
  case dct => obtain ⟨a, vs, rfl, _⟩ := h; rfl
  case obj => obtain ⟨a, _, vs, rfl, _⟩ := h; rfl
  case ref => obtain ⟨a, _, rfl⟩ := h; rfl
  case cls => subst h; rfl
  case ty => subst h; rfl
  case scr => obtain ⟨a, rfl, _⟩ := h; rfl
theorem opb_is : OpB X W (compareOp .Is) dIsN := by
  intro π μ σ H Q d1 d2 x y s r1 r2 h
  unfold dIsN at h
  split at h
  · cases rep_non r2
    refine OpR.vb op_isN ⟨rfl, ?_⟩
    rw [rep_isnon r1]
    refine h _ H π Gr.refl s ?_
    unfold Rp Rep
    cases d1 <;> rfl
  · exact h.elim
theorem opb_isnot : OpB X W (compareOp .IsNot) dNotN := by
  intro π μ σ H Q d1 d2 x y s r1 r2 h
  unfold dNotN at h
  split at h
  · cases rep_non r2
    refine OpR.vb op_notN ⟨rfl, ?_⟩
    rw [rep_isnon r1]
    refine h _ H π Gr.refl s ?_
    unfold Rp Rep
    cases d1 <;> rfl
  · exact h.elim
theorem SE.cmp {op : CmpOp} {f : D → D → Store → Out D} (ho : OpB X W (compareOp op) f) (ha : SE X W a m) (hb : SE X W b n) (hm : behindInMarks op b = false := by first | exact nomark _ | rfl) : SE X W (.Compare a [op] [b] pos) (m2 f m n) := by
  intro π ρ μ σ H Q sm sl h pins s I
  exact wpAny_Compare1 (binT pe_we pe_we I (R := fun x y H2 => VB X σ H2 Q (compareOp op) x y) (SE.two ha hb sm sl h fun d1 d2 μ2 x y H2 π2 g s2 l2 r1 r2 h2 => ho π2 μ2 σ H2 Q d1 d2 x y s2 r1 r2 h2) fun v u s2 x y H2 I2 rx ry q => q pins s2 v u I2 rx ry) hm
end

/-! ### the script -/
section
variable {X : Cx} {pins : List (Addr × Obj)} {σ : L2.St} {H : Hp} {s : Shared} {a : Addr} {ns : List Int}
/-- a thing told otherwise for a while -/
theorem inv_swap {u u' : HO} (I : Inv X pins σ H s) (h : H a = some u) (h1 : ∀ xs, X.H_0 a ≠ some (.tup xs)) (h2 : ∀ ob v, X.H_0 a ≠ some (.frz ob v)) (h3 : ∀ ps, X.H_0 a ≠ some (.tbl ps)) (k1 : ∀ y, u ≠ .own y) (k2 : ∀ xs, u ≠ .tup xs)
    (new : ObjOk X.prog X.w (upd H a u') s.heap a u') : Inv X pins σ (upd H a u') s := by
  have neN : ∀ b, H b = none → b ≠ a := fun b e z => by rw [z, h] at e; cases e
  have neO : ∀ b y, H b = some (.own y) → b ≠ a := fun b y e z => by rw [z, h] at e; cases e; exact k1 _ rfl
  have neT : ∀ b xs, H b = some (.tup xs) → b ≠ a := fun b xs e z => by rw [z, h] at e; cases e; exact k2 _ rfl
  refine ⟨I.ok, I.os, I.bare, ⟨I.base.keep, I.base.slot, fun b o e n hx => ?_, I.base.there, fun b xs e => ?_, fun b o x e => ?_, fun b ps e => ?_⟩, I.loc, I.cell, ?_, fun x c e => ?_, fun p hp => ?_, fun b o e => ?_, I.len⟩
  · have q := I.base.free b o e n hx
    rw [upd_ne (neN b q)]; exact q
  · rw [upd_ne (fun z : b = a => h1 xs (by rw [← z]; exact e))]; exact I.base.tups b xs e
  · rw [upd_ne (fun z : b = a => h2 o x (by rw [← z]; exact e))]; exact I.base.frzs b o x e
  · obtain ⟨m, q⟩ := I.base.tbls b ps e
    exact ⟨m, by rw [upd_ne (fun z : b = a => h3 ps (by rw [← z]; exact e))]; exact q⟩
  · rw [upd_ne (neN _ I.free)]; exact I.free
  · rw [upd_ne (neN c (I.freeC x c e))]; exact I.freeC x c e
  · obtain ⟨e, n, r⟩ := I.pin p hp
    exact ⟨e, by rw [upd_ne (neN _ n)]; exact n, r⟩
  · by_cases hb : b = a
    · rw [hb, upd_same] at e
      cases e
      rw [hb]
      exact new
    · rw [upd_ne hb] at e
      exact (I.hok b o e).stay (fun c v _ q => q) (fun c q => by rw [upd_ne (neO c _ q)]; exact q) fun c xs q => by rw [upd_ne (neT c xs q)]; exact q
/-- a rule over lists, for the script -/
theorem scr_ep {Q : VK} {A : Around} {t : Sem Value} {E : Value → Shared → Prop} (I : Inv X pins σ H s) (h : ScrAt X.K H a ns) (k0 : SqL X.K H a (ns.map V.int) → wpAny (model X.prog X.w) A t (EP X pins σ Q) E s) (k : ∀ H2, SqL X.K H2 a (ns.map V.int) → (∀ b, b ≠ a → H2 b = H b) → H2 a ≠ none → Inv X pins σ H2 s → wpAny (model X.prog X.w) A t (EP X pins σ fun v H' => H' a = H2 a ∧ Q v fun b => if b = a then H a else H' b) E s) :
    wpAny (model X.prog X.w) A t (EP X pins σ Q) E s := by
  rcases h with h | ⟨us, h1, h2, h3⟩
  · exact k0 (.inr (by obtain ⟨o, its, n, q⟩ := h; exact ⟨o, its, n, q⟩))
  · have n1 : ∀ xs, X.H_0 a ≠ some (.tup xs) := fun xs e => by have q := I.base.tups a xs e; rw [h1] at q; cases q
    have n2 : ∀ ob v, X.H_0 a ≠ some (.frz ob v) := fun ob v e => by have q := I.base.frzs a ob v e; rw [h1] at q; cases q
    have n3 : ∀ ps, X.H_0 a ≠ some (.tbl ps) := fun ps e => by obtain ⟨m, q⟩ := I.base.tbls a ps e; rw [h1] at q; cases q
    obtain ⟨e1, _, _⟩ := (show ObjOk X.prog X.w H s.heap a (.ext fun h => h.get? a = some { cls := .type "list", data := .seq us.toArray }) from I.hok a _ h1)
    have I2 : Inv X pins σ (upd H a (.frz { cls := .type "list", data := .seq us.toArray } (.lst (ns.map V.int)))) s :=
      inv_swap I h1 n1 n2 n3 (fun _ z => nomatch z) (fun _ z => nomatch z) ⟨e1, by rw [List.length_map]; exact h3, us, _, h2, e1⟩
    refine thn (k _ (.inl (.inr ⟨_, upd_same⟩)) (fun b hb => upd_ne hb) (by rw [upd_same]; exact fun z => nomatch z) I2) fun v s1 z => ?_
    obtain ⟨x, H', I', r, e, q⟩ := z
    rw [upd_same] at e
    have ok := I'.hok a _ e
    obtain ⟨e3, _⟩ := ok
    have I3 : Inv X pins σ (upd H' a (.ext fun h => h.get? a = some { cls := .type "list", data := .seq us.toArray })) s1 :=
      inv_swap I' e n1 n2 n3 (fun _ z => nomatch z) (fun _ z => nomatch z) ⟨e3, ⟨_, e3⟩, fun h1 h2 p q => q _ p⟩
    have ef : (fun b => if b = a then H a else H' b) = upd H' a (.ext fun h => h.get? a = some { cls := .type "list", data := .seq us.toArray }) := by
      funext b
      by_cases hb : b = a
      · rw [if_pos hb, hb, upd_same, h1]
      · rw [if_neg hb, upd_ne hb]
    rw [ef] at q
    exact ⟨x, _, I3, r, q⟩
theorem scr_inv (I : Inv X pins σ H s) (h : ScrAt X.K H a ns) : ∃ H2, SqL X.K H2 a (ns.map V.int) ∧ Inv X pins σ H2 s := by
  rcases h with h | ⟨us, h1, h2, h3⟩
  · exact ⟨H, .inr (by obtain ⟨o, its, n, q⟩ := h; exact ⟨o, its, n, q⟩), I⟩
  · have n1 : ∀ xs, X.H_0 a ≠ some (.tup xs) := fun xs e => by have q := I.base.tups a xs e; rw [h1] at q; cases q
    have n2 : ∀ ob v, X.H_0 a ≠ some (.frz ob v) := fun ob v e => by have q := I.base.frzs a ob v e; rw [h1] at q; cases q
    have n3 : ∀ ps, X.H_0 a ≠ some (.tbl ps) := fun ps e => by obtain ⟨m, q⟩ := I.base.tbls a ps e; rw [h1] at q; cases q
    obtain ⟨e1, _, _⟩ := (show ObjOk X.prog X.w H s.heap a (.ext fun h => h.get? a = some { cls := .type "list", data := .seq us.toArray }) from I.hok a _ h1)
    exact ⟨_, .inl (.inr ⟨_, upd_same⟩), inv_swap I h1 n1 n2 n3 (fun _ z => nomatch z) (fun _ z => nomatch z) (u' := .frz { cls := .type "list", data := .seq us.toArray } (.lst (ns.map V.int))) ⟨e1, by rw [List.length_map]; exact h3, us, _, h2, e1⟩⟩
/-- a new thing laid meanwhile -/
theorem scr_new {H2 : Hp} {p : Addr} {o : HO} (k : ∀ b, b ≠ a → H2 b = H b) (hp : p ≠ a) : (fun b => if b = a then H a else upd H2 p o b) = upd H p o := by
  funext b
  by_cases hb : b = a
  · rw [if_pos hb, hb, upd_ne (Ne.symm hp)]
  · rw [if_neg hb]
    by_cases e : b = p
    · rw [e, upd_same, upd_same]
    · rw [upd_ne e, upd_ne e, k b hb]
theorem scr_back {H2 : Hp} (k : ∀ b, b ≠ a → H2 b = H b) : (fun b => if b = a then H a else H2 b) = H := by
  funext b
  by_cases hb : b = a
  · rw [if_pos hb, hb]
  · rw [if_neg hb, k b hb]
theorem rep_scr {K : PySem.W.Frag} {π : List Addr} {v : V} (r : Rp K π H (.scr ns) v) : ∃ a, v = .ref a ∧ ScrAt K H a ns := by
  unfold Rp Rep at r
  obtain ⟨a, h1, h2⟩ := r
  refine ⟨a, h1, ?_⟩
  rcases h2 with h2 | ⟨us, h2, h3⟩
  · exact .inl h2
  · exact .inr ⟨us, off_sub _ _ h2, h3⟩
end
end Rv
set_option Elab.async false
set_option linter.all false
set_option maxRecDepth 100000
set_option maxHeartbeats 4000000
/-! Rv4: tests, displays, items, slices, fields, built-in calls. -/
namespace Rv
open PySem PySem.Spec L2
open PyProof.Rows hiding St

section
variable {X : Cx} {W : WX} {e a b c : Expr} {es rest : List Expr} {m n : M D} {ms : M (List D)} {pos : Pos} {t u : M Bool}

/-! ### tests -/
def truth (μ : Store) : D → Option Bool
  | .bl b => some b
  | .int i => some (i != 0)
  | .non => some false
  | .str s => if s.length ≤ maxL then some (!s.isEmpty) else none
  | .tup ds => some (!ds.isEmpty)
  | d => (asL μ d).map fun ds => !ds.isEmpty
def mT (m : M D) : M Bool := fun ρ μ => (m ρ μ).bind fun d μ' => match truth μ' d with
  | some b => .ok b μ'
  | none => .stuck
/-- a test that gives True or False -/
def outB (d : D) (μ : Store) : Out Bool := match d with
  | .bl b => .ok b μ
  | _ => .stuck
def mB (m : M D) : M Bool := fun ρ μ => (m ρ μ).bind outB
theorem truth_ok {π : List Addr} {μ : Store} {H : Hp} {d : D} {v : V} {k : Bool} (s : SimM X.K π μ H) (r : Rp X.K π H d v) (h : truth μ d = some k) : TruV X.K v H k := by
  unfold truth at h
  split at h
  · cases rep_bl r; cases h; rfl
  · cases rep_int r; cases h; rfl
  · cases rep_non r; cases h; rfl
  · rename_i s1
    cases rep_str r
    by_cases hl : s1.length ≤ maxL
    · rw [if_pos hl] at h
      cases h
      refine ⟨by rw [toS_length, sizeLine_eq]; exact hl, ?_⟩
      rw [toS_length]
      cases s1 with
      | nil => rfl
      | cons x l => simp; omega
    · rw [if_neg hl] at h; cases h
  · cases h
    obtain ⟨p, vs, rfl, h1, h2⟩ := asT_view r rfl
    refine .inr (.inl ⟨vs, h1, ?_⟩)
    have := h2.length
    rename_i ds
    cases ds <;> cases vs <;> simp_all
  · obtain ⟨ds, h1, h2⟩ := Option.map_eq_some_iff.mp h
    obtain ⟨p, vs, rfl, h3, h4⟩ := asL_view s r h1
    refine .inl ⟨vs, h3, ?_⟩
    have := h4.length
    cases ds <;> cases vs <;> simp_all
theorem ST.val (ha : SE X W a m) (he : ∀ whole, isTrue a X.env whole = (do let v ← whole; standAt a.pos; holding [v] (truthy v)) := by intro _; rfl) : ST X W a (mT m) := by
  intro π ρ μ σ H Q sm sl h
  refine WT.of (pt_truth pe_we he) (ha π ρ μ σ H _ sm sl (GE.bind h fun d μ1 x H1 π1 e1 g1 s1 r1 h1 => ?_))
  cases q : truth μ1 d with
  | none => rw [q] at h1; exact h1.elim
  | some k =>
    rw [q] at h1
    exact ⟨k, truth_ok s1 r1 q, h1 k H1 π1 Gr.refl s1 rfl⟩
theorem GE.mB {R : List Addr → Hp → Bool → Bool → Prop} {π : List Addr} {σ : L2.St} {H : Hp} {Q : Bool → Hp → Prop} {μ1 : Store} {d : D} {x : V} (r1 : Rp X.K π H d x) (s1 : SimM X.K π μ1 H) (h1 : GE X W RB π σ H Q (outB d μ1)) : ∃ k, x = .bl k ∧ Q k H := by
  cases d with
  | bl k =>
    cases rep_bl r1
    exact ⟨k, rfl, h1 k H π Gr.refl s1 rfl⟩
  | _ => exact h1.elim
theorem ST.cmp {op : CmpOp} {f : D → D → Store → Out D} (ho : OpB X W (compareOp op) f) (ha : SE X W a m) (hb : SE X W b n) (hm : behindInMarks op b = false := by first | exact nomark _ | rfl) : ST X W (.Compare a [op] [b] pos) (mB (m2 f m n)) := by
  intro π ρ μ σ H Q sm sl h pins s I
  refine wpAny_isTrue_Compare1 (thn (binT pe_we pe_we I (R := fun x y H2 => VB X σ H2 (fun z H3 => ∃ k, z = .bl k ∧ Q k H3) (compareOp op) x y) ?_ (Q := EP X pins σ fun z H3 => ∃ k, z = .bl k ∧ Q k H3) fun v u s2 x y H2 I2 rx ry q => q pins s2 v u I2 rx ry) fun v s1 h1 => thn h1 fun u s2 h2 => thn h2 fun z s3 q => ?_) hm
  · have h' : GE X W (Rp X.K) π σ H (fun z H3 => ∃ k, z = .bl k ∧ Q k H3) (m2 f m n ρ μ) := GE.bind h fun d μ1 x H1 π1 e1 g1 s1 r1 h1 => GE.mB (R := RB) r1 s1 h1
    exact SE.two ha hb sm sl h' fun d1 d2 μ2 x y H2 π2 g s2 l2 r1 r2 h2 => ho π2 μ2 σ H2 _ d1 d2 x y s2 r1 r2 h2
  · obtain ⟨x, H3, I3, r3, k, rfl, q⟩ := q
    cases r3
    exact wpAny_truthy_bool ⟨H3, I3, q⟩
/-- and, or as tests -/
def WW (X : Cx) (e : Expr) : TT := fun σ H Q => ∀ (whole : Sem Value) (pins : List (Addr × Obj)) (s : Shared), Inv X pins σ H s → wpAny (model X.prog X.w) X.A (isTrue e X.env whole) (TP X pins σ Q) X.xe s
theorem pw_ww {X : Cx} {e : Expr} : PW X e (WW X e) := ⟨fun wh pins s σ H Q I h => h wh pins s I⟩
def SW (X : Cx) (W : WX) (e : Expr) (m : M Bool) : Prop := ∀ (π : List Addr) (ρ : Env') (μ : Store) (σ : L2.St) (H : Hp) (Q : Bool → Hp → Prop), SimM X.K π μ H → SimL X.K π H ρ σ → GE X W RB π σ H Q (m ρ μ) → WW X e σ H Q
theorem WW.of {X : Cx} {e : Expr} {t : TT} {σ : L2.St} {H : Hp} {Q : Bool → Hp → Prop} (h : PW X e t) (q : t σ H Q) : WW X e σ H Q := fun wh pins s I => h.run wh pins s σ H Q I q
theorem SW.st (h : SW X W e t) : ST X W e t := fun π ρ μ σ H Q sm sl g => WT.of (PW.pt pw_ww) (h π ρ μ σ H Q sm sl g)
def tAndM (t u : M Bool) : M Bool := fun ρ μ => (t ρ μ).bind fun b μ' => if b = true then u ρ μ' else .ok false μ'
def tOrM (t u : M Bool) : M Bool := fun ρ μ => (t ρ μ).bind fun b μ' => if b = true then .ok true μ' else u ρ μ'
def tNotM (t : M Bool) : M Bool := fun ρ μ => (t ρ μ).bind fun b μ' => .ok (!b) μ'
theorem SW.and1 (h : ST X W a t) : SW X W (.BoolOp .And [a] pos) t := fun π ρ μ σ H Q sm sl g => WW.of (pw_and1 pt_wt) (h π ρ μ σ H Q sm sl g)
theorem SW.or1 (h : ST X W a t) : SW X W (.BoolOp .Or [a] pos) t := fun π ρ μ σ H Q sm sl g => WW.of (pw_or1 pt_wt) (h π ρ μ σ H Q sm sl g)
theorem SW.and (ha : ST X W a t) (hb : SW X W (.BoolOp .And (b :: rest) pos) u) : SW X W (.BoolOp .And (a :: b :: rest) pos) (tAndM t u) := fun π ρ μ σ H Q sm sl g => by
  refine WW.of (pw_and pt_wt pw_ww) (ha π ρ μ σ H _ sm sl (GE.bind g fun k μ1 k' H1 π1 e1 g1 s1 r1 h1 => ?_))
  cases r1
  cases k with
  | true => exact hb π1 ρ μ1 σ H1 Q s1 (g1.loc sl) h1
  | false => exact h1 false H1 π1 Gr.refl s1 rfl
theorem SW.or (ha : ST X W a t) (hb : SW X W (.BoolOp .Or (b :: rest) pos) u) : SW X W (.BoolOp .Or (a :: b :: rest) pos) (tOrM t u) := fun π ρ μ σ H Q sm sl g => by
  refine WW.of (pw_or pt_wt pw_ww) (ha π ρ μ σ H _ sm sl (GE.bind g fun k μ1 k' H1 π1 e1 g1 s1 r1 h1 => ?_))
  cases r1
  cases k with
  | true => exact h1 true H1 π1 Gr.refl s1 rfl
  | false => exact hb π1 ρ μ1 σ H1 Q s1 (g1.loc sl) h1
theorem ST.not (ha : ST X W a t) : ST X W (.UnaryOp .Not a pos) (tNotM t) := fun π ρ μ σ H Q sm sl g =>
  WT.of (pt_not pt_wt) (ha π ρ μ σ H _ sm sl (GE.bind g fun k μ1 k' H1 π1 e1 g1 s1 r1 h1 => by
    cases r1
    exact h1 (!k) H1 π1 Gr.refl s1 rfl))
/-- and, or, not as values -/
def mAnd (m n : M D) : M D := fun ρ μ => (m ρ μ).bind fun d μ' => match d with
  | .bl true => n ρ μ'
  | .bl false => .ok (.bl false) μ'
  | _ => .stuck
def mOr (m n : M D) : M D := fun ρ μ => (m ρ μ).bind fun d μ' => match d with
  | .bl true => .ok (.bl true) μ'
  | .bl false => n ρ μ'
  | _ => .stuck
def dNot : D → Store → Out D
  | .bl b, μ => .ok (.bl (!b)) μ
  | _, _ => .stuck
theorem SE.bone {op} (h : SE X W a m) : SE X W (.BoolOp op [a] pos) m := fun π ρ μ σ H Q sm sl g => WE.of (pe_one pe_we) (h π ρ μ σ H Q sm sl g)
theorem SE.and (ha : SE X W a m) (hb : SE X W (.BoolOp .And (b :: rest) pos) n) : SE X W (.BoolOp .And (a :: b :: rest) pos) (mAnd m n) := fun π ρ μ σ H Q sm sl g => by
  refine WE.of (pe_and pe_we pe_we) (ha π ρ μ σ H _ sm sl (GE.bind g fun d μ1 x H1 π1 e1 g1 s1 r1 h1 => ?_))
  cases d with
  | bl k =>
    cases rep_bl r1
    refine ⟨k, rfl, ?_⟩
    cases k with
    | true => exact hb π1 ρ μ1 σ H1 Q s1 (g1.loc sl) h1
    | false => exact h1 _ H1 π1 Gr.refl s1 rfl
  | _ => exact h1.elim
theorem SE.or (ha : SE X W a m) (hb : SE X W (.BoolOp .Or (b :: rest) pos) n) : SE X W (.BoolOp .Or (a :: b :: rest) pos) (mOr m n) := fun π ρ μ σ H Q sm sl g => by
  refine WE.of (pe_or pe_we pe_we) (ha π ρ μ σ H _ sm sl (GE.bind g fun d μ1 x H1 π1 e1 g1 s1 r1 h1 => ?_))
  cases d with
  | bl k =>
    cases rep_bl r1
    refine ⟨k, rfl, ?_⟩
    cases k with
    | true => exact h1 _ H1 π1 Gr.refl s1 rfl
    | false => exact hb π1 ρ μ1 σ H1 Q s1 (g1.loc sl) h1
  | _ => exact h1.elim
theorem SE.not (ha : SE X W a m) : SE X W (.UnaryOp .Not a pos) (m1 dNot m) := fun π ρ μ σ H Q sm sl g =>
  WE.of (pe_not pe_we) (ha π ρ μ σ H _ sm sl (GE.bind g fun d μ1 x H1 π1 e1 g1 s1 r1 h1 => by
    cases d with
    | bl k =>
      cases rep_bl r1
      exact ⟨k, rfl, h1 _ H1 π1 Gr.refl s1 rfl⟩
    | _ => exact h1.elim))
def mIf (t : M Bool) (m n : M D) : M D := fun ρ μ => (t ρ μ).bind fun b μ' => if b = true then m ρ μ' else n ρ μ'
theorem SE.ite (hc : ST X W c t) (ha : SE X W a m) (hb : SE X W b n) : SE X W (.IfExp c a b pos) (mIf t m n) := fun π ρ μ σ H Q sm sl g => by
  refine WE.of (pe_ifExp pt_wt pe_we pe_we) (hc π ρ μ σ H _ sm sl (GE.bind g fun k μ1 k' H1 π1 e1 g1 s1 r1 h1 => ?_))
  cases r1
  cases k with
  | true => exact ha π1 ρ μ1 σ H1 Q s1 (g1.loc sl) h1
  | false => exact hb π1 ρ μ1 σ H1 Q s1 (g1.loc sl) h1
/-- a <= b <= c -/
def Out.only {α : Type} : Out α → Out α
  | .ok a μ => .ok a μ
  | _ => .stuck
@[simp] theorem Out.only_ok {α : Type} (a : α) (μ : Store) : (Out.ok a μ).only = .ok a μ := rfl
def mChain (f g : D → D → Store → Out D) (m n o : M D) : M D := fun ρ μ => (m ρ μ).bind fun x μ1 => (n ρ μ1).bind fun y μ2 => (f x y μ2).only.bind fun z μ3 => match z with
  | .bl true => (o ρ μ3).bind fun w μ4 => (g y w μ4).only
  | .bl false => .ok (.bl false) μ3
  | _ => .stuck
/-- an operation's reading, whatever the slots -/
def rVB (X : Cx) (g : Value → Value → Sem Value) : R2 := fun x y H Q => ∀ σ, VB X σ H Q g x y
theorem opr_rVB {g : Value → Value → Sem Value} : OpR X g (rVB X g) := fun pins s σ H x y v u Q I rx ry q => q σ pins s v u I rx ry
theorem OpB.any {g : Value → Value → Sem Value} {f : D → D → Store → Out D} (ho : OpB X W g f) {π : List Addr} {μ : Store} {σ : L2.St} {H : Hp} {Q : VK} {d1 d2 : D} {x y : V} (s : SimM X.K π μ H) (r1 : Rp X.K π H d1 x) (r2 : Rp X.K π H d2 y) (h : GE X W (Rp X.K) π σ H Q (f d1 d2 μ).only) : rVB X g x y H Q := by
  intro σ'
  cases e : f d1 d2 μ with
  | ok d μ' =>
    rw [e] at h
    exact ho π μ σ' H Q d1 d2 x y s r1 r2 (by rw [e]; exact h)
  | exc c ns ds μ' => rw [e] at h; exact h.elim
  | stuck => rw [e] at h; exact h.elim
theorem chain_core {op op' : CmpOp} {f g : D → D → Store → Out D} {o : M D} (ho : OpB X W (compareOp op) f) (ho' : OpB X W (compareOp op') g) (ha : SE X W a m) (hb : SE X W b n) (hc : SE X W c o)
    {π : List Addr} {ρ : Env'} {μ : Store} {σ : L2.St} {H : Hp} {Q : VK} (sm : SimM X.K π μ H) (sl : SimL X.K π H ρ σ) (h : GE X W (Rp X.K) π σ H Q (mChain f g m n o ρ μ)) :
    tChain (rVB X (compareOp op)) (rVB X (compareOp op')) (WE X a) (WE X b) (WE X c) σ H Q := by
  refine ha π ρ μ σ H _ sm sl (GE.bind h fun d1 μ1 x H1 π1 e1 g1 s1 r1 h1 => ?_)
  refine hb π1 ρ μ1 σ H1 _ s1 (g1.loc sl) (GE.bind h1 fun d2 μ2 y H2 π2 e2 g2 s2 r2 h2 => ?_)
  refine OpB.any (σ := σ) ho s2 (g2.rep r1) r2 (GE.bind h2 fun d3 μ3 z H3 π3 e3 g3 s3 r3 h3 => ?_)
  cases d3 with
  | bl k =>
    cases rep_bl r3
    refine ⟨k, rfl, ?_⟩
    cases k with
    | true =>
      rw [if_pos rfl]
      refine hc π3 ρ μ3 σ H3 _ s3 (((g1.trans g2).trans g3).loc sl) (GE.bind h3 fun d4 μ4 w H4 π4 e4 g4 s4 r4 h4 => ?_)
      exact OpB.any (σ := σ) ho' s4 ((g3.trans g4).rep r2) r4 h4
    | false =>
      rw [if_neg (by decide)]
      exact h3 _ H3 π3 Gr.refl s3 rfl
  | _ => exact h3.elim
theorem SE.chain {op op' : CmpOp} {f g : D → D → Store → Out D} {o : M D} (ho : OpB X W (compareOp op) f) (ho' : OpB X W (compareOp op') g) (ha : SE X W a m) (hb : SE X W b n) (hc : SE X W c o)
    (hm : lastMarks [op, op'] [b, c] = false := by with_unfolding_all rfl) : SE X W (.Compare a [op, op'] [b, c] pos) (mChain f g m n o) := fun π ρ μ σ H Q sm sl h =>
  WE.of (pe_chain opr_rVB opr_rVB pe_we pe_we pe_we hm) (chain_core ho ho' ha hb hc sm sl h)
theorem ST.chain {op op' : CmpOp} {f g : D → D → Store → Out D} {o : M D} (ho : OpB X W (compareOp op) f) (ho' : OpB X W (compareOp op') g) (ha : SE X W a m) (hb : SE X W b n) (hc : SE X W c o)
    (hm : lastMarks [op, op'] [b, c] = false := by with_unfolding_all rfl) : ST X W (.Compare a [op, op'] [b, c] pos) (mB (mChain f g m n o)) := fun π ρ μ σ H Q sm sl h =>
  WT.of (pt_chain opr_rVB opr_rVB pe_we pe_we pe_we hm) (chain_core ho ho' ha hb hc sm sl (GE.bind h fun d μ1 x H1 π1 e1 g1 s1 r1 h1 => GE.mB (R := RB) r1 s1 h1))

/-! ### arguments, displays -/
def maNil : M (List D) := fun _ μ => .ok [] μ
def maCons (m : M D) (ms : M (List D)) : M (List D) := fun ρ μ => (m ρ μ).bind fun d μ1 => (ms ρ μ1).bind fun ds μ2 => .ok (d :: ds) μ2
def maStar (m : M D) (ms : M (List D)) : M (List D) := fun ρ μ => (m ρ μ).bind fun d μ1 => match asQ μ1 d with
  | some xs => (ms ρ μ1).bind fun ds μ2 => .ok (xs ++ ds) μ2
  | none => .stuck
theorem SA.nil : SA X W [] maNil := fun π ρ μ σ H Q sm sl h => WA.of pa_nil (h [] H π Gr.refl sm RepL.nil)
theorem SA.cons (ha : SE X W a m) (hr : SA X W es ms) (hs : starEach (a :: es) X.env = (false, eval a X.env) :: starEach es X.env := by rfl) : SA X W (a :: es) (maCons m ms) := fun π ρ μ σ H Q sm sl h => by
  refine WA.of (pa_cons pe_we pa_wa hs) (ha π ρ μ σ H _ sm sl (GE.bind h fun d μ1 x H1 π1 e1 g1 s1 r1 h1 => ?_))
  refine hr π1 ρ μ1 σ H1 _ s1 (g1.loc sl) (GE.bind h1 fun ds μ2 xs H2 π2 e2 g2 s2 r2 h2 => ?_)
  exact h2 _ H2 π2 Gr.refl s2 (.cons (g2.rep r1) r2)
theorem SA.star {p : Pos} (ha : SE X W a m) (hr : SA X W es ms) (hs : starEach (.Starred a p :: es) X.env = (true, eval a X.env) :: starEach es X.env := by rfl) : SA X W (.Starred a p :: es) (maStar m ms) := fun π ρ μ σ H Q sm sl h => by
  refine WA.of (StX.pa_star pe_we pa_wa hs) (ha π ρ μ σ H _ sm sl (GE.bind h fun d μ1 x H1 π1 e1 g1 s1 r1 h1 => ?_))
  cases q : asQ μ1 d with
  | none => rw [q] at h1; exact h1.elim
  | some xs =>
    rw [q] at h1
    obtain ⟨p, vs, rfl, hp, rp⟩ := asQ_view s1 r1 q
    refine ⟨p, vs, rfl, hp.elim .inr .inl, hr π1 ρ μ1 σ H1 _ s1 (g1.loc sl) (GE.bind h1 fun ds μ2 us H2 π2 e2 g2 s2 r2 h2 => ?_)⟩
    exact h2 _ H2 π2 Gr.refl s2 ((g2.repL rp).append r2)
def mTup (ms : M (List D)) : M D := fun ρ μ => (ms ρ μ).bind fun ds μ1 => if ds.length ≤ maxL then .ok (.tup ds) μ1 else .stuck
theorem SE.tup {x1} (h : SA X W es ms) : SE X W (.Tuple es x1 pos) (mTup ms) := fun π ρ μ σ H Q sm sl g => by
  refine WE.of (pe_tup pa_wa) (h π ρ μ σ H _ sm sl (GE.bind g fun ds μ1 vs H1 π1 e1 g1 s1 r1 h1 => ?_))
  by_cases hl : ds.length ≤ maxL
  · rw [if_pos hl] at h1
    exact ⟨by rw [r1.length, sizeLine_eq]; exact hl, fun p hp => GE.newT h1 s1 r1 hp⟩
  · rw [if_neg hl] at h1; exact h1.elim
/-- an expression that makes a new list: its items -/
def GF (X : Cx) (W : WX) (π : List Addr) (σ : L2.St) (H : Hp) (Q : VK) : Out (List D) → Prop
  | .ok ds μ' => ∀ p vs H1 π', H1 p = none → Gr π H π' H1 → SimM X.K π' μ' H1 → RpL X.K π' H1 ds vs → Q (.ref p) (upd H1 p (.lst vs))
  | .exc c ns ds μ' => ∀ d H' π', Gr π H π' H' → SimM X.K π' μ' H' → RepX X.K (off π' H') π' ns ds d → W (.ref (He.ga X.K c)) d σ H'
  | .stuck => False
def SF (X : Cx) (W : WX) (e : Expr) (m : M (List D)) : Prop := ∀ (π : List Addr) (ρ : Env') (μ : Store) (σ : L2.St) (H : Hp) (Q : VK), SimM X.K π μ H → SimL X.K π H ρ σ → GF X W π σ H Q (m ρ μ) → WE X e σ H Q
/-- .. that stays as it is -/
def mFz (m : M (List D)) : M D := fun ρ μ => (m ρ μ).bind fun ds μ1 => .ok (.lst ds) μ1
/-- .. that may be changed -/
def mNw (m : M (List D)) : M D := fun ρ μ => (m ρ μ).bind fun ds μ1 => .ok (.ref μ1.length) (μ1 ++ [.lst ds])
theorem SF.fz {ml : M (List D)} (h : SF X W e ml) : SE X W e (mFz ml) := fun π ρ μ σ H Q sm sl g => h π ρ μ σ H Q sm sl (by
  unfold mFz at g
  cases q : ml ρ μ with
  | ok ds μ1 =>
    rw [q] at g
    exact fun p vs H1 π' hp g1 s1 r1 => GE.newL (GE.mono g1 g) s1 r1 hp
  | exc c ns ds μ1 => rw [q] at g; exact g
  | stuck => rw [q] at g; exact g)
theorem SF.nw {ml : M (List D)} (h : SF X W e ml) : SE X W e (mNw ml) := fun π ρ μ σ H Q sm sl g => h π ρ μ σ H Q sm sl (by
  unfold mNw at g
  cases q : ml ρ μ with
  | ok ds μ1 =>
    rw [q] at g
    intro p vs H1 π' hp g1 s1 r1
    obtain ⟨s2, g2⟩ := s1.push (m := .lst ds) hp ⟨vs, rfl, r1⟩
    refine g (.ref p) _ (π' ++ [p]) (g1.trans g2) s2 ?_
    unfold Rp Rep
    exact ⟨p, by rw [← s1.len]; simp, rfl⟩
  | exc c ns ds μ1 => rw [q] at g; exact g
  | stuck => rw [q] at g; exact g)
def mLen (ms : M (List D)) : M (List D) := fun ρ μ => (ms ρ μ).bind fun ds μ1 => if ds.length ≤ maxL then .ok ds μ1 else .stuck
/-- from an outcome of arguments to what a new list wants -/
theorem GF.bindA {α β : Type} {R : List Addr → Hp → α → β → Prop} {π : List Addr} {σ : L2.St} {H : Hp} {Q : VK} {o : Out α} {f : α → Store → Out (List D)} {Q1 : β → Hp → Prop} (h : GF X W π σ H Q (o.bind f))
    (k : ∀ d μ1 v H1 π1, o = .ok d μ1 → Gr π H π1 H1 → SimM X.K π1 μ1 H1 → R π1 H1 d v → GF X W π1 σ H1 Q (f d μ1) → Q1 v H1) : GE X W R π σ H Q1 o := by
  cases o with
  | ok d μ1 =>
    intro v H' π' g s r
    refine k d μ1 v H' π' rfl g s r ?_
    have h' : GF X W π σ H Q (f d μ1) := h
    cases e : f d μ1 with
    | ok ds μ2 => rw [e] at h'; exact fun p vs H1 π2 hp g2 s2 r2 => h' p vs H1 π2 hp (g.trans g2) s2 r2
    | exc c ns ds μ2 => rw [e] at h'; exact fun d H2 π2 g2 s2 r2 => h' d H2 π2 (g.trans g2) s2 r2
    | stuck => rw [e] at h'; exact h'
  | exc c ns ds μ1 => exact h
  | stuck => exact h
theorem SF.lst (h : SA X W es ms) : SF X W (.List es pos) (mLen ms) := fun π ρ μ σ H Q sm sl g => by
  refine WE.of (pe_lst pa_wa) (h π ρ μ σ H _ sm sl (GF.bindA g fun ds μ1 vs H1 π1 e1 g1 s1 r1 h1 => ?_))
  by_cases hl : ds.length ≤ maxL
  · rw [if_pos hl] at h1
    exact ⟨by rw [r1.length, sizeLine_eq]; exact hl, fun p hp => h1 p vs H1 π1 hp Gr.refl s1 r1⟩
  · rw [if_neg hl] at h1; exact h1.elim
/-! ### items -/
theorem atI_rep {K : PySem.W.Frag} {H : Hp} {π : List Addr} {ds : List D} {vs : List V} {i : Int} {d : D} (r : RepL K H π ds vs) (h : atI ds i = some d) : ∃ v, atI vs i = some v ∧ Rep K H π d v := by
  unfold atI at h ⊢
  rw [r.length]
  cases q : ixN ds.length i with
  | none => rw [q] at h; cases h
  | some j =>
    rw [q] at h
    obtain ⟨v, h1, h2⟩ := r.get h
    exact ⟨v, h1, h2⟩
theorem atI_map {α β : Type} {f : α → β} {xs : List α} {i : Int} {k : α} (h : atI xs i = some k) : atI (xs.map f) i = some (f k) := by
  unfold atI at h ⊢
  rw [List.length_map]
  obtain ⟨j, h1, h2⟩ := Option.bind_eq_some_iff.mp h
  rw [h1]
  simp [h2]
def dIx : D → D → Store → Out D := fun d1 d2 μ => match d2 with
  | .int i => (match d1 with
    | .str s => if s.length ≤ maxL then (match atI s i with
      | some c => .ok (.str [c]) μ
      | none => .stuck) else .stuck
    | .scr ns => (match atI ns i with
      | some k => .ok (.int k) μ
      | none => .stuck)
    | d1 => match asQ μ d1 with
      | some ds => (match atI ds i with
        | some d => .ok d μ
        | none => .stuck)
      | none => .stuck)
  | _ => .stuck
def OpI (X : Cx) (W : WX) (f : D → D → Store → Out D) : Prop := ∀ (π : List Addr) (μ : Store) (σ : L2.St) (H : Hp) (Q : VK) (d1 d2 : D) (x y : V), SimM X.K π μ H → Rp X.K π H d1 x → Rp X.K π H d2 y → GE X W (Rp X.K) π σ H Q (f d1 d2 μ) →
  ∀ (value slice : Expr) (pins : List (Addr × Obj)) (s : Shared) (v u : Value), Inv X pins σ H s → RelV x v → RelV y u → subscripted slice false v u = operate [v, u] (getItem v u) → wpAny (model X.prog X.w) X.A (subscriptTail value slice v u) (EP X pins σ Q) X.xe s
theorem opi_ix : OpI X W dIx := by
  intro π μ σ H Q d1 d2 x y s r1 r2 h value slice pins st v u I rx ry hs
  unfold dIx at h
  split at h
  · cases rep_int r2
    split at h
    · rename_i s1
      cases rep_str r1
      by_cases hl : s1.length ≤ maxL
      · rw [if_pos hl] at h
        split at h
        · rename_i c ec
          exact ix_str value slice pins st σ H _ _ v u Q I rx ry ⟨_, _, c, rfl, rfl, by rw [toS_length, sizeLine_eq]; exact hl, ec, h _ H π Gr.refl s rfl⟩ hs
        · exact h.elim
      · rw [if_neg hl] at h; exact h.elim
    · rename_i ns
      obtain ⟨a, rfl, hsc⟩ := rep_scr r1
      split at h
      · rename_i k ek
        have fin : Q (.int k) H := h _ H π Gr.refl s rfl
        exact scr_ep I hsc (fun hq => ix_list value slice pins st σ H _ _ v u Q I rx ry ⟨a, _, _, .int k, rfl, rfl, hq, atI_map ek, fin⟩ hs) fun H2 hq kb _ I2 => ix_list value slice pins st σ H2 _ _ v u _ I2 rx ry ⟨a, _, _, .int k, rfl, rfl, hq, atI_map ek, rfl, by rw [scr_back kb]; exact fin⟩ hs
      · exact h.elim
    · split at h
      · rename_i ds e
        split at h
        · rename_i d ed
          obtain ⟨p, vs, rfl, hp, rp⟩ := asQ_view s r1 e
          obtain ⟨w, h1, h2⟩ := atI_rep rp ed
          have fin : Q w H := h w H π Gr.refl s h2
          rcases hp with hp | hp
          · exact ix_list value slice pins st σ H _ _ v u Q I rx ry ⟨p, vs, _, w, rfl, rfl, hp, h1, fin⟩ hs
          · exact ix_tup value slice pins st σ H _ _ v u Q I rx ry ⟨p, vs, _, w, rfl, rfl, hp, h1, fin⟩ hs
        · exact h.elim
      · exact h.elim
  · exact h.elim
theorem SE.ix {f : D → D → Store → Out D} (ho : OpI X W f) (ha : SE X W a m) (hb : SE X W b n) (hs : PlainIx b := by exact fun _ _ => rfl) : SE X W (.Subscript a b pos) (m2 f m n) := by
  intro π ρ μ σ H Q sm sl h pins s I
  exact Subscript_ (binT pe_we pe_we I (R := fun x y H2 => ∀ (value slice : Expr) (pins : List (Addr × Obj)) (s : Shared) (v u : Value), Inv X pins σ H2 s → RelV x v → RelV y u → subscripted slice false v u = operate [v, u] (getItem v u) → wpAny (model X.prog X.w) X.A (subscriptTail value slice v u) (EP X pins σ Q) X.xe s)
    (SE.two ha hb sm sl h fun d1 d2 μ2 x y H2 π2 g s2 l2 r1 r2 h2 => ho π2 μ2 σ H2 Q d1 d2 x y s2 r1 r2 h2) fun v u s2 x y H2 I2 rx ry q => q a b pins s2 v u I2 rx ry (hs _ _))

/-! ### slices -/
def moNone : M (Option Int) := fun _ μ => .ok none μ
def moSome (m : M D) : M (Option Int) := fun ρ μ => (m ρ μ).bind fun d μ1 => match d with
  | .int i => .ok (some i) μ1
  | _ => .stuck
abbrev RO : List Addr → Hp → Option Int → Option Int → Prop := fun _ _ a b => a = b
/-- the reading of an optional part -/
def SO (X : Cx) (W : WX) (e : Option Expr) (m : M (Option Int)) : Prop := ∃ t : TO, PO X e t ∧ ∀ (π : List Addr) (ρ : Env') (μ : Store) (σ : L2.St) (H : Hp) (Q : Option Int → Hp → Prop), SimM X.K π μ H → SimL X.K π H ρ σ → GE X W RO π σ H Q (m ρ μ) → t σ H Q
theorem SO.none_ : SO X W none moNone := ⟨_, po_none, fun π ρ μ σ H Q sm sl h => h none H π Gr.refl sm rfl⟩
theorem SO.some_ (ha : SE X W a m) : SO X W (some a) (moSome m) := ⟨_, po_some pe_we, fun π ρ μ σ H Q sm sl h => ha π ρ μ σ H _ sm sl (GE.bind h fun d μ1 x H1 π1 e1 g1 s1 r1 h1 => by
  cases d with
  | int i =>
    cases rep_int r1
    exact ⟨i, rfl, h1 _ H1 π1 Gr.refl s1 rfl⟩
  | _ => exact h1.elim)⟩
def cutD {α : Type} (xs : List α) (lo hi : Option Int) : List α := (xs.drop (HT.sIx xs.length 0 lo)).take (HT.sIx xs.length xs.length hi - HT.sIx xs.length 0 lo)
/-- a slice of a text or a tuple; a list's is new -/
def dSl (d : D) (lo hi : Option Int) (μ : Store) : Out D := match d with
  | .str s => if s.length ≤ maxL then .ok (.str (cutD s lo hi)) μ else .stuck
  | .tup ds => .ok (.tup (cutD ds lo hi)) μ
  | .scr ns => .ok (.lst ((cutD ns lo hi).map D.int)) μ
  | d => match asL μ d with
    | some ds => .ok (.lst (cutD ds lo hi)) μ
    | none => .stuck
def mSl (m : M D) (lo hi : M (Option Int)) : M D := fun ρ μ => (m ρ μ).bind fun d μ1 => (lo ρ μ1).bind fun l μ2 => (hi ρ μ2).bind fun h μ3 => dSl d l h μ3
theorem cut_rep {K : PySem.W.Frag} {H : Hp} {π : List Addr} {ds : List D} {vs : List V} (r : RepL K H π ds vs) (lo hi : Option Int) : RepL K H π (cutD ds lo hi) (cutV vs lo hi) := by
  unfold cutD cutV
  rw [r.length]
  exact (r.drop _).take _
theorem rep_ints {K : PySem.W.Frag} {H : Hp} {π : List Addr} : ∀ ns : List Int, RepL K H π (ns.map D.int) (ns.map V.int)
  | [] => .nil
  | n :: ns => by
    rw [List.map_cons, List.map_cons]
    exact .cons (by unfold Rep; rfl) (rep_ints ns)
theorem cut_map (ns : List Int) (lo hi : Option Int) : cutV (ns.map V.int) lo hi = (cutD ns lo hi).map V.int := by
  unfold cutV cutD
  rw [List.length_map, List.map_take, List.map_drop]
theorem cutD_whole {α : Type} {xs : List α} {lo hi : Option Int} (h : HT.sIx xs.length 0 lo = 0 ∧ HT.sIx xs.length xs.length hi = xs.length) : cutD xs lo hi = xs := by
  unfold cutD
  rw [h.1, h.2]
  simp
def rSlC (K : PySem.W.Frag) (x : V) (lo hi : Option Int) (H : Hp) (Q : VK) : Prop := ∃ a ns, x = .ref a ∧ ScrAt K H a ns ∧ ∀ q, H q = none → Q (.ref q) (upd H q (.lst (cutV (ns.map V.int) lo hi)))
theorem sl_scr : SlR X (rSlC X.K) := by
  intro pins s σ H x v vl vu lo hi sl Q I rx hs pl pu h
  obtain ⟨a, ns, rfl, hq, q⟩ := h
  obtain ⟨H3, h3, I3⟩ := scr_inv I hq
  obtain ⟨T, id, t1, t2, _⟩ := sl_list pins s σ H3 _ v vl vu lo hi sl (fun _ _ => True) I3 rx hs pl pu ⟨a, _, rfl, h3, fun _ _ => trivial⟩
  refine ⟨T, id, t1, t2, scr_ep I hq (fun h1 => ?_) fun H2 h1 kb kn I2 => ?_⟩
  · obtain ⟨_, _, _, _, wp⟩ := sl_list pins s σ H _ v vl vu lo hi sl Q I rx hs pl pu ⟨a, _, rfl, h1, q⟩
    exact wp
  · obtain ⟨_, _, _, _, wp⟩ := sl_list pins s σ H2 _ v vl vu lo hi sl (fun v H' => H' a = H2 a ∧ Q v fun b => if b = a then H a else H' b) I2 rx hs pl pu ⟨a, _, rfl, h1, fun p hp => by
      have ne : p ≠ a := fun z => kn (by rw [← z]; exact hp)
      exact ⟨upd_ne (Ne.symm ne), by rw [scr_new kb ne]; exact q p (by rw [← kb p ne]; exact hp)⟩⟩
    exact wp
def slR {X : Cx} (x : V) (lo hi : Option Int) (H : Hp) (Q : VK) : Prop := rSlS x lo hi H Q ∨ rSlA X.K x lo hi H Q ∨ rSlL X.K x lo hi H Q ∨ rSlC X.K x lo hi H Q
theorem sl_all : SlR X (slR (X := X)) := sl_str.or (sl_tupA.or (sl_list.or sl_scr))
theorem SE.slice {lo hi : Option Expr} {ml mh : M (Option Int)} {p2 : Pos} (ha : SE X W a m) (hl : SO X W lo ml) (hh : SO X W hi mh) : SE X W (.Subscript a (.Slice lo hi none p2) pos) (mSl m ml mh) := by
  obtain ⟨tl, pl, kl⟩ := hl
  obtain ⟨th, ph, kh⟩ := hh
  intro π ρ μ σ H Q sm sl h
  refine WE.of (pe_slice sl_all pe_we pl ph) (ha π ρ μ σ H _ sm sl (GE.bind h fun d μ1 x H1 π1 e1 g1 s1 r1 h1 => ?_))
  refine kl π1 ρ μ1 σ H1 _ s1 (g1.loc sl) (GE.bind h1 fun l μ2 l' H2 π2 e2 g2 s2 r2 h2 => ?_)
  cases r2
  refine kh π2 ρ μ2 σ H2 _ s2 ((g1.trans g2).loc sl) (GE.bind h2 fun u μ3 u' H3 π3 e3 g3 s3 r3 h3 => ?_)
  cases r3
  have rd := (g2.trans g3).rep r1
  unfold dSl at h3
  split at h3
  · rename_i s1
    cases rep_str rd
    by_cases hz : s1.length ≤ maxL
    · rw [if_pos hz] at h3
      exact .inl ⟨_, rfl, by rw [toS_length, sizeLine_eq]; exact hz, h3 _ H3 π3 Gr.refl s3 rfl⟩
    · rw [if_neg hz] at h3; exact h3.elim
  · rename_i ds
    obtain ⟨p, vs, rfl, hp, rp⟩ := asT_view (ds := ds) rd rfl
    refine .inr (.inl ⟨p, vs, rfl, hp, fun e => ?_, fun _ q hq => GE.newT h3 s3 (cut_rep rp l u) hq⟩)
    rw [rp.length] at e
    refine h3 _ H3 π3 Gr.refl s3 ?_
    rw [cutD_whole e]
    exact rd
  · rename_i ns
    obtain ⟨p, rfl, hp⟩ := rep_scr rd
    refine .inr (.inr (.inr ⟨p, ns, rfl, hp, fun q hq => GE.newL h3 s3 ?_ hq⟩))
    rw [cut_map]
    exact rep_ints _
  · split at h3
    · rename_i ds e
      obtain ⟨p, vs, rfl, hp, rp⟩ := asL_view s3 rd e
      exact .inr (.inr (.inl ⟨p, vs, rfl, hp, fun q hq => GE.newL h3 s3 (cut_rep rp l u) hq⟩))
    · exact h3.elim

/-! ### in, not in -/
def flD : D → Option V
  | .non => some .non
  | .bl b => some (.bl b)
  | .int i => some (.int i)
  | .str s => some (.str (toS s))
  | _ => none
def flDs : List D → Option (List V)
  | [] => some []
  | d :: ds => match flD d, flDs ds with
    | some v, some vs => some (v :: vs)
    | _, _ => none
theorem flD_rep {K : PySem.W.Frag} {H : Hp} {π : List Addr} {d : D} {v w : V} (r : Rep K H π d v) (h : flD d = some w) : v = w ∧ flatV v = true := by
  cases d <;> simp only [flD, Option.some.injEq] at h
  case non => subst h; exact ⟨rep_non r, by rw [rep_non r]; rfl⟩
  case bl => subst h; exact ⟨rep_bl r, by rw [rep_bl r]; rfl⟩
  case int => subst h; exact ⟨rep_int r, by rw [rep_int r]; rfl⟩
  case str => subst h; exact ⟨rep_str r, by rw [rep_str r]; rfl⟩
  all_goals cases h
theorem flDs_rep {K : PySem.W.Frag} {H : Hp} {π : List Addr} : ∀ {ds : List D} {vs ws : List V}, RepL K H π ds vs → flDs ds = some ws → vs = ws ∧ vs.all flatV = true
  | [], _, _, r, h => by
    unfold RepL at r
    unfold flDs at h
    subst r
    cases h
    exact ⟨rfl, rfl⟩
  | d :: ds, _, _, r, h => by
    obtain ⟨v, t, rfl, h1, h2⟩ := r.uncons
    unfold flDs at h
    split at h
    · rename_i w ws e1 e2
      cases h
      obtain ⟨rfl, f1⟩ := flD_rep h1 e1
      obtain ⟨rfl, f2⟩ := flDs_rep h2 e2
      exact ⟨rfl, by simp [f1, f2]⟩
    · cases h
/-- one sign in a text; a flat thing in a list or tuple of flat things -/
def inB (μ : Store) (d1 d2 : D) : Option Bool := match d1, d2 with
  | .str [c], .str s => some (decide (c ∈ s))
  | d1, d2 => match flD d1, (asQ μ d2).bind flDs with
    | some v, some vs => some (inV v vs)
    | _, _ => none
def dIn : D → D → Store → Out D := fun d1 d2 μ => dB (inB μ d1 d2) μ
def dNotIn : D → D → Store → Out D := fun d1 d2 μ => dB ((inB μ d1 d2).map not) μ
theorem op_in_sign' : OpR X (compareOp .In) (fun x y H Q => ∃ c z, x = .str ⟨#[c]⟩ ∧ y = .str z ∧ Q (.bl (decide (c ∈ z.cps.toList))) H) := op_in_sign
theorem opb_in : OpB X W (compareOp .In) dIn := by
  intro π μ σ H Q d1 d2 x y s r1 r2 h
  unfold dIn at h
  cases q : inB μ d1 d2 with
  | none => rw [q] at h; exact h.elim
  | some k =>
    rw [q] at h
    have fin : Q (.bl k) H := h _ H π Gr.refl s rfl
    unfold inB at q
    split at q
    · cases rep_str r1; cases rep_str r2; cases q
      exact OpR.vb op_in_sign ⟨_, _, rfl, rfl, fin⟩
    · split at q
      · rename_i v vs e1 e2
        cases q
        obtain ⟨ds, e3, e4⟩ := Option.bind_eq_some_iff.mp e2
        obtain ⟨p, us, rfl, hp, rp⟩ := asQ_view s r2 e3
        obtain ⟨rfl, f1⟩ := flD_rep r1 e1
        obtain ⟨rfl, f2⟩ := flDs_rep rp e4
        exact OpR.vb op_in_seq ⟨p, us, rfl, hp, f1, f2, fin⟩
      · cases q
theorem opb_notin : OpB X W (compareOp .NotIn) dNotIn := by
  intro π μ σ H Q d1 d2 x y s r1 r2 h
  unfold dNotIn at h
  cases q : inB μ d1 d2 with
  | none => rw [q] at h; exact h.elim
  | some k =>
    rw [q] at h
    have fin : Q (.bl (!k)) H := h _ H π Gr.refl s rfl
    unfold inB at q
    split at q
    · cases rep_str r1; cases rep_str r2; cases q
      refine OpR.vb op_notIn_sign ⟨_, _, rfl, rfl, ?_⟩
      first
        | exact fin
        | (simp only [decide_not]; exact fin)
    · split at q
      · rename_i v vs e1 e2
        cases q
        obtain ⟨ds, e3, e4⟩ := Option.bind_eq_some_iff.mp e2
        obtain ⟨p, us, rfl, hp, rp⟩ := asQ_view s r2 e3
        obtain ⟨rfl, f1⟩ := flD_rep r1 e1
        obtain ⟨rfl, f2⟩ := flDs_rep rp e4
        exact OpR.vb op_notIn_seq ⟨p, us, rfl, hp, f1, f2, fin⟩
      · cases q
end
end Rv
set_option Elab.async false
set_option linter.all false
set_option maxRecDepth 100000
set_option maxHeartbeats 4000000
/-! Rv5: calls of own defs, classes made, fields, properties, methods, isinstance. -/
namespace Rv
open PySem PySem.Spec L2
open PyProof.Rows hiding St

/-! ### regions, for callers -/
section
variable {K : PySem.W.Frag} {H H0 : Hp} {π π0 : List Addr} {μ μ0 μ2 : Store}
theorem region_ret {d d2 : D} {v : V} (s : SimM K π μ H) (s0 : SimM K π0 μ0 H0) (g : Gr π0 H0 π H) (r : Rp K π H d v) (e : region μ0 (.ret d μ) = .ok d2 μ2) : SimM K π0 μ2 H ∧ Gr π0 H0 π0 H ∧ Rp K π0 H d2 v := by
  simp only [region] at e
  by_cases hk : (kept μ0.length μ0 μ && D.low μ0.length (frz μ0.length μ d)) = true
  · rw [if_pos hk] at e
    rw [Bool.and_eq_true] at hk
    obtain ⟨s1, g1, hp, ho⟩ := s.take s0 g hk.1
    cases e
    exact ⟨s1, g1, Rep.frz s s0 hp ho r hk.2⟩
  · rw [if_neg hk] at e; cases e
theorem region_exc {c c2 : Str} {ns ns2 : List Str} {ds ds2 : List D} {ρ : Env'} {d : Option Addr} (s : SimM K π μ H) (s0 : SimM K π0 μ0 H0) (g : Gr π0 H0 π H) (x : RepX K (off π H) π ns ds d) (e : region μ0 (.exc c ns ds ρ μ) = .exc c2 ns2 ds2 μ2) :
    c2 = c ∧ SimM K π0 μ2 H ∧ Gr π0 H0 π0 H ∧ RepX K (off π0 H) π0 ns2 ds2 d := by
  simp only [region] at e
  by_cases hk : (kept μ0.length μ0 μ && D.lowL μ0.length (ds.map (frz μ0.length μ))) = true
  · rw [if_pos hk] at e
    rw [Bool.and_eq_true] at hk
    obtain ⟨s1, g1, hp, ho⟩ := s.take s0 g hk.1
    cases e
    refine ⟨rfl, s1, g1, ?_⟩
    rcases x with ⟨x1, x2, x3⟩ | ⟨dx, fs, x1, x2, x3, x4⟩
    · exact .inl ⟨x1, by rw [x2]; rfl, x3⟩
    · exact .inr ⟨dx, fs, x1, ho _ _ x2, x3, RepL.frz s s0 hp ho x4 hk.2⟩
  · rw [if_neg hk] at e; cases e
end

/-! ### what may be called -/
section
variable {X : Cx} {W : WX}
/-- called with what stands for ds, f does what F says -/
def Callee (X : Cx) (W : WX) (f : Value) (F : Fn) : Prop := ∀ (π : List Addr) (μ : Store) (σ : L2.St) (H : Hp) (Q : VK) (pins : List (Addr × Obj)) (s : Shared) (us : List Value) (vs : List V) (ds : List D),
  Inv X pins σ H s → Vals vs us → SimM X.K π μ H → RpL X.K π H ds vs → GE X W (Rp X.K) π σ H Q (F ds μ) → codeAny (model X.prog X.w) X.A (.call f ⟨us, []⟩) (RP X pins σ Q) s
/-- .. with keywords ks: positional values, then the keywords' -/
def CalleeK (X : Cx) (W : WX) (f : Value) (ks : List Str) (F : List D → List D → Store → Out D) : Prop := ∀ (π : List Addr) (μ : Store) (σ : L2.St) (H : Hp) (Q : VK) (pins : List (Addr × Obj)) (s : Shared) (us ws : List Value) (vs zs : List V) (ds es : List D),
  Inv X pins σ H s → Vals vs us → Vals zs ws → SimM X.K π μ H → RpL X.K π H ds vs → RpL X.K π H es zs → GE X W (Rp X.K) π σ H Q (F ds es μ) → codeAny (model X.prog X.w) X.A (.call f ⟨us, ks.zip ws⟩) (RP X pins σ Q) s
/-- constants -/
def Cst (K : PySem.W.Frag) (dds : List D) (ds : List Value) : Prop := ∃ dvs, Vals dvs ds ∧ ∀ π H, RpL K π H dds dvs
theorem Cst.nil {K : PySem.W.Frag} : Cst K [] [] := ⟨[], .nil, fun _ _ => RepL.nil⟩
def arity (n : Nat) (F : Fn) (dds : List D) : Fn := fun ds μ => if ds.length + dds.length = n then F (ds ++ dds) μ else .stuck
section
variable {k : Nat} {f : Addr} {fd : FuncData} {ps : List Str} {F : Fn} {dds : List D} {ds0 : List Value}
theorem callee_fn (hF : FnQ X.prog X.w X.K X.mg X.base k f fd ps F) (hr : RoomQ k X.A) (tk : Takes X W) (hb : Binds X.K fd ps ds0) (hc : Cst X.K dds ds0) : Callee X W (.ref f) (arity ps.length F dds) := by
  intro π μ σ H Q pins s us vs ds I rv sm rl h
  unfold arity at h
  obtain ⟨dvs, c1, c2⟩ := hc
  by_cases hn : ds.length + dds.length = ps.length
  · rw [if_pos hn] at h
    have e1 := rl.length
    have e2 := (c2 π H).length
    have e3 := rv.length
    have e4 := c1.length
    exact run_q (ws := us ++ ds0) (vs := vs ++ dvs) hF hr tk I (hb s us I.kIn (by rw [List.length_append]; omega)) (rv.append c1) sm (rl.append (c2 π H)) (by rw [List.length_append]; exact hn) h
  · rw [if_neg hn] at h; exact h.elim
/-- the keywords stand behind the positional values, in the parameters' order, the defaults behind them -/
def arityK (n j k : Nat) (F : Fn) (dds : List D) : List D → List D → Store → Out D := fun ds es μ => if ds.length = j ∧ es.length = k ∧ j + k + dds.length = n then F (ds ++ es ++ dds) μ else .stuck
def BindsK (K : PySem.W.Frag) (fd : FuncData) (ps : List Str) (j : Nat) (ks : List Str) (ds0 : List Value) : Prop := ∀ (s : Shared) (us ws : List Value), K.In s.heap → us.length = j → ws.length = ks.length → BindsTo s fd ⟨us, ks.zip ws⟩ (ps.zip (us ++ ws ++ ds0))
theorem callee_fnK {ks : List Str} {j : Nat} (hF : FnQ X.prog X.w X.K X.mg X.base k f fd ps F) (hr : RoomQ k X.A) (tk : Takes X W) (hb : BindsK X.K fd ps j ks ds0) (hc : Cst X.K dds ds0) : CalleeK X W (.ref f) ks (arityK ps.length j ks.length F dds) := by
  intro π μ σ H Q pins s us ws vs zs ds es I rv rz sm rl re h
  unfold arityK at h
  obtain ⟨dvs, c1, c2⟩ := hc
  by_cases hn : ds.length = j ∧ es.length = ks.length ∧ j + ks.length + dds.length = ps.length
  · rw [if_pos hn] at h
    have e1 := rl.length
    have e2 := re.length
    have e3 := rv.length
    have e4 := rz.length
    exact run_q (ws := us ++ ws ++ ds0) (vs := vs ++ zs ++ dvs) hF hr tk I (hb s us ws I.kIn (by omega) (by omega)) ((rv.append rz).append c1) sm ((rl.append re).append (c2 π H)) (by simp only [List.length_append]; omega) h
  · rw [if_neg hn] at h; exact h.elim
end

/-! ### an instance made -/
/-- __init__ has run on the new instance: it is let go (stays) | goes on being changed -/
def made (μ : Store) (keep : Bool) : Out D → Out D
  | .ok .non μ' => (if keep then region1 else region) μ (.ret (.ref μ.length) μ')
  | .exc c ns ds μ' => region μ (.exc c ns ds [] μ')
  | _ => .stuck
def newF (c : Str) (keep : Bool) (F : Fn) : Fn := fun ds μ => made μ keep (F (.ref μ.length :: ds) (μ ++ [.ins c [] []]))
theorem made_get {K : PySem.W.Frag} {π : List Addr} {μ : Store} {H : Hp} {c : Str} {x dx : Addr} (s : SimM K π μ H) (hx : H x = none) (hdx : H dx = none) (ne : dx ≠ x) :
    SimM K (π ++ [x]) (μ ++ [.ins c [] []]) (upd (upd H dx (.own x)) x (.ins (He.ga K c) dx [])) ∧ Gr π H (π ++ [x]) (upd (upd H dx (.own x)) x (.ins (He.ga K c) dx [])) := by
  have s1 : SimM K π μ (upd H dx (.own x)) := s.new hdx
  have g1 : Gr π H π (upd H dx (.own x)) := Gr.new hdx
  have hx1 : upd H dx (.own x) x = none := by rw [upd_ne (Ne.symm ne)]; exact hx
  obtain ⟨s2, g2⟩ := s1.push (m := .ins c [] []) (o := .ins (He.ga K c) dx []) hx1 ⟨dx, [], rfl, rfl, RepL.nil⟩
  exact ⟨s2, g1.trans g2⟩
section
variable {π : List Addr} {μ : Store} {σ : L2.St} {H H2 : Hp} {Q : VK} {c : Str} {x : Addr} {keep : Bool} {o : Out D}
/-- how such an end is taken: x is what was made -/
theorem made_ok (s : SimM X.K π μ H) (g : Gr π H (π ++ [x]) H2) (h : GE X W (Rp X.K) π σ H Q (made μ keep o)) : GE X W (Rp X.K) (π ++ [x]) σ H2 (fun v H' => v = .non ∧ Q (.ref x) H') o := by
  cases o with
  | ok d μ' =>
    cases d with
    | non =>
      intro v H' π' g' s' r
      refine ⟨rep_non r, ?_⟩
      have gg := g.trans g'
      have rx : Rp X.K π' H' (.ref μ.length) (.ref x) := by
        unfold Rp Rep
        exact ⟨x, g'.get (by rw [← s.len]; simp), rfl⟩
      cases keep with
      | false =>
        have h' : GE X W (Rp X.K) π σ H Q (region μ (.ret (.ref μ.length) μ')) := h
        cases e : region μ (.ret (.ref μ.length) μ') with
        | ok d2 μ2 =>
          rw [e] at h'
          obtain ⟨z1, z2, z3⟩ := region_ret s' s gg rx e
          exact h' _ H' π z2 z1 z3
        | exc c ns ds μ2 =>
          exfalso
          simp only [region] at e
          split at e <;> cases e
        | stuck => rw [e] at h'; exact h'.elim
      | true =>
        have h' : GE X W (Rp X.K) π σ H Q (region1 μ (.ret (.ref μ.length) μ')) := h
        simp only [region1] at h'
        cases em : μ'[μ.length]? with
        | none => rw [em] at h'; exact h'.elim
        | some m =>
          rw [em] at h'
          simp only at h'
          by_cases hk : (decide (μ.length ≤ μ.length) && (kept μ.length μ μ' && MO.low μ.length m)) = true
          · rw [if_pos hk] at h'
            simp only [Bool.and_eq_true, decide_eq_true_eq] at hk
            obtain ⟨_, hk2, hk3⟩ := hk
            obtain ⟨s1, g1, hp, ho⟩ := s'.take s gg hk2
            obtain ⟨t, ht⟩ := g'.pre
            have hx' : π'[μ.length]? = some x := g'.get (by rw [← s.len]; simp)
            have hxn : x ∉ π := by
              have nd := s'.nd
              rw [ht, List.nodup_append] at nd
              have nd1 := nd.1
              rw [List.nodup_append] at nd1
              exact fun z => nd1.2.2 x z x (by simp) rfl
            have sub : ∀ b o, off π' H' b = some o → off (π ++ [x]) H' b = some o := fun b o q => by
              obtain ⟨q1, q2⟩ := off_some q
              rw [off_ne]
              · exact q2
              · intro z
                exact q1 (by rw [ht]; exact List.mem_append_left _ z)
            have gp : ∀ (n : Nat) b, π[n]? = some b → (π ++ [x])[n]? = some b := fun n b e => by
              rw [List.getElem?_append_left (List.getElem?_eq_some_iff.mp e).1]
              exact e
            have lt : (μ'.take μ.length).length = π.length := s1.len.symm
            refine h' (.ref x) H' (π ++ [x]) ⟨⟨[x], rfl⟩, fun b o q => sub b o (gg.keep b o q)⟩ ⟨?_, by simp [s1.len], fun j b m' j1 j2 => ?_⟩ ?_
            · rw [List.nodup_append]
              refine ⟨s.nd, by simp, fun y hy z hz => ?_⟩
              simp at hz
              subst hz
              exact fun e => hxn (e ▸ hy)
            · by_cases hj : j < π.length
              · rw [List.getElem?_append_left hj] at j1
                rw [List.getElem?_append_left (by omega)] at j2
                have hjm : j < μ.length := by rw [← s.len]; exact hj
                have j2' := j2
                rw [List.getElem?_take_of_lt hjm] at j2'
                have q := s'.obj j b m' (gg.get j1) j2'
                have hb : MO.low μ.length m' = true := (s1.obj j b m' j1 j2).low (Nat.le_of_eq s.len)
                have q2 := q.take hb
                rw [hp] at q2
                exact q2.mono sub gp
              · have hl := (List.getElem?_eq_some_iff.mp j1).1
                rw [List.length_append, List.length_singleton] at hl
                have hj' : j = π.length := by omega
                subst hj'
                have e1 : b = x := by simpa using j1.symm
                have e2 : m' = m := by
                  rw [← lt] at j2
                  simpa using j2.symm
                subst e1 e2
                have q2 := (s'.obj μ.length b m' hx' em).take hk3
                rw [hp] at q2
                exact q2.mono sub gp
            · unfold Rp Rep
              exact ⟨x, by rw [← s.len]; simp, rfl⟩
          · rw [if_neg hk] at h'
            exact h'.elim
    | _ => exact h.elim
  | exc c ns ds μ' =>
    intro d H' π' g' s' r
    have h' : GE X W (Rp X.K) π σ H Q (region μ (.exc c ns ds [] μ')) := h
    cases e : region μ (.exc c ns ds [] μ') with
    | ok d2 μ2 =>
      exfalso
      simp only [region] at e
      split at e <;> cases e
    | exc c2 ns2 ds2 μ2 =>
      rw [e] at h'
      obtain ⟨z0, z1, z2, z3⟩ := region_exc s' s (g.trans g') r e
      subst z0
      exact h' d H' π z2 z1 z3
    | stuck => rw [e] at h'; exact h'.elim
  | stuck => exact h.elim
end
section
variable {k : Nat} {c : Str} {keep : Bool} {f : Addr} {fd : FuncData} {ps : List Str} {F : Fn} {dds : List D} {ds0 : List Value}
theorem make_q {pins : List (Addr × Obj)} {s : Shared} {us : List Value} {kw : List (Str × Value)} {ws : List Value} {vs : List V} {ds : List D} {π : List Addr} {μ : Store} {σ : L2.St} {H : Hp} {Q : VK} (M : Mk X.K (He.ga X.K c) f) (hF : FnQ X.prog X.w X.K X.mg X.base k f fd ps F) (hr : RoomQ (k + 1) X.A) (tk : Takes X W) (I : Inv X pins σ H s)
    (bd : ∀ (s : Shared) (a : Value), X.K.In s.heap → BindsTo s fd ⟨a :: us, kw⟩ (ps.zip (a :: ws))) (rv : Vals vs ws) (sm : SimM X.K π μ H) (rl : RpL X.K π H ds vs) (hn : ds.length + 1 = ps.length) (h : GE X W (Rp X.K) π σ H Q (newF c keep F ds μ)) :
    codeAny (model X.prog X.w) X.A (.call (.ref (He.ga X.K c)) ⟨us, kw⟩) (RP X pins σ Q) s := by
  obtain ⟨s2, g2⟩ := made_get (c := c) sm (I.hok.fresh (Nat.le_succ _)) (I.hok.fresh (Nat.le_refl _)) (Nat.ne_of_lt (Nat.lt_succ_self s.heap.objs.size))
  have I2 := Inv.made (C := He.ga X.K c) I
  have h2 := made_ok (x := s.heap.objs.size + 1) sm g2 h
  have rx : RpL X.K (π ++ [s.heap.objs.size + 1]) (upd (upd H s.heap.objs.size (.own (s.heap.objs.size + 1))) (s.heap.objs.size + 1) (.ins (He.ga X.K c) s.heap.objs.size [])) (.ref μ.length :: ds) (.ref (s.heap.objs.size + 1) :: vs) := by
    refine .cons ?_ (g2.repL rl)
    unfold Rep
    exact ⟨_, by rw [← sm.len]; simp, rfl⟩
  refine (make_map (f := f) I.kIn M.makes M.init (beq_iff_eq.mp M.fn) (codeAny_mono (hF.run _ X.stack _ _ ⟨Value.ref (s.heap.objs.size + 1) :: us, kw⟩ (Value.ref (s.heap.objs.size + 1) :: ws) _ _ (fun c d H' => W c d σ H') (hr.make _ us kw)
    (I2.env0.make _ us kw) (bd _ _ I2.kIn) (Paired.cons (a := V.ref (s.heap.objs.size + 1)) rfl rv) (spG_of s2 rx (by simpa using hn) h2)) fun r s' hq => ?_))
  have z := back_q (Q := fun v H' => v = .non ∧ Q (.ref (s.heap.objs.size + 1)) H') tk I2 hq
  cases r with
  | error e => exact z
  | ok fl => cases fl with
    | ret u =>
      obtain ⟨v, H', I3, rv', ev, q3⟩ := z
      subst ev
      exact ⟨rv', ⟨V.ref (s.heap.objs.size + 1), H', I3, rfl, q3⟩⟩
    | _ => exact z.elim
def arity1 (n : Nat) (F : Fn) (dds : List D) : Fn := fun ds μ => if ds.length + dds.length + 1 = n then F (ds ++ dds) μ else .stuck
theorem callee_cls (M : Mk X.K (He.ga X.K c) f) (hF : FnQ X.prog X.w X.K X.mg X.base k f fd ps F) (hr : RoomQ (k + 1) X.A) (tk : Takes X W) (hb : Binds X.K fd ps ds0) (hc : Cst X.K dds ds0) :
    Callee X W (.ref (He.ga X.K c)) (arity1 ps.length (newF c keep F) dds) := by
  intro π μ σ H Q pins s us vs ds I rv sm rl h
  unfold arity1 at h
  obtain ⟨dvs, c1, c2⟩ := hc
  by_cases hn : ds.length + dds.length + 1 = ps.length
  · rw [if_pos hn] at h
    have e1 := rl.length
    have e2 := (c2 π H).length
    have e3 := rv.length
    have e4 := c1.length
    refine make_q (ws := us ++ ds0) (vs := vs ++ dvs) M hF hr tk I (fun s a hK => ?_) (rv.append c1) sm (rl.append (c2 π H)) (by rw [List.length_append]; exact hn) h
    have z := hb s (a :: us) hK (by simp only [List.length_append, List.length_cons]; omega)
    simpa using z
  · rw [if_neg hn] at h; exact h.elim
def arity1K (n j k : Nat) (F : Fn) (dds : List D) : List D → List D → Store → Out D := fun ds es μ => if ds.length = j ∧ es.length = k ∧ j + k + dds.length + 1 = n then F (ds ++ es ++ dds) μ else .stuck
theorem callee_clsK {ks : List Str} {j : Nat} (M : Mk X.K (He.ga X.K c) f) (hF : FnQ X.prog X.w X.K X.mg X.base k f fd ps F) (hr : RoomQ (k + 1) X.A) (tk : Takes X W) (hb : BindsK X.K fd ps (j + 1) ks ds0) (hc : Cst X.K dds ds0) :
    CalleeK X W (.ref (He.ga X.K c)) ks (arity1K ps.length j ks.length (newF c keep F) dds) := by
  intro π μ σ H Q pins s us ws vs zs ds es I rv rz sm rl re h
  unfold arity1K at h
  obtain ⟨dvs, c1, c2⟩ := hc
  by_cases hn : ds.length = j ∧ es.length = ks.length ∧ j + ks.length + dds.length + 1 = ps.length
  · rw [if_pos hn] at h
    have e1 := rl.length
    have e2 := re.length
    have e3 := rv.length
    have e4 := rz.length
    refine make_q (ws := us ++ ws ++ ds0) (vs := vs ++ zs ++ dvs) M hF hr tk I (fun s a hK => ?_) ((rv.append rz).append c1) sm ((rl.append re).append (c2 π H)) (by simp only [List.length_append]; omega) h
    have z := hb s (a :: us) ws hK (by simp only [List.length_cons]; omega) (by omega)
    simpa using z
  · rw [if_neg hn] at h; exact h.elim
end

/-! ### calls as expressions -/
variable {e a b c : Expr} {es rest : List Expr} {kws : List Keyword} {m n : M D} {ms mk : M (List D)} {pos p p1 apos : Pos} {x : Str} {f : Value} {F : Fn}
def mCall (F : Fn) (ms : M (List D)) : M D := fun ρ μ => (ms ρ μ).bind F
/-- keywords' values -/
def WK (X : Cx) (kws : List Keyword) : TA := fun σ H Q => ∀ (pos : Pos) (pins : List (Addr × Obj)) (s : Shared), Inv X pins σ H s → wpAny (model X.prog X.w) X.A (evalAll ((backToKw pos (keywordEach kws X.env)).map (·.2))) (AP X pins σ Q) X.xe s
theorem pk_wk {X : Cx} {kws : List Keyword} : PK X kws (WK X kws) := ⟨fun pos pins s σ H Q I h => h pos pins s I⟩
def SK (X : Cx) (W : WX) (kws : List Keyword) (m : M (List D)) : Prop := ∀ (π : List Addr) (ρ : Env') (μ : Store) (σ : L2.St) (H : Hp) (Q : List V → Hp → Prop), SimM X.K π μ H → SimL X.K π H ρ σ → GE X W (RpL X.K) π σ H Q (m ρ μ) → WK X kws σ H Q
theorem SK.nil : SK X W [] maNil := fun π ρ μ σ H Q sm sl h pos pins s I => pk_nil.run pos pins s σ H Q I (h [] H π Gr.refl sm RepL.nil)
theorem SK.cons {nm : Option Str} {kpos : Pos} (ha : SE X W a m) (hr : SK X W kws ms) : SK X W (⟨nm, a, kpos⟩ :: kws) (maCons m ms) := fun π ρ μ σ H Q sm sl h pos pins s I => by
  refine (pk_cons pe_we pk_wk).run pos pins s σ H Q I (ha π ρ μ σ H _ sm sl (GE.bind h fun d μ1 x H1 π1 e1 g1 s1 r1 h1 => ?_))
  refine hr π1 ρ μ1 σ H1 _ s1 (g1.loc sl) (GE.bind h1 fun ds μ2 xs H2 π2 e2 g2 s2 r2 h2 => ?_)
  exact h2 _ H2 π2 Gr.refl s2 (.cons (g2.rep r1) r2)
theorem SE.call (hc : Callee X W f F) (hg : Gl X x) (hm : X.mg x = some f) (hk : PySem.W.keepIn X.K f = true) (ha : SA X W (a :: es) ms) (hdb : (x == ("__debug__" : Str)) = false := by decide)
    (he : starEach (a :: es) X.env = (false, eval a X.env) :: starEach es X.env := by rfl) (hpl : (backTo pos (starEach es X.env)).any (·.1) = false := by rfl) : SE X W (.Call (.Name x p) (a :: es) [] pos) (mCall F ms) := by
  intro π ρ μ σ H Q sm sl h pins s I
  refine wpAny_Call_Name_kw (ld_glob I hg hm ?_ hdb)
  refine PySem.W.callWith_K (h₀ := X.base) I.ok.mod.kin hk (thn (ha π ρ μ σ H (fun vs H1 => ∀ pins s us, Inv X pins σ H1 s → Vals vs us → wpAny (model X.prog X.w) X.A (PySem.call f us) (EP X pins σ Q) X.xe s) sm sl
    (GE.bind h fun ds μ1 vs H1 π1 e1 g1 s1 r1 h1 pins s us I1 rv => run_ok (hc π1 μ1 σ H1 Q pins s us vs ds I1 rv s1 r1 h1)) pos pins s I) fun us s1 z => ?_) he hpl
  obtain ⟨vs, H1, I1, rv, q⟩ := z
  exact ⟨I1.kIn, q pins s1 us I1 rv⟩
theorem SE.call0 (hc : Callee X W f F) (hg : Gl X x) (hm : X.mg x = some f) (hk : PySem.W.keepIn X.K f = true) (hdb : (x == ("__debug__" : Str)) = false := by decide) : SE X W (.Call (.Name x p) [] [] pos) (mCall F maNil) := by
  intro π ρ μ σ H Q sm sl h pins s I
  refine wpAny_Call_Name_kw (ld_glob I hg hm ?_ hdb)
  exact PySem.W.callWith_K0 I.kIn hk (run_ok (hc π μ σ H Q pins s [] [] [] I .nil sm RepL.nil h))
def mCallK (F : List D → List D → Store → Out D) (ms mk : M (List D)) : M D := fun ρ μ => (ms ρ μ).bind fun ds μ1 => (mk ρ μ1).bind fun es μ2 => F ds es μ2
theorem SE.callK {ks : List Str} {F : List D → List D → Store → Out D} (hc : CalleeK X W f ks F) (hg : Gl X x) (hm : X.mg x = some f) (hk : PySem.W.keepIn X.K f = true) (ha : SA X W (a :: es) ms) (hw : SK X W kws mk)
    (hall : (backToKw pos (keywordEach kws X.env)).all (·.1.isSome) = true := by rfl) (hks : (backToKw pos (keywordEach kws X.env)).filterMap (·.1) = ks := by rfl) (hdb : (x == ("__debug__" : Str)) = false := by decide)
    (he : starEach (a :: es) X.env = (false, eval a X.env) :: starEach es X.env := by rfl)
    (hpl : ((backTo pos (starEach (a :: es) X.env)).any (·.1) || (backToKw pos (keywordEach kws X.env)).any (·.1.isNone)) = false := by rfl) : SE X W (.Call (.Name x p) (a :: es) kws pos) (mCallK F ms mk) := by
  intro π ρ μ σ H Q sm sl h pins s I
  refine wpAny_Call_Name_kw (ld_glob I hg hm ?_ hdb)
  refine PySem.W.callWith_KW (h₀ := X.base) I.ok.mod.kin hk hall (thn (ha π ρ μ σ H (fun vs H1 => WK X kws σ H1 fun zs H2 => ∀ pins s us ws, Inv X pins σ H2 s → Vals vs us → Vals zs ws → wpAny (model X.prog X.w) X.A (PySem.call f us (ks.zip ws)) (EP X pins σ Q) X.xe s) sm sl
    (GE.bind h fun ds μ1 vs H1 π1 e1 g1 s1 r1 h1 => hw π1 ρ μ1 σ H1 _ s1 (g1.loc sl) (GE.bind h1 fun es μ2 zs H2 π2 e2 g2 s2 r2 h2 pins s us ws I1 rv rz => run_ok (hc π2 μ2 σ H2 Q pins s us ws vs zs ds es I1 rv rz s2 (g2.repL r1) r2 h2))) pos pins s I) fun us s1 z => ?_) hpl he
  obtain ⟨vs, H1, I1, rv, q⟩ := z
  refine thn (q pos pins s1 I1) fun ws s2 z => ?_
  obtain ⟨zs, H2, I2, rz, q2⟩ := z
  refine ⟨I2.kIn, ?_⟩
  rw [hks]
  exact q2 pins s2 us ws I2 rv rz
theorem SE.callK0 {ks : List Str} {F : List D → List D → Store → Out D} (hc : CalleeK X W f ks F) (hg : Gl X x) (hm : X.mg x = some f) (hk : PySem.W.keepIn X.K f = true) (hw : SK X W kws mk)
    (hall : (backToKw pos (keywordEach kws X.env)).all (·.1.isSome) = true := by rfl) (hks : (backToKw pos (keywordEach kws X.env)).filterMap (·.1) = ks := by rfl) (hdb : (x == ("__debug__" : Str)) = false := by decide)
    (hpl : ((backTo pos (starEach [] X.env)).any (·.1) || (backToKw pos (keywordEach kws X.env)).any (·.1.isNone)) = false := by rfl) : SE X W (.Call (.Name x p) [] kws pos) (mCallK F maNil mk) := by
  intro π ρ μ σ H Q sm sl h pins s I
  refine wpAny_Call_Name_kw (ld_glob I hg hm ?_ hdb)
  refine PySem.W.callWith_KW0 (h₀ := X.base) I.ok.mod.kin hk hall (thn (hw π ρ μ σ H (fun zs H2 => ∀ pins s ws, Inv X pins σ H2 s → Vals zs ws → wpAny (model X.prog X.w) X.A (PySem.call f [] (ks.zip ws)) (EP X pins σ Q) X.xe s) sm sl
    (GE.bind h fun es μ2 zs H2 π2 e2 g2 s2 r2 h2 pins s ws I1 rz => run_ok (hc π2 μ2 σ H2 Q pins s [] ws [] zs [] es I1 .nil rz s2 RepL.nil r2 h2)) pos pins s I) fun ws s1 z => ?_) hpl
  obtain ⟨zs, H1, I1, rz, q⟩ := z
  refine ⟨I1.kIn, ?_⟩
  rw [hks]
  exact q pins s1 ws I1 rz
/-- x(..), x a name of the def that holds a class -/
def mCallL (i : Nat) (c : Str) (F : Fn) (ms : M (List D)) : M D := fun ρ μ => match ρ[i]? with
  | some (some (.cls c')) => if c' = c then (ms ρ μ).bind F else .stuck
  | _ => .stuck
theorem SE.callL (i : Nat) (cl : Str) (hc : Callee X W (.ref (He.ga X.K cl)) F) (hk : PySem.W.keepIn X.K (.ref (He.ga X.K cl)) = true) (ha : SA X W (a :: es) ms)
    (hN : X.N[i]? = some x := by rfl) (hv : Vis X.env.scope x := by first | exact Or.inl rfl | exact Or.inr (Or.inl rfl) | exact Or.inr (Or.inr rfl)) (hd : (x == ("__debug__" : Str)) = false := by decide)
    (hcd : (x == ("__classdict__" : Str)) = false := by decide)
    (he : starEach (a :: es) X.env = (false, eval a X.env) :: starEach es X.env := by rfl) (hpl : (backTo pos (starEach es X.env)).any (·.1) = false := by rfl) : SE X W (.Call (.Name x p) (a :: es) [] pos) (mCallL i cl F ms) := by
  intro π ρ μ σ H Q sm sl h pins s I
  unfold mCallL at h
  split at h
  · rename_i c' ec
    by_cases hcc : c' = cl
    · subst hcc
      rw [if_pos rfl] at h
      obtain ⟨v, e1, e2⟩ := sl.loc i _ ec
      have ev : v = .ref (He.ga X.K c') := by unfold Rp Rep at e2; exact e2
      subst ev
      refine wpAny_Call_Name_kw (thn ((pe_var hN hv hd hcd).run pins s σ H (fun v' H' => v' = .ref (He.ga X.K c') ∧ H' = H) I ⟨_, e1, rfl, rfl⟩) fun u s0 z => ?_)
      obtain ⟨v', H', I0, rv', ev', eH⟩ := z
      subst ev'
      subst eH
      obtain rfl : u = Value.ref (He.ga X.K c') := rv'
      refine PySem.W.callWith_K (h₀ := X.base) I0.ok.mod.kin hk (thn (ha π ρ μ σ H' (fun vs H1 => ∀ pins s us, Inv X pins σ H1 s → Vals vs us → wpAny (model X.prog X.w) X.A (PySem.call (.ref (He.ga X.K c')) us) (EP X pins σ Q) X.xe s) sm sl
        (GE.bind h fun ds μ1 vs H1 π1 e1 g1 s1 r1 h1 pins s us I1 rv => run_ok (hc π1 μ1 σ H1 Q pins s us vs ds I1 rv s1 r1 h1)) pos pins s0 I0) fun us s1 z => ?_) he hpl
      obtain ⟨vs, H1, I1, rv, q⟩ := z
      exact ⟨I1.kIn, q pins s1 us I1 rv⟩
    · rw [if_neg hcc] at h; exact h.elim
  · exact h.elim
end
end Rv
set_option Elab.async false
set_option linter.all false
set_option maxRecDepth 100000
set_option maxHeartbeats 4000000
/-! Rv6: fields, properties, methods, isinstance, built-in functions, methods of texts. -/
namespace Rv
open PySem PySem.Spec L2
open PyProof.Rows hiding St

section
variable {X : Cx} {W : WX} {e a b c o : Expr} {es rest : List Expr} {m n : M D} {ms mk : M (List D)} {pos p p1 apos cpos : Pos} {x f : Str} {F : Fn} {cl : Str}

/-! ### instances: what is seen of them -/
/-- the class and the fields of an instance -/
def asI (μ : Store) : D → Option (Str × List Str × List D)
  | .obj c ns ds => some (c, ns, ds)
  | .ref k => match μ[k]? with
    | some (.ins c ns ds) => some (c, ns, ds)
    | _ => none
  | _ => none
theorem asI_view {K : PySem.W.Frag} {π : List Addr} {μ : Store} {H : Hp} {d : D} {v : V} {c : Str} {ns : List Str} {ds : List D} (s : SimM K π μ H) (r : Rp K π H d v) (h : asI μ d = some (c, ns, ds)) :
    ∃ a dx fs, v = .ref a ∧ H a = some (.ins (He.ga K c) dx fs) ∧ fs.map (·.1) = ns ∧ RpL K π H ds (fs.map (·.2)) := by
  unfold asI at h
  split at h
  · cases h
    unfold Rp Rep at r
    obtain ⟨a, dx, fs, h1, h2, h3, h4⟩ := r
    exact ⟨a, dx, fs, h1, (off_some h2).2, h3, h4⟩
  · split at h
    · rename_i e
      cases h
      unfold Rp Rep at r
      obtain ⟨a, h1, h2⟩ := r
      obtain ⟨dx, fs, h3, h4, h5⟩ := s.obj _ a _ h1 e
      exact ⟨a, dx, fs, h2, h3, h4, h5⟩
    · cases h
  · cases h
/-- a field by its name -/
def fget (f : Str) : List Str → List D → Option D
  | n :: ns, d :: ds => if f = n then some d else fget f ns ds
  | _, _ => none
theorem fget_rep {K : PySem.W.Frag} {H : Hp} {π : List Addr} {f : Str} : ∀ {fs : List (Str × V)} {ds : List D} {d : D}, RepL K H π ds (fs.map (·.2)) → fget f (fs.map (·.1)) ds = some d → ∃ v, fs.lookup f = some v ∧ Rep K H π d v
  | [], ds, d, r, h => by cases ds <;> simp [fget] at h
  | (g, w) :: fs, [], d, r, h => by simp [fget] at h
  | (g, w) :: fs, e :: ds, d, r, h => by
    obtain ⟨v, t, h1, h2, h3⟩ := r.uncons
    simp only [List.map_cons, List.cons.injEq] at h1
    obtain ⟨rfl, rfl⟩ := h1
    simp only [List.map_cons, fget] at h
    by_cases q : f = g
    · rw [if_pos q] at h
      cases h
      subst q
      exact ⟨w, by simp [List.lookup], h2⟩
    · rw [if_neg q] at h
      obtain ⟨u, k1, k2⟩ := fget_rep h3 h
      refine ⟨u, ?_, k2⟩
      have q' : (f == g) = false := by simpa using q
      simp only [List.lookup, q', k1]
theorem lookup_no {f : Str} : ∀ {fs : List (Str × V)}, f ∉ fs.map (·.1) → fs.lookup f = none
  | [], _ => rfl
  | (g, w) :: fs, h => by
    simp only [List.map_cons, List.mem_cons, not_or] at h
    have q' : (f == g) = false := by simpa using h.1
    simp only [List.lookup, q', lookup_no h.2]
def dFld (cl f : Str) (d : D) (μ : Store) : Out D := match asI μ d with
  | some (c, ns, ds) => if c = cl then (match fget f ns ds with
    | some d => .ok d μ
    | none => .stuck) else .stuck
  | none => .stuck
theorem SE.fld (cl : Str) (hc : Cls X.K (He.ga X.K cl)) (hn : NoAttr X.K (He.ga X.K cl) f) (ha : SE X W a m) (hb : attributeBase a f X.env (eval a X.env) = eval a X.env := by rfl) : SE X W (.Attribute a f pos) (m1 (dFld cl f) m) := fun π ρ μ σ H Q sm sl h => by
  refine WE.of (pe_fld pe_we hb) (ha π ρ μ σ H _ sm sl (GE.bind h fun d μ1 x H1 π1 e1 g1 s1 r1 h1 => ?_))
  unfold dFld at h1
  cases q : asI μ1 d with
  | none => rw [q] at h1; exact h1.elim
  | some t =>
    obtain ⟨c, ns, ds⟩ := t
    rw [q] at h1
    dsimp only at h1
    by_cases hcc : c = cl
    · rw [if_pos hcc] at h1
      subst hcc
      obtain ⟨p, dx, fs, rfl, k1, k2, k3⟩ := asI_view s1 r1 q
      cases q2 : fget f ns ds with
      | none => rw [q2] at h1; exact h1.elim
      | some d2 =>
        rw [q2] at h1
        rw [← k2] at q2
        obtain ⟨v, l1, l2⟩ := fget_rep k3 q2
        exact ⟨p, _, dx, fs, v, rfl, k1, hc, hn, l1, h1 v H1 π1 Gr.refl s1 l2⟩
    · rw [if_neg hcc] at h1; exact h1.elim

/-! ### a property: its getter raises nothing -/
theorem GE.only {α β : Type} {R : List Addr → Hp → α → β → Prop} {π : List Addr} {σ : L2.St} {H : Hp} {Q : β → Hp → Prop} {o : Out α} (h : GE X W R π σ H Q o.only) : ∃ d μ', o = .ok d μ' ∧ ∀ v H' π', Gr π H π' H' → SimM X.K π' μ' H' → R π' H' d v → Q v H' := by
  cases o with
  | ok d μ' => exact ⟨d, μ', rfl, h⟩
  | exc c ns ds μ' => exact h.elim
  | stuck => exact h.elim
theorem spG_only {n : Nat} {F : Fn} {π : List Addr} {μ : Store} {σ : L2.St} {H : Hp} {Q : VK} {ds : List D} {vs : List V} (s : SimM X.K π μ H) (r : RpL X.K π H ds vs) (hn : ds.length = n) (h : GE X W (Rp X.K) π σ H Q (F ds μ).only) :
    spG X.K n F vs H Q (fun _ _ _ => False) := by
  obtain ⟨d, μ', e, q⟩ := GE.only h
  exact ⟨π, μ, ds, hn, s, r, by rw [e]; exact q⟩
/-- an end of a call that raises nothing -/
theorem back_0 {σ : L2.St} {H : Hp} {Q : VK} {pins : List (Addr × Obj)} {s s' : Shared} {r : Result} (I : Inv X pins σ H s) (hq : CR (L2.CX X.prog X.w) X.stack X.prog X.w H s Q (fun _ _ _ => False) r s') : ∃ u, r = .ok (.ret u) ∧ EP X pins σ Q u s' := by
  cases r with
  | error e =>
    obtain ⟨_, _, _, _, _, _, _, _, _, _, _, _, z⟩ := hq
    exact z.elim
  | ok fl => cases fl with
    | ret u => exact ⟨u, rfl, I.after hq⟩
    | _ => exact hq.elim
def dProp (cl : Str) (F : Fn) (d : D) (μ : Store) : Out D := match asI μ d with
  | some (c, _, _) => if c = cl then (F [d] μ).only else .stuck
  | none => .stuck
theorem SE.prop {k : Nat} {pa g : Addr} {fd : FuncData} {ps : List Str} (cl : Str) (hc : Cls X.K (He.ga X.K cl)) (hp : PropOf X.K (He.ga X.K cl) f pa g) (hF : FnQ X.prog X.w X.K X.mg X.base k g fd ps F) (hr : RoomQ (k + 1) X.A) (hb : Binds X.K fd ps []) (hl : ps.length = 1)
    (ha : SE X W a m) (hab : attributeBase a f X.env (eval a X.env) = eval a X.env := by rfl) : SE X W (.Attribute a f pos) (m1 (dProp cl F) m) := fun π ρ μ σ H Q sm sl h pins s I => by
  refine attr_of hab (thn (ha π ρ μ σ H (fun x H1 => ∀ pins s u, Inv X pins σ H1 s → RelV x u → wpAny (model X.prog X.w) X.A (getAttr u f true) (EP X pins σ Q) X.xe s) sm sl (GE.bind h fun d μ1 x H1 π1 e1 g1 s1 r1 h1 pins s u I1 rx => ?_) pins s I) fun u s1 z => ?_)
  · unfold dProp at h1
    cases q : asI μ1 d with
    | none => rw [q] at h1; exact h1.elim
    | some t =>
      obtain ⟨c, ns, ds⟩ := t
      rw [q] at h1
      dsimp only at h1
      by_cases hcc : c = cl
      · rw [if_pos hcc] at h1
        subst hcc
        have r1' := r1
        obtain ⟨pp, dx, fs, rfl, k1, k2, k3⟩ := asI_view s1 r1 q
        obtain rfl : u = Value.ref pp := rx
        obtain ⟨mA, Ob, _, _, _, _⟩ := ins_get I1.hok k1
        obtain ⟨od, J, _⟩ := Ob.look
        obtain ⟨rest, hrec⟩ := hp.rec_
        have I2 := I1.tok (s.toks + 1)
        have hc' : (PySem.W.clsIn X.K (He.ga X.K c)).isSome = true := by
          obtain ⟨cd, hc2, _⟩ := PySem.W.any_some hc.hd
          rw [hc2]
          rfl
        refine PySem.W.get_bind I1.kIn J (PySem.W.plainGet_of (hc.get f)).1 (PySem.W.findObj_data hc' hp.at_ hp.get hp.tak) (PySem.W.plainGet_of (hc.get f)).2 (wpAny_call (PySem.W.prop_get (s := { s with toks := s.toks + 1 }) I1.kIn hrec ?_))
        have bd := hb { s with toks := s.toks + 1 } [.ref pp] I2.kIn (by rw [List.append_nil]; exact hl.symm)
        rw [List.append_nil] at bd
        refine codeAny_mono (hF.run X.A.in1 X.stack { s with toks := s.toks + 1 } H1 ⟨[.ref pp], []⟩ [.ref pp] [.ref pp] Q (fun _ _ _ => False) hr.in1 I2.env0.in1 bd (Paired.cons (a := V.ref pp) rfl .nil) (spG_only s1 (RepL.one r1') (by simpa using hl.symm) h1)) fun r s' hq => ?_
        obtain ⟨u, rfl, v, H', I3, rv, q3⟩ := back_0 I2 hq
        show wpAny _ _ (handedOut u) _ _ _
        rw [PySem.W.handedOut_of (handed_of rv)]
        exact wpAny_pure ⟨v, H', I3, rv, q3⟩
      · rw [if_neg hcc] at h1; exact h1.elim
  · obtain ⟨x, H1, I1, rx, q⟩ := z
    exact q pins s1 u I1 rx

/-! ### a method of an own class -/
/-- o.g(..), o an instance of cl -/
def mMeth (cl g : Str) (F : Fn) (m : M D) (ms : M (List D)) : M D := fun ρ μ => (m ρ μ).bind fun d μ1 => match asI μ1 d with
  | some (c, ns, _) => if c = cl ∧ g ∉ ns then (ms ρ μ1).bind fun ds μ2 => F (d :: ds) μ2 else .stuck
  | none => .stuck
theorem SE.meth {g : Str} {fa : Addr} {pl : Sem Bool} (cl : Str) (hc : Cls X.K (He.ga X.K cl)) (hm : Meth X.K (He.ga X.K cl) g fa) (hF : Callee X W (.ref fa) F) (ha : SE X W o m) (hs : SA X W (a :: es) ms)
    (hst : starEach (a :: es) X.env = (false, eval a X.env) :: starEach es X.env := by rfl) (hpl : (backTo pos (starEach es X.env)).any (·.1) = false := by rfl)
    (ht : eval (.Call (.Attribute o g apos) (a :: es) [] pos) X.env = (do
      let ov ← eval o X.env
      standAt apos.atName
      let (f, first) ← holding [ov] (getMethod ov g pl)
      callWith pos f first (backTo pos (starEach (a :: es) X.env)) (backToKw pos (keywordEach [] X.env))) := by rfl) : SE X W (.Call (.Attribute o g apos) (a :: es) [] pos) (mMeth cl g F m ms) := fun π ρ μ σ H Q sm sl h pins s I => by
  refine PySem.W.methodCall_KW (pl := pl) (thn (ha π ρ μ σ H (fun x H1 => ∃ pp dx fs, x = .ref pp ∧ H1 pp = some (.ins (He.ga X.K cl) dx fs) ∧ fs.lookup g = none ∧ WA X (a :: es) σ H1 fun vs H2 => ∀ pins s us, Inv X pins σ H2 s → Vals vs us → wpAny (model X.prog X.w) X.A (PySem.call (.ref fa) (.ref pp :: us)) (EP X pins σ Q) X.xe s) sm sl (GE.bind h fun d μ1 x H1 π1 e1 g1 s1 r1 h1 => ?_) pins s I) fun u s1 z => ?_) ht
  · cases q : asI μ1 d with
    | none => rw [q] at h1; exact h1.elim
    | some t =>
      obtain ⟨c, ns, ds⟩ := t
      rw [q] at h1
      dsimp only at h1
      by_cases hcc : c = cl ∧ g ∉ ns
      · rw [if_pos hcc] at h1
        obtain ⟨rfl, hno⟩ := hcc
        have r1' := r1
        obtain ⟨pp, dx, fs, rfl, k1, k2, k3⟩ := asI_view s1 r1 q
        refine ⟨pp, dx, fs, rfl, k1, lookup_no (by rw [k2]; exact hno), ?_⟩
        refine hs π1 ρ μ1 σ H1 _ s1 (g1.loc sl) (GE.bind h1 fun ds μ2 vs H2 π2 e2 g2 s2 r2 h2 pins s us I2 rv => ?_)
        exact run_ok (hF π2 μ2 σ H2 Q pins s (.ref pp :: us) (.ref pp :: vs) (d :: ds) I2 (Paired.cons (a := V.ref pp) rfl rv) s2 (.cons (g2.rep r1') r2) h2)
      · rw [if_neg hcc] at h1; exact h1.elim
  · obtain ⟨x, H1, I1, rx, pp, dx, fs, rfl, k1, l, q⟩ := z
    obtain rfl : u = Value.ref pp := rx
    refine getmeth_ok I1 k1 hc hm l ?_
    refine PySem.W.callWith_K (first := [.ref pp]) (h₀ := X.base) I.ok.mod.kin hm.kp (thn (q pos pins s1 I1) fun us s2 z => ?_) hst hpl
    obtain ⟨vs, H2, I2, rv, q2⟩ := z
    exact ⟨I2.kIn, q2 pins s2 us I2 rv⟩
/-- Cl.g(..), g a classmethod -/
def mCMeth (cl : Str) (F : Fn) (ms : M (List D)) : M D := fun ρ μ => (ms ρ μ).bind fun ds μ2 => F (.cls cl :: ds) μ2
theorem SE.cmeth {g : Str} {pa fa : Addr} {mc : Value} {pl : Sem Bool} (hg : Gl X cl) (hm : X.mg cl = some (.ref (He.ga X.K cl))) (r : ClX.CRead X.K (He.ga X.K cl) mc) (cm : ClX.CMet X.K (He.ga X.K cl) mc g pa fa) (hF : Callee X W (.ref fa) F) (hs : SA X W (a :: es) ms)
    (hdb : (cl == ("__debug__" : Str)) = false := by decide)
    (hst : starEach (a :: es) X.env = (false, eval a X.env) :: starEach es X.env := by rfl) (hpl : (backTo pos (starEach es X.env)).any (·.1) = false := by rfl)
    (ht : eval (.Call (.Attribute (.Name cl p) g apos) (a :: es) [] pos) X.env = (do
      let ov ← eval (.Name cl p) X.env
      standAt apos.atName
      let (f, first) ← holding [ov] (getMethod ov g pl)
      callWith pos f first (backTo pos (starEach (a :: es) X.env)) (backToKw pos (keywordEach [] X.env))) := by rfl) : SE X W (.Call (.Attribute (.Name cl p) g apos) (a :: es) [] pos) (mCMeth cl F ms) := fun π ρ μ σ H Q sm sl h pins s I => by
  refine PySem.W.methodCall_KW (pl := pl) (ld_glob I hg hm ?_ hdb) ht
  refine ClX.getmethcm_ok I r cm fun s2 I2 => ?_
  refine ClX.callwith_cm I2 (ClX.base_none I (Nat.le_refl _)) cm.fi (thn (hs π ρ μ σ H (fun vs H2 => ∀ pins s us, Inv X pins σ H2 s → Vals vs us → codeAny (model X.prog X.w) X.A (.call (.ref fa) ⟨.ref (He.ga X.K cl) :: us, []⟩) (RP X pins σ Q) s) sm sl
    (GE.bind h fun ds μ2 vs H2 π2 e2 g2 s2 r2 h2 pins s us I2 rv => hF π2 μ2 σ H2 Q pins s (.ref (He.ga X.K cl) :: us) (.ref (He.ga X.K cl) :: vs) (.cls cl :: ds) I2 (Paired.cons (a := V.ref (He.ga X.K cl)) rfl rv) s2 (.cons (by unfold Rep; rfl) r2) h2) pos _ s2 I2) fun us s3 z => ?_) hst hpl
  obtain ⟨vs, H2, I3, rv, q2⟩ := z
  refine ⟨⟨ClX.pin_at I3, I3.kIn⟩, ?_⟩
  exact thn (run_ok (PySem.W.method_call (ClX.pin_at I3) (q2 _ s3 us I3 rv))) fun _ _ y => ClX.unpinE y
end
end Rv
set_option Elab.async false
set_option linter.all false
set_option maxRecDepth 100000
set_option maxHeartbeats 4000000
/-! Rv7: isinstance, built-in functions, methods of texts, f-strings, lists joined and repeated. -/
namespace Rv
open PySem PySem.Spec L2
open PyProof.Rows hiding St

section
variable {X : Cx} {W : WX} {e a b c o : Expr} {es rest : List Expr} {m n : M D} {ms mk : M (List D)} {pos p p1 apos cpos : Pos} {x f : Str} {F : Fn} {cl : Str}

/-! ### built-in functions -/
/-- called with what stands for ds, the built-in f does what F says (it raises nothing) -/
def CallD (X : Cx) (W : WX) (f : Value) (F : Fn) : Prop := ∀ (π : List Addr) (μ : Store) (σ : L2.St) (H : Hp) (Q : VK) (ds : List D) (vs : List V), SimM X.K π μ H → RpL X.K π H ds vs → GE X W (Rp X.K) π σ H Q (F ds μ).only →
  ∀ (σ' : L2.St) (pins : List (Addr × Obj)) (s : Shared) (us : List Value), Inv X pins σ' H s → Vals vs us → wpAny (model X.prog X.w) X.A (PySem.call f us) (EP X pins σ' Q) X.xe s
def rCD (X : Cx) (f : Value) : List V → Hp → VK → Prop := fun vs H Q => ∀ (σ' : L2.St) (pins : List (Addr × Obj)) (s : Shared) (us : List Value), Inv X pins σ' H s → Vals vs us → wpAny (model X.prog X.w) X.A (PySem.call f us) (EP X pins σ' Q) X.xe s
theorem rCD_r {f : Value} : CallR X f (rCD X f) := fun pins s σ H vs us Q I r h => h σ pins s us I r
def mCallB (F : Fn) (ms : M (List D)) : M D := fun ρ μ => (ms ρ μ).bind fun ds μ1 => (F ds μ1).only
theorem SE.callB {id : String} (hc : CallD X W (.builtin id) F) (hg : Gl X x) (hm : X.mg x = none) (hv : bootBuiltins x = some (.builtin id)) (ha : SA X W (a :: es) ms) (hn : x ≠ "__name__" := by decide) (hdb : (x == ("__debug__" : Str)) = false := by decide)
    (he : starEach (a :: es) X.env = (false, eval a X.env) :: starEach es X.env := by rfl) (hpl : (backTo pos (starEach es X.env)).any (·.1) = false := by rfl) : SE X W (.Call (.Name x p) (a :: es) [] pos) (mCallB F ms) := fun π ρ μ σ H Q sm sl g =>
  WE.of (pe_callB rCD_r hg hm hv pa_wa hn hdb he hpl) (ha π ρ μ σ H _ sm sl (GE.bind g fun ds μ1 vs H1 π1 e1 g1 s1 r1 h1 => hc π1 μ1 σ H1 Q ds vs s1 r1 h1))
theorem SE.callTy {T : String} (hc : CallD X W (.type T) F) (hg : Gl X x) (hm : X.mg x = none) (hv : bootBuiltins x = some (.type T)) (ha : SA X W (a :: es) ms) (hn : x ≠ "__name__" := by decide) (hdb : (x == ("__debug__" : Str)) = false := by decide)
    (he : starEach (a :: es) X.env = (false, eval a X.env) :: starEach es X.env := by rfl) (hpl : (backTo pos (starEach es X.env)).any (·.1) = false := by rfl) : SE X W (.Call (.Name x p) (a :: es) [] pos) (mCallB F ms) := fun π ρ μ σ H Q sm sl g =>
  WE.of (pe_callTy rCD_r hg hm hv pa_wa hn hdb he hpl) (ha π ρ μ σ H _ sm sl (GE.bind g fun ds μ1 vs H1 π1 e1 g1 s1 r1 h1 => hc π1 μ1 σ H1 Q ds vs s1 r1 h1))
/-- from a rule by values -/
theorem CallD.of {f : Value} {r : List V → Hp → VK → Prop} (hr : CallR X f r) (h : ∀ (π : List Addr) (μ : Store) (H : Hp) (Q : VK) (ds : List D) (vs : List V) (d : D) (μ' : Store), SimM X.K π μ H → RpL X.K π H ds vs → F ds μ = .ok d μ' → (∀ v H' π', Gr π H π' H' → SimM X.K π' μ' H' → Rp X.K π' H' d v → Q v H') → r vs H Q) : CallD X W f F := by
  intro π μ σ H Q ds vs sm rl g σ' pins s us I rv
  obtain ⟨d, μ', e, q⟩ := GE.only g
  exact hr pins s σ' H vs us Q I rv (h π μ H Q ds vs d μ' sm rl e q)
theorem repL1 {K : PySem.W.Frag} {H : Hp} {π : List Addr} {d : D} {vs : List V} (r : RepL K H π [d] vs) : ∃ v, vs = [v] ∧ Rep K H π d v := by
  obtain ⟨v, t, rfl, h1, h2⟩ := r.uncons
  unfold RepL at h2
  subst h2
  exact ⟨v, rfl, h1⟩
theorem repL2 {K : PySem.W.Frag} {H : Hp} {π : List Addr} {d d2 : D} {vs : List V} (r : RepL K H π [d, d2] vs) : ∃ v w, vs = [v, w] ∧ Rep K H π d v ∧ Rep K H π d2 w := by
  obtain ⟨v, t, rfl, h1, h2⟩ := r.uncons
  obtain ⟨w, rfl, h3⟩ := repL1 h2
  exact ⟨v, w, rfl, h1, h3⟩
/-- len -/
def lenB (μ : Store) : D → Option Nat
  | .str s => if s.length ≤ maxL then some s.length else none
  | .scr ns => some ns.length
  | d => (asQ μ d).map List.length
def fLen : Fn := fun ds μ => match ds with
  | [d] => (match lenB μ d with
    | some n => .ok (.int n) μ
    | none => .stuck)
  | _ => .stuck
def rLenC (K : PySem.W.Frag) : List V → Hp → VK → Prop := fun xs H Q => ∃ a ns, xs = [V.ref a] ∧ ScrAt K H a ns ∧ Q (.int (ns.length : Nat)) H
theorem call_lenC : CallR X (.builtin "len") (rLenC X.K) := by
  intro pins s σ H xs us Q I r h
  obtain ⟨a, ns, rfl, hq, q⟩ := h
  exact scr_ep I hq (fun h1 => call_len pins s σ H _ us Q I r ⟨_, _, rfl, .inl ⟨_, h1, (List.length_map _).symm⟩, q⟩) fun H2 h1 kb _ I2 => call_len pins s σ H2 _ us _ I2 r ⟨_, _, rfl, .inl ⟨_, h1, (List.length_map _).symm⟩, rfl, by rw [scr_back kb]; exact q⟩
theorem lenB_ok {π : List Addr} {μ : Store} {H : Hp} {d : D} {v : V} {n : Nat} (s : SimM X.K π μ H) (r : Rp X.K π H d v) (h : lenB μ d = some n) : LenV X.K v H n ∨ ∃ a ns, v = .ref a ∧ ScrAt X.K H a ns ∧ n = ns.length := by
  unfold lenB at h
  split at h
  · rename_i s1
    cases rep_str r
    by_cases hl : s1.length ≤ maxL
    · rw [if_pos hl] at h
      cases h
      exact .inl ⟨by rw [toS_length, sizeLine_eq]; exact hl, (toS_length _).symm⟩
    · rw [if_neg hl] at h; cases h
  · cases h
    obtain ⟨a, rfl, hq⟩ := rep_scr r
    exact .inr ⟨a, _, rfl, hq, rfl⟩
  · obtain ⟨ds, h1, h2⟩ := Option.map_eq_some_iff.mp h
    obtain ⟨p, vs, rfl, hp, rp⟩ := asQ_view s r h1
    rcases hp with hp | hp
    · exact .inl (.inl ⟨vs, hp, by rw [rp.length, h2]⟩)
    · exact .inl (.inr ⟨vs, hp, by rw [rp.length, h2]⟩)
theorem cd_len : CallD X W (.builtin "len") fLen := .of (call_len.or call_lenC) fun π μ H Q ds vs d μ' sm rl e q => by
  unfold fLen at e
  split at e
  · rename_i d1
    split at e
    · rename_i n en
      cases e
      obtain ⟨v, rfl, rv⟩ := repL1 rl
      rcases lenB_ok sm rv en with h | ⟨a, ns, rfl, hq, rfl⟩
      · exact .inl ⟨v, n, rfl, h, q _ H π Gr.refl sm rfl⟩
      · exact .inr ⟨a, ns, rfl, hq, q _ H π Gr.refl sm rfl⟩
    · cases e
  · cases e
/-- functions of dInts -/
def fI1 (g : Int → Int) : Fn := fun ds μ => match ds with
  | [.int i] => .ok (.int (g i)) μ
  | _ => .stuck
def fI2 (g : Int → Int → Int) : Fn := fun ds μ => match ds with
  | [.int i, .int j] => .ok (.int (g i j)) μ
  | _ => .stuck
def fAbs : Fn := fI1 fun i => if i < 0 then -i else i
def fMax2 : Fn := fI2 fun i j => if j > i then j else i
def fMin2 : Fn := fI2 fun i j => if j < i then j else i
theorem fI1_ok {g : Int → Int} {ds : List D} {d : D} {μ μ' : Store} (e : fI1 g ds μ = .ok d μ') : ∃ i, ds = [.int i] ∧ d = .int (g i) ∧ μ' = μ := by
  unfold fI1 at e
  split at e
  · cases e; exact ⟨_, rfl, rfl, rfl⟩
  · cases e
theorem fI2_ok {g : Int → Int → Int} {ds : List D} {d : D} {μ μ' : Store} (e : fI2 g ds μ = .ok d μ') : ∃ i j, ds = [.int i, .int j] ∧ d = .int (g i j) ∧ μ' = μ := by
  unfold fI2 at e
  split at e
  · cases e; exact ⟨_, _, rfl, rfl, rfl⟩
  · cases e
theorem cd_abs : CallD X W (.builtin "abs") fAbs := .of call_abs fun π μ H Q ds vs d μ' sm rl e q => by
  obtain ⟨i, rfl, rfl, rfl⟩ := fI1_ok e
  obtain ⟨v, rfl, rv⟩ := repL1 rl
  exact ⟨i, by rw [rep_int rv], q _ H π Gr.refl sm rfl⟩
theorem cd_max2 (hc : X.calm = true) : CallD X W (.builtin "max") fMax2 := .of (call_max2 hc) fun π μ H Q ds vs d μ' sm rl e q => by
  obtain ⟨i, j, rfl, rfl, rfl⟩ := fI2_ok e
  obtain ⟨v, w, rfl, rv, rw'⟩ := repL2 rl
  exact ⟨i, j, by rw [rep_int rv, rep_int rw'], q _ H π Gr.refl sm rfl⟩
theorem cd_min2 (hc : X.calm = true) : CallD X W (.builtin "min") fMin2 := .of (call_min2 hc) fun π μ H Q ds vs d μ' sm rl e q => by
  obtain ⟨i, j, rfl, rfl, rfl⟩ := fI2_ok e
  obtain ⟨v, w, rfl, rv, rw'⟩ := repL2 rl
  exact ⟨i, j, by rw [rep_int rv, rep_int rw'], q _ H π Gr.refl sm rfl⟩
def fInt : Fn := fun ds μ => match ds with
  | [.int i] => .ok (.int i) μ
  | [.bl k] => .ok (.int (if k then 1 else 0)) μ
  | _ => .stuck
theorem cd_int : CallD X W (.type "int") fInt := .of call_int1 fun π μ H Q ds vs d μ' sm rl e q => by
  unfold fInt at e
  split at e
  · cases e
    obtain ⟨v, rfl, rv⟩ := repL1 rl
    exact .inl ⟨_, by rw [rep_int rv], q _ H π Gr.refl sm rfl⟩
  · cases e
    obtain ⟨v, rfl, rv⟩ := repL1 rl
    exact .inr ⟨_, by rw [rep_bl rv], q _ H π Gr.refl sm rfl⟩
  · cases e
def fBool : Fn := fun ds μ => match ds with
  | [.int i] => .ok (.bl (i != 0)) μ
  | [.bl k] => .ok (.bl k) μ
  | _ => .stuck
theorem cd_bool : CallD X W (.type "bool") fBool := .of call_bool1 fun π μ H Q ds vs d μ' sm rl e q => by
  unfold fBool at e
  split at e
  · cases e
    obtain ⟨v, rfl, rv⟩ := repL1 rl
    exact .inl ⟨_, by rw [rep_int rv], q _ H π Gr.refl sm rfl⟩
  · cases e
    obtain ⟨v, rfl, rv⟩ := repL1 rl
    exact .inr ⟨_, by rw [rep_bl rv], q _ H π Gr.refl sm rfl⟩
  · cases e
def fDivmod : Fn := fun ds μ => match ds with
  | [.int i, .int j] => if 0 < j ∧ j < 1073741824 then .ok (.tup [.int (i / j), .int (i % j)]) μ else .stuck
  | _ => .stuck
theorem cd_divmod : CallD X W (.builtin "divmod") fDivmod := .of call_divmod fun π μ H Q ds vs d μ' sm rl e q => by
  unfold fDivmod at e
  split at e
  · rename_i i j
    by_cases c : 0 < j ∧ j < 1073741824
    · rw [if_pos c] at e
      cases e
      obtain ⟨v, w, rfl, rv, rw'⟩ := repL2 rl
      refine ⟨i, j, by rw [rep_int rv, rep_int rw'], c, fun p hp => q _ _ π (Gr.new hp) (sm.new hp) (rp_tup sm hp (.cons (d := .int (i / j)) (v := .int (i / j)) rfl (.cons (d := .int (i % j)) (v := .int (i % j)) rfl .nil)))⟩
    · rw [if_neg c] at e; cases e
  · cases e
/-- tuple(a list | a tuple) -/
def fTuple : Fn := fun ds μ => match ds with
  | [d] => (match asQ μ d with
    | some xs => .ok (.tup xs) μ
    | none => .stuck)
  | _ => .stuck
theorem asQ_cases {μ : Store} {d : D} {xs : List D} (h : asQ μ d = some xs) : d = .tup xs ∨ asL μ d = some xs := by
  unfold asQ at h
  split at h
  · cases h; exact .inl rfl
  · exact .inr h
theorem cd_tuple : CallD X W (.type "tuple") fTuple := .of call_tuple_of fun π μ H Q ds vs d μ' sm rl e q => by
  unfold fTuple at e
  split at e
  · rename_i d1
    split at e
    · rename_i xs ex
      cases e
      obtain ⟨v, rfl, rv⟩ := repL1 rl
      rcases asQ_cases ex with rfl | ex
      · obtain ⟨p, vs, rfl, hp, rp⟩ := asT_view (ds := xs) rv rfl
        exact ⟨p, vs, rfl, .inr ⟨hp, q _ H π Gr.refl sm rv⟩⟩
      · obtain ⟨p, vs, rfl, hp, rp⟩ := asL_view sm rv ex
        exact ⟨p, vs, rfl, .inl ⟨hp, fun l hl => q _ _ π (Gr.new hl) (sm.new hl) (rp_tup sm hl rp)⟩⟩
    · cases e
  · cases e
/-- list(a list | a tuple): a new list that stays as it is | goes on being changed -/
def fList : Fn := fun ds μ => match ds with
  | [d] => (match asQ μ d with
    | some xs => .ok (.lst xs) μ
    | none => .stuck)
  | _ => .stuck
def fListN : Fn := fun ds μ => match ds with
  | [d] => (match asQ μ d with
    | some xs => .ok (.ref μ.length) (μ ++ [.lst xs])
    | none => .stuck)
  | _ => .stuck
theorem rep_newref {π : List Addr} {μ : Store} {H : Hp} {ds : List D} {vs : List V} {p : Addr} (sm : SimM X.K π μ H) (hp : H p = none) (r : RpL X.K π H ds vs) :
    SimM X.K (π ++ [p]) (μ ++ [.lst ds]) (upd H p (.lst vs)) ∧ Gr π H (π ++ [p]) (upd H p (.lst vs)) ∧ Rp X.K (π ++ [p]) (upd H p (.lst vs)) (.ref μ.length) (.ref p) := by
  obtain ⟨s2, g2⟩ := sm.push (m := .lst ds) hp ⟨vs, rfl, r⟩
  refine ⟨s2, g2, ?_⟩
  unfold Rp Rep
  exact ⟨p, by rw [← sm.len]; simp, rfl⟩
theorem cd_list : CallD X W (.type "list") fList := .of call_list_of fun π μ H Q ds vs d μ' sm rl e q => by
  unfold fList at e
  split at e
  · rename_i d1
    split at e
    · rename_i xs ex
      cases e
      obtain ⟨v, rfl, rv⟩ := repL1 rl
      obtain ⟨p, vs, rfl, hp, rp⟩ := asQ_view sm rv ex
      exact ⟨p, vs, rfl, hp, fun l hl => q _ _ π (Gr.new hl) (sm.new hl) (rp_lst sm hl rp)⟩
    · cases e
  · cases e
theorem cd_listN : CallD X W (.type "list") fListN := .of call_list_of fun π μ H Q ds vs d μ' sm rl e q => by
  unfold fListN at e
  split at e
  · rename_i d1
    split at e
    · rename_i xs ex
      cases e
      obtain ⟨v, rfl, rv⟩ := repL1 rl
      obtain ⟨p, vs, rfl, hp, rp⟩ := asQ_view sm rv ex
      refine ⟨p, vs, rfl, hp, fun l hl => ?_⟩
      obtain ⟨z1, z2, z3⟩ := rep_newref sm hl rp
      exact q _ _ _ z2 z1 z3
    · cases e
  · cases e
/-- dBls, dInts, texts -/
def dBls : List D → Option (List Bool)
  | [] => some []
  | .bl b :: r => (dBls r).map (b :: ·)
  | _ => none
def dInts : List D → Option (List Int)
  | [] => some []
  | .int i :: r => (dInts r).map (i :: ·)
  | _ => none
def dStrs : List D → Option (List (List Nat))
  | [] => some []
  | .str s :: r => (dStrs r).map (s :: ·)
  | _ => none
theorem bools_rep {K : PySem.W.Frag} {H : Hp} {π : List Addr} : ∀ {ds : List D} {vs : List V} {bs : List Bool}, RepL K H π ds vs → dBls ds = some bs → vs = bs.map V.bl
  | [], _, _, r, h => by
    unfold RepL at r
    cases h
    exact r
  | d :: ds, _, _, r, h => by
    obtain ⟨v, t, rfl, h1, h2⟩ := r.uncons
    cases d with
    | bl k =>
      obtain ⟨bs, e1, e2⟩ := Option.map_eq_some_iff.mp h
      subst e2
      rw [rep_bl h1, bools_rep h2 e1, List.map_cons]
    | _ => cases h
theorem ints_rep {K : PySem.W.Frag} {H : Hp} {π : List Addr} : ∀ {ds : List D} {vs : List V} {bs : List Int}, RepL K H π ds vs → dInts ds = some bs → vs = bs.map V.int
  | [], _, _, r, h => by
    unfold RepL at r
    cases h
    exact r
  | d :: ds, _, _, r, h => by
    obtain ⟨v, t, rfl, h1, h2⟩ := r.uncons
    cases d with
    | int k =>
      obtain ⟨bs, e1, e2⟩ := Option.map_eq_some_iff.mp h
      subst e2
      rw [rep_int h1, ints_rep h2 e1, List.map_cons]
    | _ => cases h
theorem strs_rep {K : PySem.W.Frag} {H : Hp} {π : List Addr} : ∀ {ds : List D} {vs : List V} {bs : List (List Nat)}, RepL K H π ds vs → dStrs ds = some bs → vs = (bs.map toS).map V.str
  | [], _, _, r, h => by
    unfold RepL at r
    cases h
    exact r
  | d :: ds, _, _, r, h => by
    obtain ⟨v, t, rfl, h1, h2⟩ := r.uncons
    cases d with
    | str k =>
      obtain ⟨bs, e1, e2⟩ := Option.map_eq_some_iff.mp h
      subst e2
      rw [rep_str h1, strs_rep h2 e1, List.map_cons, List.map_cons]
    | _ => cases h
theorem rep_strs {K : PySem.W.Frag} {H : Hp} {π : List Addr} : ∀ ns : List (List Nat), RepL K H π (ns.map D.str) ((ns.map toS).map V.str)
  | [] => .nil
  | n :: ns => by
    rw [List.map_cons, List.map_cons, List.map_cons]
    exact .cons (by unfold Rep; rfl) (rep_strs ns)
def fL (g : List D → Option D) : Fn := fun ds μ => match ds with
  | [d] => (match (asL μ d).bind g with
    | some r => .ok r μ
    | none => .stuck)
  | _ => .stuck
theorem fL_ok {g : List D → Option D} {ds : List D} {d : D} {μ μ' : Store} (e : fL g ds μ = .ok d μ') : ∃ d1 xs, ds = [d1] ∧ asL μ d1 = some xs ∧ g xs = some d ∧ μ' = μ := by
  unfold fL at e
  split at e
  · rename_i d1
    split at e
    · rename_i r er
      cases e
      obtain ⟨xs, e1, e2⟩ := Option.bind_eq_some_iff.mp er
      exact ⟨d1, xs, rfl, e1, e2, rfl⟩
    · cases e
  · cases e
def fAll : Fn := fL fun xs => (dBls xs).map fun bs => .bl (bs.all id)
def fAny : Fn := fL fun xs => (dBls xs).map fun bs => .bl (bs.any id)
def fSum : Fn := fL fun xs => (dInts xs).map fun bs => .int bs.sum
theorem cd_all (hc : X.calm = true) : CallD X W (.builtin "all") fAll := .of (cr_all hc) fun π μ H Q ds vs d μ' sm rl e q => by
  obtain ⟨d1, xs, rfl, e1, e2, rfl⟩ := fL_ok e
  obtain ⟨bs, e3, rfl⟩ := Option.map_eq_some_iff.mp e2
  obtain ⟨v, rfl, rv⟩ := repL1 rl
  obtain ⟨p, vs, rfl, hp, rp⟩ := asL_view sm rv e1
  cases bools_rep rp e3
  exact ⟨p, bs, rfl, hp, q _ H π Gr.refl sm rfl⟩
theorem cd_any (hc : X.calm = true) : CallD X W (.builtin "any") fAny := .of (cr_any hc) fun π μ H Q ds vs d μ' sm rl e q => by
  obtain ⟨d1, xs, rfl, e1, e2, rfl⟩ := fL_ok e
  obtain ⟨bs, e3, rfl⟩ := Option.map_eq_some_iff.mp e2
  obtain ⟨v, rfl, rv⟩ := repL1 rl
  obtain ⟨p, vs, rfl, hp, rp⟩ := asL_view sm rv e1
  cases bools_rep rp e3
  exact ⟨p, bs, rfl, hp, q _ H π Gr.refl sm rfl⟩
theorem cd_sum (hc : X.calm = true) : CallD X W (.builtin "sum") fSum := .of (cr_sum hc) fun π μ H Q ds vs d μ' sm rl e q => by
  obtain ⟨d1, xs, rfl, e1, e2, rfl⟩ := fL_ok e
  obtain ⟨bs, e3, rfl⟩ := Option.map_eq_some_iff.mp e2
  obtain ⟨v, rfl, rv⟩ := repL1 rl
  obtain ⟨p, vs, rfl, hp, rp⟩ := asL_view sm rv e1
  cases ints_rep rp e3
  exact ⟨p, bs, rfl, hp, q _ H π Gr.refl sm rfl⟩
/-- str(i) -/
def fStrI : Fn := fun ds μ => match ds with
  | [.int i] => if i.natAbs.log2 < 1920 then .ok (.str (ofS (toString i))) μ else .stuck
  | _ => .stuck
theorem cd_strI : CallD X W (.type "str") fStrI := .of call_str_int fun π μ H Q ds vs d μ' sm rl e q => by
  unfold fStrI at e
  split at e
  · rename_i i
    by_cases c : i.natAbs.log2 < 1920
    · rw [if_pos c] at e
      cases e
      obtain ⟨v, rfl, rv⟩ := repL1 rl
      exact ⟨i, by rw [rep_int rv], c, q _ H π Gr.refl sm (by unfold Rp Rep; rw [toS_ofS])⟩
    · rw [if_neg c] at e; cases e
  · cases e
end
end Rv
set_option Elab.async false
set_option linter.all false
set_option maxRecDepth 100000
set_option maxHeartbeats 4000000
/-! Rv8: isinstance, repr, methods of texts, f-strings, lists joined and repeated. -/
namespace Rv
open PySem PySem.Spec L2
open PyProof.Rows hiding St

/-! ### isinstance -/
inductive Tg where
  | b (n : String) | c (c : Str)
  deriving DecidableEq
def tgOf (μ : Store) : D → Option Tg
  | .non => some (.b "NoneType")
  | .bl _ => some (.b "bool")
  | .int _ => some (.b "int")
  | .str _ => some (.b "str")
  | .tup _ => some (.b "tuple")
  | .lst _ => some (.b "list")
  | .dct _ _ => some (.b "dict")
  | .obj c _ _ => some (.c c)
  | .ref k => match μ[k]? with
    | some (.lst _) => some (.b "list")
    | some (.dct _ _) => some (.b "dict")
    | some (.ins c _ _) => some (.c c)
    | none => none
  | _ => none
def tgC : D → Option Tg
  | .ty n => some (.b n)
  | .cls c => some (.c c)
  | _ => none
def tgV (K : PySem.W.Frag) : Tg → Value
  | .b n => .type n
  | .c c => .ref (He.ga K c)
/-- what isinstance asks of an own class -/
structure ClsI (K : PySem.W.Frag) (C : Addr) : Prop where
  cl : Cls K C
  ha : PySem.W.findIn K (.ref C) "__class__" = some (some (.builtin "object.__class__"))
  hn : PySem.W.specialIn K (.builtin "object.__class__") "__get__" = some (some (.builtin "getset_descriptor.__get__"))
  htk : PySem.W.takesIn K (.builtin "object.__class__") = some true
  hm : PySem.W.mroIn K C (.type "object") = some true
def clsIB (K : PySem.W.Frag) (x : Str) : Bool := (He.Fa.cls x).ok K && (He.eqO (PySem.W.findIn K (.ref (He.ga K x)) "__class__") (some (some (.builtin "object.__class__"))) && (He.eqO (PySem.W.specialIn K (.builtin "object.__class__") "__get__") (some (some (.builtin "getset_descriptor.__get__"))) &&
  (decide (PySem.W.takesIn K (.builtin "object.__class__") = some true) && decide (PySem.W.mroIn K (He.ga K x) (.type "object") = some true))))
theorem clsIB_ok {K : PySem.W.Frag} {x : Str} (h : clsIB K x = true) : ClsI K (He.ga K x) := by
  obtain ⟨h1, h⟩ := He.ba h
  obtain ⟨h2, h⟩ := He.ba h
  obtain ⟨h3, h⟩ := He.ba h
  obtain ⟨h4, h5⟩ := He.ba h
  exact ⟨He.cls_ok h1, He.eqO_ok h2, He.eqO_ok h3, of_decide_eq_true h4, of_decide_eq_true h5⟩
/-- own classes; who is one of which -/
structure Isi where
  cs : List Str
  tab : List (Tg × Tg × Bool)
def Isi.ok (K : PySem.W.Frag) (T : Isi) : Bool := T.cs.all (clsIB K) && T.tab.all fun e => decide (PySem.W.kitOne K (tgV K e.1) (tgV K e.2.1) = some e.2.2)
def Isi.get (T : Isi) (a b : Tg) : Option Bool := (T.tab.find? fun e => decide (e.1 = a) && decide (e.2.1 = b)).map fun e => e.2.2
def Isi.own (T : Isi) : Tg → Bool
  | .b _ => true
  | .c c => decide (c ∈ T.cs)
def fIsi (T : Isi) : Fn := fun ds μ => match ds with
  | [d, c] => (match tgOf μ d, tgC c with
    | some t, some u => if T.own t then (match T.get t u with
      | some b => .ok (.bl b) μ
      | none => .stuck) else .stuck
    | _, _ => .stuck)
  | _ => .stuck
section
variable {X : Cx} {W : WX} {e a b c o : Expr} {es rest : List Expr} {m n : M D} {ms mk : M (List D)} {pos p p1 apos cpos : Pos} {x f : Str} {F : Fn} {cl : Str}
theorem Isi.get_ok {K : PySem.W.Frag} {T : Isi} (h : T.ok K = true) {t u : Tg} {b : Bool} (e : T.get t u = some b) : PySem.W.kitOne K (tgV K t) (tgV K u) = some b := by
  obtain ⟨h1, h2⟩ := He.ba h
  unfold Isi.get at e
  obtain ⟨z, e1, e2⟩ := Option.map_eq_some_iff.mp e
  have q1 := List.find?_some e1
  have q2 := List.mem_of_find?_eq_some e1
  simp only [Bool.and_eq_true, decide_eq_true_eq] at q1
  have q3 := of_decide_eq_true (List.all_eq_true.mp h2 z q2)
  rw [q1.1, q1.2, e2] at q3
  exact q3
theorem tg_ok {K : PySem.W.Frag} {T : Isi} (h : T.ok K = true) {π : List Addr} {μ : Store} {H : Hp} {d : D} {v : V} {t : Tg} (s : SimM K π μ H) (r : Rp K π H d v) (e : tgOf μ d = some t) (o : T.own t = true) : TyX K H v (tgV K t) := by
  obtain ⟨h1, h2⟩ := He.ba h
  have ow : ∀ {c : Str} {a : Addr} {dx : Addr} {fs : List (Str × V)}, T.own (.c c) = true → H a = some (.ins (He.ga K c) dx fs) → TyX K H (.ref a) (tgV K (.c c)) := fun {c a dx fs} ho hi => by
    have q := clsIB_ok (List.all_eq_true.mp h1 c (of_decide_eq_true ho))
    exact .base (.ins hi q.cl q.ha q.hn q.htk q.hm)
  cases d with
  | non => cases rep_non r; cases e; exact .base .non
  | bl b => cases rep_bl r; cases e; exact .base (.bl b)
  | int i => cases rep_int r; cases e; exact .base (.int i)
  | str z => cases rep_str r; cases e; exact .base (.str _)
  | tup ds =>
    cases e
    obtain ⟨p, vs, rfl, hp, _⟩ := asT_view (ds := ds) r rfl
    rcases hp with (hp | ⟨o, hp⟩) | ⟨o, its, n, q1, q2, _⟩
    · exact .base (.tup hp)
    · exact .fTuple hp
    · exact .kTuple q1 q2
  | lst ds =>
    cases e
    unfold Rp Rep at r
    obtain ⟨p, vs, rfl, hp, _⟩ := r
    exact .base (.lst (off_sub _ _ hp))
  | dct ks ds =>
    cases e
    unfold Rp Rep at r
    obtain ⟨p, kvs, rfl, hp, _⟩ := r
    exact .base (.dK (off_sub _ _ hp))
  | obj c ns ds =>
    cases e
    unfold Rp Rep at r
    obtain ⟨p, dx, fs, rfl, hp, _⟩ := r
    exact ow o (off_some hp).2
  | ref k =>
    unfold tgOf at e
    dsimp only at e
    have r' := r
    unfold Rp Rep at r'
    obtain ⟨a, k1, rfl⟩ := r'
    cases hm : μ[k]? with
    | none => rw [hm] at e; cases e
    | some m =>
      rw [hm] at e
      have q := s.obj k a m k1 hm
      cases m with
      | lst ds => cases e; obtain ⟨vs, q1, _⟩ := q; exact .base (.lst q1)
      | dct ks ds => cases e; obtain ⟨vs, q1, _⟩ := q; exact .base (.dK q1)
      | ins c ns ds => cases e; obtain ⟨dx, fs, q1, _⟩ := q; exact ow o q1
  | cls c => cases e
  | ty n => cases e
  | scr ns => cases e
theorem cd_isi {T : Isi} (h : T.ok X.K = true) : CallD X W (.builtin "isinstance") (fIsi T) := .of call_isi fun π μ H Q ds vs d μ' sm rl e q => by
  unfold fIsi at e
  split at e
  · rename_i d1 c1
    split at e
    · rename_i t u e1 e2
      by_cases ho : T.own t = true
      · rw [if_pos ho] at e
        split at e
        · rename_i b eb
          cases e
          obtain ⟨v, w, rfl, rv, rw'⟩ := repL2 rl
          have hc : ClsV w (tgV X.K u) := by
            cases c1 with
            | cls c => cases e2; unfold Rep at rw'; subst rw'; exact .own _
            | ty n => cases e2; unfold Rep at rw'; subst rw'; exact .ty _
            | _ => cases e2
          exact ⟨v, w, _, _, b, rfl, hc, tg_ok h sm rv e1 ho, Isi.get_ok h eb, q _ H π Gr.refl sm rfl⟩
        · cases e
      · rw [if_neg ho] at e; cases e
    · cases e
  · cases e
/-- a built-in type's name -/
theorem SE.bty {T : String} (hg : Gl X x) (hm : X.mg x = none) (hv : bootBuiltins x = some (.type T)) (hn : x ≠ "__name__" := by decide) (hdb : (x == ("__debug__" : Str)) = false := by decide) : SE X W (.Name x pos) (mC (.ty T)) := fun π ρ μ σ H Q sm sl h =>
  fun pins s I => ld_blt I hg hm hv ⟨.ty T, H, I, rfl, h (.ty T) H π Gr.refl sm rfl⟩ hn hdb

/-! ### repr -/
def fRepr : Fn := fun ds μ => match ds with
  | [d] => (match pyd μ d with
    | some p => (match d with
      | .int i => if i.natAbs.log2 < 1920 then .ok (.str (ofS (toString i))) μ else .stuck
      | _ => if (p.showable && !p.hasDict) && (decide (p.shown.length ≤ maxL) && decide (p.depth ≤ 60)) then (match d with
        | .tup _ => .ok (.str (ofS p.shown)) μ
        | .lst _ => .ok (.str (ofS p.shown)) μ
        | .ref _ => .ok (.str (ofS p.shown)) μ
        | _ => .stuck) else .stuck)
    | none => .stuck)
  | _ => .stuck
def isRf : D → Prop
  | .tup _ => True
  | .lst _ => True
  | .ref _ => True
  | _ => False
theorem reprRef {d : D} {π : List Addr} {μ : Store} {H : Hp} {v : V} (sm : SimM X.K π μ H) (r : Rp X.K π H d v) (h : isRf d) : ∃ a, v = .ref a := by
  cases d <;> first | exact h.elim | skip
  all_goals unfold Rp Rep at r
  · obtain ⟨a, _, rfl, _⟩ := r; exact ⟨a, rfl⟩
  · obtain ⟨a, _, rfl, _⟩ := r; exact ⟨a, rfl⟩
  · obtain ⟨a, _, rfl⟩ := r; exact ⟨a, rfl⟩
theorem cd_repr {k : Nat} (hr : RoomQ k X.A) : CallD X W (.builtin "repr") fRepr := by
  intro π μ σ H Q ds vs sm rl g σ' pins s us I rv
  obtain ⟨d, μ', e, q⟩ := GE.only g
  unfold fRepr at e
  split at e
  · rename_i d1
    obtain ⟨v, rfl, r1⟩ := repL1 rl
    split at e
    · rename_i p ep
      split at e
      · rename_i i
        by_cases c : i.natAbs.log2 < 1920
        · rw [if_pos c] at e
          cases e
          exact SkE.call_repr_int pins s σ' H _ us Q I rv ⟨i, by rw [rep_int r1], c, q _ H π Gr.refl sm (by unfold Rp Rep; rw [toS_ofS])⟩
        · rw [if_neg c] at e; cases e
      · rename_i hne
        by_cases c : ((p.showable && !p.hasDict) && (decide (p.shown.length ≤ maxL) && decide (p.depth ≤ 60))) = true
        · rw [if_pos c] at e
          simp only [Bool.and_eq_true, decide_eq_true_eq, Bool.not_eq_true'] at c
          obtain ⟨⟨c1, c2⟩, c3, c4⟩ := c
          have hk : isRf d1 ∧ d = .str (ofS p.shown) ∧ μ' = μ := by
            split at e
            · cases e; exact ⟨trivial, rfl, rfl⟩
            · cases e; exact ⟨trivial, rfl, rfl⟩
            · cases e; exact ⟨trivial, rfl, rfl⟩
            · cases e
          obtain ⟨k1, rfl, rfl⟩ := hk
          obtain ⟨a, rfl⟩ := reprRef sm r1 k1
          obtain ⟨u, rfl, ru⟩ := vals1 rv
          cases (show u = Value.ref a from ru)
          obtain ⟨as, hR⟩ := Dp.reads I p _ _ (dp_of sm r1 ep) ru
          have hu := hr.rm.units
          refine PySem.repr_of_reads' hR c1 (fun z => by rw [c2] at z; cases z) hr.gd (by omega) (fun _ _ h => h) (fun h' u tk hk => ?_) (by rw [sizeLine_eq]; exact c3)
          exact ⟨.str p.shown, H, I.kept hk, ⟨_, rfl⟩, q _ H π Gr.refl sm (by unfold Rp Rep; rw [toS_ofS])⟩
        · rw [if_neg c] at e; cases e
    · cases e
  · cases e

/-! ### methods of texts -/
def isSt : D → Bool
  | .str _ => true
  | _ => false
def dM0 (f : List Nat → Store → Out D) : D → Store → Out D := fun d μ => match d with
  | .str s => f s μ
  | _ => .stuck
/-- a text's method of no argument, of one -/
def mM0 (f : List Nat → Store → Out D) (m : M D) : M D := fun ρ μ => (m ρ μ).bind fun d μ1 => match d with
  | .str s => (f s μ1).only
  | _ => .stuck
def mM1 (f : List Nat → D → Store → Out D) (m n : M D) : M D := fun ρ μ => (m ρ μ).bind fun d μ1 => match d with
  | .str s => (n ρ μ1).bind fun y μ2 => (f s y μ2).only
  | _ => .stuck
/-- the method's rule, by data -/
def MetD1 (X : Cx) (W : WX) (id : String) (f : List Nat → D → Store → Out D) : Prop := ∃ r, MtR X id r ∧ ∀ (π : List Addr) (μ : Store) (H : Hp) (Q : VK) (s : List Nat) (d d' : D) (v : V) (μ' : Store), SimM X.K π μ H → Rp X.K π H d v → f s d μ = .ok d' μ' → (∀ v H' π', Gr π H π' H' → SimM X.K π' μ' H' → Rp X.K π' H' d' v → Q v H') → r (.str (toS s)) [v] H Q
def MetD0 (X : Cx) (W : WX) (id : String) (f : List Nat → Store → Out D) : Prop := ∃ r, MtR X id r ∧ ∀ (π : List Addr) (μ : Store) (H : Hp) (Q : VK) (s : List Nat) (d' : D) (μ' : Store), SimM X.K π μ H → f s μ = .ok d' μ' → (∀ v H' π', Gr π H π' H' → SimM X.K π' μ' H' → Rp X.K π' H' d' v → Q v H') → r (.str (toS s)) [] H Q
theorem SE.m0 {id : String} {name : Str} {f : List Nat → Store → Out D} (h : MetD0 X W id f) (slot : Slot "str" name id) (ty : typeOf (.builtin id) = pure (.type "method_descriptor")) (ho : SE X W o m)
    (hbase : attributeBase o name X.env (eval o X.env) = eval o X.env := by rfl) (hline : (apos.endLine == pos.line) = true := by rfl) : SE X W (.Call (.Attribute o name apos) [] [] pos) (mM0 f m) := fun π ρ μ σ H Q sm sl g => by
  obtain ⟨r, hr, hf⟩ := h
  refine WE.of (pe_m0 slot ty hr pe_we hbase hline) (ho π ρ μ σ H _ sm sl (GE.bind g fun d μ1 x H1 π1 e1 g1 s1 r1 h1 => ?_))
  cases d with
  | str s =>
    cases rep_str r1
    obtain ⟨d', μ', e, q⟩ := GE.only h1
    exact ⟨⟨_, rfl⟩, hf π1 μ1 H1 Q s d' μ' s1 e q⟩
  | _ => exact h1.elim
theorem SE.m1 {id : String} {name : Str} {f : List Nat → D → Store → Out D} (h : MetD1 X W id f) (slot : Slot "str" name id) (ty : typeOf (.builtin id) = pure (.type "method_descriptor")) (ho : SE X W o m) (ha : SE X W a n)
    (hs : starEach [a] X.env = [(false, eval a X.env)] := by rfl) (hbase : attributeBase o name X.env (eval o X.env) = eval o X.env := by rfl) (hline : (apos.endLine == pos.line) = true := by rfl) : SE X W (.Call (.Attribute o name apos) [a] [] pos) (mM1 f m n) := fun π ρ μ σ H Q sm sl g => by
  obtain ⟨r, hr, hf⟩ := h
  refine WE.of (pe_m1 slot ty hr pe_we pe_we hs hbase hline) (ho π ρ μ σ H _ sm sl (GE.bind g fun d μ1 x H1 π1 e1 g1 s1 r1 h1 => ?_))
  cases d with
  | str s =>
    cases rep_str r1
    refine ⟨⟨_, rfl⟩, ha π1 ρ μ1 σ H1 _ s1 (g1.loc sl) (GE.bind h1 fun y μ2 y' H2 π2 e2 g2 s2 r2 h2 => ?_)⟩
    obtain ⟨d', μ', e, q⟩ := GE.only h2
    exact hf π2 μ2 H2 Q s y d' y' μ' s2 r2 e q
  | _ => exact h1.elim
/-- split: S is the separator (its signs below 256) -/
def fSplit (s : List Nat) (d : D) (μ : Store) : Out D := match d with
  | .str (c :: S) => if (c :: S).all (fun n => decide (n < 256)) && decide (s.length + 2 ≤ maxL) then .ok (.lst ((TL.spl (c :: S) 0 [] s).map D.str)) μ else .stuck
  | _ => .stuck
theorem tl_toS (s : List Nat) : TL.tl (toS s) = s := rfl
theorem split_toS {s : List Nat} {c : Nat} {S : List Nat} (h : (c :: S).all (fun n => decide (n < 256)) = true) : Txt.split (toS s) (toS (c :: S)) = (TL.spl (c :: S) 0 [] s).map toS := by
  have hk : (toS (c :: S)).cps.all (· < 256) = true := by
    unfold toS
    simp only [List.all_toArray]
    simpa using h
  have z := TL.split_spl (toS s) (toS (c :: S)) (by rw [tl_toS]; simp) (TL.kind_ok hk)
  rw [tl_toS, tl_toS] at z
  rw [← z, List.map_map]
  symm
  refine (List.map_congr_left fun y _ => ?_).trans (List.map_id _)
  exact toS_ofS y
theorem met_split : MetD1 X W "str.split" fSplit := ⟨_, mt_split, fun π μ H Q s d d' v μ' sm r e q => by
  unfold fSplit at e
  split at e
  · rename_i c S
    by_cases h : ((c :: S).all (fun n => decide (n < 256)) && decide (s.length + 2 ≤ maxL)) = true
    · rw [if_pos h] at e
      simp only [Bool.and_eq_true, decide_eq_true_eq] at h
      cases e
      refine ⟨_, _, rfl, by rw [rep_str r], by rw [toS_length]; rfl, by rw [toS_length, sizeLine_eq]; exact h.2, ?_⟩
      rw [split_toS h.1]
      intro p hp
      exact q _ _ π (Gr.new hp) (sm.new hp) (rp_lst sm hp (by rw [List.map_map]; exact (rep_strs _ : RepL _ _ _ _ _) |> fun z => by simpa [List.map_map] using z))
    · rw [if_neg h] at e; cases e
  · cases e⟩
end
end Rv
set_option Elab.async false
set_option linter.all false
set_option maxRecDepth 100000
set_option maxHeartbeats 4000000
/-! Rv9: join, f-strings, lists joined and repeated, an empty dict. -/
namespace Rv
open PySem PySem.Spec L2
open PyProof.Rows hiding St

section
variable {X : Cx} {W : WX} {e a b c o : Expr} {es rest : List Expr} {m n : M D} {ms mk : M (List D)} {pos p p1 apos cpos : Pos} {x f : Str} {F : Fn} {cl : Str}
/-- sep.join -/
def fJoin (s : List Nat) (d : D) (μ : Store) : Out D := match (asQ μ d).bind dStrs with
  | some ys => if (ys.map List.length).sum + ys.length * s.length ≤ maxL then .ok (.str (TL.joinL s ys)) μ else .stuck
  | none => .stuck
theorem join_toS (s : List Nat) (ys : List (List Nat)) : Txt.join (toS s) (ys.map toS) = toS (TL.joinL s ys) := by
  rw [TL.join_eq]
  have z := TL.tl_join (toS s) (ys.map toS)
  rw [List.map_map, show (TL.tl ∘ toS) = id from funext fun y => tl_toS y, List.map_id, tl_toS] at z
  rw [← z]
  exact (toS_ofS _).symm
theorem met_join : MetD1 X W "str.join" fJoin := ⟨_, mt_join, fun π μ H Q s d d' v μ' sm r e q => by
  unfold fJoin at e
  split at e
  · rename_i ys ey
    by_cases h : (ys.map List.length).sum + ys.length * s.length ≤ maxL
    · rw [if_pos h] at e
      cases e
      obtain ⟨ds, e1, e2⟩ := Option.bind_eq_some_iff.mp ey
      obtain ⟨p, vs, rfl, hp, rp⟩ := asQ_view sm r e1
      have ev := strs_rep rp e2
      subst ev
      refine ⟨_, p, ys.map toS, rfl, rfl, hp, ?_, ?_⟩
      · rw [List.map_map, List.length_map, toS_length, show (Str.length ∘ toS) = List.length from funext fun y => toS_length y]
        exact h
      · rw [join_toS]
        exact q _ H π Gr.refl sm (by unfold Rp Rep; rfl)
    · rw [if_neg h] at e; cases e
  · cases e⟩

/-! ### f-strings -/
def mFmt (m : M D) : M D := fun ρ μ => (m ρ μ).bind fun d μ1 => match d with
  | .str s => if s.length ≤ maxL then .ok (.str s) μ1 else .stuck
  | .int i => if i.natAbs.log2 < 1920 then .ok (.str (ofS (toString i))) μ1 else .stuck
  | _ => .stuck
theorem SE.fmt (ha : SE X W a m) : SE X W (.FormattedValue a (-1) none pos) (mFmt m) := fun π ρ μ σ H Q sm sl g => by
  refine WE.of (pe_fmt pe_we) (ha π ρ μ σ H _ sm sl (GE.bind g fun d μ1 x H1 π1 e1 g1 s1 r1 h1 => ?_))
  cases d with
  | str s =>
    cases rep_str r1
    have h1' : GE X W (Rp X.K) π1 σ H1 Q (if s.length ≤ maxL then .ok (.str s) μ1 else .stuck) := h1
    by_cases hl : s.length ≤ maxL
    · rw [if_pos hl] at h1'
      exact .inl ⟨_, rfl, by rw [toS_length, sizeLine_eq]; exact hl, h1' _ H1 π1 Gr.refl s1 r1⟩
    · rw [if_neg hl] at h1'; exact h1'.elim
  | int i =>
    cases rep_int r1
    have h1' : GE X W (Rp X.K) π1 σ H1 Q (if i.natAbs.log2 < 1920 then .ok (.str (ofS (toString i))) μ1 else .stuck) := h1
    by_cases hl : i.natAbs.log2 < 1920
    · rw [if_pos hl] at h1'
      exact .inr ⟨_, rfl, hl, h1' _ H1 π1 Gr.refl s1 (by unfold Rp Rep; rw [toS_ofS])⟩
    · rw [if_neg hl] at h1'; exact h1'.elim
  | _ => exact h1.elim
inductive SJ (X : Cx) (W : WX) : List Expr → List (M D) → Prop
  | nil : SJ X W [] []
  | cons {a : Expr} {m : M D} {es : List Expr} {l : List (M D)} (h : SE X W a m) (r : SJ X W es l) : SJ X W (a :: es) (m :: l)
def joinGo : List (M D) → List Nat → M D
  | [], acc => fun _ μ => .ok (.str acc) μ
  | m :: l, acc => fun ρ μ => (m ρ μ).bind fun d μ1 => match d with
    | .str s => if acc.length + s.length ≤ maxL then joinGo l (acc ++ s) ρ μ1 else .stuck
    | _ => .stuck
theorem sj_pj : ∀ {es : List Expr} {l : List (M D)}, SJ X W es l → PJ X es (es.map (WE X))
  | _, _, .nil => .nil
  | _, _, .cons h r => .cons pe_we (sj_pj r)
theorem sj_run : ∀ {es : List Expr} {l : List (M D)}, SJ X W es l → ∀ (acc : List Nat) (π : List Addr) (ρ : Env') (μ : Store) (σ : L2.St) (H : Hp) (Q : VK), SimM X.K π μ H → SimL X.K π H ρ σ → GE X W (Rp X.K) π σ H Q (joinGo l acc ρ μ) → tJs (es.map (WE X)) (toS acc) σ H fun out H1 => Q (.str out) H1
  | _, _, .nil, acc, π, ρ, μ, σ, H, Q, sm, sl, g => g _ H π Gr.refl sm (by unfold Rep; rfl)
  | _, _, .cons h r, acc, π, ρ, μ, σ, H, Q, sm, sl, g => by
    refine h π ρ μ σ H _ sm sl (GE.bind (f := fun d μ1 => _) g fun d μ1 x H1 π1 e1 g1 s1 r1 h1 => ?_)
    cases d with
    | str s =>
      cases rep_str r1
      dsimp only at h1
      by_cases hl : acc.length + s.length ≤ maxL
      · rw [if_pos hl] at h1
        refine ⟨_, rfl, by rw [toS_append, toS_length, List.length_append, sizeLine_eq]; exact hl, ?_⟩
        rw [toS_append]
        exact sj_run r _ π1 ρ μ1 σ H1 Q s1 (g1.loc sl) h1
      · rw [if_neg hl] at h1; exact h1.elim
    | _ => exact h1.elim
theorem SE.joined {v1 v2 : Expr} {l : List (M D)} (h : SJ X W (v1 :: v2 :: rest) l) : SE X W (.JoinedStr (v1 :: v2 :: rest) pos) (joinGo l []) := fun π ρ μ σ H Q sm sl g =>
  WE.of (pe_joined (sj_pj h)) (sj_run h [] π ρ μ σ H Q sm sl g)
theorem SE.joined1 (h : SE X W a m) : SE X W (.JoinedStr [a] pos) m := fun π ρ μ σ H Q sm sl g => WE.of (pe_joined1 pe_we) (h π ρ μ σ H Q sm sl g)

/-! ### + and * of lists too -/
def dPlus : D → D → Store → Out D := fun d1 d2 μ => match asL μ d1, asL μ d2 with
  | some s, some t => if s.length + t.length ≤ maxL then .ok (.lst (s ++ t)) μ else .stuck
  | _, _ => dAdd d1 d2 μ
theorem opb_plus : OpB X W (binaryOp .Add) dPlus := by
  intro π μ σ H Q d1 d2 x y s r1 r2 h
  unfold dPlus at h
  split at h
  · rename_i s1 t1 e1 e2
    by_cases hl : s1.length + t1.length ≤ maxL
    · rw [if_pos hl] at h
      obtain ⟨p, vs, rfl, hp, rp⟩ := asL_own s r1 e1
      obtain ⟨q, us, rfl, hq, rq⟩ := asL_own s r2 e2
      exact OpR.vb op_cat ⟨p, q, vs, us, rfl, rfl, hp, hq, by rw [rp.length, rq.length, sizeLine_eq]; exact hl, fun t ht => GE.newL h s (rp.append rq) ht⟩
    · rw [if_neg hl] at h; exact h.elim
  · exact opb_add π μ σ H Q d1 d2 x y s r1 r2 h
/-- .. the new list goes on being changed -/
def dPlusN : D → D → Store → Out D := fun d1 d2 μ => match asL μ d1, asL μ d2 with
  | some s, some t => if s.length + t.length ≤ maxL then .ok (.ref μ.length) (μ ++ [.lst (s ++ t)]) else .stuck
  | _, _ => .stuck
theorem opb_plusN : OpB X W (binaryOp .Add) dPlusN := by
  intro π μ σ H Q d1 d2 x y s r1 r2 h
  unfold dPlusN at h
  split at h
  · rename_i s1 t1 e1 e2
    by_cases hl : s1.length + t1.length ≤ maxL
    · rw [if_pos hl] at h
      obtain ⟨p, vs, rfl, hp, rp⟩ := asL_own s r1 e1
      obtain ⟨q, us, rfl, hq, rq⟩ := asL_own s r2 e2
      refine OpR.vb op_cat ⟨p, q, vs, us, rfl, rfl, hp, hq, by rw [rp.length, rq.length, sizeLine_eq]; exact hl, fun t ht => ?_⟩
      obtain ⟨z1, z2, z3⟩ := rep_newref s ht (rp.append rq)
      exact h _ _ _ z2 z1 z3
    · rw [if_neg hl] at h; exact h.elim
  · exact h.elim
def repD (k : Nat) (ds : List D) : List D := (List.replicate k ds).flatten
theorem repD_rep {K : PySem.W.Frag} {H : Hp} {π : List Addr} {ds : List D} {vs : List V} (r : RepL K H π ds vs) : ∀ k : Nat, RepL K H π (repD k ds) (List.replicate k vs).flatten
  | 0 => .nil
  | k + 1 => by
    unfold repD
    rw [List.replicate_succ, List.replicate_succ, List.flatten_cons, List.flatten_cons]
    exact r.append (repD_rep r k)
def dTimes : D → D → Store → Out D := fun d1 d2 μ => match asL μ d1, d2 with
  | some s, .int k => if -(2 ^ 63) ≤ k ∧ k < 2 ^ 63 ∧ s.length * k.toNat ≤ maxL then .ok (.lst (repD k.toNat s)) μ else .stuck
  | _, _ => dMul d1 d2 μ
theorem opb_times : OpB X W (binaryOp .Mult) dTimes := by
  intro π μ σ H Q d1 d2 x y s r1 r2 h
  unfold dTimes at h
  split at h
  · rename_i s1 k e1
    by_cases hl : -(2 ^ 63) ≤ k ∧ k < 2 ^ 63 ∧ s1.length * k.toNat ≤ maxL
    · rw [if_pos hl] at h
      cases rep_int r2
      obtain ⟨p, vs, rfl, hp, rp⟩ := asL_own s r1 e1
      exact OpR.vb op_rep ⟨p, k, vs, rfl, rfl, hp, hl.1, hl.2.1, by rw [rp.length, sizeLine_eq]; exact hl.2.2, fun t ht => GE.newL h s (repD_rep rp _) ht⟩
    · rw [if_neg hl] at h; exact h.elim
  · exact opb_mul π μ σ H Q _ _ x y s r1 r2 h
/-- {} that stays empty -/
theorem SE.dict0 : SE X W (.Dict [] [] pos) (mC (.dct [] [])) := fun π ρ μ σ H Q sm sl h => by
  refine WE.of pe_dnewK fun p hp => h (.ref p) _ π (Gr.new hp) (sm.new hp) ?_
  unfold Rp Rep
  exact ⟨p, [], rfl, by rw [off_ne (sm.in_ hp), upd_same], rfl, .nil⟩
end
end Rv
set_option Elab.async false
set_option linter.all false
set_option maxRecDepth 100000
set_option maxHeartbeats 4000000
/-! RvE: enumerate over a tuple. -/
namespace RvE
open PySem PySem.Spec PyProof.Rows L2
open AutoSeq1 (wpAny_loadPart')
/-- the iterator of a tuple and the enumerate object over it -/
abbrev litOf (l : Addr) : Obj := { cls := .type "tuple_iterator", data := .fields #[.ref l, .int 0 0] }
abbrev enuOf (i : Addr) : Obj := { cls := .type "enumerate", data := .fields #[.none, .bool false, .ref i, rawInt 0, .none, .none] }
theorem newT (l : Addr) (xs : Array Value) (k : Nat) (dd : Option Addr) (ss : Array (Option Value)) :
    Meets (Builtin.«enumerate.__new__» ⟨[.type "enumerate", .ref l], []⟩) (fun _ R s =>
      s.heap.get? l = some { cls := .type "tuple", dict := dd, data := .seq xs k, slots := ss } ∧ R (.ok (.ret (.ref (s.heap.push (litOf l)).objs.size))) { s with heap := (s.heap.push (litOf l)).push (enuOf s.heap.objs.size) }) :=
  .of_wp fun prog w A R s h => by
    obtain ⟨hp, gs, dr, tk, os⟩ := s
    obtain ⟨e0, h⟩ := h
    have hsub := sub_enumerate
    have isT : Heap.IsTuple (Shared.heap ⟨hp, gs, dr, tk, os⟩) l xs := ⟨_, e0, rfl, k, rfl⟩
    wp_walk using wpAny_loadPart' e0
    refine wpAny_stack_any fun st => wpAny_pure ?_
    split
    · rename_i c _ _ _ _ _
      cases (c == Value.type "enumerate") <;> (wp_walk using wpAny_loadPart' e0, wpAny_pyIter_tuple isT; exact ⟨_, rfl, h⟩)
    · wp_walk using wpAny_loadPart' e0, wpAny_pyIter_tuple isT
      exact ⟨_, rfl, h⟩
theorem callT {P : Program} {w : World} {A : Around} {E : Value → Shared → Prop} {s : Shared} {l : Addr} {xs : Array Value} {Q : Value → Shared → Prop} (hT : s.heap.IsTuple l xs)
    (h : ∀ g, IsEnum g (s.heap.objs.size + 1) s.heap.objs.size 0 .none → g.IsTupleIter s.heap.objs.size l 0 → (∀ b o, s.heap.get? b = some o → g.get? b = some o) → Q (.ref (s.heap.objs.size + 1)) { s with heap := g }) :
    wpAny (model P w) A (call (.type "enumerate") [.ref l]) Q E s := by
  obtain ⟨⟨c, dd, dt, ss⟩, e0, e1, k, e2⟩ := hT
  obtain rfl : c = .type "tuple" := e1
  obtain rfl : dt = .seq xs k := e2
  refine callType_new F.called_enumerate (by decide) (F.typeCall_enumerate_1 _) (F.newCall_enumerate_1 _) (fun ob => F.args_object_init_2 ob _) F.entry_enumerate_new (newT l xs k dd ss) ⟨e0, ?_⟩
  have sz : (s.heap.push (litOf l)).objs.size = s.heap.objs.size + 1 := Heap.size_push ..
  show _ ∧ _
  rw [sz]
  have q : IsEnum ((s.heap.push (litOf l)).push (enuOf s.heap.objs.size)) (s.heap.objs.size + 1) s.heap.objs.size 0 .none := by
    have z := Heap.get?_push_size (s.heap.push (litOf l)) (o := enuOf s.heap.objs.size) rfl
    rw [sz] at z
    exact z
  exact ⟨⟨_, q, rfl⟩, h _ q ⟨_, Heap.get?_push_of_some _ (Heap.get?_push_size _ rfl), rfl, rfl⟩ fun b o x => Heap.get?_push_of_some _ (Heap.get?_push_of_some _ x)⟩
theorem drawsT {P : Program} {w : World} {A : Around} (hh : A.handled = none) (it l : Addr) (ne : l ≠ it) (xs : Array Value) : Draws P w A it [it, l] xs.size (fun i v => xs[i]? = some v) (fun i h => h.IsTupleIter it l i ∧ h.IsTuple l xs) where
  live := fun _ _ st => ⟨_, st.1.choose_spec.1⟩
  frame := fun _ _ _ st k => ⟨st.1.at fun o e => k it (by simp) o e, by
    obtain ⟨ob, e, r⟩ := st.2
    exact ⟨ob, k l (by simp) _ e, r⟩⟩
  item := fun i s Q E hi st hQ => RZ.nextOf_tuple_item st.1 st.2 (x := xs[i]) (by simp [hi]) fun g a b => hQ _ g s.toks (by simp [hi]) ⟨a, by
    obtain ⟨ob, e, r⟩ := st.2
    exact ⟨ob, b.extBut l ob ne e, r⟩⟩ b
  done := fun s Q E st hE => RZ.nextOf_tuple_end hh st.1 st.2 (by simp) hE
/-- the tuple at a, each item in a new pair -/
def ItU (K : PySem.W.Frag) (a : Addr) : It where
  go := fun i H => ∃ (xs : List V) (x : V), SqT K H a xs ∧ xs[i]? = some x
  yld := fun i H v H' => ∃ T x, v = .ref T ∧ H T = none ∧ H' = upd H T (.tup [.int (i : Nat), x]) ∧ ∀ xs, SqT K H a xs → xs[i]? = some x
  stop := fun i H => ∃ xs : List V, SqT K H a xs ∧ xs.length = i
theorem turnU {P : Program} {w : World} {K : PySem.W.Frag} {es : List Expr} {kk : Nat} {tp : Pos} (a e it : Addr) (hai : a ≠ it) (hae : a ≠ e) :
    Turn P w K (.Tuple es kk tp) (ItU K a) [e, it] e (fun i h => (∃ old, IsEnum h e it ((i : Nat) : Int) old) ∧ h.IsTupleIter it a i ∧ e ≠ it) where
  mem := by simp
  obj := fun i h st b hb => by
    obtain ⟨⟨old, q⟩, ⟨o, q1, q2, q3⟩, _⟩ := st
    rcases List.mem_cons.mp hb with z | z
    · subst z; exact ⟨_, q, fun v y => nomatch y⟩
    · rw [List.mem_singleton] at z
      subst z
      exact ⟨o, q1, fun v y => by rw [q3] at y; cases y⟩
  keep := fun i h h' st k => by
    obtain ⟨⟨old, q⟩, r, ne⟩ := st
    exact ⟨⟨old, k e (by simp) _ q⟩, r.at fun o z => k it (by simp) o z, ne⟩
  item := by
    intro X hP hw hK hc i pins s σ H E I hf st hg
    subst hP hw hK
    obtain ⟨⟨old, he⟩, hit, hne⟩ := st
    obtain ⟨xs, x, hq, hx⟩ := hg
    obtain ⟨its, rv, p, hz⟩ := I.tuple hq
    obtain ⟨u, hu, ru⟩ := rv.get hx
    have hi : i < its.toArray.size := by simpa using (List.getElem?_eq_some_iff.mp hu).1
    have lt1 : e < s.heap.objs.size := Heap.lt_size he
    have lt2 : it < s.heap.objs.size := by obtain ⟨_, q, _⟩ := hit; exact Heap.lt_size q
    refine wpAny_pyNext_enum_itemD (drawsT (A := X.A.in1) (I.ok.hd hc) it a hai its.toArray) he ⟨hit, p⟩ hi hne (by simp [hne, Ne.symm hae]) fun x' g tk hx' ho st' hT hsz hk => ?_
    have hx2 : x' = u := by
      have z : its[i]? = some x' := by simpa using hx'
      rw [hu] at z
      exact (Option.some.inj z).symm
    subst hx2
    refine ⟨_, rfl, wpAny_letOwnedTupleGo_enum (s := { s with heap := g, toks := tk + 1 }) ho fun g2 ho2 sb => ?_⟩
    have hT2 : g2.get? s.heap.objs.size = some { cls := .type "tuple", data := .seq #[.int i tk, x'] } := (sb.2 _ (Nat.ne_of_gt lt1)).trans hT
    have fin : ObjOk X.prog X.w (upd H s.heap.objs.size (.tup [.int (i : Nat), x])) g2 s.heap.objs.size (.tup [.int (i : Nat), x]) :=
      ⟨by show 2 ≤ sizeLine; decide, [.int i tk, x'], .cons ⟨_, rfl⟩ (.cons ru .nil), ⟨_, hT2, rfl, _, rfl⟩⟩
    have I1 : Inv X pins σ (upd H s.heap.objs.size (.tup [.int (i : Nat), x])) { s with heap := g2, toks := tk + 1 } :=
      I.turnedNew (ch := [e, it]) (fun b ob nb q => (sb.2 b fun z => nb (z ▸ by simp)).trans (hk b ob (fun z => nb (z ▸ by simp)) (fun z => nb (z ▸ by simp)) q)) hf (Nat.le_refl _) fin
    refine ⟨.ref s.heap.objs.size, _, I1, rfl, ⟨_, x, rfl, I.hok.fresh (Nat.le_refl _), rfl, fun ys hy => ?_⟩, ⟨⟨x', ?_⟩, st'.1.at fun o q => (sb.2 it (Ne.symm hne)).trans q, hne⟩, fun b hb => ?_⟩
    · rw [I.tuple_inj hy hq]; exact hx
    · rw [show ((i + 1 : Nat) : Int) = (i : Int) + 1 by omega]
      exact ho2
    · have lt : b < s.heap.objs.size := by
        rcases List.mem_cons.mp hb with z | z
        · subst z; exact lt1
        · rw [List.mem_singleton] at z
          subst z; exact lt2
      rw [upd_ne (Nat.ne_of_lt lt)]
      exact (hf b hb).1
  done := by
    intro X hP hw hK hc i pins s σ H E I hf st hg
    subst hP hw hK
    obtain ⟨⟨old, he⟩, hit, hne⟩ := st
    obtain ⟨xs, hq, hx⟩ := hg
    obtain ⟨its, rv, p, hz⟩ := I.tuple hq
    obtain ⟨f0, f1, f2, f3, f4, f5⟩ := hf it (by simp)
    have hl : its.toArray.size = i := by
      have := rv.length
      simp only [List.size_toArray]
      omega
    subst hl
    exact wpAny_pyNext_enum_endD (drawsT (A := X.A.in1) (I.ok.hd hc) it a hai its.toArray) he ⟨hit, p⟩ fun g eb => ⟨rfl, I.turned (t' := s.toks) (fun b o hb q => eb b o hb q) f0 f1 f3 f4 f5⟩
  self := fun A i s Q E st h => let ⟨⟨_, q⟩, _⟩ := st; wpAny_pyIter_enum q h
def iEnumT (K : PySem.W.Frag) (ta : TA) : TI := fun σ H R => ta σ H fun vs H1 => ∃ a xs, vs = [.ref a] ∧ SqT K H1 a xs ∧ R (ItU K a) H1
theorem pi_enumT {X : Cx} {e : Expr} {ta : TA} {p pos tp : Pos} {es : List Expr} {kk : Nat} (hg : Gl X "enumerate") (hm : X.mg "enumerate" = none) (ha : PA X [e] ta)
    (hs : starEach [e] X.env = [(false, eval e X.env)] := by rfl) : PI X (.Tuple es kk tp) (.Call (.Name "enumerate" p) [e] [] pos) (iEnumT X.K ta) := by
  refine ⟨fun pins s σ H R I h => ?_⟩
  refine Call_ (ld_blt I hg hm boot_enumerate (PyProof.Rows.callWith_type1 (thn (ha.run pos pins s σ H _ I h) fun us s1 z => ?_) hs rfl))
  obtain ⟨vs, H1, I1, r1, a, xs, rfl, hq, q⟩ := z
  obtain ⟨u, rfl, ru⟩ := vals1 r1
  obtain rfl : u = Value.ref a := ru
  obtain ⟨its, rv, pl, hz⟩ := I1.tuple hq
  have la : a < s1.heap.objs.size := by obtain ⟨o, q, _⟩ := pl; exact Heap.lt_size q
  refine callT (show s1.heap.IsTuple a its.toArray from pl) fun g he hit hk => wpAny_pyIter_enum he ?_
  refine ⟨s1.heap.objs.size + 1, [s1.heap.objs.size + 1, s1.heap.objs.size], _, _, H1, rfl, I1.kept (t' := s1.toks) hk, turnU a (s1.heap.objs.size + 1) s1.heap.objs.size (Nat.ne_of_lt la) (Nat.ne_of_lt (Nat.lt_succ_of_lt la)), ⟨⟨.none, he⟩, hit, Nat.succ_ne_self _⟩, fun b hb => ?_, q⟩
  have le : s1.heap.objs.size ≤ b := by
    rcases List.mem_cons.mp hb with z | z
    · rw [z]; exact Nat.le_succ _
    · rw [List.mem_singleton] at z
      rw [z]; exact Nat.le_refl _
  exact I1.fpOk le (I1.hok.fresh le)
end RvE
set_option Elab.async false
set_option linter.all false
set_option maxRecDepth 100000
set_option maxHeartbeats 4000000
/-! Rv10: targets, what is walked, for. -/
namespace Rv
open PySem PySem.Spec L2
open PyProof.Rows hiding St

section
variable {X : Cx} {W : WX} {e a b c o tg iter : Expr} {es rest : List Expr} {m n : M D} {ms mk : M (List D)} {pos p p1 apos cpos : Pos} {x f : Str} {F : Fn} {cl : Str} {vs ws : List Nat}

/-! ### targets of loops: names, tuples of names -/
def WG (X : Cx) (tg : Expr) : TG := fun v σ H Q => ∀ (pins : List (Addr × Obj)) (s : Shared) (u : Value), Inv X pins σ H s → RelV v u → wpAny (model X.prog X.w) X.A (assign tg X.env u) (fun _ s' => ∃ σ' H', Inv X pins σ' H' s' ∧ Q σ' H') X.xe s
theorem pg_wg : PG X tg (WG X tg) := ⟨fun pins s σ H v u Q I r h => h pins s u I r⟩
theorem WG.of {t : TG} {v : V} {σ : L2.St} {H : Hp} {Q : L2.St → Hp → Prop} (h : PG X tg t) (q : t v σ H Q) : WG X tg v σ H Q := fun pins s u I r => h.run pins s σ H v u Q I r q
def WGs (X : Cx) (es : List Expr) : TGs := fun vs σ H Q => ∀ (pins : List (Addr × Obj)) (s : Shared) (us : List Value), Inv X pins σ H s → Vals vs us → wpAny (model X.prog X.w) X.A (assignInOrder ((assignEach es X.env).map (·.2)) us) (fun _ s' => ∃ σ' H', Inv X pins σ' H' s' ∧ Q σ' H') X.xe s
theorem pgs_wgs : PGs X es (WGs X es) := ⟨fun pins s σ H v u Q I r h => h pins s u I r⟩
theorem WGs.of {t : TGs} {v : List V} {σ : L2.St} {H : Hp} {Q : L2.St → Hp → Prop} (h : PGs X es t) (q : t v σ H Q) : WGs X es v σ H Q := fun pins s u I r => h.run pins s σ H v u Q I r q
/-- only the slots vs have changed -/
def OnlyIn (vs : List Nat) (σ σ' : L2.St) : Prop := ∀ us : List Nat, (∀ i ∈ vs, i ∈ us) → wipe σ' us = wipe σ us
theorem wipe_in {i : Nat} : ∀ {us : List Nat} {σ : L2.St}, i ∈ us → i < σ.length → (wipe σ us)[i]? = some none
  | [], _, h, _ => nomatch h
  | u :: us, σ, h, hl => by
    unfold wipe
    by_cases e : u = i
    · subst e
      rw [List.getElem?_set_self]
      rw [wipe_length]; exact hl
    · rw [List.getElem?_set_ne e]
      exact wipe_in ((List.mem_cons.mp h).resolve_left fun z => e z.symm) hl
theorem wipe_at {us : List Nat} {σ : L2.St} (i : Nat) : (wipe σ us)[i]? = if i ∈ us ∧ i < σ.length then some none else σ[i]? := by
  by_cases h : i ∈ us
  · by_cases hl : i < σ.length
    · rw [if_pos ⟨h, hl⟩, wipe_in h hl]
    · rw [if_neg fun z => hl z.2, List.getElem?_eq_none (by rw [wipe_length]; omega), List.getElem?_eq_none (by omega)]
  · rw [if_neg fun z => h z.1, wipe_out h]
theorem OnlyIn.refl {σ : L2.St} : OnlyIn vs σ σ := fun _ _ => rfl
theorem OnlyIn.trans {σ σ1 σ2 : L2.St} (h : OnlyIn vs σ σ1) (k : OnlyIn vs σ1 σ2) : OnlyIn vs σ σ2 := fun us hu => (k us hu).trans (h us hu)
theorem OnlyIn.more {σ σ1 : L2.St} (h : OnlyIn ws σ σ1) (k : ∀ i ∈ ws, i ∈ vs) : OnlyIn vs σ σ1 := fun us hu => h us fun i hi => hu i (k i hi)
theorem OnlyIn.set {σ : L2.St} {i : Nat} {v : Option V} : OnlyIn [i] σ (σ.set i v) := fun us hu => by
  have hi := hu i (by simp)
  refine List.ext_getElem? fun j => ?_
  rw [wipe_at, wipe_at, List.length_set]
  by_cases h : j ∈ us ∧ j < σ.length
  · rw [if_pos h, if_pos h]
  · rw [if_neg h, if_neg h]
    by_cases e : i = j
    · subst e
      have : ¬ i < σ.length := fun z => h ⟨hi, z⟩
      rw [List.getElem?_eq_none (by rw [List.length_set]; omega), List.getElem?_eq_none (by omega)]
    · rw [List.getElem?_set_ne e]
abbrev TgM := D → Env' → Option Env'
def SG (X : Cx) (vs : List Nat) (tg : Expr) (g : TgM) : Prop := ∀ (π : List Addr) (H : Hp) (ρ ρ' : Env') (σ : L2.St) (d : D) (v : V), SimL X.K π H ρ σ → Rp X.K π H d v → g d ρ = some ρ' →
  ∃ σ', SimL X.K π H ρ' σ' ∧ OnlyIn vs σ σ' ∧ ∀ (H2 : Hp) (Q : L2.St → Hp → Prop), (∀ b o, off π H b = some o → H2 b = some o) → Q σ' H2 → WG X tg v σ H2 Q
def SGs (X : Cx) (vs : List Nat) (es : List Expr) (g : List D → Env' → Option Env') : Prop := ∀ (π : List Addr) (H : Hp) (ρ ρ' : Env') (σ : L2.St) (ds : List D) (us : List V), SimL X.K π H ρ σ → RpL X.K π H ds us → g ds ρ = some ρ' →
  ∃ σ', SimL X.K π H ρ' σ' ∧ OnlyIn vs σ σ' ∧ ∀ (H2 : Hp) (Q : L2.St → Hp → Prop), (∀ b o, off π H b = some o → H2 b = some o) → Q σ' H2 → WGs X es us σ H2 Q
theorem SimL.set {K : PySem.W.Frag} {π : List Addr} {H : Hp} {ρ : Env'} {σ : L2.St} {d : D} {v : V} (l : SimL K π H ρ σ) (r : Rp K π H d v) (i : Nat) : SimL K π H (ρ.set i (some d)) (σ.set i (some v)) := by
  refine ⟨by rw [List.length_set, List.length_set, l.len], fun j d' e => ?_⟩
  by_cases h : i = j
  · subst h
    by_cases hl : i < ρ.length
    · rw [List.getElem?_set_self hl] at e
      cases e
      exact ⟨v, by rw [List.getElem?_set_self (by rw [l.len]; exact hl)], r⟩
    · rw [List.getElem?_eq_none (by rw [List.length_set]; omega)] at e
      cases e
  · rw [List.getElem?_set_ne h] at e
    obtain ⟨w, h1, h2⟩ := l.loc j d' e
    exact ⟨w, by rw [List.getElem?_set_ne h]; exact h1, h2⟩
def gN (i : Nat) : TgM := fun d ρ => some (ρ.set i (some d))
theorem SG.name (i : Nat) (hN : X.N.Nodup) (hi : X.N[i]? = some x) (hx : Loc X.env.scope x) (hf : X.fn x = true ∨ X.env.scope.names.lookup x = some .local := by first | exact .inl rfl | exact .inr rfl) : SG X [i] (.Name x pos) (gN i) := by
  intro π H ρ ρ' σ d v l r e
  cases e
  exact ⟨_, l.set r i, .set, fun H2 Q _ q => WG.of (pg_name hN hi hx hf) q⟩
def gsN : List D → Env' → Option Env' := fun ds ρ => match ds with
  | [] => some ρ
  | _ => none
def gsC (g : TgM) (gs : List D → Env' → Option Env') : List D → Env' → Option Env' := fun ds ρ => match ds with
  | d :: ds => (g d ρ).bind (gs ds)
  | [] => none
theorem SGs.nil : SGs X [] [] gsN := by
  intro π H ρ ρ' σ ds us l r e
  unfold gsN at e
  split at e
  · cases e
    unfold RpL RepL at r
    subst r
    exact ⟨σ, l, .refl, fun H2 Q _ q => WGs.of pgs_nil ⟨rfl, q⟩⟩
  · cases e
theorem SGs.cons {g : TgM} {gs : List D → Env' → Option Env'} (h : SG X vs a g) (k : SGs X ws es gs) (hs : (assignEach (a :: es) X.env).map (·.2) = assign a X.env :: (assignEach es X.env).map (·.2) := by rfl) : SGs X (vs ++ ws) (a :: es) (gsC g gs) := by
  intro π H ρ ρ' σ ds us l r e
  unfold gsC at e
  split at e
  · rename_i d ds'
    obtain ⟨ρ1, e1, e2⟩ := Option.bind_eq_some_iff.mp e
    obtain ⟨v, t, rfl, r1, r2⟩ := r.uncons
    obtain ⟨σ1, l1, o1, q1⟩ := h π H ρ ρ1 σ d v l r1 e1
    obtain ⟨σ2, l2, o2, q2⟩ := k π H ρ1 ρ' σ1 ds' t l1 r2 e2
    refine ⟨σ2, l2, (o1.more fun i hi => List.mem_append_left _ hi).trans (o2.more fun i hi => List.mem_append_right _ hi), fun H2 Q sub q => ?_⟩
    exact WGs.of (pgs_cons pg_wg pgs_wgs hs) ⟨v, t, rfl, q1 H2 _ sub (q2 H2 Q sub q)⟩
  · cases e
def gT (gs : List D → Env' → Option Env') : TgM := fun d ρ => match asT d with
  | some ds => gs ds ρ
  | none => none
theorem SG.tup {k : Nat} {n : Nat} {gs : List D → Env' → Option Env'} (hc : X.calm = true) (h : SGs X vs es gs) (hl : ∀ ds ρ ρ', gs ds ρ = some ρ' → ds.length = n)
    (hn : (assignEach es X.env).length = n := by rfl) (hst : (assignEach es X.env).findIdx? (·.1) = none := by rfl) : SG X vs (.Tuple es k pos) (gT gs) := by
  intro π H ρ ρ' σ d v l r e
  unfold gT at e
  split at e
  · rename_i ds ed
    cases d with
    | tup ds' =>
      cases ed
      unfold Rp Rep at r
      obtain ⟨p, us, rfl, hp, rp⟩ := r
      obtain ⟨σ', l', o', q'⟩ := h π H ρ ρ' σ ds us l rp e
      refine ⟨σ', l', o', fun H2 Q sub q => WG.of (pg_tup hc pgs_wgs hn hst) ⟨p, us, rfl, ext_t sub hp, by rw [rp.length]; exact hl _ _ _ e, q' H2 Q sub q⟩⟩
    | _ => cases ed
  · cases e
theorem gsN_len {ds : List D} {ρ ρ' : Env'} (h : gsN ds ρ = some ρ') : ds.length = 0 := by
  unfold gsN at h
  split at h
  · rfl
  · cases h
theorem gsC_len {g : TgM} {gs : List D → Env' → Option Env'} {n : Nat} (k : ∀ ds ρ ρ', gs ds ρ = some ρ' → ds.length = n) {ds : List D} {ρ ρ' : Env'} (h : gsC g gs ds ρ = some ρ') : ds.length = n + 1 := by
  unfold gsC at h
  split at h
  · obtain ⟨ρ1, e1, e2⟩ := Option.bind_eq_some_iff.mp h
    rw [List.length_cons, k _ _ _ e2]
  · cases h

/-! ### what is walked -/
/-- the list at a place of the store that must stay as it is meanwhile -/
abbrev Lv := Option (Nat × List D)
def lvOk (lv : Lv) (μ : Store) : Bool := match lv with
  | none => true
  | some (k, ds) => decide (μ[k]? = some (.lst ds))
structure Wlk (K : PySem.W.Frag) (π1 : List Addr) (H1 : Hp) (J : It) (lv : Lv) (ds : List D) : Prop where
  go : ∀ i π μ L H, i < ds.length → Gr π1 H1 π L → SimM K π μ L → lvOk lv μ = true → (∀ b o, L b = some o → H b = some o) → J.go i H
  stop : ∀ π μ L H, Gr π1 H1 π L → SimM K π μ L → lvOk lv μ = true → (∀ b o, L b = some o → H b = some o) → J.stop ds.length H
  yld : ∀ i x π μ L H H2, i < ds.length → Gr π1 H1 π L → SimM K π μ L → lvOk lv μ = true → (∀ b o, L b = some o → H b = some o) → J.yld i H x H2 →
    ∃ d L2, ds[i]? = some d ∧ Gr π L π L2 ∧ SimM K π μ L2 ∧ Rp K π L2 d x ∧ (∀ b o, L2 b = some o → H2 b = some o) ∧ (∀ b o, H b = some o → H2 b = some o) ∧ ∀ b, H b ≠ none → L2 b = L b
/-- a list or tuple that is seen at each turn -/
def Vw (K : PySem.W.Frag) (sq : Hp → List V → Prop) (π1 : List Addr) (H1 : Hp) (lv : Lv) (ds : List D) : Prop := ∀ π μ L, Gr π1 H1 π L → SimM K π μ L → lvOk lv μ = true → ∃ vs, sq L vs ∧ RpL K π L ds vs
def asLv (μ : Store) : D → Option (Lv × List D)
  | .lst ds => some (none, ds)
  | .ref k => match μ[k]? with
    | some (.lst ds) => some (some (k, ds), ds)
    | _ => none
  | _ => none
theorem asLv_view {K : PySem.W.Frag} {π : List Addr} {μ : Store} {H : Hp} {d : D} {v : V} {lv : Lv} {ds : List D} (s : SimM K π μ H) (r : Rp K π H d v) (h : asLv μ d = some (lv, ds)) :
    lvOk lv μ = true ∧ ∃ a vs, v = .ref a ∧ H a = some (.lst vs) ∧ RpL K π H ds vs ∧ Vw K (fun L us => L a = some (.lst us)) π H lv ds := by
  unfold asLv at h
  split at h
  · cases h
    unfold Rp Rep at r
    obtain ⟨a, vs, h1, h2, h3⟩ := r
    exact ⟨rfl, a, vs, h1, off_sub _ _ h2, h3, fun π' μ' L g s' _ => ⟨vs, off_sub _ _ (g.keep _ _ h2), g.repL h3⟩⟩
  · rename_i k
    unfold Rp Rep at r
    obtain ⟨a, h1, h2⟩ := r
    split at h
    · rename_i ds' e
      cases h
      obtain ⟨vs, h3, h4⟩ := s.obj k a _ h1 e
      refine ⟨by unfold lvOk; exact decide_eq_true e, a, vs, h2, h3, h4, fun π' μ' L g s' ok => ?_⟩
      have e' : μ'[k]? = some (.lst ds) := of_decide_eq_true ok
      obtain ⟨us, h5, h6⟩ := s'.obj k a _ (g.get h1) e'
      exact ⟨us, h5, h6⟩
    · cases h
  · cases h
theorem asT_vw {K : PySem.W.Frag} {π : List Addr} {H : Hp} {ds : List D} {v : V} (r : Rp K π H (.tup ds) v) : ∃ a vs, v = .ref a ∧ SqT K H a vs ∧ RpL K π H ds vs ∧ Vw K (fun L us => SqT K L a us) π H none ds := by
  unfold Rp Rep at r
  obtain ⟨a, vs, h1, h2, h3⟩ := r
  exact ⟨a, vs, h1, ext_t off_sub h2, h3, fun π' μ' L g s' _ => ⟨vs, ext_t off_sub (ext_t g.keep h2), g.repL h3⟩⟩
section
variable {K : PySem.W.Frag} {π1 : List Addr} {H1 : Hp} {lv : Lv} {ds : List D} {p q : Addr}
theorem wlk_list (h : Vw K (fun L us => L p = some (.lst us)) π1 H1 lv ds) : Wlk K π1 H1 (Itl K p) lv ds where
  go := fun i π μ L H hi g s ok sub => by
    obtain ⟨us, h1, h2⟩ := h π μ L g s ok
    have hl := h2.length
    exact ⟨us, us[i]'(by omega), SqL.of (sub _ _ h1), by simp⟩
  stop := fun π μ L H g s ok sub => by
    obtain ⟨us, h1, h2⟩ := h π μ L g s ok
    exact ⟨us, SqL.of (sub _ _ h1), Nat.le_of_eq h2.length⟩
  yld := fun i x π μ L H H2 hi g s ok sub y => by
    obtain ⟨us, h1, h2⟩ := h π μ L g s ok
    obtain ⟨e, y⟩ := y
    subst e
    obtain ⟨d, d1, d2⟩ := h2.getV (y us (SqL.of (sub _ _ h1)))
    exact ⟨d, L, d1, Gr.refl, s, d2, sub, fun _ _ z => z, fun _ _ => rfl⟩
theorem wlk_tup (h : Vw K (fun L us => SqT K L p us) π1 H1 lv ds) : Wlk K π1 H1 (Itt K p) lv ds where
  go := fun i π μ L H hi g s ok sub => by
    obtain ⟨us, h1, h2⟩ := h π μ L g s ok
    have hl := h2.length
    exact ⟨us, us[i]'(by omega), ext_t sub h1, by simp⟩
  stop := fun π μ L H g s ok sub => by
    obtain ⟨us, h1, h2⟩ := h π μ L g s ok
    exact ⟨us, ext_t sub h1, Nat.le_of_eq h2.length⟩
  yld := fun i x π μ L H H2 hi g s ok sub y => by
    obtain ⟨us, h1, h2⟩ := h π μ L g s ok
    obtain ⟨e, y⟩ := y
    subst e
    obtain ⟨d, d1, d2⟩ := h2.getV (y us (ext_t sub h1))
    exact ⟨d, L, d1, Gr.refl, s, d2, sub, fun _ _ z => z, fun _ _ => rfl⟩
/-- items that need no heap -/
theorem wlk_fn {J : It} {n : Nat} {f : Nat → V} {g : Nat → D} {Y : Nat → Hp → V → Hp → Prop} (w : Walk J n (fun _ => True) Y) (hy : ∀ i H x H', i < n → Y i H x H' → H' = H ∧ x = f i) (hr : ∀ i π H, Rp K π H (g i) (f i)) :
    Wlk K π1 H1 J none ((List.range n).map g) where
  go := fun i π μ L H hi _ s ok sub => w.goes i H (by simpa using hi) trivial
  stop := fun π μ L H _ s ok sub => by simpa using w.stops H trivial
  yld := fun i x π μ L H H2 hi _ s ok sub y => by
    have hi' : i < n := by simpa using hi
    obtain ⟨rfl, rfl⟩ := hy i H x H2 hi' (w.yields i H x H2 hi' trivial y)
    exact ⟨g i, L, by simp [hi'], Gr.refl, s, hr i π L, sub, fun _ _ z => z, fun _ _ => rfl⟩
/-- a new pair at each turn -/
theorem pair_new {π : List Addr} {μ : Store} {L H : Hp} {T : Addr} {d1 d2 : D} {x y : V} (s : SimM K π μ L) (sub : ∀ b o, L b = some o → H b = some o) (hT : H T = none) (r1 : Rp K π L d1 x) (r2 : Rp K π L d2 y) :
    ∃ L2, Gr π L π L2 ∧ SimM K π μ L2 ∧ Rp K π L2 (.tup [d1, d2]) (.ref T) ∧ (∀ b o, L2 b = some o → upd H T (.tup [x, y]) b = some o) ∧ (∀ b o, H b = some o → upd H T (.tup [x, y]) b = some o) ∧ ∀ b, H b ≠ none → L2 b = L b := by
  have hL : L T = none := by
    cases e : L T with
    | none => rfl
    | some o => rw [sub _ _ e] at hT; cases hT
  refine ⟨upd L T (.tup [x, y]), Gr.new hL, s.new hL, rp_tup s hL (.cons r1 (.one r2)), fun b o e => ?_, fun b o e => ?_, fun b hb => ?_⟩
  · by_cases hb : b = T
    · subst hb; rw [upd_same] at e ⊢; exact e
    · rw [upd_ne hb] at e ⊢; exact sub _ _ e
  · rw [upd_ne (ne_of_none e hT)]; exact e
  · have nb : b ≠ T := fun z => hb (z ▸ hT)
    rw [upd_ne nb]
def enumD (ds : List D) : List D := (List.range ds.length).map fun i => .tup [.int (i : Nat), ds.getD i .non]
theorem enumD_at {i : Nat} {d : D} (h : ds[i]? = some d) : (enumD ds)[i]? = some (.tup [.int (i : Nat), d]) := by
  have hl := (List.getElem?_eq_some_iff.mp h).1
  unfold enumD
  rw [List.getElem?_map, List.getElem?_range hl]
  simp [List.getD_eq_getElem?_getD, h]
theorem enumD_len : (enumD ds).length = ds.length := by unfold enumD; simp
theorem wlk_enum (h : Vw K (fun L us => L p = some (.lst us)) π1 H1 lv ds) : Wlk K π1 H1 (Ite K p) lv (enumD ds) where
  go := fun i π μ L H hi g s ok sub => by
    obtain ⟨us, h1, h2⟩ := h π μ L g s ok
    have hl := h2.length
    rw [enumD_len] at hi
    exact ⟨us, us[i]'(by omega), SqL.of (sub _ _ h1), by simp⟩
  stop := fun π μ L H g s ok sub => by
    obtain ⟨us, h1, h2⟩ := h π μ L g s ok
    rw [enumD_len]
    exact ⟨us, SqL.of (sub _ _ h1), Nat.le_of_eq h2.length⟩
  yld := fun i x π μ L H H2 hi g s ok sub y => by
    obtain ⟨us, h1, h2⟩ := h π μ L g s ok
    obtain ⟨T, z, e1, hT, e2, y⟩ := y
    subst e1 e2
    obtain ⟨d, d1, d2⟩ := h2.getV (y us (SqL.of (sub _ _ h1)))
    obtain ⟨L2, k1, k2, k3, k4⟩ := pair_new (d1 := .int (i : Nat)) s sub hT (by unfold Rp Rep; rfl) d2
    exact ⟨_, L2, enumD_at d1, k1, k2, k3, k4⟩
theorem wlk_enumT (h : Vw K (fun L us => SqT K L p us) π1 H1 lv ds) : Wlk K π1 H1 (RvE.ItU K p) lv (enumD ds) where
  go := fun i π μ L H hi g s ok sub => by
    obtain ⟨us, h1, h2⟩ := h π μ L g s ok
    have hl := h2.length
    rw [enumD_len] at hi
    exact ⟨us, us[i]'(by omega), ext_t sub h1, by simp⟩
  stop := fun π μ L H g s ok sub => by
    obtain ⟨us, h1, h2⟩ := h π μ L g s ok
    rw [enumD_len]
    exact ⟨us, ext_t sub h1, h2.length⟩
  yld := fun i x π μ L H H2 hi g s ok sub y => by
    obtain ⟨us, h1, h2⟩ := h π μ L g s ok
    obtain ⟨T, z, e1, hT, e2, y⟩ := y
    subst e1 e2
    obtain ⟨d, d1, d2⟩ := h2.getV (y us (ext_t sub h1))
    obtain ⟨L2, k1, k2, k3, k4⟩ := pair_new (d1 := .int (i : Nat)) s sub hT (by unfold Rp Rep; rfl) d2
    exact ⟨_, L2, enumD_at d1, k1, k2, k3, k4⟩
def zipD (ds es : List D) : List D := (ds.zip es).map fun p => .tup [p.1, p.2]
theorem zipD_at {es : List D} {i : Nat} {d e : D} (h : ds[i]? = some d) (k : es[i]? = some e) : (zipD ds es)[i]? = some (.tup [d, e]) := by
  unfold zipD
  rw [List.getElem?_map, List.getElem?_zip_eq_some.mpr (show ds[i]? = some (d, e).1 ∧ es[i]? = some (d, e).2 from ⟨h, k⟩)]
  rfl
theorem zipD_len {es : List D} : (zipD ds es).length = min ds.length es.length := by unfold zipD; simp
theorem wlk_zip {es : List D} (h : Vw K (fun L us => L p = some (.lst us)) π1 H1 lv ds) (h' : Vw K (fun L us => L q = some (.lst us)) π1 H1 lv es) : Wlk K π1 H1 (Itz K p q) lv (zipD ds es) where
  go := fun i π μ L H hi g s ok sub => by
    obtain ⟨us, h1, h2⟩ := h π μ L g s ok
    obtain ⟨ws, h3, h4⟩ := h' π μ L g s ok
    have hl := h2.length
    have hl' := h4.length
    rw [zipD_len] at hi
    exact ⟨us, ws, us[i]'(by omega), ws[i]'(by omega), SqL.of (sub _ _ h1), SqL.of (sub _ _ h3), by simp, by simp⟩
  stop := fun π μ L H g s ok sub => by
    obtain ⟨us, h1, h2⟩ := h π μ L g s ok
    obtain ⟨ws, h3, h4⟩ := h' π μ L g s ok
    have hl := h2.length
    have hl' := h4.length
    rw [zipD_len]
    exact ⟨us, ws, SqL.of (sub _ _ h1), SqL.of (sub _ _ h3), by omega⟩
  yld := fun i x π μ L H H2 hi g s ok sub y => by
    obtain ⟨us, h1, h2⟩ := h π μ L g s ok
    obtain ⟨ws, h3, h4⟩ := h' π μ L g s ok
    obtain ⟨T, z, z2, e1, hT, e2, y, y2⟩ := y
    subst e1 e2
    obtain ⟨d, d1, d2⟩ := h2.getV (y us (SqL.of (sub _ _ h1)))
    obtain ⟨e, e1, e2⟩ := h4.getV (y2 ws (SqL.of (sub _ _ h3)))
    obtain ⟨L2, k1, k2, k3, k4⟩ := pair_new s sub hT d2 e2
    exact ⟨_, L2, zipD_at d1 e1, k1, k2, k3, k4⟩
theorem wlk_zipT {es : List D} (h : Vw K (fun L us => SqT K L p us) π1 H1 lv ds) (h' : Vw K (fun L us => SqT K L q us) π1 H1 lv es) : Wlk K π1 H1 (RZ.ItzT K p q) lv (zipD ds es) where
  go := fun i π μ L H hi g s ok sub => by
    obtain ⟨us, h1, h2⟩ := h π μ L g s ok
    obtain ⟨ws, h3, h4⟩ := h' π μ L g s ok
    have hl := h2.length
    have hl' := h4.length
    rw [zipD_len] at hi
    exact ⟨us, ws, us[i]'(by omega), ws[i]'(by omega), ext_t sub h1, ext_t sub h3, by simp, by simp⟩
  stop := fun π μ L H g s ok sub => by
    obtain ⟨us, h1, h2⟩ := h π μ L g s ok
    obtain ⟨ws, h3, h4⟩ := h' π μ L g s ok
    have hl := h2.length
    have hl' := h4.length
    rw [zipD_len]
    exact ⟨us, ws, ext_t sub h1, ext_t sub h3, by omega⟩
  yld := fun i x π μ L H H2 hi g s ok sub y => by
    obtain ⟨us, h1, h2⟩ := h π μ L g s ok
    obtain ⟨ws, h3, h4⟩ := h' π μ L g s ok
    obtain ⟨T, z, z2, e1, hT, e2, y, y2⟩ := y
    subst e1 e2
    obtain ⟨d, d1, d2⟩ := h2.getV (y us (ext_t sub h1))
    obtain ⟨e, e1, e2⟩ := h4.getV (y2 ws (ext_t sub h3))
    obtain ⟨L2, k1, k2, k3, k4⟩ := pair_new s sub hT d2 e2
    exact ⟨_, L2, zipD_at d1 e1, k1, k2, k3, k4⟩
end
end
end Rv
set_option Elab.async false
set_option linter.all false
set_option maxRecDepth 100000
set_option maxHeartbeats 4000000
/-! Rv11: iterators' expressions, for, blocks and small statements. -/
namespace Rv
open PySem PySem.Spec L2
open PyProof.Rows hiding St

section
variable {X : Cx} {W : WX} {e a b c o tg iter : Expr} {es rest : List Expr} {m n : M D} {ms mk : M (List D)} {pos p p1 apos cpos : Pos} {x f : Str} {F : Fn} {cl : Str} {vs ws : List Nat}
def WI (X : Cx) (tg iter : Expr) : TI := fun σ H R => ∀ (pins : List (Addr × Obj)) (s : Shared), Inv X pins σ H s → wpAny (model X.prog X.w) X.A (eval iter X.env) (fun v s1 => wpAny (model X.prog X.w) X.A (pyIter v) (PIE X pins σ tg R) X.xe s1) X.xe s
theorem pi_wi : PI X tg iter (WI X tg iter) := ⟨fun pins s σ H R I h => h pins s I⟩
theorem WI.of {t : TI} {σ : L2.St} {H : Hp} {R : It → Hp → Prop} (h : PI X tg iter t) (q : t σ H R) : WI X tg iter σ H R := fun pins s I => h.run pins s σ H R I q
abbrev RW (K : PySem.W.Frag) : List Addr → Hp → (Lv × List D) → It → Prop := fun π H p J => Wlk K π H J p.1 p.2
abbrev MI := M (Lv × List D)
def SI (X : Cx) (W : WX) (tg iter : Expr) (m : MI) : Prop := ∀ (π : List Addr) (ρ : Env') (μ : Store) (σ : L2.St) (H : Hp) (R : It → Hp → Prop), SimM X.K π μ H → SimL X.K π H ρ σ → GE X W (RW X.K) π σ H R (m ρ μ) → WI X tg iter σ H R
/-- a list, a tuple, a text -/
def signs (s : List Nat) : List D := s.map fun c => .str [c]
def itD (μ : Store) (d : D) : Option (Lv × List D) := match d with
  | .tup ds => some (none, ds)
  | .str s => some (none, signs s)
  | d => asLv μ d
def oOut {α : Type} (o : Option α) (μ : Store) : Out α := match o with
  | some a => .ok a μ
  | none => .stuck
def mIt (m : M D) : MI := fun ρ μ => (m ρ μ).bind fun d μ1 => oOut (itD μ1 d) μ1
theorem signs_rng (s : List Nat) : signs s = (List.range s.length).map fun i => .str [s.getD i 0] := by
  refine List.ext_getElem? fun i => ?_
  unfold signs
  rw [List.getElem?_map, List.getElem?_map]
  by_cases h : i < s.length
  · rw [List.getElem?_range h, List.getElem?_eq_getElem h]
    simp [List.getD_eq_getElem?_getD, h]
  · rw [List.getElem?_eq_none (by omega), List.getElem?_eq_none (by simp; omega)]
    rfl
theorem SI.val (ha : SE X W e m) : SI X W tg e (mIt m) := fun π ρ μ σ H R sm sl g pins s I => by
  refine thn (ha π ρ μ σ H (fun v H1 => (∃ a xs, v = .ref a ∧ SqL X.K H1 a xs ∧ R (Itl X.K a) H1) ∨ (∃ a xs, v = .ref a ∧ SqT X.K H1 a xs ∧ R (Itt X.K a) H1) ∨ ∃ z, v = .str z ∧ R (Its z) H1) sm sl (GE.bind g fun d μ1 v H1 π1 e1 g1 s1 r1 h1 => ?_) pins s I) fun v s1 z => ?_
  · cases q : itD μ1 d with
    | none => rw [q] at h1; exact h1.elim
    | some p =>
      rw [q] at h1
      unfold itD at q
      split at q
      · rename_i ds
        cases q
        obtain ⟨a, us, rfl, k1, k2, k3⟩ := asT_vw r1
        exact .inr (.inl ⟨a, us, rfl, k1, h1 _ H1 π1 Gr.refl s1 (wlk_tup k3)⟩)
      · rename_i z
        cases q
        cases rep_str r1
        refine .inr (.inr ⟨_, rfl, h1 (Its (toS z)) H1 π1 Gr.refl s1 ?_⟩)
        show Wlk X.K π1 H1 (Its (toS z)) none (signs z)
        rw [signs_rng]
        exact wlk_fn (f := fun i => .str ⟨#[z.getD i 0]⟩) (walk_str (z := toS z)) (fun i H x H' hi y => by
          obtain ⟨y1, c, y2, y3⟩ := y
          refine ⟨y1, ?_⟩
          rw [y3]
          have : z[i]? = some c := by
            have := y2
            rw [← Array.getElem?_toList] at this
            exact this
          rw [List.getD_eq_getElem?_getD, this]
          rfl) (fun i π H => by unfold Rep; rfl)
      · obtain ⟨lv, ds⟩ := p
        obtain ⟨k0, a, us, rfl, k1, k2, k3⟩ := asLv_view s1 r1 q
        exact .inl ⟨a, us, rfl, SqL.of k1, h1 _ H1 π1 Gr.refl s1 (wlk_list k3)⟩
  · obtain ⟨v', H1, I1, r1, q⟩ := z
    rcases q with ⟨a, xs, rfl, hq, q⟩ | ⟨a, xs, rfl, hq, q⟩ | ⟨z, rfl, q⟩
    · cases r1
      obtain ⟨its, rv, pl, hz⟩ := I1.list hq
      exact wpAny_pyIter_list pl.isList (pi_one (tk := s1.toks) I1 _ (turn_list a _) ⟨_, Heap.get?_push_size _ rfl, rfl, rfl⟩ q)
    · cases r1
      obtain ⟨its, rv, pl, hz⟩ := I1.tuple hq
      exact wpAny_pyIter_tuple (show s1.heap.IsTuple a its.toArray from pl) (pi_one (tk := s1.toks) I1 _ (turn_tuple a _) ⟨_, Heap.get?_push_size _ rfl, rfl, rfl⟩ q)
    · obtain ⟨t, rfl⟩ := r1
      cases ha : z.cps.all (· < 128)
      · exact wpAny_pyIter_wide ha (pi_one (tk := s1.toks) I1 _ (turn_str _ z t "str_iterator" (.inr rfl)) ⟨_, Heap.get?_push_size _ rfl, rfl, rfl⟩ q)
      · exact wpAny_pyIter_ascii ha (pi_one (tk := s1.toks) I1 _ (turn_str _ z t "str_ascii_iterator" (.inl rfl)) ⟨_, Heap.get?_push_size _ rfl, rfl, rfl⟩ q)
/-- range -/
def rngD (lo : Int) (n : Nat) : List D := (List.range n).map fun i => .int (lo + (i : Nat))
def rng1 (ds : List D) (μ : Store) : Out (Lv × List D) := match ds with
  | [.int j] => if -(2 ^ 62) ≤ j ∧ j < 2 ^ 62 then .ok (none, rngD 0 j.toNat) μ else .stuck
  | _ => .stuck
def rng2 (ds : List D) (μ : Store) : Out (Lv × List D) := match ds with
  | [.int i, .int j] => if -(2 ^ 62) ≤ i ∧ i < 2 ^ 62 ∧ -(2 ^ 62) ≤ j ∧ j < 2 ^ 62 then .ok (none, rngD i (j - i).toNat) μ else .stuck
  | _ => .stuck
/-- a range by steps: k items -/
def rngC (lo c : Int) (k : Nat) : List D := (List.range k).map fun i => .int (lo + (i : Nat) * c)
def rng3 (ds : List D) (μ : Store) : Out (Lv × List D) := match ds with
  | [.int i, .int j, .int c] => if c ≠ 0 ∧ c.natAbs < 1073741824 ∧ Builtin.Range.small i j c = true ∧ Builtin.Range.rangeSize i j c = ((Builtin.Range.rangeSize i j c).toNat : Nat) then .ok (none, rngC i c (Builtin.Range.rangeSize i j c).toNat) μ else .stuck
  | _ => .stuck
def mI (k : List D → Store → Out (Lv × List D)) (ms : M (List D)) : MI := fun ρ μ => (ms ρ μ).bind k
theorem wlk_rng {K : PySem.W.Frag} {π : List Addr} {H : Hp} {lo : Int} {k : Nat} : Wlk K π H (Itr lo k) none (rngD lo k) :=
  wlk_fn (f := fun i => .int (lo + (i : Nat))) walk_range (fun i H x H' hi y => y) (fun i π H => by unfold Rep; rfl)
theorem wlk_rngC {K : PySem.W.Frag} {π : List Addr} {H : Hp} {lo c : Int} {k : Nat} : Wlk K π H (Itc lo c k) none (rngC lo c k) :=
  wlk_fn (f := fun i => .int (lo + (i : Nat) * c)) walk_rangeC (fun i H x H' hi y => y) (fun i π H => by unfold Rep; rfl)
theorem SI.range1 (hg : Gl X "range") (hm : X.mg "range" = none) (ha : SA X W [a] ms) (hs : starEach [a] X.env = [(false, eval a X.env)] := by rfl) : SI X W tg (.Call (.Name "range" p) [a] [] pos) (mI rng1 ms) := fun π ρ μ σ H R sm sl g => by
  refine WI.of (pi_range1 hg hm pa_wa hs) (ha π ρ μ σ H _ sm sl (GE.bind g fun ds μ1 us H1 π1 e1 g1 s1 r1 h1 => ?_))
  unfold rng1 at h1
  split at h1
  · rename_i j
    by_cases c : -(2 ^ 62) ≤ j ∧ j < 2 ^ 62
    · rw [if_pos c] at h1
      obtain ⟨v, rfl, rv⟩ := repL1 r1
      cases rep_int rv
      exact ⟨j, rfl, c.1, c.2, h1 _ H1 π1 Gr.refl s1 wlk_rng⟩
    · rw [if_neg c] at h1; exact h1.elim
  · exact h1.elim
theorem SI.range2 (hg : Gl X "range") (hm : X.mg "range" = none) (ha : SA X W [a, b] ms) (hs : starEach [a, b] X.env = [(false, eval a X.env), (false, eval b X.env)] := by rfl) (hs2 : starEach [b] X.env = [(false, eval b X.env)] := by rfl) :
    SI X W tg (.Call (.Name "range" p) [a, b] [] pos) (mI rng2 ms) := fun π ρ μ σ H R sm sl g => by
  refine WI.of (pi_range2 hg hm pa_wa hs hs2) (ha π ρ μ σ H _ sm sl (GE.bind g fun ds μ1 us H1 π1 e1 g1 s1 r1 h1 => ?_))
  unfold rng2 at h1
  split at h1
  · rename_i i j
    by_cases c : -(2 ^ 62) ≤ i ∧ i < 2 ^ 62 ∧ -(2 ^ 62) ≤ j ∧ j < 2 ^ 62
    · rw [if_pos c] at h1
      obtain ⟨v, w, rfl, rv, rw'⟩ := repL2 r1
      cases rep_int rv
      cases rep_int rw'
      exact ⟨i, j, rfl, c, h1 _ H1 π1 Gr.refl s1 wlk_rng⟩
    · rw [if_neg c] at h1; exact h1.elim
  · exact h1.elim
theorem SI.range3 (hg : Gl X "range") (hm : X.mg "range" = none) (ha : SA X W [a, b, c] ms) (hs : starEach [a, b, c] X.env = (false, eval a X.env) :: starEach [b, c] X.env := by rfl) (hpl : (backTo pos (starEach [b, c] X.env)).any (·.1) = false := by rfl) :
    SI X W tg (.Call (.Name "range" p) [a, b, c] [] pos) (mI rng3 ms) := fun π ρ μ σ H R sm sl g => by
  refine WI.of (pi_range3 hg hm pa_wa hs hpl) (ha π ρ μ σ H _ sm sl (GE.bind g fun ds μ1 us H1 π1 e1 g1 s1 r1 h1 => ?_))
  unfold rng3 at h1
  split at h1
  · rename_i i j k
    by_cases z : k ≠ 0 ∧ k.natAbs < 1073741824 ∧ Builtin.Range.small i j k = true ∧ Builtin.Range.rangeSize i j k = ((Builtin.Range.rangeSize i j k).toNat : Nat)
    · rw [if_pos z] at h1
      obtain ⟨v, t, rfl, rv, r2⟩ := r1.uncons
      obtain ⟨w, w2, rfl, rw', rw2⟩ := repL2 r2
      cases rep_int rv
      cases rep_int rw'
      cases rep_int rw2
      exact ⟨i, j, k, _, rfl, z, h1 _ H1 π1 Gr.refl s1 wlk_rngC⟩
    · rw [if_neg z] at h1; exact h1.elim
  · exact h1.elim
/-- enumerate of a list, of a tuple -/
def enuL (ds : List D) (μ : Store) : Out (Lv × List D) := match ds with
  | [d] => oOut ((asLv μ d).map fun p => (p.1, enumD p.2)) μ
  | _ => .stuck
def enuT (ds : List D) (μ : Store) : Out (Lv × List D) := match ds with
  | [.tup xs] => .ok (none, enumD xs) μ
  | _ => .stuck
def zipO (ds : List D) (μ : Store) : Out (Lv × List D) := match ds with
  | [.tup xs, .tup ys] => .ok (none, zipD xs ys) μ
  | [.lst xs, .lst ys] => .ok (none, zipD xs ys) μ
  | _ => .stuck
variable {tp : Pos} {kk : Nat}
theorem SI.enumL (hg : Gl X "enumerate") (hm : X.mg "enumerate" = none) (ha : SA X W [a] ms) (hs : starEach [a] X.env = [(false, eval a X.env)] := by rfl) : SI X W (.Tuple es kk tp) (.Call (.Name "enumerate" p) [a] [] pos) (mI enuL ms) := fun π ρ μ σ H R sm sl g => by
  refine WI.of (pi_enum hg hm pa_wa hs) (ha π ρ μ σ H _ sm sl (GE.bind g fun ds μ1 us H1 π1 e1 g1 s1 r1 h1 => ?_))
  unfold enuL at h1
  split at h1
  · rename_i d
    obtain ⟨v, rfl, rv⟩ := repL1 r1
    cases q : asLv μ1 d with
    | none => rw [q] at h1; exact h1.elim
    | some p =>
      rw [q] at h1
      obtain ⟨lv, xs⟩ := p
      obtain ⟨k0, a, us, rfl, k1, k2, k3⟩ := asLv_view s1 rv q
      exact ⟨a, us, rfl, SqL.of k1, h1 _ H1 π1 Gr.refl s1 (wlk_enum k3)⟩
  · exact h1.elim
theorem SI.enumT (hg : Gl X "enumerate") (hm : X.mg "enumerate" = none) (ha : SA X W [a] ms) (hs : starEach [a] X.env = [(false, eval a X.env)] := by rfl) : SI X W (.Tuple es kk tp) (.Call (.Name "enumerate" p) [a] [] pos) (mI enuT ms) := fun π ρ μ σ H R sm sl g => by
  refine WI.of (RvE.pi_enumT hg hm pa_wa hs) (ha π ρ μ σ H _ sm sl (GE.bind g fun ds μ1 us H1 π1 e1 g1 s1 r1 h1 => ?_))
  unfold enuT at h1
  split at h1
  · rename_i xs
    obtain ⟨v, rfl, rv⟩ := repL1 r1
    obtain ⟨a, us, rfl, k1, k2, k3⟩ := asT_vw rv
    exact ⟨a, us, rfl, k1, h1 _ H1 π1 Gr.refl s1 (wlk_enumT k3)⟩
  · exact h1.elim
theorem SI.zip (hg : Gl X "zip") (hm : X.mg "zip" = none) (ha : SA X W [a, b] ms) (hs : starEach [a, b] X.env = (false, eval a X.env) :: starEach [b] X.env := by rfl) (hpl : (backTo pos (starEach [b] X.env)).any (·.1) = false := by rfl) :
    SI X W (.Tuple es kk tp) (.Call (.Name "zip" p) [a, b] [] pos) (mI zipO ms) := fun π ρ μ σ H R sm sl g => by
  refine WI.of (RZ.pi_zipA hg hm pa_wa hs hpl) (ha π ρ μ σ H _ sm sl (GE.bind g fun ds μ1 us H1 π1 e1 g1 s1 r1 h1 => ?_))
  unfold zipO at h1
  split at h1
  · obtain ⟨v, w, rfl, rv, rw'⟩ := repL2 r1
    obtain ⟨a, us, rfl, k1, k2, k3⟩ := asT_vw rv
    obtain ⟨b, ws, rfl, l1, l2, l3⟩ := asT_vw rw'
    exact ⟨a, b, us, ws, rfl, .inr ⟨k1, l1, h1 _ H1 π1 Gr.refl s1 (wlk_zipT k3 l3)⟩⟩
  · obtain ⟨v, w, rfl, rv, rw'⟩ := repL2 r1
    obtain ⟨z, a, us, rfl, k1, k2, k3⟩ := asLv_view s1 rv (rfl : asLv μ1 (.lst _) = some (none, _))
    obtain ⟨z2, b, ws, rfl, l1, l2, l3⟩ := asLv_view s1 rw' (rfl : asLv μ1 (.lst _) = some (none, _))
    exact ⟨a, b, us, ws, rfl, .inl ⟨SqL.of k1, SqL.of l1, h1 _ H1 π1 Gr.refl s1 (wlk_zip k3 l3)⟩⟩
  · exact h1.elim

/-! ### for -/
variable {st : Stmt} {body sts : List Stmt} {g : TgM} {cc cb : C} {mi : MI} {t : M Bool}
def forGo (lv : Lv) (g : TgM) (body : C) : List D → C
  | [], ρ, μ => if lvOk lv μ = true then .nx ρ μ else .stuck
  | d :: ds, ρ, μ => if lvOk lv μ = true then (match g d ρ with
    | none => .stuck
    | some ρ1 => match body ρ1 μ with
      | .nx ρ2 μ2 => forGo lv g body ds ρ2 μ2
      | .ct ρ2 μ2 => forGo lv g body ds ρ2 μ2
      | .brk ρ2 μ2 => .nx ρ2 μ2
      | .ret d μ2 => .ret d μ2
      | .exc c ns es ρ2 μ2 => .exc c ns es ρ2 μ2
      | .stuck => .stuck) else .stuck
def cFor (mi : MI) (g : TgM) (body : C) : C := fun ρ μ => (mi ρ μ).bindS ρ fun p μ1 => forGo p.1 g body p.2 ρ μ1
theorem SS.for (hp : PassesOwn (model X.prog X.w) X.A X.env X.xe) (hc : X.calm = true) (hi : SI X W tg iter mi) (hg : SG X vs tg g) (hb : SSs X W body cb) (hs : ∀ x, foldedSetIterable iter X.env x = pure x := by intro _; rfl) : SS X W (.For tg iter body [] pos) (cFor mi g cb) := by
  intro π ρ μ σ H Dn sm sl h
  refine WS.of (ps_for hp hc pi_wi pg_wg pss_wss hs) (hi π ρ μ σ H _ sm sl (GE.bindS sl h fun p μ1 J H1 π1 e1 g1 s1 w h1 => ?_))
  obtain ⟨lv, ds⟩ := p
  refine ⟨fun i m σ' H' => ∃ π' μ' ρ', Gr π1 H1 π' H' ∧ SimM X.K π' μ' H' ∧ SimL X.K π' H' ρ' σ' ∧ m = ds.length - i ∧ i ≤ ds.length ∧ GS X W π' H' Dn (forGo lv g cb (ds.drop i) ρ' μ'), ⟨ds.length, π1, μ1, ρ, Gr.refl, s1, g1.loc sl, by simp, Nat.zero_le _, by simpa using h1⟩, ?_⟩
  rintro i m σ' H' ⟨π', μ', ρ', g', s', l', rfl, hi', q⟩
  by_cases hlt : i < ds.length
  · have ed : ds.drop i = ds[i] :: ds.drop (i + 1) := List.drop_eq_getElem_cons hlt
    rw [ed] at q
    unfold forGo at q
    by_cases ok : lvOk lv μ' = true
    · rw [if_pos ok] at q
      refine .inr ⟨w.go i π' μ' H' H' hlt g' s' ok fun _ _ z => z, fun σ2 H2 => ∃ π2 μ2 ρ2, Gr π1 H1 π2 H2 ∧ SimM X.K π2 μ2 H2 ∧ SimL X.K π2 H2 ρ2 σ2 ∧ GS X W π2 H2 Dn (forGo lv g cb (ds.drop (i + 1)) ρ2 μ2), fun σ2 H2 z => ?_, fun x H2 y => ?_⟩
      · obtain ⟨π2, μ2, ρ2, a1, a2, a3, a4⟩ := z
        exact ⟨ds.length - (i + 1), by omega, π2, μ2, ρ2, a1, a2, a3, rfl, hlt, a4⟩
      · obtain ⟨d, L2, d1, k1, k2, k3, k4, k5, k6⟩ := w.yld i x π' μ' H' H' H2 hlt g' s' ok (fun _ _ z => z) y
        have ed2 : ds[i] = d := by
          rw [List.getElem?_eq_getElem hlt] at d1
          exact Option.some.inj d1
        rw [ed2] at q
        obtain ⟨s2, g2⟩ := k2.grow k4
        have gg : Gr π' H' π' H2 := k1.trans g2
        cases eg : g d ρ' with
        | none => rw [eg] at q; exact q.elim
        | some ρ1 =>
          rw [eg] at q
          dsimp only at q
          obtain ⟨σ1, l1, o1, q1⟩ := hg π' H2 ρ' ρ1 σ' d x (gg.loc l') (g2.rep k3) eg
          refine q1 H2 _ off_sub ?_
          refine hb π' ρ1 μ' σ1 H2 _ s2 l1 ?_
          have q' := GS.mono gg q
          cases eb : cb ρ1 μ' with
          | nx ρ2 μ2 =>
            rw [eb] at q'
            exact fun σ3 H3 π3 g3 s3 l3 => ⟨π3, μ2, ρ2, (g'.trans gg).trans g3, s3, l3, GS.mono g3 q'⟩
          | ct ρ2 μ2 =>
            rw [eb] at q'
            exact fun σ3 H3 π3 g3 s3 l3 => ⟨π3, μ2, ρ2, (g'.trans gg).trans g3, s3, l3, GS.mono g3 q'⟩
          | brk ρ2 μ2 => rw [eb] at q'; exact q'
          | ret d2 μ2 => rw [eb] at q'; exact q'
          | exc c ns es ρ2 μ2 => rw [eb] at q'; exact q'
          | stuck => rw [eb] at q'; exact q'
    · rw [if_neg ok] at q; exact q.elim
  · have e : i = ds.length := by omega
    subst e
    rw [List.drop_length] at q
    unfold forGo at q
    by_cases ok : lvOk lv μ' = true
    · rw [if_pos ok] at q
      exact .inl ⟨w.stop π' μ' H' H' g' s' ok fun _ _ z => z, q σ' H' π' Gr.refl s' l'⟩
    · rw [if_neg ok] at q; exact q.elim

/-! ### blocks and small statements -/
def cNil : C := fun ρ μ => .nx ρ μ
def cSeq (a b : C) : C := fun ρ μ => (a ρ μ).bind b
theorem SSs.nil : SSs X W [] cNil := fun π ρ μ σ H Dn sm sl h => WSs.of pss_nil (h σ H π Gr.refl sm sl)
theorem SSs.one (h : SS X W st cc) : SSs X W [st] cc := fun π ρ μ σ H Dn sm sl g => WSs.of (pss_one ps_ws) (h π ρ μ σ H Dn sm sl g)
theorem SSs.cons (h : SS X W st cc) (k : SSs X W sts cb) : SSs X W (st :: sts) (cSeq cc cb) := fun π ρ μ σ H Dn sm sl g =>
  WSs.of (pss_cons ps_ws pss_wss) (h π ρ μ σ H _ sm sl (GS.bind g (fun ρ1 μ1 σ1 H1 π1 e1 g1 s1 l1 h1 => k π1 ρ1 μ1 σ1 H1 Dn s1 l1 h1) rfl rfl rfl))
def cStuck : C := fun _ _ => .stuck
/-- what the proof never comes to -/
theorem SS.never : SS X W st cStuck := fun π ρ μ σ H Dn sm sl h => h.elim
theorem SSs.never : SSs X W sts cStuck := fun π ρ μ σ H Dn sm sl h => h.elim
theorem SS.pass : SS X W (.Pass pos) cNil := fun π ρ μ σ H Dn sm sl h => WS.of ps_pass (h σ H π Gr.refl sm sl)
def cBrk : C := fun ρ μ => .brk ρ μ
def cCt : C := fun ρ μ => .ct ρ μ
theorem SS.brk : SS X W (.Break pos) cBrk := fun π ρ μ σ H Dn sm sl h => WS.of ps_break (h σ H π Gr.refl sm sl)
theorem SS.ct : SS X W (.Continue pos) cCt := fun π ρ μ σ H Dn sm sl h => WS.of ps_continue (h σ H π Gr.refl sm sl)
def cRet (m : M D) : C := fun ρ μ => (m ρ μ).bindS ρ fun d μ1 => .ret d μ1
theorem SS.ret (h : SE X W a m) : SS X W (.Return (some a) pos) (cRet m) := fun π ρ μ σ H Dn sm sl g =>
  WS.of (ps_ret pe_we) (h π ρ μ σ H _ sm sl (GE.bindS sl g fun d μ1 v H1 π1 e1 g1 s1 r1 h1 => h1 v H1 π1 Gr.refl s1 r1))
def cRetN : C := fun _ μ => .ret .non μ
theorem SS.retN : SS X W (.Return none pos) cRetN := fun π ρ μ σ H Dn sm sl h => WS.of ps_retN (h .non H π Gr.refl sm (by unfold Rp Rep; rfl))
def cExpr (m : M D) : C := fun ρ μ => (m ρ μ).bindS ρ fun _ μ1 => .nx ρ μ1
theorem SS.expr (h : SE X W a m) (hs : swapsWith a none pos.line X.env = pure false := by rfl) : SS X W (.Expr a pos) (cExpr m) := fun π ρ μ σ H Dn sm sl g =>
  WS.of (ps_expr pe_we hs) (h π ρ μ σ H _ sm sl (GE.bindS sl g fun d μ1 v H1 π1 e1 g1 s1 r1 h1 => h1 σ H1 π1 Gr.refl s1 (g1.loc sl)))
def cIf (t : M Bool) (a b : C) : C := fun ρ μ => (t ρ μ).bindS ρ fun k μ1 => if k = true then a ρ μ1 else b ρ μ1
theorem SS.if_ {p q : List Stmt} {ca cb : C} (hc : ST X W c t) (ha : SSs X W p ca) (hb : SSs X W q cb) : SS X W (.If c p q pos) (cIf t ca cb) := fun π ρ μ σ H Dn sm sl g =>
  WS.of (ps_if pt_wt pss_wss pss_wss) (hc π ρ μ σ H _ sm sl (GE.bindS sl g fun k μ1 k' H1 π1 e1 g1 s1 r1 h1 => by
    cases r1
    cases k with
    | true => exact ha π1 ρ μ1 σ H1 Dn s1 (g1.loc sl) h1
    | false => exact hb π1 ρ μ1 σ H1 Dn s1 (g1.loc sl) h1))
/-- name = e -/
def cSet (i : Nat) (m : M D) : C := fun ρ μ => (m ρ μ).bindS ρ fun d μ1 => .nx (ρ.set i (some d)) μ1
theorem SS.set {pos' : Pos} (i : Nat) (hN : X.N.Nodup) (hi : X.N[i]? = some x) (hx : Loc X.env.scope x) (h : SE X W a m) (hs : swapsWith a (some (.Name x pos')) pos.line X.env = pure false := by rfl)
    (hf : X.fn x = true ∨ X.env.scope.names.lookup x = some .local := by first | exact .inl rfl | exact .inr rfl) : SS X W (.Assign [.Name x pos'] a pos) (cSet i m) := fun π ρ μ σ H Dn sm sl g =>
  WS.of (ps_set hN hi hx pe_we hs hf) (h π ρ μ σ H _ sm sl (GE.bindS sl g fun d μ1 v H1 π1 e1 g1 s1 r1 h1 => h1 _ H1 π1 Gr.refl s1 ((g1.loc sl).set r1 i)))
/-- a pattern = e -/
def cPat (g : TgM) (m : M D) : C := fun ρ μ => (m ρ μ).bindS ρ fun d μ1 => match g d ρ with
  | some ρ' => .nx ρ' μ1
  | none => .stuck
theorem SS.pat (hg : SG X vs tg g) (h : SE X W a m) (hs : swapsWithSole [tg] a pos.line X.env = pure false := by rfl) (hw : swappedStores [tg] a X.env = pure none := by rfl) (h1 : (assignEach [tg] X.env).map (·.2) = [assign tg X.env] := by rfl) :
    SS X W (.Assign [tg] a pos) (cPat g m) := fun π ρ μ σ H Dn sm sl q =>
  WS.of (ps_asg pe_we pg_wg hs hw h1) (h π ρ μ σ H _ sm sl (GE.bindS sl q fun d μ1 v H1 π1 e1 g1 s1 r1 h1 => by
    cases eg : g d ρ with
    | none => rw [eg] at h1; exact h1.elim
    | some ρ' =>
      rw [eg] at h1
      obtain ⟨σ1, l1, o1, q1⟩ := hg π1 H1 ρ ρ' σ d v (g1.loc sl) r1 eg
      exact q1 H1 _ off_sub (h1 σ1 H1 π1 Gr.refl s1 l1)))
/-- a, b = x, y -/
def cPar (i j : Nat) (ms : M (List D)) : C := fun ρ μ => (ms ρ μ).bindS ρ fun ds μ1 => match ds with
  | [d1, d2] => .nx ((ρ.set i (some d1)).set j (some d2)) μ1
  | _ => .stuck
theorem SS.par {x y : Str} {px py pt pt2 : Pos} {kt k2} (i j : Nat) (hc : X.calm = true) (hN : X.N.Nodup) (hi : X.N[i]? = some x) (hj : X.N[j]? = some y) (hij : i ≠ j) (hx : X.env.scope.names.lookup x = some .local) (hy : X.env.scope.names.lookup y = some .local)
    (ha : SA X W [a, b] ms) (hw : swappedStores [.Tuple [.Name x px, .Name y py] kt pt] (.Tuple [a, b] k2 pt2) X.env = pure (some [x, y])) (hs : swapsWithSole [.Tuple [.Name x px, .Name y py] kt pt] (.Tuple [a, b] k2 pt2) pos.line X.env = pure false := by rfl) :
    SS X W (.Assign [.Tuple [.Name x px, .Name y py] kt pt] (.Tuple [a, b] k2 pt2) pos) (cPar i j ms) := fun π ρ μ σ H Dn sm sl q =>
  WS.of (ps_par hc hN hi hj hij hx hy pa_wa hw hs) (ha π ρ μ σ H _ sm sl (GE.bindS sl q fun ds μ1 vs H1 π1 e1 g1 s1 r1 h1 => by
    split at h1
    · obtain ⟨v, w, rfl, rv, rw'⟩ := repL2 r1
      exact ⟨v, w, rfl, h1 _ H1 π1 Gr.refl s1 (((g1.loc sl).set rv i).set rw' j)⟩
    · exact h1.elim))
end
end Rv
set_option Elab.async false
set_option linter.all false
set_option maxRecDepth 100000
set_option maxHeartbeats 4000000
/-! Rv12: list comprehensions. -/
namespace Rv
open PySem PySem.Spec L2
open PyProof.Rows hiding St

/-! ### the new list is out of sight meanwhile -/
def rm (D : Addr) (H : Hp) : Hp := fun b => if b = D then none else H b
theorem rm_ne {D b : Addr} {H : Hp} (h : b ≠ D) : rm D H b = H b := if_neg h
theorem rm_self {D : Addr} {H : Hp} : rm D H D = none := if_pos rfl
theorem rm_upd {D : Addr} {H : Hp} {o : HO} : rm D (upd H D o) = rm D H := by
  funext b
  by_cases h : b = D
  · subst h; rw [rm_self, rm_self]
  · rw [rm_ne h, rm_ne h, upd_ne h]
theorem rm_none {D : Addr} {H : Hp} (h : H D = none) : rm D H = H := by
  funext b
  by_cases e : b = D
  · subst e; rw [rm_self, h]
  · rw [rm_ne e]
theorem upd_rm {D : Addr} {H : Hp} {o : HO} : upd (rm D H) D o = upd H D o := by
  funext b
  by_cases h : b = D
  · subst h; rw [upd_same, upd_same]
  · rw [upd_ne h, upd_ne h, rm_ne h]
theorem off_rm {D : Addr} {π : List Addr} {H : Hp} : off π (rm D H) = rm D (off π H) := by
  funext b
  unfold off rm
  by_cases h : b = D
  · rw [if_pos h, if_pos h]; split <;> rfl
  · rw [if_neg h, if_neg h]
theorem rm_some {D b : Addr} {H : Hp} {o : HO} (h : rm D H b = some o) : b ≠ D ∧ H b = some o := by
  by_cases e : b = D
  · subst e; rw [rm_self] at h; cases h
  · rw [rm_ne e] at h; exact ⟨e, h⟩
/-- a thing that no data is made of stands at D -/
def Dull : Option HO → Prop
  | some (.frz _ (.lst _)) => True
  | _ => False
section
variable {K : PySem.W.Frag} {G : Hp} {π : List Addr} {D0 : Addr}
theorem dull_ne {b : Addr} {o : HO} (hd : Dull (G D0)) (h : G b = some o) (k : ∀ ob us, o ≠ .frz ob (.lst us)) : b ≠ D0 := fun e => by
  subst e
  rw [h] at hd
  cases o with
  | frz ob u =>
    cases u with
    | lst us => exact k ob us rfl
    | _ => exact hd
  | _ => exact hd
theorem rd_skip {b : Addr} {xs : List V} (hd : Dull (G D0)) (h : SqT K G b xs) : SqT K (rm D0 G) b xs := by
  rcases h with (h | ⟨o, h⟩) | h
  · exact .inl (.inl (by rw [rm_ne (dull_ne hd h fun _ _ z => nomatch z)]; exact h))
  · exact .inl (.inr ⟨o, by rw [rm_ne (dull_ne hd h fun _ _ z => nomatch z)]; exact h⟩)
  · exact .inr h
mutual
theorem Rep.skip (hd : Dull (G D0)) : ∀ {d : D} {v : V}, Rep K G π d v → Rep K (rm D0 G) π d v
  | .non, _, h => h
  | .bl _, _, h => h
  | .int _, _, h => h
  | .str _, _, h => h
  | .tup ds, _, h => by
    unfold Rep at h ⊢
    obtain ⟨a, vs, h1, h2, h3⟩ := h
    exact ⟨a, vs, h1, rd_skip hd h2, RepL.skip hd h3⟩
  | .lst ds, _, h => by
    unfold Rep at h ⊢
    obtain ⟨a, vs, h1, h2, h3⟩ := h
    exact ⟨a, vs, h1, by rw [rm_ne (dull_ne hd h2 fun _ _ z => nomatch z)]; exact h2, RepL.skip hd h3⟩
  | .dct ks ds, _, h => by
    unfold Rep at h ⊢
    obtain ⟨a, vs, h1, h2, h3, h4⟩ := h
    exact ⟨a, vs, h1, by rw [rm_ne (dull_ne hd h2 fun _ _ z => nomatch z)]; exact h2, h3, RepL.skip hd h4⟩
  | .obj c ns ds, _, h => by
    unfold Rep at h ⊢
    obtain ⟨a, dx, fs, h1, h2, h3, h4⟩ := h
    exact ⟨a, dx, fs, h1, by rw [rm_ne (dull_ne hd h2 fun _ _ z => nomatch z)]; exact h2, h3, RepL.skip hd h4⟩
  | .ref n, _, h => h
  | .cls _, _, h => h
  | .ty _, _, h => h
  | .scr ns, _, h => by
    unfold Rep at h ⊢
    obtain ⟨a, h1, h2⟩ := h
    refine ⟨a, h1, ?_⟩
    rcases h2 with h2 | ⟨us, h2, h3⟩
    · exact .inl h2
    · exact .inr ⟨us, by rw [rm_ne (dull_ne hd h2 fun _ _ z => nomatch z)]; exact h2, h3⟩
theorem RepL.skip (hd : Dull (G D0)) : ∀ {ds : List D} {vs : List V}, RepL K G π ds vs → RepL K (rm D0 G) π ds vs
  | [], _, h => h
  | d :: ds, _, h => by
    obtain ⟨v, r, h1, h2, h3⟩ := h.uncons
    rw [h1]
    exact .cons (Rep.skip hd h2) (RepL.skip hd h3)
end
theorem RepO.skip {m : MO} {o : Option HO} (hd : Dull (G D0)) (h : RepO K G π m o) : RepO K (rm D0 G) π m o := by
  cases m with
  | lst ds => obtain ⟨vs, a, b⟩ := h; exact ⟨vs, a, b.skip hd⟩
  | dct ks ds => obtain ⟨vs, a, b, c⟩ := h; exact ⟨vs, a, b, c.skip hd⟩
  | ins c ns ds => obtain ⟨dx, fs, a, b, c⟩ := h; exact ⟨dx, fs, a, b, c.skip hd⟩
end
section
variable {K : PySem.W.Frag} {H : Hp} {π π2 : List Addr} {D0 : Addr} {μ : Store}
theorem off_dull (hn : D0 ∉ π) (hd : Dull (H D0)) : Dull (off π H D0) := by rw [off_ne hn]; exact hd
theorem Rp.skip {d : D} {v : V} (hn : D0 ∉ π) (hd : Dull (H D0)) (h : Rp K π H d v) : Rp K π (rm D0 H) d v := by
  unfold Rp
  rw [off_rm]
  exact Rep.skip (off_dull hn hd) h
theorem SimM.skip (hn : D0 ∉ π) (hd : Dull (H D0)) (s : SimM K π μ H) : SimM K π μ (rm D0 H) := ⟨s.nd, s.len, fun n a m h1 h2 => by
  have q := (s.obj n a m h1 h2).skip (off_dull hn hd)
  rw [← off_rm] at q
  rw [rm_ne fun z => hn (by rw [← z]; exact List.mem_of_getElem? h1)]
  exact q⟩
theorem SimL.skip {ρ : Env'} {σ : L2.St} (hn : D0 ∉ π) (hd : Dull (H D0)) (l : SimL K π H ρ σ) : SimL K π (rm D0 H) ρ σ := ⟨l.len, fun i d e => let ⟨v, a, b⟩ := l.loc i d e; ⟨v, a, Rp.skip hn hd b⟩⟩
/-- from out of sight into the lock -/
theorem SimM.lock {od : Obj} {acc : List V} (s : SimM K π μ (rm D0 H)) : SimM K π μ (upd H D0 (.frz od (.lst acc))) ∧ Gr π (rm D0 H) π (upd H D0 (.frz od (.lst acc))) := by
  have z := s.new (p := D0) (o := .frz od (.lst acc)) rm_self
  rw [upd_rm] at z
  have g : Gr π (rm D0 H) π (upd (rm D0 H) D0 (.frz od (.lst acc))) := Gr.new rm_self
  rw [upd_rm] at g
  exact ⟨z, g⟩
/-- .. and back -/
theorem SimM.unlock_ {od : Obj} {acc : List V} {H' : Hp} (s : SimM K π μ (rm D0 H)) (g : Gr π (upd H D0 (.frz od (.lst acc))) π2 H') : D0 ∉ π2 ∧ H' D0 = some (.frz od (.lst acc)) ∧ Dull (H' D0) ∧ Gr π (rm D0 H) π2 (rm D0 H') := by
  have hn : D0 ∉ π := s.in_ rm_self
  have q := g.keep D0 (.frz od (.lst acc)) (by rw [off_ne hn, upd_same])
  obtain ⟨q1, q2⟩ := off_some q
  refine ⟨q1, q2, by rw [q2]; trivial, ⟨g.pre, fun b o e => ?_⟩⟩
  obtain ⟨e1, e2⟩ := off_some e
  obtain ⟨e3, e4⟩ := rm_some e2
  have z := g.keep b o (by rw [off_ne e1, upd_ne e3]; exact e4)
  obtain ⟨z1, z2⟩ := off_some z
  rw [off_ne z1, rm_ne e3]
  exact z2
end
def wipeM (ρ : Env') : List Nat → Env'
  | [] => ρ
  | v :: vs => (wipeM ρ vs).set v none
theorem wipeM_length (ρ : Env') : ∀ vs : List Nat, (wipeM ρ vs).length = ρ.length
  | [] => rfl
  | v :: vs => by unfold wipeM; rw [List.length_set, wipeM_length ρ vs]
theorem wipeM_some {ρ : Env'} {i : Nat} {x : D} : ∀ {vs : List Nat}, (wipeM ρ vs)[i]? = some (some x) → ρ[i]? = some (some x) ∧ i ∉ vs
  | [], h => ⟨h, by simp⟩
  | v :: vs, h => by
    unfold wipeM at h
    by_cases hi : v = i
    · subst hi
      by_cases hv : v < (wipeM ρ vs).length
      · rw [List.getElem?_set_self hv] at h; cases h
      · rw [List.getElem?_eq_none (by simpa using hv)] at h; cases h
    · rw [List.getElem?_set_ne hi] at h
      obtain ⟨h1, h2⟩ := wipeM_some h
      exact ⟨h1, fun z => (List.mem_cons.mp z).elim (fun e => hi e.symm) h2⟩
theorem SimL.wipe {K : PySem.W.Frag} {π : List Addr} {H : Hp} {ρ : Env'} {σ : L2.St} (l : SimL K π H ρ σ) (vs : List Nat) : SimL K π H (wipeM ρ vs) (L2.wipe σ vs) := by
  refine ⟨by rw [wipe_length, wipeM_length, l.len], fun i d e => ?_⟩
  obtain ⟨h1, h2⟩ := wipeM_some e
  obtain ⟨v, a, b⟩ := l.loc i d h1
  exact ⟨v, by rw [wipe_out h2]; exact a, b⟩
theorem wipe_wipe {σ : L2.St} {vs : List Nat} : wipe (wipe σ vs) vs = wipe σ vs := by
  refine List.ext_getElem? fun j => ?_
  rw [wipe_at, wipe_length, wipe_at]
  split <;> rfl
/-- a test in the lock -/
def tLockT (t : TT) : TT := fun σ H Q => ∃ d u, H d = some u ∧ Mut (some u) ∧ ∀ od, t σ (upd H d (.frz od u)) fun b H' => H' d = some (.frz od u) ∧ Q b (upd H' d u)
section
variable {X : Cx} {W : WX} {c elt tg iter : Expr} {ifs : List Expr} {m n : M D} {t : M Bool} {g : TgM} {mi : MI} {pos : Pos} {scope : Scope} {own : List (Str × Nat)} {vs : List Nat}
theorem pt_lock {t : TT} (h : PT X c t) : PT X c (tLockT t) := by
  refine ⟨fun pins s σ H Q I hw => ?_⟩
  obtain ⟨d, u, hd, mu, hw⟩ := hw
  obtain ⟨od, I1⟩ := I.lock hd mu
  refine thn (h.run pins s σ _ _ I1 (hw od)) fun b s1 z => ?_
  obtain ⟨H1, I2, e2, q⟩ := z
  exact ⟨_, I2.unlock e2 (I.nofrz hd mu), q⟩
/-- no exception leaves a comprehension -/
def W0 : WX := fun _ _ _ _ => False
abbrev Cx.in_ (X : Cx) (scope : Scope) (s : Shared) (H : Hp) (C : Addr) (cl : List (Str × Addr)) (fp : List Addr) : Cx := X.blk s H scope (compEnvC scope cl C X.env) fp
/-- tests of a clause -/
def STs (X : Cx) (W : WX) (ifs : List Expr) (t : M Bool) : Prop := (ifs = [] ∧ t = fun _ μ => .ok true μ) ∨ ∃ c, ifs = [c] ∧ ST X W c t
def lcGo (lv : Lv) (g : TgM) (t : M Bool) (m : M D) (ρ0 : Env') : List D → Store → Out (List D)
  | [], μ => if lvOk lv μ = true then .ok [] μ else .stuck
  | d :: ds, μ => if lvOk lv μ = true then (match g d ρ0 with
    | none => .stuck
    | some ρ1 => (t ρ1 μ).bind fun k μ1 => if k = true then (m ρ1 μ1).bind fun y μ2 => (lcGo lv g t m ρ0 ds μ2).bind fun ys μ3 => .ok (y :: ys) μ3 else lcGo lv g t m ρ0 ds μ1) else .stuck
def mLc (mi : MI) (vs : List Nat) (g : TgM) (t : M Bool) (m : M D) : M (List D) := fun ρ μ => (mi ρ μ).bind fun p μ1 => if p.2.length ≤ maxL then (lcGo p.1 g t m (wipeM ρ vs) p.2 μ1).only else .stuck
theorem Out.bind_okI {α β : Type} {o : Out α} {f : α → Store → Out β} {b : β} {μ : Store} (h : o.bind f = .ok b μ) : ∃ a μ1, o = .ok a μ1 ∧ f a μ1 = .ok b μ := by
  cases o with
  | ok a μ1 => exact ⟨a, μ1, rfl, h⟩
  | exc c ns ds μ1 => cases h
  | stuck => cases h
theorem GF.only {π : List Addr} {σ : L2.St} {H : Hp} {Q : VK} {o : Out (List D)} (h : GF X W π σ H Q o.only) : ∃ ds μ', o = .ok ds μ' ∧ GF X W π σ H Q (.ok ds μ') := by
  cases o with
  | ok ds μ' => exact ⟨ds, μ', rfl, h⟩
  | exc c ns ds μ' => exact h.elim
  | stuck => exact h.elim
def gAll (X : Cx) (scope : Scope) (tg : Expr) : TG := fun v σ H Q => ∀ s H0 C cl fp, WG (Cx.in_ X scope s H0 C cl fp) tg v σ H Q
def tAll (X : Cx) (scope : Scope) (ifs : List Expr) : TT := fun σ H Q => ∀ s H0 C cl fp, (ifs = [] ∧ Q true H) ∨ ∃ c, ifs = [c] ∧ tLockT (WT (Cx.in_ X scope s H0 C cl fp) c) σ H Q
def eAll (X : Cx) (scope : Scope) (elt : Expr) : TE := fun σ H Q => ∀ s H0 C cl fp, tLockE (WE (Cx.in_ X scope s H0 C cl fp) elt) σ H Q
theorem gAll_ok (s : Shared) (H0 : Hp) (C : Addr) (cl : List (Str × Addr)) (fp : List Addr) : PG (X.blk s H0 scope (compEnvC scope cl C X.env) fp) tg (gAll X scope tg) := ⟨fun pins st σ H v u Q I r h => h s H0 C cl fp pins st u I r⟩
theorem tAll_ok (s : Shared) (H0 : Hp) (C : Addr) (cl : List (Str × Addr)) (fp : List Addr) : PTs (X.blk s H0 scope (compEnvC scope cl C X.env) fp) ifs (tAll X scope ifs) := ⟨fun pins st σ H Q I h => by
  rcases h s H0 C cl fp with ⟨e, k⟩ | ⟨c, e, k⟩
  · subst e
    exact pts_nil.run pins st σ H Q I k
  · subst e
    exact (pts_one (pt_lock pt_wt)).run pins st σ H Q I k⟩
theorem eAll_ok (s : Shared) (H0 : Hp) (C : Addr) (cl : List (Str × Addr)) (fp : List Addr) : PE (X.blk s H0 scope (compEnvC scope cl C X.env) fp) elt (eAll X scope elt) := ⟨fun pins st σ H Q I h => (pe_lock pe_we).run pins st σ H Q I (h s H0 C cl fp)⟩
theorem lc_t {π : List Addr} {ρ : Env'} {μ : Store} {σ : L2.St} {H : Hp} {Q : VK} (hi : SI X W tg iter mi) (hv : ∀ i ∈ vs, i ∈ own.map (·.2))
    (hg : ∀ s H C cl fp, SG (Cx.in_ X scope s H C cl fp) vs tg g) (ht : ∀ s H C cl fp, STs (Cx.in_ X scope s H C cl fp) W0 ifs t) (he : ∀ s H C cl fp, SE (Cx.in_ X scope s H C cl fp) W0 elt m)
    (sm : SimM X.K π μ H) (sl : SimL X.K π H ρ σ) (h : GF X W π σ H Q (mLc mi (own.map (·.2)) g t m ρ μ)) : tLc (WI X tg iter) (gAll X scope tg) (tAll X scope ifs) (eAll X scope elt) (own.map (·.2)) σ H Q := by
  refine (hi π ρ μ σ H _ sm sl (GF.bindA h fun p μ1 J H1 π1 e1 g1 s1 w h1 => ?_))
  obtain ⟨lv, ds⟩ := p
  by_cases hl : ds.length ≤ maxL
  · rw [if_pos hl] at h1
    obtain ⟨ysF, μF, eF, hF⟩ := GF.only h1
    intro A hA
    generalize hvs : own.map (·.2) = us at *
    refine ⟨fun i k H' => k = ds.length - i ∧ i ≤ ds.length ∧ ∃ π' μ' acc accV ys, Gr π1 H1 π' (rm A H') ∧ SimM X.K π' μ' (rm A H') ∧ H' A = some (.lst accV) ∧ RpL X.K π' (rm A H') acc accV ∧ acc.length ≤ i ∧ lcGo lv g t m (wipeM ρ us) (ds.drop i) μ' = .ok ys μF ∧ acc ++ ys = ysF,
      ⟨ds.length, rfl, Nat.zero_le _, π1, μ1, [], [], ysF, ?_⟩, ?_⟩
    · rw [rm_upd, rm_none hA]
      exact ⟨Gr.refl, s1, upd_same, .nil, Nat.le_refl _, eF, rfl⟩
    · rintro i k H' ⟨rfl, hi', π', μ', acc, accV, ys, g', s', hD, rA, la, eG, eY⟩
      have subs : ∀ b o, rm A H' b = some o → H' b = some o := fun b o e => (rm_some e).2
      have slW : SimL X.K π' (rm A H') (wipeM ρ us) (wipe σ us) := (g'.loc (g1.loc sl)).wipe us
      by_cases hlt : i < ds.length
      · have ed : ds.drop i = ds[i] :: ds.drop (i + 1) := List.drop_eq_getElem_cons hlt
        rw [ed] at eG
        unfold lcGo at eG
        by_cases okv : lvOk lv μ' = true
        · rw [if_pos okv] at eG
          refine .inr ⟨w.go i π' μ' (rm A H') H' hlt g' s' okv subs, fun H2 => i + 1 ≤ ds.length ∧ ∃ π' μ' acc accV ys, Gr π1 H1 π' (rm A H2) ∧ SimM X.K π' μ' (rm A H2) ∧ H2 A = some (.lst accV) ∧ RpL X.K π' (rm A H2) acc accV ∧ acc.length ≤ i + 1 ∧ lcGo lv g t m (wipeM ρ us) (ds.drop (i + 1)) μ' = .ok ys μF ∧ acc ++ ys = ysF,
            fun H2 z => ⟨ds.length - (i + 1), by omega, rfl, z⟩, fun x H2 y => ?_⟩
          obtain ⟨d, L2, d1, k1, k2, k3, k4, k5, k6⟩ := w.yld i x π' μ' (rm A H') H' H2 hlt g' s' okv subs y
          have ed2 : ds[i] = d := by
            rw [List.getElem?_eq_getElem hlt] at d1
            exact Option.some.inj d1
          rw [ed2] at eG
          have hL2 : L2 A = none := by
            rw [k6 A (by rw [hD]; exact fun z => nomatch z)]
            exact rm_self
          have k4' : ∀ b o, L2 b = some o → rm A H2 b = some o := fun b o e => by
            rw [rm_ne (ne_of_none e hL2)]
            exact k4 b o e
          obtain ⟨s2, g2⟩ := k2.grow k4'
          have gg : Gr π' (rm A H') π' (rm A H2) := k1.trans g2
          have hD2 : H2 A = some (.lst accV) := k5 _ _ hD
          cases eg : g d (wipeM ρ us) with
          | none => rw [eg] at eG; cases eG
          | some ρ1 =>
            rw [eg] at eG
            dsimp only at eG
            obtain ⟨b, μ3, et, eG⟩ := Out.bind_okI eG
            intro s0 H0 C cl fp
            obtain ⟨σ2, l2, o2, q2⟩ := hg s0 H0 C cl fp π' (rm A H2) (wipeM ρ us) ρ1 (wipe σ us) d x (gg.loc slW) (g2.rep k3) eg
            refine q2 H2 _ (fun b o e => (rm_some (off_sub _ _ e)).2) ⟨?_, ?_⟩
            · rw [o2 us hv, wipe_wipe]
            -- the tests, then the item
            have item : ∀ H3 π3, Gr π' (rm A H2) π3 (rm A H3) → SimM X.K π3 μ3 (rm A H3) → H3 A = some (.lst accV) → (if b = true then ∀ s H0 C cl fp, tLockE (WE (Cx.in_ X scope s H0 C cl fp) elt) σ2 H3 (fun y H4 => ∃ acc, H4 A = some (.lst acc) ∧ acc.length < sizeLine ∧
                (fun H2 => i + 1 ≤ ds.length ∧ ∃ π' μ' acc accV ys, Gr π1 H1 π' (rm A H2) ∧ SimM X.K π' μ' (rm A H2) ∧ H2 A = some (.lst accV) ∧ RpL X.K π' (rm A H2) acc accV ∧ acc.length ≤ i + 1 ∧ lcGo lv g t m (wipeM ρ us) (ds.drop (i + 1)) μ' = .ok ys μF ∧ acc ++ ys = ysF) (upd H4 A (.lst (acc ++ [y]))))
                else i + 1 ≤ ds.length ∧ ∃ π' μ' acc accV ys, Gr π1 H1 π' (rm A H3) ∧ SimM X.K π' μ' (rm A H3) ∧ H3 A = some (.lst accV) ∧ RpL X.K π' (rm A H3) acc accV ∧ acc.length ≤ i + 1 ∧ lcGo lv g t m (wipeM ρ us) (ds.drop (i + 1)) μ' = .ok ys μF ∧ acc ++ ys = ysF) := by
              intro H3 π3 g3 s3 hD3
              cases b with
              | true =>
                rw [if_pos rfl] at eG ⊢
                obtain ⟨yd, μ4, em, eG⟩ := Out.bind_okI eG
                obtain ⟨ys', μ5, er, eG⟩ := Out.bind_okI eG
                cases eG
                intro s1 H1' C1 cl1 fp1
                refine ⟨A, .lst accV, hD3, trivial, fun od => ?_⟩
                obtain ⟨s3', g3'⟩ := s3.lock (od := od) (acc := accV)
                refine he s1 H1' C1 cl1 fp1 π3 ρ1 μ3 σ2 _ _ s3' ((g3.trans g3').loc l2) ?_
                rw [em]
                intro yv H4 π4 g4 s4 r4
                obtain ⟨n4, e4, d4, u4⟩ := s3.unlock_ g4
                refine ⟨e4, accV, upd_same, ?_, hlt, π4, μ4, acc ++ [yd], accV ++ [yv], ys', ?_, ?_, upd_same, ?_, ?_, er, ?_⟩
                · have := rA.length
                  rw [this, sizeLine_eq]
                  have : maxL = 16777216 := rfl
                  omega
                · rw [rm_upd, rm_upd]
                  exact ((g'.trans gg).trans g3).trans u4
                · rw [rm_upd, rm_upd]
                  exact s4.skip n4 d4
                · rw [rm_upd, rm_upd]
                  exact (((gg.trans g3).trans u4).repL rA).append (.one (Rp.skip n4 d4 r4))
                · rw [List.length_append, List.length_singleton]; omega
                · rw [List.append_assoc]; exact eY
              | false =>
                rw [if_neg (by decide)] at eG ⊢
                exact ⟨hlt, π3, μ3, acc, accV, ys, (g'.trans gg).trans g3, s3, hD3, (gg.trans g3).repL rA, by omega, eG, eY⟩
            intro s1 H1' C1 cl1 fp1
            rcases ht s1 H1' C1 cl1 fp1 with ⟨hz, rfl⟩ | ⟨c, hz, hT⟩
            · cases et
              exact .inl ⟨hz, item H2 π' Gr.refl s2 hD2⟩
            · refine .inr ⟨c, hz, A, .lst accV, hD2, trivial, fun od => ?_⟩
              obtain ⟨s3', g3'⟩ := s2.lock (od := od) (acc := accV)
              refine hT π' ρ1 μ' σ2 _ _ s3' (g3'.loc l2) ?_
              rw [et]
              intro bv H3 π3 g3 s3 r3
              cases r3
              obtain ⟨n3, e3, d3, u3⟩ := s2.unlock_ g3
              refine ⟨e3, ?_⟩
              refine item (upd H3 A (.lst accV)) π3 ?_ ?_ upd_same
              · rw [rm_upd]; exact u3
              · rw [rm_upd]; exact s3.skip n3 d3
        · rw [if_neg okv] at eG; cases eG
      · have e : i = ds.length := by omega
        subst e
        rw [List.drop_length] at eG
        unfold lcGo at eG
        by_cases okv : lvOk lv μ' = true
        · rw [if_pos okv] at eG
          cases eG
          refine .inl ⟨w.stop π' _ (rm A H') H' g' s' okv subs, ?_⟩
          have z := hF A accV (rm A H') π' rm_self g' s' (by rw [← eY, List.append_nil]; exact rA)
          rw [upd_rm] at z
          have e2 : upd H' A (.lst accV) = H' := by
            funext b
            by_cases hb : b = A
            · subst hb; rw [upd_same, hD]
            · rw [upd_ne hb]
          rw [e2] at z
          exact z
        · rw [if_neg okv] at eG; cases eG
  · rw [if_neg hl] at h1; exact h1.elim
theorem SF.lc (hc : X.calm = true) (hN : X.N.Nodup) (hi : SI X W tg iter mi) (ok : BlkOk X.N X.env.scope scope own) (hv : ∀ i ∈ vs, i ∈ own.map (·.2))
    (hg : ∀ s H C cl fp, SG (Cx.in_ X scope s H C cl fp) vs tg g) (ht : ∀ s H C cl fp, STs (Cx.in_ X scope s H C cl fp) W0 ifs t) (he : ∀ s H C cl fp, SE (Cx.in_ X scope s H C cl fp) W0 elt m)
    (hs : ∀ x, foldedSetIterable iter X.env x = pure x := by intro _; rfl) : SF X W (.ListComp elt [⟨tg, iter, ifs, 0⟩] scope pos) (mLc mi (own.map (·.2)) g t m) := fun π ρ μ σ H Q sm sl h =>
  WE.of (pe_lc hc hN pi_wi ok gAll_ok tAll_ok eAll_ok hs) (lc_t hi hv hg ht he sm sl h)
/-- a way to take a new list: it stays as it is, or goes on being changed -/
def Fresh (X : Cx) (W : WX) (k : M (List D) → M D) : Prop := ∀ (ml : M (List D)) (π : List Addr) (ρ : Env') (μ : Store) (σ : L2.St) (H : Hp) (Q : VK), GE X W (Rp X.K) π σ H Q (k ml ρ μ) → GF X W π σ H Q (ml ρ μ)
theorem fresh_fz : Fresh X W mFz := fun ml π ρ μ σ H Q g => by
  unfold mFz at g
  cases q : ml ρ μ with
  | ok ds μ1 =>
    rw [q] at g
    exact fun p vs H1 π' hp g1 s1 r1 => GE.newL (GE.mono g1 g) s1 r1 hp
  | exc c ns ds μ1 => rw [q] at g; exact g
  | stuck => rw [q] at g; exact g
theorem fresh_nw : Fresh X W mNw := fun ml π ρ μ σ H Q g => by
  unfold mNw at g
  cases q : ml ρ μ with
  | ok ds μ1 =>
    rw [q] at g
    intro p vs H1 π' hp g1 s1 r1
    obtain ⟨z1, z2, z3⟩ := rep_newref s1 hp r1
    exact g (.ref p) _ (π' ++ [p]) (g1.trans z2) z1 z3
  | exc c ns ds μ1 => rw [q] at g; exact g
  | stuck => rw [q] at g; exact g
/-- name = [.. for ..] on one line -/
theorem SS.setLc {k : M (List D) → M D} {y : Str} {py spos : Pos} (i : Nat) (fk : Fresh X W k) (hy : X.N[i]? = some y) (hyl : X.env.scope.names.lookup y = some .local) (hsw : swapsWith (.ListComp elt [⟨tg, iter, ifs, 0⟩] scope pos) (some (.Name y py)) spos.line X.env = pure true)
    (hc : X.calm = true) (hN : X.N.Nodup) (hi : SI X W tg iter mi) (ok : BlkOk X.N X.env.scope scope own) (hv : ∀ i ∈ vs, i ∈ own.map (·.2))
    (hg : ∀ s H C cl fp, SG (Cx.in_ X scope s H C cl fp) vs tg g) (ht : ∀ s H C cl fp, STs (Cx.in_ X scope s H C cl fp) W0 ifs t) (he : ∀ s H C cl fp, SE (Cx.in_ X scope s H C cl fp) W0 elt m)
    (hs : ∀ x, foldedSetIterable iter X.env x = pure x := by intro _; rfl) : SS X W (.Assign [.Name y py] (.ListComp elt [⟨tg, iter, ifs, 0⟩] scope pos) spos) (cSet i (k (mLc mi (own.map (·.2)) g t m))) := fun π ρ μ σ H Dn sm sl h =>
  WS.of (ps_setLc hc hN hy hyl hsw pi_wi ok gAll_ok tAll_ok eAll_ok hs) (lc_t (Q := fun x H1 => gName i x σ H1 Dn.nx) hi hv hg ht he sm sl (fk _ π ρ μ σ H _ (GE.bindS sl h fun d μ1 v H1 π1 e1 g1 s1 r1 h1 => h1 _ H1 π1 Gr.refl s1 ((g1.loc sl).set r1 i))))
end
end Rv
set_option Elab.async false
set_option linter.all false
set_option maxRecDepth 100000
set_option maxHeartbeats 4000000
/-! Rv13: things changed: items, fields, append; a comprehension set to a name; try without an exception. -/
namespace Rv
open PySem PySem.Spec L2
open PyProof.Rows hiding St

section
variable {K : PySem.W.Frag} {π : List Addr} {H : Hp} {μ : Store}
theorem off_upd {a : Addr} {o : HO} (h : a ∈ π) : off π (upd H a o) = off π H := by
  funext b
  unfold off
  by_cases hb : b ∈ π
  · rw [if_pos hb, if_pos hb]
  · rw [if_neg hb, if_neg hb, upd_ne fun z => hb (by rw [z]; exact h)]
/-- one of the things that may be changed is changed -/
theorem SimM.write {k : Nat} {a : Addr} {m : MO} {o : HO} (s : SimM K π μ H) (ha : π[k]? = some a) (r : RepO K (off π H) π m (some o)) : SimM K π (μ.set k m) (upd H a o) ∧ Gr π H π (upd H a o) := by
  have hm : a ∈ π := List.mem_of_getElem? ha
  refine ⟨⟨s.nd, by rw [List.length_set, s.len], fun n b m' h1 h2 => ?_⟩, ⟨⟨[], by simp⟩, fun b u e => by rw [off_upd hm]; exact e⟩⟩
  rw [off_upd hm]
  by_cases hk : k = n
  · subst hk
    rw [ha] at h1
    cases h1
    have hl : k < μ.length := by rw [← s.len]; exact (List.getElem?_eq_some_iff.mp ha).1
    rw [List.getElem?_set_self hl] at h2
    cases h2
    rw [upd_same]
    exact r
  · rw [List.getElem?_set_ne hk] at h2
    have nb : b ≠ a := fun e => by
      subst e
      obtain ⟨l1, e1⟩ := List.getElem?_eq_some_iff.mp ha
      obtain ⟨l2, e2⟩ := List.getElem?_eq_some_iff.mp h1
      exact hk ((List.getElem_inj s.nd).mp (e1.trans e2.symm))
    rw [upd_ne nb]
    exact s.obj n b m' h1 h2
end
section
variable {X : Cx} {W : WX} {e a b c o tg iter elt value : Expr} {es rest ifs : List Expr} {m n mo mx : M D} {ms mk ml : M (List D)} {pos pos' p p1 apos cpos tpos : Pos} {x f : Str} {F : Fn} {cl : Str} {vs ws : List Nat}
variable {st : Stmt} {body sts : List Stmt} {g : TgM} {cc cb : C} {mi : MI} {t : M Bool} {scope : Scope} {own : List (Str × Nat)}

/-! ### xs.append(e) -/
def fApp (d1 d2 : D) (μ : Store) : Out D := match d1 with
  | .ref k => (match μ[k]? with
    | some (.lst ds) => if ds.length < maxL then .ok .non (μ.set k (.lst (ds ++ [d2]))) else .stuck
    | _ => .stuck)
  | _ => .stuck
def mApp (m n : M D) : M D := fun ρ μ => (m ρ μ).bind fun d1 μ1 => match asL μ1 d1 with
  | some _ => (n ρ μ1).bind fun d2 μ2 => fApp d1 d2 μ2
  | none => .stuck
theorem SE.append (ho : SE X W o m) (ha : SE X W a n) (hbase : attributeBase o "append" X.env (eval o X.env) = eval o X.env := by rfl)
    (hfew : ((backTo cpos (starEach [a] X.env)).all (fun x => !x.1) && (backToKw cpos (keywordEach [] X.env)).all (fun x => x.1.isSome) && decide (([a] : List Expr).length + ([] : List Keyword).length + (if ([] : List Keyword).isEmpty then 0 else 1) < 30)) = true := by rfl)
    (hline : (apos.endLine == cpos.line) = true := by rfl) (hs : starEach [a] X.env = (false, eval a X.env) :: starEach [] X.env := by rfl) (hplain : (backTo cpos (starEach [] X.env)).any (·.1) = false := by rfl) :
    SE X W (.Call (.Attribute o "append" apos) [a] [] cpos) (mApp m n) := fun π ρ μ σ H Q sm sl h => by
  refine WE.of (pe_bm PySem.F.plainAttrs_list PySem.F.slot_list_append PySem.F.type_list_append mt_append pe_we (pa_cons pe_we pa_nil hs) hbase hfew hline hs hplain) (ho π ρ μ σ H _ sm sl (GE.bind h fun d1 μ1 v H1 π1 e1 g1 s1 r1 h1 => ?_))
  cases q : asL μ1 d1 with
  | none => rw [q] at h1; exact h1.elim
  | some ds0 =>
    rw [q] at h1
    obtain ⟨p, us, rfl, hp, rp⟩ := asL_view s1 r1 q
    refine ⟨.inl ⟨rfl, us, hp⟩, ha π1 ρ μ1 σ H1 _ s1 (g1.loc sl) (GE.bind h1 fun d2 μ2 y H2 π2 e2 g2 s2 r2 h2 => ?_)⟩
    have r1' := g2.rep r1
    unfold fApp at h2
    split at h2
    · rename_i k
      unfold Rp Rep at r1'
      obtain ⟨p', hk, ep⟩ := r1'
      cases ep
      split at h2
      · rename_i ds e
        by_cases hl : ds.length < maxL
        · rw [if_pos hl] at h2
          obtain ⟨ws, h3, h4⟩ := s2.obj k p _ hk e
          obtain ⟨s3, g3⟩ := s2.write (m := .lst (ds ++ [d2])) (o := .lst (ws ++ [y])) hk ⟨_, rfl, h4.append (.one r2)⟩
          exact ⟨p, ws, y, rfl, rfl, h3, by rw [h4.length, sizeLine_eq]; exact hl, h2 .non _ π2 g3 s3 (by unfold Rp Rep; rfl)⟩
        · rw [if_neg hl] at h2; exact h2.elim
      · exact h2.elim
    · exact h2.elim

/-! ### targets of statements -/
def SGS (X : Cx) (W : WX) (tg : Expr) (g : D → C) : Prop := ∀ (π : List Addr) (ρ : Env') (μ : Store) (σ : L2.St) (H : Hp) (d : D) (v : V) (Dn : Ends), SimM X.K π μ H → SimL X.K π H ρ σ → Rp X.K π H d v → GS X W π H Dn (g d ρ μ) → WG X tg v σ H Dn.nx
def SGSs (X : Cx) (W : WX) (es : List Expr) (g : List D → C) : Prop := ∀ (π : List Addr) (ρ : Env') (μ : Store) (σ : L2.St) (H : Hp) (ds : List D) (us : List V) (Dn : Ends), SimM X.K π μ H → SimL X.K π H ρ σ → RpL X.K π H ds us → GS X W π H Dn (g ds ρ μ) → WGs X es us σ H Dn.nx
def tgP (g : TgM) : D → C := fun d ρ μ => match g d ρ with
  | some ρ' => .nx ρ' μ
  | none => .stuck
theorem SGS.pat (hg : SG X vs tg g) : SGS X W tg (tgP g) := fun π ρ μ σ H d v Dn sm sl r h => by
  unfold tgP at h
  cases eg : g d ρ with
  | none => rw [eg] at h; exact h.elim
  | some ρ' =>
    rw [eg] at h
    obtain ⟨σ1, l1, o1, q1⟩ := hg π H ρ ρ' σ d v sl r eg
    exact q1 H _ off_sub (h σ1 H π Gr.refl sm l1)
/-- xs[i] = d -/
def dSet (o i d : D) (μ : Store) : Option Store := match o, i with
  | .ref k, .int j => (match μ[k]? with
    | some (.lst ds) => (ixN ds.length j).map fun q => μ.set k (.lst (ds.set q d))
    | _ => none)
  | _, _ => none
def tgSub (mo mi : M D) : D → C := fun d ρ μ => (mo ρ μ).bindS ρ fun o μ1 => (mi ρ μ1).bindS ρ fun i μ2 => match dSet o i d μ2 with
  | some μ3 => .nx ρ μ3
  | none => .stuck
theorem SGS.sub (ho : SE X W o mo) (hi : SE X W a mx) (ha : ∀ v, assign (.Subscript o a pos) X.env v = (do
      let ov ← holding [v] (eval o X.env)
      let iv ← holding [v, ov] (eval a X.env)
      standAt pos
      holding [v, ov, iv] (setItem ov iv v)
      release [v, ov, iv] []) := by intro _; rfl) : SGS X W (.Subscript o a pos) (tgSub mo mx) := fun π ρ μ σ H d v Dn sm sl r h => by
  refine WG.of (pg_sub pe_we pe_we set_list ha) (ho π ρ μ σ H _ sm sl (GE.bindS sl h fun d1 μ1 x H1 π1 e1 g1 s1 r1 h1 => ?_))
  refine hi π1 ρ μ1 σ H1 _ s1 (g1.loc sl) (GE.bindS (g1.loc sl) h1 fun d2 μ2 y H2 π2 e2 g2 s2 r2 h2 => ?_)
  have ro := g2.rep r1
  have rd := (g1.trans g2).rep r
  cases q : dSet d1 d2 d μ2 with
  | none => rw [q] at h2; exact h2.elim
  | some μ3 =>
    rw [q] at h2
    unfold dSet at q
    split at q
    · rename_i k j
      split at q
      · rename_i ds e
        obtain ⟨z, z1, z2⟩ := Option.map_eq_some_iff.mp q
        subst z2
        unfold Rp Rep at ro
        obtain ⟨p, hk, rfl⟩ := ro
        cases rep_int r2
        obtain ⟨ws, h3, h4⟩ := s2.obj k p _ hk e
        obtain ⟨s3, g3⟩ := s2.write (m := .lst (ds.set z d)) (o := .lst (ws.set z v)) hk ⟨_, rfl, h4.set z rd⟩
        exact ⟨p, ws, j, z, rfl, rfl, h3, by rw [h4.length]; exact z1, h2 σ _ π2 g3 s3 (((g1.trans g2).trans g3).loc sl)⟩
      · cases q
    · cases q
def tgsN : List D → C := fun ds ρ μ => match ds with
  | [] => .nx ρ μ
  | _ => .stuck
def tgsC (g : D → C) (gs : List D → C) : List D → C := fun ds ρ μ => match ds with
  | d :: ds => (g d ρ μ).bind (gs ds)
  | [] => .stuck
theorem SGSs.nil : SGSs X W [] tgsN := fun π ρ μ σ H ds us Dn sm sl r h => by
  unfold tgsN at h
  split at h
  · unfold RpL RepL at r
    subst r
    exact WGs.of pgs_nil ⟨rfl, h σ H π Gr.refl sm sl⟩
  · exact h.elim
theorem SGSs.cons {g : D → C} {gs : List D → C} (h : SGS X W a g) (k : SGSs X W es gs) (hs : (assignEach (a :: es) X.env).map (·.2) = assign a X.env :: (assignEach es X.env).map (·.2) := by rfl) : SGSs X W (a :: es) (tgsC g gs) := fun π ρ μ σ H ds us Dn sm sl r q => by
  unfold tgsC at q
  split at q
  · rename_i d ds'
    obtain ⟨v, t, rfl, r1, r2⟩ := r.uncons
    refine WGs.of (pgs_cons pg_wg pgs_wgs hs) ⟨v, t, rfl, ?_⟩
    exact h π ρ μ σ H d v { Dn with nx := fun σ' H' => WGs X es t σ' H' Dn.nx } sm sl r1 (GS.bind q (fun ρ1 μ1 σ1 H1 π1 e1 g1 s1 l1 h1 => k π1 ρ1 μ1 σ1 H1 ds' t Dn s1 l1 (g1.repL r2) h1) rfl rfl rfl)
  · exact q.elim
def tgT (n : Nat) (gs : List D → C) : D → C := fun d ρ μ => match asT d with
  | some ds => if ds.length = n then gs ds ρ μ else .stuck
  | none => .stuck
theorem SGS.tup {k n : Nat} {gs : List D → C} (hc : X.calm = true) (h : SGSs X W es gs) (hn : (assignEach es X.env).length = n := by rfl) (hst : (assignEach es X.env).findIdx? (·.1) = none := by rfl) : SGS X W (.Tuple es k pos) (tgT n gs) := fun π ρ μ σ H d v Dn sm sl r q => by
  unfold tgT at q
  split at q
  · rename_i ds e
    by_cases hl : ds.length = n
    · rw [if_pos hl] at q
      obtain ⟨p, us, rfl, hp, rp⟩ := asT_view r e
      exact WG.of (pg_tup hc pgs_wgs hn hst) ⟨p, us, rfl, hp, by rw [rp.length]; exact hl, h π ρ μ σ H ds us Dn sm sl rp q⟩
    · rw [if_neg hl] at q; exact q.elim
  · exact q.elim
def cAsg (g : D → C) (m : M D) : C := fun ρ μ => (m ρ μ).bindS ρ fun d μ1 => g d ρ μ1
theorem SS.asg {g : D → C} (hg : SGS X W tg g) (h : SE X W a m) (hs : swapsWithSole [tg] a pos.line X.env = pure false := by rfl) (hw : swappedStores [tg] a X.env = pure none := by rfl) (h1 : (assignEach [tg] X.env).map (·.2) = [assign tg X.env] := by rfl) :
    SS X W (.Assign [tg] a pos) (cAsg g m) := fun π ρ μ σ H Dn sm sl q =>
  WS.of (ps_asg pe_we pg_wg hs hw h1) (h π ρ μ σ H _ sm sl (GE.bindS sl q fun d μ1 v H1 π1 e1 g1 s1 r1 h1 => hg π1 ρ μ1 σ H1 d v Dn s1 (g1.loc sl) r1 h1))

/-! ### o.f = e -/
def dPutF (f : Str) (d : D) : List Str → List D → List Str × List D
  | n :: ns, e :: ds => if n = f then (n :: ns, d :: ds) else (n :: (dPutF f d ns ds).1, e :: (dPutF f d ns ds).2)
  | ns, ds => (ns ++ [f], ds ++ [d])
theorem putF_rep {H : Hp} {π : List Addr} {K : PySem.W.Frag} {f : Str} {d : D} {v : V} (r : Rep K H π d v) : ∀ {fs : List (Str × V)} {ds : List D}, RepL K H π ds (fs.map (·.2)) → (putF f v fs).map (·.1) = (dPutF f d (fs.map (·.1)) ds).1 ∧ RepL K H π (dPutF f d (fs.map (·.1)) ds).2 ((putF f v fs).map (·.2))
  | [], ds, h => by
    have := h.length
    cases ds with
    | nil => exact ⟨rfl, .one r⟩
    | cons e ds => simp at this
  | (g, w) :: fs, [], h => by
    have := h.length
    simp at this
  | (g, w) :: fs, e :: ds, h => by
    obtain ⟨v', t, h1, h2, h3⟩ := h.uncons
    simp only [List.map_cons, List.cons.injEq] at h1
    obtain ⟨rfl, rfl⟩ := h1
    obtain ⟨k1, k2⟩ := putF_rep (f := f) r h3
    by_cases q : g = f
    · simp only [putF, if_pos q, List.map_cons, dPutF]
      exact ⟨trivial, .cons r h3⟩
    · simp only [putF, if_neg q, List.map_cons, dPutF]
      exact ⟨by rw [k1], .cons h2 k2⟩
def dSetF (cl f : Str) (o d : D) (μ : Store) : Option Store := match o with
  | .ref k => (match μ[k]? with
    | some (.ins c ns ds) => if c = cl ∧ ns.length < 1000 then some (μ.set k (.ins c (dPutF f d ns ds).1 (dPutF f d ns ds).2)) else none
    | _ => none)
  | _ => none
def cFld (cl f : Str) (mo m : M D) : C := fun ρ μ => (m ρ μ).bindS ρ fun d μ1 => (mo ρ μ1).bindS ρ fun o μ2 => match dSetF cl f o d μ2 with
  | some μ3 => .nx ρ μ3
  | none => .stuck
theorem SS.fld (cl : Str) (hc : Cls X.K (He.ga X.K cl)) (hn : NoAttr X.K (He.ga X.K cl) f) (ho : SE X W o mo) (h : SE X W value m) (hs : swapsWith value (some (.Attribute o f pos')) pos.line X.env = pure false := by rfl) :
    SS X W (.Assign [.Attribute o f pos'] value pos) (cFld cl f mo m) := fun π ρ μ σ H Dn sm sl q => by
  refine WS.of (ps_fld pe_we pe_we hs) (h π ρ μ σ H _ sm sl (GE.bindS sl q fun d μ1 v H1 π1 e1 g1 s1 r1 h1 => ?_))
  refine ho π1 ρ μ1 σ H1 _ s1 (g1.loc sl) (GE.bindS (g1.loc sl) h1 fun o μ2 x H2 π2 e2 g2 s2 r2 h2 => ?_)
  have rd := g2.rep r1
  cases z : dSetF cl f o d μ2 with
  | none => rw [z] at h2; exact h2.elim
  | some μ3 =>
    rw [z] at h2
    unfold dSetF at z
    split at z
    · rename_i k
      split at z
      · rename_i c ns ds e
        by_cases hcc : c = cl ∧ ns.length < 1000
        · rw [if_pos hcc] at z
          obtain ⟨rfl, hl⟩ := hcc
          cases z
          unfold Rp Rep at r2
          obtain ⟨p, hk, rfl⟩ := r2
          obtain ⟨dx, fs, h3, h4, h5⟩ := s2.obj k p _ hk e
          subst h4
          obtain ⟨k1, k2⟩ := putF_rep (f := f) rd h5
          obtain ⟨s3, g3⟩ := s2.write (m := .ins c (dPutF f d (fs.map (·.1)) ds).1 (dPutF f d (fs.map (·.1)) ds).2) (o := .ins (He.ga X.K c) dx (putF f v fs)) hk ⟨dx, _, rfl, k1, k2⟩
          exact ⟨p, _, dx, fs, rfl, h3, hc, hn, by rw [← List.length_map (f := fun q : Str × V => q.1)]; exact hl, h2 σ _ π2 g3 s3 (((g1.trans g2).trans g3).loc sl)⟩
        · rw [if_neg hcc] at z; cases z
      · cases z
    · cases z
end
end Rv
set_option Elab.async false
set_option linter.all false
set_option maxRecDepth 100000
set_option maxHeartbeats 4000000
/-! RvC: own special methods, at the library's level: str, o[i] = v, ==, !=. -/
namespace RvC
open PySem PySem.Spec PySem.W PyProof.Rows
section
variable {P : Program} {w : World} {A : Around} {E : Value → Shared → Prop} {s : Shared} {K : Frag} {x C f : Addr} {ox : Obj} {od : Option Obj} {b tb : Value}
/-! ### str(x) -/
/-- a type's call whose __new__ is met in one program -/
theorem type_in {T nid : String} {Bn : Builtin} {args : List Value} {S : PySem.Spec} {Q : Value → Shared → Prop} (ft : TypeCalled T nid "object.__init__") (hne : (some nid != some "object.__new__") = true) (c1 : checkTypeCall T ⟨args, []⟩ = pure ()) (c2 : checkBuiltinCall nid ⟨.type T :: args, []⟩ = pure ())
    (hok : ∀ ob, argsOk "object.__init__" ⟨ob :: args, []⟩) (en : entryFor table nid = some Bn) (g : MeetsIn P w (Bn ⟨.type T :: args, []⟩) S) (h : S A.in1 (wants (fun ob s1 => s1.TypeIs ob T ∧ Q ob s1) E) s) : wpAny (model P w) A (call (.type T) args) Q E s := by
  obtain ⟨c, tl, m0⟩ := ft.mro
  have m1 := ft.made
  have m2 := ft.sub
  refine wpAny_call (codeAny_of_tree ?_)
  show wpAny _ _ (callAny (.type T) _) _ _ _
  refine wpAny_pure ⟨Code.quiet_builtin _ (by decide +kernel), codeAny_builtin F.entry_type_call ?_⟩
  rw [Around.under_plain (weight_type_call_type T args []) (units_type_call_type T args [])]
  have m3 := ft.notType
  have m4 := ft.canCreate
  repeat (any_goals first | assumption | wp_step)
  refine codeAny_mono (codeAny_call_builtin ft.plain en (wpAny_of_eq c2 (g A.in1 _ s h))) fun r s1 hr => ?_
  cases r with
  | error e => exact hr
  | ok fl =>
    cases fl with
    | ret ob =>
      obtain ⟨hT, hq⟩ := hr
      have n1 := ft.init.lookup
      have n2 := ft.init.bind ob
      repeat (any_goals first | assumption | wp_step)
      refine codeAny_mono (codeAny_call_builtin ft.init.plain F.entry_object_init (ft.init.check _ _ _ _ _ _ _ _ hT (hok ob) (object_init_meets (rest := args) n1 m1 hne P w A.in1 (wants (fun r s2 => r = .none ∧ Q ob s2) E) s1 ⟨hT, rfl, hq⟩))) fun r2 s2 hr2 => ?_
      cases r2 with
      | error e => exact hr2
      | ok fl2 =>
        cases fl2 with
        | ret r =>
          obtain ⟨e, hq2⟩ := hr2
          subst e
          repeat (any_goals first | assumption | wp_step)
        | _ => exact hr2.elim
    | _ => exact hr.elim
theorem str_own {Q : Value → Shared → Prop} (hu : A.units + 2 < cLine) (X : K.In s.heap) (I : InstAt s.heap x ox C od) (hs : findIn K (.ref C) "__str__" = some (some (.ref f))) (hf : isFn K (.ref f) = true)
    (h : wpAny (model P w) A.in1.in1 (call (.ref f) [.ref x]) (fun r s' => ∃ z t, r = .str z t ∧ Q (.str z t) s') E s) : wpAny (model P w) A (call (.type "str") [.ref x]) Q E s := by
  refine type_in F.called_str (by decide) (F.typeCall_str_1 _) (F.newCall_str_1 _) (fun ob => F.args_object_init_2 ob _) F.entry_str_new
    (S := fun (A' : Around) (R : Result → Shared → Prop) (s' : Shared) => wpAny (model P w) A'.in1 (call (.ref f) [.ref x]) (fun r s2 => ∃ z t, r = .str z t ∧ R (.ok (.ret (.str z t))) s2) (fun e s2 => R (.error e) s2) s' ∧ A'.units + 1 < cLine ∧ K.In s'.heap ∧ InstAt s'.heap x ox C od)
    (fun A' R s' hS => ?_) ⟨?_, by show A.units + 1 + 1 < cLine; omega, X, I⟩
  · obtain ⟨hc, hz, X', I'⟩ := hS
    rw [str_new_tree]
    refine wpAny_bind (wpAny_pure ?_)
    refine wpAny_bind (wpAny_of_eq isSubtype_str_str ?_)
    refine wpAny_bind ?_
    unfold Builtin.Str.strOf
    show wpAny _ _ (cRoomFor "str" [.ref x] >>= _) _ _ _
    refine wpAny_bind (wpAny_cRoomFor (by show A'.units + 1 < cLine; omega) ?_)
    refine wpAny_bind (m := callSpecial? (.ref x) (Str.ofString "__str__")) (special_fn X' I' hs (beq_iff_eq.mp hf) (wpAny_mono hc (fun r s2 z => ?_) fun _ _ e => e))
    obtain ⟨z, t, rfl, q⟩ := z
    exact wpAny_bind (wpAny_pure (wpAny_pure (wpAny_pure q)))
  · exact wpAny_mono h (fun r s2 z => by
      obtain ⟨z, t, rfl, q⟩ := z
      exact ⟨z, t, rfl, typeIs_str _ _ _, q⟩) fun _ _ e => e
/-! ### x[i] = v -/
theorem set_own {M : Model} {i v : Value} {Q : Unit → Shared → Prop} (X : K.In s.heap) (I : InstAt s.heap x ox C od) (hq : noSeq K C = true) (hs : findIn K (.ref C) "__setitem__" = some (some (.ref f))) (hf : isFn K (.ref f) = true)
    (h : wpAny M A (call (.ref f) [.ref x, i, v]) (fun _ s' => Q () s') E s) : wpAny M A (setItem (.ref x) i v) Q E s := by
  unfold setItem sequenceKey
  refine wpAny_holding (wpAny_bind (wpAny_bind (I.type.here ?_)))
  refine wpAny_bind ((anyM_none X hq).here ?_)
  rw [if_pos (show (!false) = true from rfl)]
  exact wpAny_pure (wpAny_bind (special_fn X I hs (beq_iff_eq.mp hf) (wpAny_mono h (fun _ _ z => wpAny_pure z) fun _ _ z => z)))

/-! ### ==, != -/
/-- how a comparison goes on behind its two tries -/
def Tail (P : Program) (w : World) (A : Around) (E : Value → Shared → Prop) (op : CmpOp) (x : Addr) (b : Value) (Q : Value → Shared → Prop) : Option Value → Shared → Prop := fun r s1 => match r with
  | some v => Q v s1
  | none => wpAny (model P w) A (tryCompare b (cmpInfo op).2.2 (.ref x)) (fun r s2 => match r with
    | some v => Q v s2
    | none => wpAny (model P w) A (isSame (.ref x) b) (fun k s3 => Q (.bool (if op = .Eq then k else !k)) s3) E s2) E s1
theorem rc_of {op : CmpOp} {Q : Value → Shared → Prop} (hop : op = .Eq ∨ op = .NotEq) (hu : A.units < cLine) (X : K.In s.heap) (I : InstAt s.heap x ox C od) (hb : Looks (model P w) s.heap (typeOf b) tb) (hn : tb = .ref C ∨ subIn K tb (.ref C) = some false)
    (one : wpAny (model P w) A (tryCompare (.ref x) (cmpInfo op).2.1 b) (Tail P w A E op x b Q) E s) : wpAny (model P w) A (richCompare op (.ref x) b) Q E s := by
  have e0 : (Value.ref C != tb) = true → subIn K tb (.ref C) = some false := fun q => hn.elim (fun e => by rw [e] at q; simp at q) id
  rcases hop with rfl | rfl
  all_goals
    unfold richCompare
    simp only [oneThing_ref]
    refine wpAny_holding (wpAny_bind (wpAny_cRoomFor hu ?_))
    refine wpAny_bind (I.type.here (wpAny_bind (hb.here ?_)))
    split
  all_goals first
    | (rename_i q; refine wpAny_bind ((looks_subIn X (e0 q)).here ?_))
    | refine wpAny_bind (wpAny_pure ?_)
  all_goals
    simp only [Bool.false_eq_true, if_false, Bool.not_false, if_true]
    refine wpAny_bind (wpAny_mono one (fun r s1 z => ?_) fun _ _ e => e)
    cases r with
    | some v => exact wpAny_pure z
    | none =>
      refine wpAny_bind (wpAny_mono z (fun r s2 z2 => ?_) fun _ _ e => e)
      cases r with
      | some v => exact wpAny_pure z2
      | none => exact wpAny_bind (wpAny_rule (wpAny_bind (wpAny_mono z2 (fun k s3 q => wpAny_pure q) fun _ _ e => e)))
/-- own class without == of its own; with one at f -/
structure EqU (K : Frag) (C : Addr) : Prop where
  eq : findIn K (.ref C) "__eq__" = some (some (.builtin "object.__eq__"))
  ne : findIn K (.ref C) "__ne__" = some (some (.builtin "object.__ne__"))
  mro : mroIn K C (.type "object") = some true
structure EqO (K : Frag) (C f : Addr) : Prop where
  eq : findIn K (.ref C) "__eq__" = some (some (.ref f))
  fn : isFn K (.ref f) = true
  ne : findIn K (.ref C) "__ne__" = some (some (.builtin "object.__ne__"))
  mro : mroIn K C (.type "object") = some true
/-- a built-in special method that is bound, called -/
theorem bound_b {name : Str} {id : String} {args : List Value} {Q : Option Value → Shared → Prop} (X : K.In s.heap) (I : InstAt s.heap x ox C od) (hs : findIn K (.ref C) name = some (some (.builtin id))) {T : String} (sl : Slot T name id)
    (h : wpAny (model P w) A (call (.builtin id) (.ref x :: args)) (fun v => Q (some v)) E s) : wpAny (model P w) A (callSpecialIfBound? (.ref x) name args) Q E s := by
  simp only [callSpecialIfBound?, bindSpecialIfBound?]
  refine wpAny_holding (wpAny_bind (wpAny_bind (wpAny_bind (I.type.here ((looks_findIn X hs).here ?_)))))
  refine wpAny_bind (wpAny_askSetting (wpAny_ite ?_))
  have g : wpAny (model P w) A (call (.builtin id) ([.ref x] ++ args) >>= fun v => pure (some v)) Q E s := wpAny_bind (wpAny_mono h (fun v s' z => wpAny_pure z) fun _ _ z => z)
  split
  · exact wpAny_bind (wpAny_of_eq (sl.bind _) (wpAny_pure (by exact g)))
  · exact wpAny_tryCatch (wpAny_bind (wpAny_of_eq (sl.bind _) (wpAny_pure (by exact g))))
/-- x is not b, whatever the state -/
def Apart (x : Addr) (b : Value) (s : Shared) : Prop := ∀ (M : Model) (A : Around) (E : Value → Shared → Prop) (R : Bool → Shared → Prop), R false s → wpAny M A (isSame (.ref x) b) R E s
theorem apart_none : Apart x .none s := fun _ _ _ _ h => wpAny_of_eq (rfl : isSame (.ref x) .none = pure false) h
theorem apart_ref {y : Addr} {oy : Obj} {o1 : Obj} (hxy : x ≠ y) (hx : s.heap.get? x = some o1) (hc : o1.cls ≠ .type "tuple") (hy : s.heap.get? y = some oy) : Apart x (.ref y) s := fun _ _ _ _ h => wpAny_isSame_ref_other hxy hx hy hc h
theorem objEq_apart {Q : Value → Shared → Prop} (X : K.In s.heap) (I : InstAt s.heap x ox C od) (hm : mroIn K C (.type "object") = some true) (ap : Apart x b s) (hq : Q .notImplemented s) : wpAny (model P w) A (call (.builtin "object.__eq__") [.ref x, b]) Q E s := by
  refine wpAny_call (codeAny_call_builtin F.cmp_object.eq.plain F.cmpEntry_eq (check_slot F.cmpKind_eq F.cmpSplit_eq (I.type.andThen (looks_mroIn X hm)) (F.cmpArgs_eq _ _) ?_))
  unfold Builtin.«object.__eq__»
  refine wpAny_bind (m := slotArgs "__eq__" 1 _) (wpAny_of_eq (a := (Value.ref x, [b])) rfl ?_)
  refine wpAny_bind (m := isSame (.ref x) b) (ap _ _ _ _ ?_)
  exact wpAny_pure hq
theorem try_eqU {Q : Option Value → Shared → Prop} (X : K.In s.heap) (I : InstAt s.heap x ox C od) (u : EqU K C) (ap : Apart x b s) (hq : Q none s) : wpAny (model P w) A (tryCompare (.ref x) "__eq__" b) Q E s := by
  unfold tryCompare
  exact wpAny_bind (bound_b X I u.eq F.cmp_object.eq (objEq_apart X I u.mro ap (wpAny_pure hq)))
theorem try_eqO {Q : Option Value → Shared → Prop} (X : K.In s.heap) (I : InstAt s.heap x ox C od) (u : EqO K C f) (h : wpAny (model P w) A (call (.ref f) [.ref x, b]) (fun v s' => ∃ k, v = .bool k ∧ Q (some (.bool k)) s') E s) : wpAny (model P w) A (tryCompare (.ref x) "__eq__" b) Q E s := by
  unfold tryCompare
  refine wpAny_bind (ifBound_K X I u.eq u.fn (wpAny_mono h (fun v s' z => ?_) fun _ _ e => e))
  obtain ⟨k, rfl, q⟩ := z
  exact wpAny_pure q
theorem try_neU {Q : Option Value → Shared → Prop} (hu : A.units + 1 < cLine) (X : K.In s.heap) (I : InstAt s.heap x ox C od) (u : EqU K C) (ap : Apart x b s) (hq : Q none s) : wpAny (model P w) A (tryCompare (.ref x) "__ne__" b) Q E s := by
  unfold tryCompare
  refine wpAny_bind (bound_b X I u.ne F.cmp_object.ne ?_)
  refine wpAny_call (codeAny_call_builtin F.cmp_object.ne.plain F.cmpEntry_ne (check_slot F.cmpKind_ne F.cmpSplit_ne (I.type.andThen (looks_mroIn X u.mro)) (F.cmpArgs_ne _ _) ?_))
  unfold Builtin.«object.__ne__»
  have hu1 : A.in1.units < cLine := hu
  refine wpAny_bind (m := slotArgs "__ne__" 1 _) (wpAny_of_eq (a := (Value.ref x, [b])) rfl ?_)
  refine wpAny_bind (m := cRoomFor "comparison" [.ref x, b]) (wpAny_cRoomFor hu1 ?_)
  refine wpAny_bind (bound_b X I u.eq F.cmp_object.eq (objEq_apart X I u.mro ap ?_))
  exact wpAny_pure (wpAny_pure hq)
theorem try_neO {Q : Option Value → Shared → Prop} (hu : A.units + 1 < cLine) (X : K.In s.heap) (I : InstAt s.heap x ox C od) (u : EqO K C f) (h : wpAny (model P w) A.in1 (call (.ref f) [.ref x, b]) (fun v s' => ∃ k, v = .bool k ∧ Q (some (.bool (!k))) s') E s) :
    wpAny (model P w) A (tryCompare (.ref x) "__ne__" b) Q E s := by
  unfold tryCompare
  refine wpAny_bind (bound_b X I u.ne F.cmp_object.ne ?_)
  refine wpAny_call (codeAny_call_builtin F.cmp_object.ne.plain F.cmpEntry_ne (check_slot F.cmpKind_ne F.cmpSplit_ne (I.type.andThen (looks_mroIn X u.mro)) (F.cmpArgs_ne _ _) ?_))
  unfold Builtin.«object.__ne__»
  have hu1 : A.in1.units < cLine := hu
  refine wpAny_bind (m := slotArgs "__ne__" 1 _) (wpAny_of_eq (a := (Value.ref x, [b])) rfl ?_)
  refine wpAny_bind (m := cRoomFor "comparison" [.ref x, b]) (wpAny_cRoomFor hu1 ?_)
  refine wpAny_bind (ifBound_K X I u.eq u.fn (wpAny_mono h (fun v s' z => ?_) fun _ _ e => e))
  obtain ⟨k, rfl, q⟩ := z
  exact wpAny_bind (wpAny_truthy_bool (wpAny_pure (wpAny_pure q)))
end
end RvC
set_option Elab.async false
set_option linter.all false
set_option maxRecDepth 100000
set_option maxHeartbeats 4000000
/-! RvD: built-in values decline instances. -/
namespace RvC
open PySem PySem.Spec PySem.W PyProof.Rows PySem.SeqAt
section
variable {P : Program} {w : World} {A : Around} {E : Value → Shared → Prop} {s : Shared} {K : Frag} {x C f : Addr} {ox : Obj} {od : Option Obj} {b tb : Value}
/-! ### built-in values decline instances -/
/-- b's own try with the instance x gives nothing -/
def Decl (P : Program) (w : World) (A : Around) (b : Value) (nm : Str) (x : Addr) (s : Shared) : Prop := ∀ (E : Value → Shared → Prop) (Q : Option Value → Shared → Prop), Q none s → wpAny (model P w) A (tryCompare b nm (.ref x)) Q E s
theorem decl_none_eq : Decl P w A .none (cmpInfo .Eq).2.2 x s := fun E Q h => wpAny_tryCompare_declines (show s.TypeIs .none "NoneType" from rfl) F.slot_NoneType_eq_refl (call_gives F.slot_NoneType_eq_refl rfl F.entry_NoneType_eq (F.args_NoneType_eq_2 _ _) (NoneType___eq___none_ref_0 x) ⟨rfl, h⟩)
theorem decl_none_ne : Decl P w A .none (cmpInfo .NotEq).2.2 x s := fun E Q h => wpAny_tryCompare_declines (show s.TypeIs .none "NoneType" from rfl) F.slot_NoneType_ne_refl (call_gives F.slot_NoneType_ne_refl rfl F.entry_NoneType_ne (F.args_NoneType_ne_2 _ _) (NoneType___ne___none_ref_0 x) ⟨rfl, h⟩)
theorem inst_not {M : Model} {T : String} {Q : Bool → Shared → Prop} (X : K.In s.heap) (I : InstAt s.heap x ox C od) (e : subIn K (.ref C) (.type T) = some false) (h : Q false s) : wpAny M A (isInstance (.ref x) (.type T)) Q E s := by
  unfold isInstance
  exact wpAny_bind (I.type.here ((looks_subIn X e).here h))
theorem decl_tup_eq {t : Addr} (X : K.In s.heap) (I : InstAt s.heap x ox C od) (e : subIn K (.ref C) (.type "tuple") = some false) (hT : s.TypeIs (.ref t) "tuple") : Decl P w A (.ref t) (cmpInfo .Eq).2.2 x s := fun E Q h => by
  refine wpAny_tryCompare_declines hT F.slot_tuple_eq_refl ?_
  refine call_meetsIn F.slot_tuple_eq_refl hT F.entry_tuple_eq (F.args_tuple_eq_2 _ _) (S := fun (A' : Around) (R : Result → Shared → Prop) (s' : Shared) => s' = s ∧ R (.ok (.ret .notImplemented)) s') (fun A' R s' hS => ?_) ⟨rfl, rfl, h⟩
  obtain ⟨rfl, hR⟩ := hS
  unfold Builtin.«tuple.__eq__»
  refine wpAny_bind (m := slotArgs "__eq__" 1 _) (wpAny_of_eq (a := (Value.ref t, [Value.ref x])) rfl ?_)
  refine wpAny_bind (m := isInstance (.ref x) (.type "tuple")) (inst_not X I e ?_)
  rw [if_pos (show (!false) = true from rfl)]
  exact wpAny_pure hR
theorem decl_tup_ne {t : Addr} (X : K.In s.heap) (I : InstAt s.heap x ox C od) (e : subIn K (.ref C) (.type "tuple") = some false) (hT : s.TypeIs (.ref t) "tuple") : Decl P w A (.ref t) (cmpInfo .NotEq).2.2 x s := fun E Q h => by
  refine wpAny_tryCompare_declines hT F.slot_tuple_ne_refl ?_
  refine call_meetsIn F.slot_tuple_ne_refl hT F.entry_tuple_ne (F.args_tuple_ne_2 _ _) (S := fun (A' : Around) (R : Result → Shared → Prop) (s' : Shared) => s' = s ∧ R (.ok (.ret .notImplemented)) s') (fun A' R s' hS => ?_) ⟨rfl, rfl, h⟩
  obtain ⟨rfl, hR⟩ := hS
  unfold Builtin.«tuple.__ne__»
  refine wpAny_bind (m := slotArgs "__ne__" 1 _) (wpAny_of_eq (a := (Value.ref t, [Value.ref x])) rfl ?_)
  refine wpAny_bind (m := isInstance (.ref x) (.type "tuple")) (inst_not X I e ?_)
  rw [if_pos (show (!false) = true from rfl)]
  exact wpAny_pure hR
end
end RvC
set_option Elab.async false
set_option linter.all false
set_option maxRecDepth 100000
set_option maxHeartbeats 4000000
/-! Rv14: special methods of own classes: len, x[i], x[i] = v, in, truth, str, ==, !=; methods and classes without arguments; try without an exception. -/
namespace Rv
open PySem PySem.Spec L2
open PyProof.Rows hiding St

section
variable {X : Cx} {W : WX} {e a b c o tg : Expr} {es rest : List Expr} {m n mo mx : M D} {ms : M (List D)} {pos pos' p p1 apos cpos : Pos} {x f : Str} {F RF : Fn} {cl rc : Str} {k : Nat} {fa : Addr} {fd : FuncData} {ps : List Str}
theorem GE.only_any {α β : Type} {R : List Addr → Hp → α → β → Prop} {π : List Addr} {σ σ' : L2.St} {H : Hp} {Q : β → Hp → Prop} {o : Out α} (h : GE X W R π σ H Q o.only) : GE X W R π σ' H Q o := by
  cases o with
  | ok d μ' => exact h
  | exc c ns ds μ' => exact h.elim
  | stuck => exact h.elim
/-- an own def called in a context below -/
theorem call_a {A' : Around} {pins : List (Addr × Obj)} {s : Shared} {σ : L2.St} {H : Hp} {Q : VK} {π : List Addr} {μ : Store} {us : List Value} {vs : List V} {ds : List D} (hF : FnQ X.prog X.w X.K X.mg X.base k fa fd ps F) (hr : RoomQ k A') (e0 : Env0 X.prog X.w X.K X.mg X.base A' X.stack s H) (tk : Takes X W) (I : Inv X pins σ H s)
    (hb : Binds X.K fd ps []) (rv : Vals vs us) (sm : SimM X.K π μ H) (rl : RpL X.K π H ds vs) (hn : ds.length = ps.length) (h : GE X W (Rp X.K) π σ H Q (F ds μ)) : wpAny (model X.prog X.w) A' (PySem.call (.ref fa) us) (EP X pins σ Q) X.xe s := by
  have l1 := rv.length
  have l2 := rl.length
  have bd := hb s us I.kIn (by rw [List.append_nil]; omega)
  rw [List.append_nil] at bd
  exact wpAny_call (codeAny_mono (hF.run A' X.stack s H ⟨us, []⟩ us vs Q _ hr e0 bd rv (spG_of sm rl hn h)) fun _ _ hq => back_q tk I hq)
/-- the instance that stands for d -/
theorem own_at {π : List Addr} {μ : Store} {σ : L2.St} {H : Hp} {d : D} {v : V} {u : Value} {ns : List Str} {ds : List D} {pins : List (Addr × Obj)} {s : Shared} (sm : SimM X.K π μ H) (r : Rp X.K π H d v) (h : asI μ d = some (cl, ns, ds)) (I : Inv X pins σ H s) (rx : RelV v u) :
    ∃ a ox od, v = .ref a ∧ u = .ref a ∧ PySem.W.InstAt s.heap a ox (He.ga X.K cl) (some od) ∧ ox.cls = .ref (He.ga X.K cl) := by
  obtain ⟨a, dx, fs, rfl, k1, _⟩ := asI_view sm r h
  obtain ⟨mA, Ob, _⟩ := ins_get I.hok k1
  obtain ⟨od, J, _⟩ := Ob.look
  exact ⟨a, _, od, rfl, rx, J, J.cls⟩
theorem RoomQ.in2 {A : Around} (r : RoomQ (k + 2) A) : RoomQ k A.in1.in1 := r.in1.in1
/-- what is asked of a special method -/
structure Spc (X : Cx) (cl nm : Str) (fa : Addr) (fd : FuncData) (ps : List Str) (k : Nat) (F : Fn) : Prop where
  fn : FnQ X.prog X.w X.K X.mg X.base k fa fd ps F
  rm : RoomQ (k + 2) X.A
  bd : Binds X.K fd ps []
  mt : Meth X.K (He.ga X.K cl) nm fa
def isC (μ : Store) (cl : Str) (d : D) : Bool := match asI μ d with
  | some (c, _, _) => decide (c = cl)
  | none => false
theorem isC_ok {μ : Store} {d : D} (h : isC μ cl d = true) : ∃ ns ds, asI μ d = some (cl, ns, ds) := by
  unfold isC at h
  split at h
  · rename_i c ns ds e
    have := of_decide_eq_true h
    subst this
    exact ⟨ns, ds, e⟩
  · cases h
/-- len(x) -/
def fLenK (cl : Str) (F : Fn) : Fn := fun ds μ => match ds with
  | [d] => if isC μ cl d = true then (F [d] μ).only.bind fun r μ1 => (match r with
    | .int n => if 0 ≤ n ∧ n < 2 ^ 63 then .ok (.int n) μ1 else .stuck
    | _ => .stuck) else .stuck
  | _ => .stuck
theorem cd_lenK (S : Spc X cl "__len__" fa fd ps k F) (hl : ps.length = 1) (tk : Takes X W) : CallD X W (.builtin "len") (fLenK cl F) := by
  intro π μ σ H Q ds vs sm rl g σ' pins s us I rv
  unfold fLenK at g
  split at g
  · rename_i d
    by_cases hc : isC μ cl d = true
    · rw [if_pos hc] at g
      obtain ⟨ns, ds, e⟩ := isC_ok hc
      obtain ⟨v, rfl, r1⟩ := repL1 rl
      obtain ⟨u, rfl, ru⟩ := vals1 rv
      obtain ⟨a, ox, od, rfl, rfl, J, _⟩ := own_at sm r1 e I ru
      obtain ⟨m, Fr⟩ := I.fr
      cases eF : F [d] μ with
      | ok r μ1 =>
        rw [eF] at g
        refine PySem.W.len_K Fr I.mod.kin J S.mt.at_ S.mt.fn (wpAny_mono (call_a S.fn (S.rm.mono (Nat.le_succ _)).in1 I.env0.in1 tk I S.bd (Paired.cons (a := V.ref a) ru .nil) sm (RepL.one r1) (by rw [hl]; rfl) (Q := fun x H' => ∃ n : Int, x = .int n ∧ 0 ≤ n ∧ n < 2 ^ 63 ∧ Q (.int n) H') ?_) (fun u2 s2 z => ?_) fun _ _ z => z)
        · rw [eF]
          intro x H' π' g' s' r'
          cases r with
          | int n =>
            cases rep_int r'
            have g2 : GE X W (Rp X.K) π σ H Q (Out.only (if 0 ≤ n ∧ n < 2 ^ 63 then .ok (.int n) μ1 else .stuck)) := g
            by_cases hn : 0 ≤ n ∧ n < 2 ^ 63
            · rw [if_pos hn] at g2
              exact ⟨n, rfl, hn.1, hn.2, g2 _ H' π' g' s' r'⟩
            · rw [if_neg hn] at g2; exact g2.elim
          | _ => exact (show False from g).elim
        · obtain ⟨x, H', I', rx, n, rfl, h0, h1, q⟩ := z
          obtain ⟨t, rfl⟩ := rx
          exact ⟨⟨h0, h1⟩, .int n, H', I'.tok _, ⟨_, rfl⟩, q⟩
      | exc c ns ds μ1 => rw [eF] at g; exact (show False from g).elim
      | stuck => rw [eF] at g; exact (show False from g).elim
    · rw [if_neg hc] at g; exact (show False from g).elim
  · exact (show False from g).elim
/-- str(x) -/
def fStrK (cl : Str) (F : Fn) : Fn := fun ds μ => match ds with
  | [d] => if isC μ cl d = true then (F [d] μ).only.bind fun r μ1 => (match r with
    | .str n => .ok (.str n) μ1
    | _ => .stuck) else .stuck
  | _ => .stuck
theorem cd_strK (S : Spc X cl "__str__" fa fd ps k F) (hl : ps.length = 1) (tk : Takes X W) : CallD X W (.type "str") (fStrK cl F) := by
  intro π μ σ H Q ds vs sm rl g σ' pins s us I rv
  unfold fStrK at g
  split at g
  · rename_i d
    by_cases hc : isC μ cl d = true
    · rw [if_pos hc] at g
      obtain ⟨ns, ds, e⟩ := isC_ok hc
      obtain ⟨v, rfl, r1⟩ := repL1 rl
      obtain ⟨u, rfl, ru⟩ := vals1 rv
      obtain ⟨a, ox, od, rfl, rfl, J, _⟩ := own_at sm r1 e I ru
      cases eF : F [d] μ with
      | ok r μ1 =>
        rw [eF] at g
        refine RvC.str_own (by have := S.rm.rm.units; omega) I.kIn J S.mt.at_ S.mt.fn (wpAny_mono (call_a S.fn S.rm.in2 I.env0.in1.in1 tk I S.bd (Paired.cons (a := V.ref a) ru .nil) sm (RepL.one r1) (by rw [hl]; rfl) (Q := fun x H' => ∃ n : Str, x = .str n ∧ Q (.str n) H') ?_) (fun u2 s2 z => ?_) fun _ _ z => z)
        · rw [eF]
          intro x H' π' g' s' r'
          cases r with
          | str n =>
            cases rep_str r'
            exact ⟨_, rfl, (show GE X W (Rp X.K) π σ H Q (.ok (.str n) μ1) from g) _ H' π' g' s' r'⟩
          | _ => exact (show False from g).elim
        · obtain ⟨x, H', I', rx, n, rfl, q⟩ := z
          obtain ⟨t, rfl⟩ := rx
          exact ⟨n, t, rfl, .str n, H', I', ⟨t, rfl⟩, q⟩
      | exc c ns ds μ1 => rw [eF] at g; exact (show False from g).elim
      | stuck => rw [eF] at g; exact (show False from g).elim
    · rw [if_neg hc] at g; exact (show False from g).elim
  · exact (show False from g).elim
/-- x[i] -/
def dItem (cl : Str) (F : Fn) : D → D → Store → Out D := fun d1 d2 μ => if isC μ cl d1 = true then F [d1, d2] μ else .stuck
theorem SE.ixK (S : Spc X cl "__getitem__" fa fd ps k F) (hl : ps.length = 2) (hf : PySem.W.fnIn X.K fa = true) (tk : Takes X W) (ha : SE X W a m) (hb : SE X W b n) (hs : ∀ v u, subscripted b true v u = runValue (.builtin "lifetime.subscript" ⟨[v, u], []⟩) := by intro _ _; with_unfolding_all rfl) :
    SE X W (.Subscript a b pos) (m2 (dItem cl F) m n) := by
  intro π ρ μ σ H Q sm sl h pins s I
  refine Subscript_ (binT pe_we pe_we I (R := fun x y H2 => ∀ (pins : List (Addr × Obj)) (s : Shared) (v u : Value), Inv X pins σ H2 s → RelV x v → RelV y u → wpAny (model X.prog X.w) X.A (subscriptTail a b v u) (EP X pins σ Q) X.xe s)
    (SE.two ha hb sm sl h fun d1 d2 μ2 x y H2 π2 g s2 l2 r1 r2 h2 pins s v u I rx ry => ?_) fun v u s2 x y H2 I2 rx ry q => q pins s2 v u I2 rx ry)
  unfold dItem at h2
  by_cases hc : isC μ2 cl d1 = true
  · rw [if_pos hc] at h2
    obtain ⟨ns, ds, e⟩ := isC_ok hc
    obtain ⟨pa, ox, od, rfl, rfl, J, _⟩ := own_at s2 r1 e I rx
    obtain ⟨m', Fr⟩ := I.fr
    exact PySem.W.sub_K Fr I.mod.kin J S.mt.at_ hf S.mt.fn (call_a S.fn (S.rm.mono (Nat.le_succ _)).in1 I.env0.in1 tk I S.bd (Paired.cons (a := V.ref pa) rx (.cons ry .nil)) s2 (.cons r1 (.one r2)) (by rw [hl]; rfl) h2) (hs _ _)
  · rw [if_neg hc] at h2; exact h2.elim
/-- x[i] = v -/
def tgSubK (cl : Str) (F : Fn) (mo mi : M D) : D → C := fun d ρ μ => (mo ρ μ).bindS ρ fun o μ1 => (mi ρ μ1).bindS ρ fun i μ2 => if isC μ2 cl o = true then (F [o, i, d] μ2).bindS ρ fun _ μ3 => .nx ρ μ3 else .stuck
theorem SGS.subK (S : Spc X cl "__setitem__" fa fd ps k F) (hl : ps.length = 3) (hq : PySem.W.noSeq X.K (He.ga X.K cl) = true) (tk : Takes X W) (ho : SE X W o mo) (hi : SE X W a mx) (ha : ∀ v, assign (.Subscript o a pos) X.env v = (do
      let ov ← holding [v] (eval o X.env)
      let iv ← holding [v, ov] (eval a X.env)
      standAt pos
      holding [v, ov, iv] (setItem ov iv v)
      release [v, ov, iv] []) := by intro _; rfl) : SGS X W (.Subscript o a pos) (tgSubK cl F mo mx) := fun π ρ μ σ H d v Dn sm sl r h => by
  intro pins s u I ru
  rw [ha]
  refine wpAny_bind (wpAny_holding (thn (ho π ρ μ σ H (fun x H1 => WE X a σ H1 fun y H2 => ∀ (pins : List (Addr × Obj)) (s : Shared) (ov iv : Value), Inv X pins σ H2 s → RelV x ov → RelV y iv → wpAny (model X.prog X.w) X.A (setItem ov iv u) (fun _ s' => ∃ H', Inv X pins σ H' s' ∧ Dn.nx σ H') X.xe s) sm sl (GE.bindS sl h fun d1 μ1 x H1 π1 e1 g1 s1 r1 h1 => ?_) pins s I) fun ov s1 z => ?_))
  · refine hi π1 ρ μ1 σ H1 _ s1 (g1.loc sl) (GE.bindS (g1.loc sl) h1 fun d2 μ2 y H2 π2 e2 g2 s2 r2 h2 pins s ov iv I ro ri => ?_)
    by_cases hc : isC μ2 cl d1 = true
    · rw [if_pos hc] at h2
      obtain ⟨ns, ds, e⟩ := isC_ok hc
      obtain ⟨pa, ox, od, rfl, rfl, J, _⟩ := own_at s2 (g2.rep r1) e I ro
      refine RvC.set_own I.kIn J hq S.mt.at_ S.mt.fn (wpAny_mono (call_a S.fn (S.rm.mono (Nat.le_add_right _ 2)) I.env0 tk I S.bd (Paired.cons (a := V.ref pa) ro (.cons ri (.cons ru .nil))) s2 (.cons (g2.rep r1) (.cons r2 (.one ((g1.trans g2).rep r)))) (by rw [hl]; rfl) (Q := fun _ H' => Dn.nx σ H') (GE.bindS ((g1.trans g2).loc sl) h2 fun d3 μ3 z H3 π3 e3 g3 s3 r3 h3 => h3 σ H3 π3 Gr.refl s3 (((g1.trans g2).trans g3).loc sl))) (fun u2 s2 z => ?_) fun _ _ z => z)
      obtain ⟨v', H', I', _, q⟩ := z
      exact ⟨H', I', q⟩
    · rw [if_neg hc] at h2; exact h2.elim
  · obtain ⟨x, H1, I1, rx, q1⟩ := z
    refine wpAny_bind (wpAny_holding (thn (q1 pins s1 I1) fun iv s2 z => ?_))
    obtain ⟨y, H2, I2, ry, q2⟩ := z
    refine wpAny_bind (wpAny_standAt (wpAny_bind (wpAny_holding (thn (q2 pins s2 ov iv I2 rx ry) fun _ s3 z => ?_))))
    obtain ⟨H3, I3, q3⟩ := z
    exact wpAny_release ⟨σ, H3, I3, q3⟩
/-- v in x, v not in x: the own __contains__ gives True or False -/
def blOut (b : Bool) (o : Out D) : Out D := o.only.bind fun r μ1 => match r with
  | .bl k => .ok (.bl (b ^^ k)) μ1
  | _ => .stuck
theorem blOut_ok {b : Bool} {o : Out D} {π : List Addr} {σ : L2.St} {H : Hp} {Q : VK} (h : GE X W (Rp X.K) π σ H Q (blOut b o)) : GE X W (Rp X.K) π σ H (fun x H' => ∃ k, x = .bl k ∧ Q (.bl (b ^^ k)) H') o := by
  unfold blOut at h
  cases o with
  | ok d μ' =>
    intro v H' π' g s r
    cases d with
    | bl k =>
      cases rep_bl r
      exact ⟨k, rfl, (show GE X W (Rp X.K) π σ H Q (.ok (.bl (b ^^ k)) μ') from h) _ H' π' g s (by unfold Rp Rep; rfl)⟩
    | _ => exact (show False from h).elim
  | exc c ns ds μ' => exact (show False from h).elim
  | stuck => exact (show False from h).elim
def dInK (b : Bool) (cl : Str) (F : Fn) : D → D → Store → Out D := fun d1 d2 μ => if isC μ cl d2 = true then blOut b (F [d2, d1] μ) else .stuck
theorem opb_inK (S : Spc X cl "__contains__" fa fd ps k F) (hl : ps.length = 2) (tk : Takes X W) : OpB X W (compareOp .In) (dInK false cl F) := by
  intro π μ σ H Q d1 d2 x y sm r1 r2 h pins s v u I rx ry
  unfold dInK at h
  by_cases hc : isC μ cl d2 = true
  · rw [if_pos hc] at h
    obtain ⟨ns, ds, e⟩ := isC_ok hc
    obtain ⟨pa, ox, od, rfl, rfl, J, _⟩ := own_at sm r2 e I ry
    obtain ⟨m', Fr⟩ := I.fr
    refine PySem.W.in_K Fr I.mod.kin J S.mt.at_ S.mt.fn (wpAny_mono (call_a S.fn (S.rm.mono (Nat.le_add_right _ 2)) I.env0 tk I S.bd (Paired.cons (a := V.ref pa) ry (.cons rx .nil)) sm (.cons r2 (.one r1)) (by rw [hl]; rfl) (blOut_ok h)) (fun u2 s2 z => ?_) fun _ _ z => z)
    obtain ⟨w, H', I', rw', k, rfl, q⟩ := z
    cases rw'
    refine wpAny_truthy_bool ⟨.bl k, H', I', rfl, ?_⟩
    simpa using q
  · rw [if_neg hc] at h; exact h.elim
theorem opb_notinK (S : Spc X cl "__contains__" fa fd ps k F) (hl : ps.length = 2) (tk : Takes X W) : OpB X W (compareOp .NotIn) (dInK true cl F) := by
  intro π μ σ H Q d1 d2 x y sm r1 r2 h pins s v u I rx ry
  unfold dInK at h
  by_cases hc : isC μ cl d2 = true
  · rw [if_pos hc] at h
    obtain ⟨ns, ds, e⟩ := isC_ok hc
    obtain ⟨pa, ox, od, rfl, rfl, J, _⟩ := own_at sm r2 e I ry
    obtain ⟨m', Fr⟩ := I.fr
    refine PySem.W.notIn_K Fr I.mod.kin J S.mt.at_ S.mt.fn (wpAny_mono (call_a S.fn (S.rm.mono (Nat.le_add_right _ 2)) I.env0 tk I S.bd (Paired.cons (a := V.ref pa) ry (.cons rx .nil)) sm (.cons r2 (.one r1)) (by rw [hl]; rfl) (blOut_ok h)) (fun u2 s2 z => ?_) fun _ _ z => z)
    obtain ⟨w, H', I', rw', k, rfl, q⟩ := z
    cases rw'
    refine wpAny_truthy_bool ⟨.bl (!k), H', I', rfl, ?_⟩
    simpa using q
  · rw [if_neg hc] at h; exact h.elim
/-- the truth of x -/
def mTK (cl : Str) (F : Fn) (m : M D) : M Bool := fun ρ μ => (m ρ μ).bind fun d μ1 => if isC μ1 cl d = true then (F [d] μ1).only.bind outB else .stuck
theorem ST.own (S : Spc X cl "__bool__" fa fd ps k F) (hl : ps.length = 1) (tk : Takes X W) (ha : SE X W a m) (he : ∀ whole, isTrue a X.env whole = (do let v ← whole; standAt a.pos; holding [v] (truthy v)) := by intro _; rfl) : ST X W a (mTK cl F m) := by
  intro π ρ μ σ H Q sm sl h pins s I
  rw [he]
  refine wpAny_bind (thn (ha π ρ μ σ H (fun x H1 => ∀ pins s u, Inv X pins σ H1 s → RelV x u → wpAny (model X.prog X.w) X.A (truthy u) (TP X pins σ Q) X.xe s) sm sl (GE.bind h fun d μ1 x H1 π1 e1 g1 s1 r1 h1 pins s u I ru => ?_) pins s I) fun u s1 z => ?_)
  · by_cases hc : isC μ1 cl d = true
    · rw [if_pos hc] at h1
      obtain ⟨ns, ds, e⟩ := isC_ok hc
      obtain ⟨pa, ox, od, rfl, rfl, J, _⟩ := own_at s1 r1 e I ru
      obtain ⟨m', Fr⟩ := I.fr
      cases eF : F [d] μ1 with
      | ok r μ2 =>
        rw [eF] at h1
        refine PySem.W.truthy_K Fr I.mod.kin J S.mt.at_ S.mt.fn (wpAny_mono (call_a S.fn (S.rm.mono (Nat.le_add_right _ 2)) I.env0 tk I S.bd (Paired.cons (a := V.ref pa) ru .nil) s1 (RepL.one r1) (by rw [hl]; rfl) (Q := fun x H' => ∃ b, x = .bl b ∧ Q b H') ?_) (fun u2 s2 z => ?_) fun _ _ z => z)
        · rw [eF]
          intro x H' π' g' s' r'
          exact GE.mB (R := RB) r' s' (show GE X W RB π' σ H' Q (outB r μ2) from GE.mono g' h1)
        · obtain ⟨x, H', I', rx, b, rfl, q⟩ := z
          cases rx
          exact ⟨H', I', q⟩
      | exc c ns ds μ2 => rw [eF] at h1; exact (show False from h1).elim
      | stuck => rw [eF] at h1; exact (show False from h1).elim
    · rw [if_neg hc] at h1; exact h1.elim
  · obtain ⟨x, H1, I1, rx, q⟩ := z
    exact wpAny_bind (wpAny_standAt (wpAny_holding (q pins s1 u I1 rx)))
end
end Rv
set_option Elab.async false
set_option linter.all false
set_option maxRecDepth 100000
set_option maxHeartbeats 1000000
/-! Rv15: == and != of instances; methods without arguments; try without an exception. -/
namespace Rv
open PySem PySem.Spec L2
open PyProof.Rows hiding St

section
variable {X : Cx} {W : WX} {e a b c o tg : Expr} {es rest : List Expr} {m n mo mx : M D} {ms : M (List D)} {pos pos' p p1 apos cpos : Pos} {x f : Str} {F RF : Fn} {cl rc : Str} {k : Nat} {fa : Addr} {fd : FuncData} {ps : List Str}
theorem looks_ref {M : Model} {h : Heap} {a : Addr} {o : Obj} {t : Value} (e : h.get? a = some o) (ht : o.cls = t) : PySem.W.Looks M h (typeOf (.ref a)) t := ht ▸ (PySem.W.Looks.ld e).andThen .now
/-- the type of what stands for d -/
theorem looks_tg {π : List Addr} {μ : Store} {σ : L2.St} {H : Hp} {d : D} {v : V} {u : Value} {t : Tg} {pins : List (Addr × Obj)} {s : Shared} {M : Model} (sm : SimM X.K π μ H) (r : Rp X.K π H d v) (h : tgOf μ d = some t) (I : Inv X pins σ H s) (rx : RelV v u) : PySem.W.Looks M s.heap (typeOf u) (tgV X.K t) := by
  have ow : ∀ {c : Str} {a : Addr} {dx : Addr} {fs : List (Str × V)}, H a = some (.ins (He.ga X.K c) dx fs) → PySem.W.Looks M s.heap (typeOf (.ref a)) (tgV X.K (.c c)) := fun {c a dx fs} hi => by
    obtain ⟨mA, Ob, _⟩ := ins_get I.hok hi
    obtain ⟨od, J, _⟩ := Ob.look
    exact J.type
  have dc : ∀ {a : Addr} {kvs : List (Key × V)}, H a = some (.dK kvs) → PySem.W.Looks M s.heap (typeOf (.ref a)) (.type "dict") := fun {a kvs} hi => by
    obtain ⟨_, _, _, _, o, _, _, e, ex, _⟩ := (show ObjOk X.prog X.w H s.heap a (.dK kvs) from I.hok a _ hi)
    exact looks_ref e ex.1
  have ls : ∀ {a : Addr} {us : List V}, H a = some (.lst us) → PySem.W.Looks M s.heap (typeOf (.ref a)) (.type "list") := fun {a us} hi => by
    obtain ⟨_, _, n, _, e⟩ := (show ObjOk X.prog X.w H s.heap a (.lst us) from I.hok a _ hi)
    exact looks_ref e rfl
  cases d with
  | non => cases rep_non r; cases h; cases rx; exact .of_pure rfl
  | bl b => cases rep_bl r; cases h; cases rx; exact .of_pure rfl
  | int i => cases rep_int r; cases h; obtain ⟨t, rfl⟩ := rx; exact .of_pure rfl
  | str z => cases rep_str r; cases h; obtain ⟨t, rfl⟩ := rx; exact .of_pure rfl
  | tup ds =>
    cases h
    obtain ⟨p, vs, rfl, hp, _⟩ := asT_view (ds := ds) r rfl
    cases rx
    obtain ⟨its, _, ⟨o, e, ec, _⟩, _⟩ := I.tuple hp
    exact looks_ref e ec
  | lst ds =>
    cases h
    unfold Rp Rep at r
    obtain ⟨p, vs, rfl, hp, _⟩ := r
    cases rx
    exact ls (off_sub _ _ hp)
  | dct ks ds =>
    cases h
    unfold Rp Rep at r
    obtain ⟨p, kvs, rfl, hp, _⟩ := r
    cases rx
    exact dc (off_sub _ _ hp)
  | obj c ns ds =>
    cases h
    unfold Rp Rep at r
    obtain ⟨p, dx, fs, rfl, hp, _⟩ := r
    cases rx
    exact ow (off_some hp).2
  | ref j =>
    unfold tgOf at h
    dsimp only at h
    unfold Rp Rep at r
    obtain ⟨a, k1, rfl⟩ := r
    cases rx
    cases hm : μ[j]? with
    | none => rw [hm] at h; cases h
    | some m =>
      rw [hm] at h
      have q := sm.obj j a m k1 hm
      cases m with
      | lst ds => cases h; obtain ⟨vs, q1, _⟩ := q; exact ls q1
      | dct ks ds => cases h; obtain ⟨vs, q1, _⟩ := q; exact dc q1
      | ins c ns ds => cases h; obtain ⟨dx, fs, q1, _⟩ := q; exact ow q1
  | cls c => cases h
  | ty n => cases h
  | scr ns => cases h
/-- no class of these stands below cl -/
def notB (K : PySem.W.Frag) (cl : Str) (ts : List Tg) : Bool := ts.all fun t => decide (PySem.W.subIn K (tgV K t) (.ref (He.ga K cl)) = some false)
def tgIn (μ : Store) (cl : Str) (ts : List Tg) (d : D) : Bool := match tgOf μ d with
  | some t => decide (t = .c cl) || decide (t ∈ ts)
  | none => false
theorem tgIn_ok {K : PySem.W.Frag} {ts : List Tg} {μ : Store} {d : D} (hn : notB K cl ts = true) (h : tgIn μ cl ts d = true) : ∃ t, tgOf μ d = some t ∧ (tgV K t = .ref (He.ga K cl) ∨ PySem.W.subIn K (tgV K t) (.ref (He.ga K cl)) = some false) := by
  unfold tgIn at h
  split at h
  · rename_i t e
    refine ⟨t, e, ?_⟩
    rcases Bool.or_eq_true_iff.mp h with h | h
    · have := of_decide_eq_true h
      subst this
      exact .inl rfl
    · exact .inr (of_decide_eq_true (List.all_eq_true.mp hn t (of_decide_eq_true h)))
  · cases h
def eqOB (K : PySem.W.Frag) (cl : Str) : Bool := He.eqO (PySem.W.findIn K (.ref (He.ga K cl)) "__ne__") (some (some (.builtin "object.__ne__"))) && decide (PySem.W.mroIn K (He.ga K cl) (.type "object") = some true)
def eqUB (K : PySem.W.Frag) (cl : Str) : Bool := He.eqO (PySem.W.findIn K (.ref (He.ga K cl)) "__eq__") (some (some (.builtin "object.__eq__"))) && eqOB K cl
theorem eqOB_ok {K : PySem.W.Frag} (h : eqOB K cl = true) (mt : Meth K (He.ga K cl) "__eq__" fa) : RvC.EqO K (He.ga K cl) fa := by
  obtain ⟨h1, h2⟩ := He.ba h
  exact ⟨mt.at_, mt.fn, He.eqO_ok h1, of_decide_eq_true h2⟩
theorem eqUB_ok {K : PySem.W.Frag} (h : eqUB K cl = true) : RvC.EqU K (He.ga K cl) := by
  obtain ⟨h1, h2⟩ := He.ba h
  obtain ⟨h3, h4⟩ := He.ba h2
  exact ⟨He.eqO_ok h1, He.eqO_ok h3, of_decide_eq_true h4⟩
theorem cmp_eq_rc {v u : Value} : compareOp .Eq v u = richCompare .Eq v u := by first | rfl | (unfold compareOp; rfl)
theorem cmp_ne_rc {v u : Value} : compareOp .NotEq v u = richCompare .NotEq v u := by first | rfl | (unfold compareOp; rfl)
/-- x == y, x != y: x of a class with an own __eq__ -/
def dEqK (b : Bool) (cl : Str) (ts : List Tg) (F : Fn) : D → D → Store → Out D := fun d1 d2 μ => if isC μ cl d1 = true ∧ tgIn μ cl ts d2 = true then blOut b (F [d1, d2] μ) else .stuck
theorem opb_eqK {ts : List Tg} (S : Spc X cl "__eq__" fa fd ps k F) (hl : ps.length = 2) (hn : notB X.K cl ts = true) (ho : eqOB X.K cl = true) (tk : Takes X W) : OpB X W (compareOp .Eq) (dEqK false cl ts F) := by
  intro π μ σ H Q d1 d2 x y sm r1 r2 h pins s v u I rx ry
  unfold dEqK at h
  by_cases hc : isC μ cl d1 = true ∧ tgIn μ cl ts d2 = true
  · rw [if_pos hc] at h
    obtain ⟨ns, ds, e⟩ := isC_ok hc.1
    obtain ⟨t, et, hnt⟩ := tgIn_ok hn hc.2
    obtain ⟨pa, ox, od, rfl, rfl, J, _⟩ := own_at sm r1 e I rx
    rw [cmp_eq_rc]
    refine RvC.rc_of (.inl rfl) (by have := S.rm.rm.units; omega) I.kIn J (looks_tg sm r2 et I ry) hnt (RvC.try_eqO I.kIn J (eqOB_ok ho S.mt) (wpAny_mono (call_a S.fn (S.rm.mono (Nat.le_add_right _ 2)) I.env0 tk I S.bd (Paired.cons (a := V.ref pa) rx (.cons ry .nil)) sm (.cons r1 (.one r2)) (by rw [hl]; rfl) (blOut_ok h)) (fun u2 s2 z => ?_) fun _ _ z => z))
    obtain ⟨w, H', I', rw', k, rfl, q⟩ := z
    cases rw'
    refine ⟨k, rfl, .bl k, H', I', rfl, ?_⟩
    simpa using q
  · rw [if_neg hc] at h; exact h.elim
theorem opb_neK {ts : List Tg} (S : Spc X cl "__eq__" fa fd ps k F) (hl : ps.length = 2) (hn : notB X.K cl ts = true) (ho : eqOB X.K cl = true) (tk : Takes X W) : OpB X W (compareOp .NotEq) (dEqK true cl ts F) := by
  intro π μ σ H Q d1 d2 x y sm r1 r2 h pins s v u I rx ry
  unfold dEqK at h
  by_cases hc : isC μ cl d1 = true ∧ tgIn μ cl ts d2 = true
  · rw [if_pos hc] at h
    obtain ⟨ns, ds, e⟩ := isC_ok hc.1
    obtain ⟨t, et, hnt⟩ := tgIn_ok hn hc.2
    obtain ⟨pa, ox, od, rfl, rfl, J, _⟩ := own_at sm r1 e I rx
    have hu := S.rm.rm.units
    rw [cmp_ne_rc]
    refine RvC.rc_of (.inr rfl) (by omega) I.kIn J (looks_tg sm r2 et I ry) hnt (RvC.try_neO (by omega) I.kIn J (eqOB_ok ho S.mt) (wpAny_mono (call_a S.fn (S.rm.mono (Nat.le_succ _)).in1 I.env0.in1 tk I S.bd (Paired.cons (a := V.ref pa) rx (.cons ry .nil)) sm (.cons r1 (.one r2)) (by rw [hl]; rfl) (blOut_ok h)) (fun u2 s2 z => ?_) fun _ _ z => z))
    obtain ⟨w, H', I', rw', k, rfl, q⟩ := z
    cases rw'
    refine ⟨k, rfl, .bl (!k), H', I', rfl, ?_⟩
    simpa using q
  · rw [if_neg hc] at h; exact h.elim
/-- x == y, x != y: x of a class cl without an own __eq__ (two are one thing where they stand at one place); y may be of the class rc with one -/
def dEqU (b : Bool) (cl rc : Str) (ts : List Tg) (RF : Fn) : D → D → Store → Out D := fun d1 d2 μ => if isC μ cl d1 = true ∧ tgIn μ cl ts d2 = true then (match d2 with
  | .non => .ok (.bl b) μ
  | .tup _ => .ok (.bl b) μ
  | d2 => if isC μ rc d2 = true then blOut b (RF [d2, d1] μ) else (match d1, d2 with
    | .ref i, .ref j => if i ≠ j ∧ isC μ cl (.ref j) = true then .ok (.bl b) μ else .stuck
    | _, _ => .stuck)) else .stuck
theorem opb_eqU {op : CmpOp} {b : Bool} {ts : List Tg} (hop : (op = .Eq ∧ b = false) ∨ (op = .NotEq ∧ b = true)) (S : Spc X rc "__eq__" fa fd ps k RF) (hl : ps.length = 2) (hn : notB X.K cl ts = true) (hU : eqUB X.K cl = true) (ho : eqOB X.K rc = true) (hst : PySem.W.subIn X.K (.ref (He.ga X.K cl)) (.type "tuple") = some false) (hne : He.ga X.K cl ≠ He.ga X.K rc) (tk : Takes X W) :
    OpB X W (compareOp op) (dEqU b cl rc ts RF) := by
  intro π μ σ H Q d1 d2 x y sm r1 r2 h pins s v u I rx ry
  unfold dEqU at h
  by_cases hc : isC μ cl d1 = true ∧ tgIn μ cl ts d2 = true
  · rw [if_pos hc] at h
    obtain ⟨ns, ds, e⟩ := isC_ok hc.1
    obtain ⟨t, et, hnt⟩ := tgIn_ok hn hc.2
    obtain ⟨pa, ox, od, rfl, rfl, J, jc⟩ := own_at sm r1 e I rx
    have hu := S.rm.rm.units
    have jt : ox.cls ≠ .type "tuple" := by rw [jc]; exact fun z => nomatch z
    have U := eqUB_ok hU
    -- the reading of the first try, then of the second
    have main : RvC.Apart pa u s → wpAny (model X.prog X.w) X.A (tryCompare u (cmpInfo op).2.2 (.ref pa)) (fun r s2 => match r with
        | some v => EP X pins σ Q v s2
        | none => wpAny (model X.prog X.w) X.A (isSame (.ref pa) u) (fun k s3 => EP X pins σ Q (.bool (if op = .Eq then k else !k)) s3) X.xe s2) X.xe s → wpAny (model X.prog X.w) X.A (richCompare op (.ref pa) u) (EP X pins σ Q) X.xe s := fun ap z => by
      refine RvC.rc_of (hop.imp And.left And.left) (by omega) I.kIn J (looks_tg sm r2 et I ry) hnt ?_
      rcases hop with ⟨rfl, rfl⟩ | ⟨rfl, rfl⟩
      · exact RvC.try_eqU I.kIn J U ap z
      · exact RvC.try_neU (by omega) I.kIn J U ap z
    have fin : Q (.bl b) H → RvC.Apart pa u s → wpAny (model X.prog X.w) X.A (isSame (.ref pa) u) (fun k s3 => EP X pins σ Q (.bool (if op = .Eq then k else !k)) s3) X.xe s := fun q ap => by
      refine ap _ _ _ _ ⟨.bl b, H, I, ?_, q⟩
      rcases hop with ⟨rfl, rfl⟩ | ⟨rfl, rfl⟩ <;> rfl
    have ecmp : compareOp op (.ref pa) u = richCompare op (.ref pa) u := by
      rcases hop with ⟨rfl, rfl⟩ | ⟨rfl, rfl⟩
      · exact cmp_eq_rc
      · exact cmp_ne_rc
    rw [ecmp]
    split at h
    · cases rep_non r2
      cases ry
      have q : Q (.bl b) H := h _ H π Gr.refl sm (by unfold Rp Rep; rfl)
      refine main RvC.apart_none ?_
      rcases hop with ⟨rfl, rfl⟩ | ⟨rfl, rfl⟩
      · exact RvC.decl_none_eq _ _ (fin q RvC.apart_none)
      · exact RvC.decl_none_ne _ _ (fin q RvC.apart_none)
    · rename_i ys
      have q : Q (.bl b) H := h _ H π Gr.refl sm (by unfold Rp Rep; rfl)
      obtain ⟨p, vs, rfl, hp, _⟩ := asT_view (ds := ys) r2 rfl
      obtain rfl : u = Value.ref p := ry
      obtain ⟨its, _, ⟨o, e1, ec, _⟩, _⟩ := I.tuple hp
      have ap : RvC.Apart pa (.ref p) s := RvC.apart_ref (fun z => by
        subst z
        have q2 := Option.some.inj (J.at_.symm.trans e1)
        rw [q2] at jt
        exact jt ec) J.at_ jt e1
      refine main ap ?_
      rcases hop with ⟨rfl, rfl⟩ | ⟨rfl, rfl⟩
      · exact RvC.decl_tup_eq I.kIn J hst ⟨o, e1, ec⟩ _ _ (fin q ap)
      · exact RvC.decl_tup_ne I.kIn J hst ⟨o, e1, ec⟩ _ _ (fin q ap)
    · rename_i d2' n1 n2
      by_cases hr : isC μ rc d2 = true
      · rw [if_pos hr] at h
        obtain ⟨ns2, ds2, e2⟩ := isC_ok hr
        obtain ⟨pb, oy, oe, rfl, rfl, J2, jc2⟩ := own_at sm r2 e2 I ry
        have ap : RvC.Apart pa (.ref pb) s := RvC.apart_ref (fun z => by
          subst z
          have q2 := Option.some.inj (J.at_.symm.trans J2.at_)
          rw [q2, jc2] at jc
          exact hne (Value.ref.inj jc).symm) J.at_ jt J2.at_
        refine main ap ?_
        rcases hop with ⟨rfl, rfl⟩ | ⟨rfl, rfl⟩
        · refine RvC.try_eqO I.kIn J2 (eqOB_ok ho S.mt) (wpAny_mono (call_a S.fn (S.rm.mono (Nat.le_add_right _ 2)) I.env0 tk I S.bd (Paired.cons (a := V.ref pb) ry (.cons rx .nil)) sm (.cons r2 (.one r1)) (by rw [hl]; rfl) (blOut_ok h)) (fun u2 s2 z => ?_) fun _ _ z => z)
          obtain ⟨w, H', I', rw', k, rfl, q⟩ := z
          cases rw'
          refine ⟨k, rfl, .bl k, H', I', rfl, ?_⟩
          simpa using q
        · refine RvC.try_neO (by omega) I.kIn J2 (eqOB_ok ho S.mt) (wpAny_mono (call_a S.fn (S.rm.mono (Nat.le_succ _)).in1 I.env0.in1 tk I S.bd (Paired.cons (a := V.ref pb) ry (.cons rx .nil)) sm (.cons r2 (.one r1)) (by rw [hl]; rfl) (blOut_ok h)) (fun u2 s2 z => ?_) fun _ _ z => z)
          obtain ⟨w, H', I', rw', k, rfl, q⟩ := z
          cases rw'
          refine ⟨k, rfl, .bl (!k), H', I', rfl, ?_⟩
          simpa using q
      · rw [if_neg hr] at h
        split at h
        · rename_i i j
          by_cases hij : i ≠ j ∧ isC μ cl (.ref j) = true
          · rw [if_pos hij] at h
            obtain ⟨ns2, ds2, e2⟩ := isC_ok hij.2
            have r1' := r1
            have r2' := r2
            obtain ⟨pb, oy, oe, rfl, rfl, J2, jc2⟩ := own_at sm r2 e2 I ry
            unfold Rp Rep at r1' r2'
            obtain ⟨a1, h1, h1'⟩ := r1'
            obtain ⟨a2, h2, h2'⟩ := r2'
            cases h1'
            cases h2'
            have ne : pa ≠ pb := fun z => by
              subst z
              obtain ⟨l1, e3⟩ := List.getElem?_eq_some_iff.mp h1
              obtain ⟨l2, e4⟩ := List.getElem?_eq_some_iff.mp h2
              exact hij.1 ((List.getElem_inj sm.nd).mp (e3.trans e4.symm))
            have q : Q (.bl b) H := h _ H π Gr.refl sm (by unfold Rp Rep; rfl)
            have ap : RvC.Apart pa (.ref pb) s := RvC.apart_ref ne J.at_ jt J2.at_
            have ap2 : RvC.Apart pb (.ref pa) s := RvC.apart_ref (Ne.symm ne) J2.at_ (by rw [jc2]; exact fun z => nomatch z) J.at_
            refine main ap ?_
            rcases hop with ⟨rfl, rfl⟩ | ⟨rfl, rfl⟩
            · exact RvC.try_eqU I.kIn J2 U ap2 (fin q ap)
            · exact RvC.try_neU (by omega) I.kIn J2 U ap2 (fin q ap)
          · rw [if_neg hij] at h; exact h.elim
        · exact h.elim
  · rw [if_neg hc] at h; exact h.elim

/-! ### methods and classes without arguments -/
def mMeth0 (cl g : Str) (F : Fn) (m : M D) : M D := fun ρ μ => (m ρ μ).bind fun d μ1 => match asI μ1 d with
  | some (c, ns, _) => if c = cl ∧ g ∉ ns then F [d] μ1 else .stuck
  | none => .stuck
/-! ### try, no exception raised -/
theorem takes0 : Takes X.nox W0 := fun u s' x => by
  obtain ⟨_, _, _, _, _, _, _, _, _, _, _, _, _, _, _, _, w⟩ := x
  exact w
theorem takesB {scope : Scope} {s : Shared} {H : Hp} {C : Addr} {al : List (Str × Addr)} {fp : List Addr} : Takes (Cx.in_ X scope s H C al fp) W0 := fun u s' x => by
  obtain ⟨_, _, _, _, _, _, _, _, _, _, _, _, _, _, _, _, w⟩ := x
  exact w
def OutS.only : OutS → OutS
  | .exc _ _ _ _ _ => .stuck
  | o => o
def cTry (c : C) : C := fun ρ μ => (c ρ μ).only
theorem SS.tryNo {body : List Stmt} {cb : C} {h0 : ExceptHandler} {hs : List ExceptHandler} (hb : SSs X.nox W0 body cb) : SS X W (.Try body (h0 :: hs) [] [] pos) (cTry cb) := fun π ρ μ σ H Dn sm sl h => by
  refine WS.of (ps_try_thru0 (PSs.mk (fun pins s σ H Dn I h => (h : WSs X.nox body Dn σ H) pins s I))) (hb π ρ μ σ H Dn sm sl ?_)
  unfold cTry at h
  cases e : cb ρ μ with
  | nx ρ' μ' => rw [e] at h; exact h
  | ret d μ' => rw [e] at h; exact h
  | brk ρ' μ' => rw [e] at h; exact h
  | ct ρ' μ' => rw [e] at h; exact h
  | exc c ns ds ρ' μ' => rw [e] at h; exact (show False from h).elim
  | stuck => rw [e] at h; exact h
end
end Rv
set_option Elab.async false
set_option linter.all false
set_option maxRecDepth 100000
set_option maxHeartbeats 1000000
/-! Rv16: a, b, c = x, y, z. -/
namespace Rv
open PySem PySem.Spec L2
open PyProof.Rows hiding St

section
variable {X : Cx} {W : WX} {a b c : Expr} {ms : M (List D)} {pos : Pos}
theorem repL3 {K : PySem.W.Frag} {H : Hp} {π : List Addr} {d1 d2 d3 : D} {vs : List V} (r : RepL K H π [d1, d2, d3] vs) : ∃ u v w, vs = [u, v, w] ∧ Rep K H π d1 u ∧ Rep K H π d2 v ∧ Rep K H π d3 w := by
  obtain ⟨u, t, rfl, h1, h2⟩ := r.uncons
  obtain ⟨v, w, rfl, h3, h4⟩ := repL2 h2
  exact ⟨u, v, w, rfl, h1, h3, h4⟩
theorem vals3 {x y z : V} {us : List Value} (r : Vals [x, y, z] us) : ∃ u v w, us = [u, v, w] ∧ RelV x u ∧ RelV y v ∧ RelV z w := by
  cases r with
  | cons r1 r2 =>
    obtain ⟨v, w, rfl, h1, h2⟩ := vals2 r2
    exact ⟨_, v, w, rfl, r1, h1, h2⟩
def cPar3 (i j k : Nat) (ms : M (List D)) : C := fun ρ μ => (ms ρ μ).bindS ρ fun ds μ1 => match ds with
  | [d1, d2, d3] => .nx (((ρ.set k (some d3)).set j (some d2)).set i (some d1)) μ1
  | _ => .stuck
theorem SS.par3 {x y z : Str} {px py pz pt pt2 : Pos} {kt k2} (i j k : Nat) (hc : X.calm = true) (hN : X.N.Nodup) (hi : X.N[i]? = some x) (hj : X.N[j]? = some y) (hk : X.N[k]? = some z) (hx : X.env.scope.names.lookup x = some .local) (hy : X.env.scope.names.lookup y = some .local) (hz : X.env.scope.names.lookup z = some .local)
    (ha : SA X W [a, b, c] ms) (hw : swappedStores [.Tuple [.Name x px, .Name y py, .Name z pz] kt pt] (.Tuple [a, b, c] k2 pt2) X.env = pure (some [x, y, z])) (hs : swapsWithSole [.Tuple [.Name x px, .Name y py, .Name z pz] kt pt] (.Tuple [a, b, c] k2 pt2) pos.line X.env = pure false := by rfl) :
    SS X W (.Assign [.Tuple [.Name x px, .Name y py, .Name z pz] kt pt] (.Tuple [a, b, c] k2 pt2) pos) (cPar3 i j k ms) := fun π ρ μ σ H Dn sm sl q pins s I => by
  rw [exec_Assign_arm]
  refine wpAny_bind (wpAny_standAt ?_)
  rw [hs]
  refine wpAny_bind (wpAny_pure ?_)
  rw [if_neg (by decide)]
  refine wpAny_bind (Tuple_ (thn (ha π ρ μ σ H (fun vs H1 => ∃ u v w, vs = [u, v, w] ∧ Dn.nx (((σ.set k (some w)).set j (some v)).set i (some u)) H1) sm sl (GE.bindS sl q fun ds μ1 vs H1 π1 e1 g1 s1 r1 h1 => ?_) _ pins s I) fun us s1 z => ?_))
  · split at h1
    · obtain ⟨u, v, w, rfl, ru, rv, rw'⟩ := repL3 r1
      exact ⟨u, v, w, rfl, h1 _ H1 π1 Gr.refl s1 ((((g1.loc sl).set rw' k).set rv j).set ru i)⟩
    · exact h1.elim
  · obtain ⟨vs, H1, I1, r1, u, v, w, rfl, q1⟩ := z
    obtain ⟨u1, u2, u3, rfl, ru, rv, rw'⟩ := vals3 r1
    refine wpAny_newObj_type ?_ (by show 3 ≤ sizeLine; decide)
    have I2 : Inv X pins σ H1 { s1 with heap := s1.heap.push { cls := .type "tuple", data := .seq [u1, u2, u3].toArray } } := I1.kept (t' := s1.toks) fun b o e => Heap.get?_push_of_some _ e
    rw [hw]
    refine wpAny_bind (wpAny_pure ?_)
    show wpAny (model X.prog X.w) X.A (do rule "assign.swapped-stores"; let items ← unpackItems (.ref s1.heap.objs.size) 3 none; assignInOrder [fun v => bindName X.env z v, fun v => bindName X.env y v, fun v => bindName X.env x v] items.reverse; pure Flow.next) _ _ _
    refine wpAny_bind (wpAny_rule (wpAny_bind (unpackItems_tuple (items := #[u1, u2, u3]) (I.ok.hd hc) (IsTup.new s1.heap _) fun h' hx' => ?_)))
    have I3 := I2.kept (h' := h') (t' := s1.toks) fun b o e => hx' b o (Nat.ne_of_lt (Heap.lt_size e)) e
    show wpAny _ _ (assignInOrder [fun v => bindName X.env z v, fun v => bindName X.env y v, fun v => bindName X.env x v] [u3, u2, u1] >>= fun _ => pure Flow.next) _ _ _
    refine wpAny_bind (assignInOrder_cons (wpAny_bindName (store_ok I3 hN hk (.inl hz) rw' (fun s2 I4 => ?_) (.inr hz))))
    refine assignInOrder_cons (wpAny_bindName (store_ok I4 hN hj (.inl hy) rv (fun s3 I5 => ?_) (.inr hy)))
    exact assignInOrder_cons (wpAny_bindName (store_ok I5 hN hi (.inl hx) ru (fun s4 I6 => assignInOrder_nil (wpAny_pure ⟨_, H1, I6, q1⟩)) (.inr hx)))
end
end Rv
set_option Elab.async false
set_option linter.all false
set_option maxRecDepth 100000
set_option maxHeartbeats 1000000
/-! RvZ: a law's end: the law's def is called with the script. -/
namespace Rv
open PySem PySem.Spec L2
open PyProof.Rows hiding St

theorem cx_no {P : Program} {w : World} {outer : List Env} {H : Hp} {s : Shared} {e : Value} {s' : Shared} (h : L2.CX P w outer H s (fun _ _ _ => False) e s') : False := by
  obtain ⟨_, _, _, _, _, _, _, _, _, _, _, _, z⟩ := h
  exact z
section
variable {P : Program} {w : World} {K : PySem.W.Frag} {mg mb : Str → Option Value} {k : Nat} {fa a : Addr} {fd : FuncData} {x : Str} {G : Fn} {s : Shared} {us : List Value} {ns : List Int}
theorem law_q (KX : K.In s.heap) (nG : s.heap.Ns mainGlobals mg) (nB : s.heap.Ns builtinsNs mb) (nb : ∀ x : Str, x ≠ "__name__" → mb x = bootBuiltins x) (nl : s.heap.NoLimit) (g0 : s.gens = #[]) (ea : s.heap.get? a = some { cls := .type "list", data := .seq us.toArray }) (hi : IntsAre us ns) (hl : ns.length ≤ sizeLine) (hr : RoomQ k callerA)
    (F : ∀ base : Heap, K.In base → base.Ns mainGlobals mg → FnQ P w K mg base k fa fd [x] G) (hb : ∀ (s : Shared) (u : Value), BindsTo s fd ⟨[u], []⟩ [(x, u)]) (hG : ∃ μ', G [.scr ns] [] = .ok (.bl true) μ') :
    codeAny (model P w) callerA (.call (.ref fa) ⟨[.ref a], []⟩) (fun r s' => r = .ok (.ret (.bool true)) ∧ OldK s.heap s'.heap ∧ s'.os = s.os ∧ AllBare s'.gens) s := by
  obtain ⟨μ', hG⟩ := hG
  have rv := vals_ints hi
  -- H tells of nothing but the script
  have go : ∀ H : Hp, (∀ b, b ≠ a → H b = none) → (H a = none ∨ H a = some (.ext fun h => h.get? a = some { cls := .type "list", data := .seq us.toArray })) → (H a ≠ none → K.lookup a = none) → ScrAt K H a ns →
      codeAny (model P w) callerA (.call (.ref fa) ⟨[.ref a], []⟩) (fun r s' => r = .ok (.ret (.bool true)) ∧ OldK s.heap s'.heap ∧ s'.os = s.os ∧ AllBare s'.gens) s := by
    intro H hN hA hK hS
    have hok : HOk P w H s.heap := fun b u e => by
      by_cases q : b = a
      · subst q
        rcases hA with z | z
        · rw [z] at e; cases e
        · rw [z] at e
          cases e
          exact ⟨ea, ⟨_, ea⟩, fun h1 h2 p q => q _ p⟩
      · rw [hN b q] at e; cases e
    have inB : ∀ {b : Addr} {o : Obj}, s.heap.get? b = some o → (b = a → H b = none) → (hidT s.heap H).get? b = some o := fun {b o} e n => hidT_get e (by
      by_cases q : b = a
      · exact n q
      · exact hN b q)
    have nsB : ∀ {b : Addr} {m : Str → Option Value}, s.heap.Ns b m → (hidT s.heap H).Ns b m := fun {b m} z => by
      obtain ⟨o, es, ep, e, d, r⟩ := z
      refine ⟨o, es, ep, inB e fun q => ?_, d, r⟩
      subst q
      rw [ea] at e
      cases e
      have d' : Data.seq us.toArray _ = Data.dict es ep := d
      cases d'
    have kB : K.In (hidT s.heap H) := fun b o e => inB (KX b o e) fun q => by
      subst q
      cases z : H b with
      | none => rfl
      | some u => rw [hK (by rw [z]; exact fun y => nomatch y)] at e; cases e
    have md : Mod K mg (hidT s.heap H) := ⟨kB, nsB nG, ⟨mb, nsB nB, nb⟩, by
      obtain ⟨mc, h1, h2⟩ := nl
      exact ⟨mc, nsB h1, h2⟩⟩
    have ev : Env0 P w K mg (hidT s.heap H) callerA [] s H := ⟨rfl, md, fun b o e => of_hidT e, Nat.le_of_eq (hidT_size _ _), trivial, fun b z => (by cases (show b ∈ ([] : List Addr) from z)), hok, .of_eq g0⟩
    have sp : spG K 1 G [.ref a] H (fun v H' => v = .bl true ∧ ∀ o, H a = some o → H' a = some o) (fun _ _ _ => False) := by
      refine ⟨[], [], [.scr ns], rfl, ⟨List.nodup_nil, rfl, fun n a m h1 _ => by cases h1⟩, ?_, ?_⟩
      · refine RepL.one ?_
        unfold Rep
        refine ⟨a, rfl, ?_⟩
        have e0 : off [] H = H := by
          funext b
          exact off_ne (by simp)
        rw [e0]
        exact hS
      · rw [hG]
        intro v H' π' gr sm r
        refine ⟨rep_bl r, fun o z => ?_⟩
        exact (off_some (gr.keep a _ (show off [] H a = some o by rw [off_ne (by simp)]; exact z))).2
    refine codeAny_mono ((F _ kB (nsB nG)).run callerA [] s H ⟨[.ref a], []⟩ [.ref a] [.ref a] _ _ hr ev (hb s (.ref a)) (.cons rfl .nil) sp) fun r s' z => ?_
    cases r with
    | error e => exact (cx_no z).elim
    | ok fl =>
      cases fl with
      | ret u =>
        obtain ⟨v, H', os, bare, un, ok', rv', e1, e2⟩ := z
        subst e1
        obtain rfl : u = Value.bool true := rv'
        refine ⟨rfl, OldK.of_keep fun b o e => ?_, os, bare⟩
        cases q : H b with
        | none => exact un.keep b o e q (fun y => by cases (show b ∈ ([] : List Addr) from y)) (by simp)
        | some u =>
          have eb : b = a := Classical.byContradiction fun n => by rw [hN b n] at q; cases q
          subst eb
          rcases hA with z | z
          · rw [z] at q; cases q
          · have e2 := e2 _ z
            obtain ⟨p1, _, _⟩ := (show ObjOk P w H' s'.heap b (.ext fun h => h.get? b = some { cls := .type "list", data := .seq us.toArray }) from ok' b _ e2)
            rw [ea] at e
            cases e
            exact p1
      | next => exact z.elim
      | brk => exact z.elim
      | cont => exact z.elim
  cases hk : K.lookup a with
  | some o =>
    have e := KX a o hk
    rw [ea] at e
    cases e
    exact go (fun _ => none) (fun _ _ => rfl) (.inl rfl) (fun z => absurd rfl z) (.inl ⟨_, us.toArray, _, hk, rfl, rfl, rfl, by
      have := rv.length
      rw [List.length_map] at this
      rw [List.size_toArray]
      omega, by simpa using rv⟩)
  | none =>
    exact go (fun b => if b = a then some (.ext fun h => h.get? a = some { cls := .type "list", data := .seq us.toArray }) else none) (fun b n => if_neg n) (.inr (if_pos rfl)) (fun _ => hk) (.inr ⟨us, if_pos rfl, rv, hl⟩)
/-- the law's end over a head by facts -/
theorem walk_q {l : PySem.W.OpenLaw} {n k : Nat} {q : Program} {loose : List Str} {XP : (Str → Option Value) → Heap → Prop} {YP : World → Heap → Prop} {d : DefRec} {x : Str} (hn : l.most = some n) (hn2 : n ≤ sizeLine) (hdf : d.params.defaults = []) (hr : RoomQ k callerA)
    (F : ∀ (w : World) (mg : Str → Option Value) (fa : Addr) (h : Heap), YP w h → h.Ns mainGlobals mg → mg d.name = some (.ref fa) → ∃ (K : PySem.W.Frag) (fd : FuncData) (G : Fn), K.In h ∧ (∀ (s : Shared) (u : Value), BindsTo s fd ⟨[u], []⟩ [(x, u)]) ∧
      (∀ ns : List Int, ns.length ≤ n → ∃ μ', G [.scr ns] [] = .ok (.bl true) μ') ∧ ∀ base : Heap, K.In base → base.Ns mainGlobals mg → FnQ l.prog w K mg base k fa fd [x] G) :
    PySem.W.WalkO q loose XP YP l.row.toRowW d [] (fun f vs => PySem.call f vs) := by
  refine Att.attach_call hn hdf fun w s0 s1 mg mb fa o pm cd doc a vs ns GG Y ho hd hcd hmg hobj hints hlen hg => ?_
  obtain ⟨K, fd, G, KX, hb, hG, hF⟩ := F w mg fa _ Y GG.T.g hmg
  exact law_q KX GG.T.g GG.T.b GG.T.builtins GG.T.nolimit hg hobj hints (Nat.le_trans hlen hn2) hr hF hb (hG ns hlen)
end
end Rv
set_option Elab.async false
set_option linter.all false
set_option maxRecDepth 100000
set_option maxHeartbeats 1000000
/-! Rv17: facts of the text, read behind the top. -/
namespace Rv
open PySem PySem.Spec L2
open PyProof.Rows hiding St

/-! ### defs by an address -/
structure DefA where
  adr : PySem.W.Frag → Addr
  name : Str
  qual : Str
  st : Stmt
  dfl : List He.Dv := []
  kwd : List (Str × He.Dv) := []
def fnAt (K : PySem.W.Frag) (a : Addr) : He.FnW := match K.lookup a with
  | some ⟨_, _, .func fd, _⟩ => some (fd.name, fd.qualname, fd.params, fd.body, fd.scope, fd.globals, fd.closure, fd.builtins)
  | _ => none
def DefA.val (d : DefA) : He.FnW := some (d.name, d.qual, defArgs d.st, .stmts (defBody d.st), defScope d.st, mainGlobals, [], builtinsNs)
def DefA.dvs (K : PySem.W.Frag) (d : DefA) : List V := d.dfl.map (He.Dv.v K)
def DefA.kws (K : PySem.W.Frag) (d : DefA) : List (Str × V) := d.kwd.map fun q => (q.1, q.2.v K)
def DefA.ok (K : PySem.W.Frag) (d : DefA) : Bool := PySem.W.keepIn K (.ref (d.adr K)) && (match K.lookup (d.adr K) with
  | some ⟨_, _, .func fd, _⟩ => PySem.W.codeIn K fd.code d.qual && (He.dflB K fd.defaults (d.dvs K) && He.kwdB K fd.kwdefaults (d.kws K))
  | _ => false)
/-- the i-th default of the def at p, if it is an object -/
def dfA (p : PySem.W.Frag → Addr) (i : Nat) (K : PySem.W.Frag) : Addr := match K.lookup (p K) with
  | some ⟨_, _, .func fd, _⟩ => (match fd.defaults with
    | .ref T => (match K.lookup T with
      | some ⟨_, _, .seq its _, _⟩ => (match its.toList[i]? with
        | some (.ref a) => a
        | _ => 0)
      | _ => 0)
    | _ => 0)
  | _ => 0
abbrev FnD (K : PySem.W.Frag) (d : DefA) (fd : FuncData) : Prop := FunD K d.name d.qual (defArgs d.st) (defBody d.st) (defScope d.st) (d.dvs K) (d.kws K) (d.adr K) fd
theorem DefA.funD {K : PySem.W.Frag} {d : DefA} (e : fnAt K (d.adr K) = d.val) (c : d.ok K = true) : ∃ fd, FnD K d fd := by
  obtain ⟨kp, c2⟩ := He.ba c
  unfold fnAt at e
  cases q : K.lookup (d.adr K) with
  | none => rw [q] at c2; cases c2
  | some o =>
    obtain ⟨oc, od, dt, osl⟩ := o
    rw [q] at c2 e
    cases dt with
    | func fd =>
      obtain ⟨m1, m2, m3, m4, m5, m6, m7, m8, m9, m10, m11, m12, m13, m14, m15⟩ := fd
      have e2 : (some (m1, m2, m3, m4, m5, m6, m7, m15) : He.FnW) = some (d.name, d.qual, defArgs d.st, .stmts (defBody d.st), defScope d.st, mainGlobals, [], builtinsNs) := e
      simp only [Option.some.injEq, Prod.mk.injEq] at e2
      obtain ⟨h1, h2, h3, h4, h5, h6, h7, h8⟩ := e2
      subst h1 h2 h3 h4 h5 h6 h7 h8
      obtain ⟨k1, k2⟩ := He.ba (show (PySem.W.codeIn K m13 d.qual && (He.dflB K m8 (d.dvs K) && He.kwdB K m9 (d.kws K))) = true from c2)
      obtain ⟨k3, k4⟩ := He.ba k2
      exact ⟨_, ⟨oc, od, m8, m9, m10, m11, m12, m13, m14, osl, rfl, q, k1, He.dflB_ok k3, He.kwdB_ok k4⟩, kp⟩
    | _ => cases c2
/-! ### the hook -/
abbrev AlA : Type := Bool × List He.FnW
abbrev Facts := List (PySem.W.Frag → Bool)
def obsA (fs : Facts) (ds : List DefA) (K : PySem.W.Frag) : AlA := ((fs.all fun f => f K) && ds.all fun d => d.ok K, ds.map fun d => fnAt K (d.adr K))
def valA (ds : List DefA) : AlA := (true, ds.map DefA.val)
def SaysA (fs : Facts) (ds : List DefA) (K : PySem.W.Frag) : Prop := obsA fs ds K = valA ds
/-- all that stands, from n on to m, the first k ahead -/
def rngA : Nat → Nat → List Addr
  | _, 0 => []
  | a, m + 1 => a :: rngA (a + 1) m
def obsAG (n : Nat) (fs : Facts) (ds : List DefA) (g : Addr → Option Obj) : AlA := obsA fs ds (He.frG g (rngA 0 n))
def hookA (fs : Facts) (ds : List DefA) : PySem.W.Hook where
  α := AlA
  obs := fun s => obsAG s.heap.objs.size fs ds s.heap.get?
  val := fun _ => valA ds
  says := fun _ h => ∃ K : PySem.W.Frag, K.In h ∧ SaysA fs ds K
  of := fun _ _ e => ⟨_, He.frG_in, e⟩
  keeps := fun _ _ _ z k => let ⟨K, hK, c⟩ := z; ⟨K, PySem.W.Frag.In.keeps hK k, c⟩
theorem obsAG_eq {n : Nat} {fs : Facts} {ds : List DefA} {g : Addr → Option Obj} {s : Shared} (h : ∀ a, g a = s.heap.get? a) (e : n = s.heap.objs.size) : obsAG n fs ds g = (hookA fs ds).obs s := by
  have z : g = s.heap.get? := funext h
  subst e z
  rfl
section
variable {fs : Facts} {ds : List DefA} {K : PySem.W.Frag}
theorem SaysA.fact (c : SaysA fs ds K) (i : Nat) {f : PySem.W.Frag → Bool} (h : fs[i]? = some f := by rfl) : f K = true :=
  List.all_eq_true.mp (He.ba (congrArg (fun z : AlA => z.1) c : ((fs.all fun f => f K) && ds.all fun d => d.ok K) = true)).1 f (List.mem_of_getElem? h)
theorem SaysA.def_ (c : SaysA fs ds K) (i : Nat) {d : DefA} (h : ds[i]? = some d := by rfl) : ∃ fd, FnD K d fd := by
  have k := (He.ba (congrArg (fun z : AlA => z.1) c : ((fs.all fun f => f K) && ds.all fun d => d.ok K) = true)).2
  have e : ds.map (fun d => fnAt K (d.adr K)) = ds.map DefA.val := congrArg (fun z : AlA => z.2) c
  have e2 : (ds.map fun d => fnAt K (d.adr K))[i]? = (ds.map DefA.val)[i]? := by rw [e]
  rw [List.getElem?_map, List.getElem?_map, h] at e2
  exact DefA.funD (Option.some.inj e2) (List.all_eq_true.mp k d (List.mem_of_getElem? h))
end
/-! ### facts -/
def fFa (f : He.Fa) : PySem.W.Frag → Bool := fun K => f.ok K
/-- an address: a module's name, a class's name, a getter, a classmethod's def -/
def aG (x : Str) : PySem.W.Frag → Addr := fun K => He.ga K x
def aM (c m : Str) : PySem.W.Frag → Addr := fun K => He.ma K (He.ga K c) m
def aR (T : String) (c m : Str) : PySem.W.Frag → Addr := fun K => match PySem.W.recIn K (aM c m K) T with
  | some (.ref g :: _) => g
  | _ => 0
def recB (K : PySem.W.Frag) (T : String) (c m : Str) : Bool := match PySem.W.recIn K (aM c m K) T with
  | some (.ref _ :: _) => true
  | _ => false
theorem recB_ok {K : PySem.W.Frag} {T : String} {c m : Str} (h : recB K T c m = true) : ∃ rest, PySem.W.recIn K (aM c m K) T = some (.ref (aR T c m K) :: rest) := by
  unfold recB at h
  unfold aR
  split at h
  · rename_i g rest e
    rw [e]
    exact ⟨rest, rfl⟩
  · cases h
def propB (c f : Str) : PySem.W.Frag → Bool := fun K => He.eqO (PySem.W.findIn K (.ref (He.ga K c)) f) (some (some (.ref (aM c f K)))) && (He.eqO (PySem.W.specialIn K (.ref (aM c f K)) "__get__") (some (some (.builtin "property.__get__"))) &&
  (decide (PySem.W.takesIn K (.ref (aM c f K)) = some true) && recB K "property" c f))
theorem propB_ok {K : PySem.W.Frag} {c f : Str} (h : propB c f K = true) : PropOf K (He.ga K c) f (aM c f K) (aR "property" c f K) := by
  obtain ⟨h1, h⟩ := He.ba h
  obtain ⟨h2, h⟩ := He.ba h
  obtain ⟨h3, h4⟩ := He.ba h
  exact ⟨He.eqO_ok h1, He.eqO_ok h2, of_decide_eq_true h3, recB_ok h4⟩
def creadB (c : Str) : PySem.W.Frag → Bool := fun K => PySem.W.readsIn K (He.ga K c) (.type "type") && He.eqO (PySem.W.specialIn K (.ref (He.ga K c)) "__getattribute__") (some (some (.builtin "type.__getattribute__")))
theorem creadB_ok {K : PySem.W.Frag} {c : Str} (h : creadB c K = true) : ClX.CRead K (He.ga K c) (.type "type") := by
  obtain ⟨h1, h2⟩ := He.ba h
  exact ⟨h1, He.eqO_ok h2⟩
def cmetB (c m : Str) : PySem.W.Frag → Bool := fun K => (match PySem.W.findCls K (.ref (He.ga K c)) (.type "type") m with
  | some (.get (.builtin s) (.ref p) .none (.ref C)) => decide (s = "classmethod.__get__") && (decide (p = aM c m K) && decide (C = He.ga K c))
  | _ => false) && (recB K "classmethod" c m && PySem.W.fnIn K (aR "classmethod" c m K))
theorem cmetB_ok {K : PySem.W.Frag} {c m : Str} (h : cmetB c m K = true) : ClX.CMet K (He.ga K c) (.type "type") m (aM c m K) (aR "classmethod" c m K) := by
  obtain ⟨h1, h⟩ := He.ba h
  obtain ⟨h2, h3⟩ := He.ba h
  refine ⟨?_, recB_ok h2, h3⟩
  cases e : PySem.W.findCls K (.ref (He.ga K c)) (.type "type") m with
  | none => rw [e] at h1; cases h1
  | some r =>
    rw [e] at h1
    cases r with
    | val v => cases h1
    | get g a ob tp =>
      cases g with
      | builtin s =>
        cases a with
        | ref p =>
          cases ob with
          | none =>
            cases tp with
            | ref C =>
              obtain ⟨k1, k⟩ := He.ba (show (decide (s = "classmethod.__get__") && (decide (p = aM c m K) && decide (C = He.ga K c))) = true from h1)
              obtain ⟨k2, k3⟩ := He.ba k
              rw [of_decide_eq_true k1, of_decide_eq_true k2, of_decide_eq_true k3]
            | _ => cases h1
          | _ => cases h1
        | _ => cases h1
      | _ => cases h1
def fnB (a : PySem.W.Frag → Addr) : PySem.W.Frag → Bool := fun K => PySem.W.fnIn K (a K)
def noSeqB (c : Str) : PySem.W.Frag → Bool := fun K => PySem.W.noSeq K (He.ga K c)
def subTB (c : Str) (T : String) (b : Bool) : PySem.W.Frag → Bool := fun K => decide (PySem.W.subIn K (.ref (He.ga K c)) (.type T) = some b)
def neB (c d : Str) : PySem.W.Frag → Bool := fun K => decide (He.ga K c ≠ He.ga K d)
/-! ### binding -/
section
variable {K : PySem.W.Frag} {x qual : Str} {params : Arguments} {body : List Stmt} {scope : Scope} {dvs : List V} {kws : List (Str × V)} {f : Addr} {fd : FuncData} {ps : List Str}
/-- every parameter is written -/
theorem FunD.full (F : FunD K x qual params body scope [] kws f fd) (h : ∀ (kV doc pm : Value) (an : Option Addr) (cdv ct : Value) (us : List Value), us.length = ps.length → bindArgs (PySem.W.fnOf x qual params body scope .none kV doc pm an cdv ct) ⟨us, []⟩ = pure (ps.zip us)) : Binds K fd ps [] := F.bindsN h
/-- the same where the last parameters have defaults (none is used) -/
theorem FunD.fullD (F : FunD K x qual params body scope dvs kws f fd) (hd : dvs ≠ []) (n : Nat) (hn : n = ps.length)
    (h : ∀ (T : Addr) (kV doc pm : Value) (an : Option Addr) (cdv ct : Value) (us its : List Value), us.length = n → its.length = dvs.length →
      ∃ k, bindArgs (PySem.W.fnOf x qual params body scope (.ref T) kV doc pm an cdv ct) ⟨us, []⟩ = seqItems? (.ref T) >>= k ∧ k (some its.toArray) = pure (ps.zip us)) : Binds K fd ps [] := by
  obtain ⟨ds, v, b⟩ := F.binds1 (ps := ps) n dvs.length hd (by omega) fun T kV doc pm an cdv ct us its h1 h2 => by
    obtain ⟨k, e1, e2⟩ := h T kV doc pm an cdv ct us its h1 h2
    refine ⟨k, e1, ?_⟩
    rw [e2, List.drop_eq_nil_of_le (by omega), List.append_nil]
  rw [List.drop_length] at v
  cases v
  exact b
theorem FunD.fullK (F : FunD K x qual params body scope [] kws f fd) (j : Nat) (ks : List Str) (h : ∀ (kV doc pm : Value) (an : Option Addr) (cdv ct : Value) (us ws : List Value), us.length = j → ws.length = ks.length → bindArgs (PySem.W.fnOf x qual params body scope .none kV doc pm an cdv ct) ⟨us, ks.zip ws⟩ = pure (ps.zip (us ++ ws))) : BindsK K fd ps j ks [] := by
  obtain ⟨oc, od, dV, kV, doc, pm, an, cdv, ct, osl, rfl, _, _, hD, _⟩ := F.ex
  rcases hD with ⟨_, rfl⟩ | ⟨e, _⟩
  · intro s us ws hK l1 l2
    rw [List.append_nil]
    exact .of_eq (h kV doc pm an cdv ct us ws l1 l2)
  · exact absurd rfl e
theorem FunD.fullA (F : FunD K x qual params body scope [] kws f fd) (h : ∀ (kV doc pm : Value) (an : Option Addr) (cdv ct : Value) (us : List Value), us.length = ps.length → bindArgs (PySem.W.fnOf x qual params body scope .none kV doc pm an cdv ct) ⟨us, []⟩ = pure (ps.zip us)) (s : Shared) (us : List Value) (hl : us.length = ps.length) : BindsTo s fd ⟨us, []⟩ (ps.zip us) := F.bindsA h s us hl
end
/-! ### a def's body's context -/
section
variable {P : Program} {w : World} {K : PySem.W.Frag} {mg : Str → Option Value} {base : Heap} {N : List Str} {qual : Str} {scope : Scope} {f : Addr} {cdv : Value} {A : Around} {outer : List Env} {s : Shared} {H : Hp} {E : XK}
abbrev BX (P : Program) (w : World) (K : PySem.W.Frag) (mg : Str → Option Value) (base : Heap) (N : List Str) (qual : Str) (scope : Scope) (f : Addr) (cdv : Value) (A : Around) (outer : List Env) (s : Shared) (H : Hp) (E : XK) : Cx := cxOf (L2.CX P w) P w K mg base N qual scope f cdv A outer s H E
abbrev BW (E : XK) : WX := fun c d _ H' => E c d H'
theorem tk_cx : Takes (BX P w K mg base N qual scope f cdv A outer s H E) (BW E) := takes_of rfl rfl rfl rfl
theorem po_cx : PassesOwn (model (BX P w K mg base N qual scope f cdv A outer s H E).prog (BX P w K mg base N qual scope f cdv A outer s H E).w) (BX P w K mg base N qual scope f cdv A outer s H E).A (BX P w K mg base N qual scope f cdv A outer s H E).env (BX P w K mg base N qual scope f cdv A outer s H E).xe := passes_of rfl
end
end Rv
set_option Elab.async false
set_option linter.all false
set_option maxRecDepth 100000
/-! P1: what an outcome is wanted to be, and how that goes through the mirrors. -/
namespace Rv
open PySem PySem.Spec L2
open PyProof.Rows hiding St

def Out.wp {α : Type} (o : Out α) (Q : α → Store → Prop) : Prop := match o with
  | .ok a μ => Q a μ
  | _ => False
def OutS.wp (o : OutS) (N : Env' → Store → Prop) (T : D → Store → Prop) : Prop := match o with
  | .nx ρ μ => N ρ μ
  | .ret d μ => T d μ
  | _ => False
section
variable {α β : Type} {Q Q' : α → Store → Prop} {N N' : Env' → Store → Prop} {T T' : D → Store → Prop} {ρ : Env'} {μ : Store}
theorem Out.wp_ok {a : α} : (Out.ok a μ).wp Q = Q a μ := rfl
theorem Out.wp_stuck : (Out.stuck : Out α).wp Q = False := rfl
theorem Out.wp_mono {o : Out α} (h : o.wp Q) (q : ∀ a μ, Q a μ → Q' a μ) : o.wp Q' := by
  cases o with
  | ok a μ => exact q a μ h
  | _ => exact h.elim
theorem OutS.wp_mono {o : OutS} (h : o.wp N T) (n : ∀ ρ μ, N ρ μ → N' ρ μ) (t : ∀ d μ, T d μ → T' d μ) : o.wp N' T' := by
  cases o with
  | nx ρ μ => exact n ρ μ h
  | ret d μ => exact t d μ h
  | _ => exact h.elim
theorem Out.wp_bind {o : Out β} {f : β → Store → Out α} : (o.bind f).wp Q = o.wp fun b μ => (f b μ).wp Q := by cases o <;> rfl
theorem Out.wp_only {o : Out α} : o.only.wp Q = o.wp Q := by cases o <;> rfl
theorem Out.wp_bindS {o : Out α} {f : α → Store → OutS} : (o.bindS ρ f).wp N T = o.wp fun a μ => (f a μ).wp N T := by cases o <;> rfl
theorem OutS.wp_nx : (OutS.nx ρ μ).wp N T = N ρ μ := rfl
theorem OutS.wp_ret {d : D} : (OutS.ret d μ).wp N T = T d μ := rfl
theorem OutS.wp_stuck : OutS.stuck.wp N T = False := rfl
theorem OutS.wp_bind {o : OutS} {f : C} : (o.bind f).wp N T = o.wp (fun ρ μ => (f ρ μ).wp N T) T := by cases o <;> rfl
theorem OutS.wp_only {o : OutS} : o.only.wp N T = o.wp N T := by cases o <;> rfl
theorem Out.wp_ite {c : Prop} [Decidable c] {o p : Out α} : (if c then o else p).wp Q = if c then o.wp Q else p.wp Q := by split <;> rfl
theorem OutS.wp_ite {c : Prop} [Decidable c] {o p : OutS} : (if c then o else p).wp N T = if c then o.wp N T else p.wp N T := by split <;> rfl
theorem ite_false_eq {c : Prop} [Decidable c] {p : Prop} : (if c then p else False) = (c ∧ p) := by
  split
  · rename_i h; simp [h]
  · rename_i h; simp [h]
theorem Out.wp_eq {o : Out α} {a : α} (h : o = .ok a μ) : o.wp Q = Q a μ := by rw [h]; rfl
theorem Out.eq_of {o : Out α} {a : α} (h : o.wp fun b ν => b = a ∧ ν = μ) : o = .ok a μ := by
  cases o with
  | ok b ν => obtain ⟨rfl, rfl⟩ := h; rfl
  | _ => exact h.elim
theorem Out.ex_of {o : Out α} (h : o.wp Q) : ∃ a μ, o = .ok a μ ∧ Q a μ := by
  cases o with
  | ok b ν => exact ⟨b, ν, rfl, h⟩
  | _ => exact h.elim
/-! ### the store -/
def low1 (n : Nat) (m : MO) : Prop := MO.low n m = true
/-- what stands has no name of what is new -/
def WF (μ : Store) : Prop := ∀ m ∈ μ, MO.low μ.length m = true
theorem kept_self {n : Nat} (h : n = μ.length) (L : Store) : kept n μ (μ ++ L) = true := by
  subst h
  unfold kept
  rw [List.take_left, decide_eq_true rfl]
  rfl
theorem kept_low {n : Nat} {μ' : Store} (h : ∀ m ∈ μ'.take n, MO.low n m = true) : kept n μ μ' = true := by
  unfold kept
  rw [List.all_eq_true.mpr h, Bool.or_true]
end
/-! ### regions -/
section
variable {Q : D → Store → Prop} {μ μ' : Store} {o : OutS} {d : D}
/-- behind a region: what a return gives -/
def RQ (μ : Store) (Q : D → Store → Prop) : D → Store → Prop := fun d μ' => kept μ.length μ μ' = true ∧ D.low μ.length (frz μ.length μ' d) = true ∧ Q (frz μ.length μ' d) (μ'.take μ.length)
def NQ (μ : Store) (Q : D → Store → Prop) : Env' → Store → Prop := fun _ μ' => kept μ.length μ μ' = true ∧ Q .non (μ'.take μ.length)
theorem region_wp (h : o.wp (NQ μ Q) (RQ μ Q)) : (region μ o).wp Q := by
  cases o with
  | nx ρ μ' =>
    obtain ⟨h1, h2⟩ := h
    show (if kept μ.length μ μ' = true then Out.ok D.non (μ'.take μ.length) else .stuck).wp Q
    rw [if_pos h1]
    exact h2
  | ret d μ' =>
    obtain ⟨h1, h2, h3⟩ := h
    show (if (kept μ.length μ μ' && D.low μ.length (frz μ.length μ' d)) = true then Out.ok (frz μ.length μ' d) (μ'.take μ.length) else .stuck).wp Q
    rw [h1, h2]
    exact h3
  | _ => exact h.elim
theorem runF_wp {n : Nat} {c : C} {ds : List D} (h : (c (begin n ds) μ).wp (NQ μ Q) (RQ μ Q)) : (runF n c ds μ).wp Q := region_wp h
/-- the store is not touched, no new thing is made that is kept, a value without names comes -/
theorem RQ.pure (L : Store) (h2 : D.low μ.length d = true) (h3 : frz μ.length (μ ++ L) d = d) (q : Q d μ) : RQ μ Q d (μ ++ L) := by
  refine ⟨kept_self rfl L, ?_, ?_⟩
  · rw [h3]; exact h2
  · rw [h3, List.take_left]; exact q
theorem RQ.pure0 (h2 : D.low μ.length d = true) (h3 : frz μ.length μ d = d) (q : Q d μ) : RQ μ Q d μ := by
  have := RQ.pure (Q := Q) (μ := μ) (d := d) [] h2 (by rw [List.append_nil]; exact h3) q
  rw [List.append_nil] at this
  exact this
theorem NQ.pure (ρ : Env') (L : Store) (q : Q .non μ) : NQ μ Q ρ (μ ++ L) := by
  refine ⟨kept_self rfl L, ?_⟩
  rw [List.take_left]; exact q
theorem NQ.pure0 (ρ : Env') (q : Q .non μ) : NQ μ Q ρ μ := by
  have := NQ.pure (Q := Q) (μ := μ) ρ [] q
  rw [List.append_nil] at this
  exact this
end
/-! ### mirrors, applied -/
section
variable {ρ : Env'} {μ : Store} {Q : D → Store → Prop} {N : Env' → Store → Prop} {T : D → Store → Prop}
theorem mC_ap {d : D} : mC d ρ μ = .ok d μ := rfl
theorem cSeq_ap {a b : C} : (cSeq a b ρ μ) = (a ρ μ).bind b := rfl
theorem cNil_ap : cNil ρ μ = .nx ρ μ := rfl
theorem cRet_ap {m : M D} : cRet m ρ μ = (m ρ μ).bindS ρ fun d μ1 => .ret d μ1 := rfl
theorem cRetN_ap : cRetN ρ μ = .ret .non μ := rfl
theorem cExpr_ap {m : M D} : cExpr m ρ μ = (m ρ μ).bindS ρ fun _ μ1 => .nx ρ μ1 := rfl
theorem cIf_ap {t : M Bool} {a b : C} : cIf t a b ρ μ = (t ρ μ).bindS ρ fun k μ1 => if k = true then a ρ μ1 else b ρ μ1 := rfl
theorem cSet_ap {i : Nat} {m : M D} : cSet i m ρ μ = (m ρ μ).bindS ρ fun d μ1 => .nx (ρ.set i (some d)) μ1 := rfl
theorem cFor_ap {mi : MI} {g : TgM} {b : C} : cFor mi g b ρ μ = (mi ρ μ).bindS ρ fun p μ1 => forGo p.1 g b p.2 ρ μ1 := rfl
theorem cTry_ap {c : C} : cTry c ρ μ = (c ρ μ).only := rfl
theorem cAsg_ap {g : D → C} {m : M D} : cAsg g m ρ μ = (m ρ μ).bindS ρ fun d μ1 => g d ρ μ1 := rfl
theorem cPar_ap {i j : Nat} {ms : M (List D)} : cPar i j ms ρ μ = (ms ρ μ).bindS ρ fun ds μ1 => match ds with
  | [d1, d2] => .nx ((ρ.set i (some d1)).set j (some d2)) μ1
  | _ => .stuck := rfl
theorem cPar3_ap {i j k : Nat} {ms : M (List D)} : cPar3 i j k ms ρ μ = (ms ρ μ).bindS ρ fun ds μ1 => match ds with
  | [d1, d2, d3] => .nx (((ρ.set k (some d3)).set j (some d2)).set i (some d1)) μ1
  | _ => .stuck := rfl
theorem m1_ap {f : D → Store → Out D} {a : M D} : m1 f a ρ μ = (a ρ μ).bind f := rfl
theorem m2_ap {f : D → D → Store → Out D} {a b : M D} : m2 f a b ρ μ = (a ρ μ).bind fun x μ1 => (b ρ μ1).bind fun y μ2 => f x y μ2 := rfl
theorem mT_ap {m : M D} : mT m ρ μ = (m ρ μ).bind fun d μ' => match truth μ' d with
  | some b => .ok b μ'
  | none => .stuck := rfl
theorem mB_ap {m : M D} : mB m ρ μ = (m ρ μ).bind outB := rfl
theorem tAndM_ap {t u : M Bool} : tAndM t u ρ μ = (t ρ μ).bind fun b μ' => if b = true then u ρ μ' else .ok false μ' := rfl
theorem tOrM_ap {t u : M Bool} : tOrM t u ρ μ = (t ρ μ).bind fun b μ' => if b = true then .ok true μ' else u ρ μ' := rfl
theorem tNotM_ap {t : M Bool} : tNotM t ρ μ = (t ρ μ).bind fun b μ' => .ok (!b) μ' := rfl
theorem mAnd_ap {m n : M D} : mAnd m n ρ μ = (m ρ μ).bind fun d μ' => match d with
  | .bl true => n ρ μ'
  | .bl false => .ok (.bl false) μ'
  | _ => .stuck := rfl
theorem mOr_ap {m n : M D} : mOr m n ρ μ = (m ρ μ).bind fun d μ' => match d with
  | .bl true => .ok (.bl true) μ'
  | .bl false => n ρ μ'
  | _ => .stuck := rfl
theorem mIf_ap {t : M Bool} {m n : M D} : mIf t m n ρ μ = (t ρ μ).bind fun b μ' => if b = true then m ρ μ' else n ρ μ' := rfl
theorem maNil_ap : maNil ρ μ = .ok [] μ := rfl
theorem maCons_ap {m : M D} {ms : M (List D)} : maCons m ms ρ μ = (m ρ μ).bind fun d μ1 => (ms ρ μ1).bind fun ds μ2 => .ok (d :: ds) μ2 := rfl
theorem maStar_ap {m : M D} {ms : M (List D)} : maStar m ms ρ μ = (m ρ μ).bind fun d μ1 => match asQ μ1 d with
  | some xs => (ms ρ μ1).bind fun ds μ2 => .ok (xs ++ ds) μ2
  | none => .stuck := rfl
theorem mTup_ap {ms : M (List D)} : mTup ms ρ μ = (ms ρ μ).bind fun ds μ1 => if ds.length ≤ maxL then .ok (.tup ds) μ1 else .stuck := rfl
theorem mFz_ap {m : M (List D)} : mFz m ρ μ = (m ρ μ).bind fun ds μ1 => .ok (.lst ds) μ1 := rfl
theorem mNw_ap {m : M (List D)} : mNw m ρ μ = (m ρ μ).bind fun ds μ1 => .ok (.ref μ1.length) (μ1 ++ [.lst ds]) := rfl
theorem mLen_ap {ms : M (List D)} : mLen ms ρ μ = (ms ρ μ).bind fun ds μ1 => if ds.length ≤ maxL then .ok ds μ1 else .stuck := rfl
theorem moNone_ap : moNone ρ μ = .ok none μ := rfl
theorem moSome_ap {m : M D} : moSome m ρ μ = (m ρ μ).bind fun d μ1 => match d with
  | .int i => .ok (some i) μ1
  | _ => .stuck := rfl
theorem mSl_ap {m : M D} {lo hi : M (Option Int)} : mSl m lo hi ρ μ = (m ρ μ).bind fun d μ1 => (lo ρ μ1).bind fun l μ2 => (hi ρ μ2).bind fun h μ3 => dSl d l h μ3 := rfl
theorem mCall_ap {F : Fn} {ms : M (List D)} : mCall F ms ρ μ = (ms ρ μ).bind F := rfl
theorem mCallB_ap {F : Fn} {ms : M (List D)} : mCallB F ms ρ μ = (ms ρ μ).bind fun ds μ1 => (F ds μ1).only := rfl
theorem mCallK_ap {F : List D → List D → Store → Out D} {ms mk : M (List D)} : mCallK F ms mk ρ μ = (ms ρ μ).bind fun ds μ1 => (mk ρ μ1).bind fun es μ2 => F ds es μ2 := rfl
theorem mCMeth_ap {cl : Str} {F : Fn} {ms : M (List D)} : mCMeth cl F ms ρ μ = (ms ρ μ).bind fun ds μ2 => F (.cls cl :: ds) μ2 := rfl
theorem mApp_ap {m n : M D} : mApp m n ρ μ = (m ρ μ).bind fun d1 μ1 => match asL μ1 d1 with
  | some _ => (n ρ μ1).bind fun d2 μ2 => fApp d1 d2 μ2
  | none => .stuck := rfl
theorem mM1_ap {f : List Nat → D → Store → Out D} {m n : M D} : mM1 f m n ρ μ = (m ρ μ).bind fun d μ1 => match d with
  | .str s => (n ρ μ1).bind fun y μ2 => (f s y μ2).only
  | _ => .stuck := rfl
theorem mIt_ap {m : M D} : mIt m ρ μ = (m ρ μ).bind fun d μ1 => oOut (itD μ1 d) μ1 := rfl
theorem mI_ap {k : List D → Store → Out (Lv × List D)} {ms : M (List D)} : mI k ms ρ μ = (ms ρ μ).bind k := rfl
theorem mLc_ap {mi : MI} {vs : List Nat} {g : TgM} {t : M Bool} {m : M D} : mLc mi vs g t m ρ μ = (mi ρ μ).bind fun p μ1 => if p.2.length ≤ maxL then (lcGo p.1 g t m (wipeM ρ vs) p.2 μ1).only else .stuck := rfl
theorem mFmt_ap {m : M D} : mFmt m ρ μ = (m ρ μ).bind fun d μ1 => match d with
  | .str s => if s.length ≤ maxL then .ok (.str s) μ1 else .stuck
  | .int i => if i.natAbs.log2 < 1920 then .ok (.str (ofS (toString i))) μ1 else .stuck
  | _ => .stuck := rfl
theorem joinGo_nil {acc : List Nat} : joinGo [] acc ρ μ = .ok (.str acc) μ := rfl
theorem joinGo_cons {m : M D} {l : List (M D)} {acc : List Nat} : joinGo (m :: l) acc ρ μ = (m ρ μ).bind fun d μ1 => match d with
  | .str s => if acc.length + s.length ≤ maxL then joinGo l (acc ++ s) ρ μ1 else .stuck
  | _ => .stuck := rfl
theorem mChain_ap {f g : D → D → Store → Out D} {m n o : M D} : mChain f g m n o ρ μ = (m ρ μ).bind fun x μ1 => (n ρ μ1).bind fun y μ2 => (f x y μ2).only.bind fun z μ3 => match z with
  | .bl true => (o ρ μ3).bind fun w μ4 => (g y w μ4).only
  | .bl false => .ok (.bl false) μ3
  | _ => .stuck := rfl
theorem tgP_ap {g : TgM} {d : D} : tgP g d ρ μ = match g d ρ with
  | some ρ' => .nx ρ' μ
  | none => .stuck := rfl
theorem tgSub_ap {mo mi : M D} {d : D} : tgSub mo mi d ρ μ = (mo ρ μ).bindS ρ fun o μ1 => (mi ρ μ1).bindS ρ fun i μ2 => match dSet o i d μ2 with
  | some μ3 => .nx ρ μ3
  | none => .stuck := rfl
theorem cFld_ap {cl f : Str} {mo m : M D} : cFld cl f mo m ρ μ = (m ρ μ).bindS ρ fun d μ1 => (mo ρ μ1).bindS ρ fun o μ2 => match dSetF cl f o d μ2 with
  | some μ3 => .nx ρ μ3
  | none => .stuck := rfl
theorem mVar_ap {i : Nat} : mVar i ρ μ = match ρ[i]? with
  | some (some d) => .ok d μ
  | _ => .stuck := rfl
end
/-! ### loops -/
section
variable {g : TgM} {b : C} {I : Nat → Env' → Store → Prop} {N : Env' → Store → Prop} {T : D → Store → Prop}
/-- a round ends by going on, or by continue -/
def OutS.wpL (o : OutS) (L N : Env' → Store → Prop) (T : D → Store → Prop) : Prop := match o with
  | .nx ρ μ => L ρ μ
  | .ct ρ μ => L ρ μ
  | .brk ρ μ => N ρ μ
  | .ret d μ => T d μ
  | _ => False
theorem OutS.wpL_of {o : OutS} {L N : Env' → Store → Prop} (h : o.wp L T) : o.wpL L N T := by cases o <;> first | exact h | exact h.elim
theorem forGo_wp : ∀ {ds : List D} {k : Nat} {ρ : Env'} {μ : Store}, I k ρ μ →
    (∀ i d ρ μ, ds[i]? = some d → I (k + i) ρ μ → ∃ ρ1, g d ρ = some ρ1 ∧ (b ρ1 μ).wpL (I (k + i + 1)) N T) → (∀ ρ μ, I (k + ds.length) ρ μ → N ρ μ) → (forGo none g b ds ρ μ).wp N T
  | [], k, ρ, μ, h0, _, he => by
    show (if lvOk none μ = true then OutS.nx ρ μ else .stuck).wp N T
    exact he _ _ h0
  | d :: ds, k, ρ, μ, h0, hs, he => by
    obtain ⟨ρ1, e1, h1⟩ := hs 0 d ρ μ rfl h0
    have ih : ∀ ρ2 μ2, I (k + 1) ρ2 μ2 → (forGo none g b ds ρ2 μ2).wp N T := fun ρ2 μ2 h2 => forGo_wp (k := k + 1) h2 (fun i d ρ μ e hi => by
      have := hs (i + 1) d ρ μ e (by rw [show k + (i + 1) = k + 1 + i by omega]; exact hi)
      rw [show k + 1 + i + 1 = k + (i + 1) + 1 by omega]
      exact this) fun ρ μ hn => he ρ μ (by rw [List.length_cons, show k + (ds.length + 1) = k + 1 + ds.length by omega]; exact hn)
    unfold forGo
    rw [if_pos (show lvOk none μ = true from rfl), e1]
    dsimp only
    cases q : b ρ1 μ with
    | nx ρ2 μ2 => rw [q] at h1; exact ih _ _ h1
    | ct ρ2 μ2 => rw [q] at h1; exact ih _ _ h1
    | brk ρ2 μ2 => rw [q] at h1; exact h1
    | ret d μ2 => rw [q] at h1; exact h1
    | exc c ns ds ρ2 μ2 => rw [q] at h1; exact h1.elim
    | stuck => rw [q] at h1; exact h1.elim
/-- a list comprehension whose parts leave the store as it is -/
theorem lcGo_pure {t : M Bool} {m : M D} {ρ0 : Env'} {p : D → Bool} {f : D → D} {μ : Store} : ∀ {ds : List D}, (∀ d ∈ ds, ∃ ρ1, g d ρ0 = some ρ1 ∧ t ρ1 μ = .ok (p d) μ ∧ (p d = true → m ρ1 μ = .ok (f d) μ)) → lcGo none g t m ρ0 ds μ = .ok ((ds.filter p).map f) μ
  | [], _ => rfl
  | d :: ds, h => by
    obtain ⟨ρ1, e1, e2, e3⟩ := h d (List.mem_cons_self ..)
    have ih := lcGo_pure (ds := ds) fun x hx => h x (List.mem_cons_of_mem _ hx)
    show (if lvOk none μ = true then (match g d ρ0 with
      | none => Out.stuck
      | some ρ1 => (t ρ1 μ).bind fun k μ1 => if k = true then (m ρ1 μ1).bind fun y μ2 => (lcGo none g t m ρ0 ds μ2).bind fun ys μ3 => .ok (y :: ys) μ3 else lcGo none g t m ρ0 ds μ1) else .stuck) = _
    rw [e1]
    show ((t ρ1 μ).bind fun k μ1 => if k = true then (m ρ1 μ1).bind fun y μ2 => (lcGo none g t m ρ0 ds μ2).bind fun ys μ3 => .ok (y :: ys) μ3 else lcGo none g t m ρ0 ds μ1) = _
    rw [e2]
    show (if p d = true then (m ρ1 μ).bind fun y μ2 => (lcGo none g t m ρ0 ds μ2).bind fun ys μ3 => .ok (y :: ys) μ3 else lcGo none g t m ρ0 ds μ) = _
    cases q : p d with
    | true =>
      rw [if_pos rfl, e3 q]
      show ((lcGo none g t m ρ0 ds μ).bind fun ys μ3 => .ok (f d :: ys) μ3) = _
      rw [ih, List.filter_cons_of_pos q]
      rfl
    | false =>
      rw [if_neg (by simp), ih, List.filter_cons_of_neg (by simp [q])]
/-- the same over items that come from others -/
theorem lcGo_map {α : Type} {t : M Bool} {m : M D} {ρ0 : Env'} {h : α → D} {p : α → Bool} {f : α → D} {μ : Store} : ∀ {xs : List α}, (∀ x ∈ xs, ∃ ρ1, g (h x) ρ0 = some ρ1 ∧ t ρ1 μ = .ok (p x) μ ∧ (p x = true → m ρ1 μ = .ok (f x) μ)) → lcGo none g t m ρ0 (xs.map h) μ = .ok ((xs.filter p).map f) μ
  | [], _ => rfl
  | d :: ds, hh => by
    obtain ⟨ρ1, e1, e2, e3⟩ := hh d (List.mem_cons_self ..)
    have ih := lcGo_map (xs := ds) fun x hx => hh x (List.mem_cons_of_mem _ hx)
    rw [List.map_cons]
    unfold lcGo
    rw [if_pos (show lvOk none μ = true from rfl), e1]
    dsimp only
    rw [e2]
    show (if p d = true then (m ρ1 μ).bind fun y μ2 => (lcGo none g t m ρ0 (ds.map h) μ2).bind fun ys μ3 => .ok (y :: ys) μ3 else lcGo none g t m ρ0 (ds.map h) μ) = _
    cases q : p d with
    | true =>
      rw [if_pos rfl, e3 q]
      show ((lcGo none g t m ρ0 (ds.map h) μ).bind fun ys μ3 => .ok (f d :: ys) μ3) = _
      rw [ih, List.filter_cons_of_pos q]
      rfl
    | false =>
      rw [if_neg (by simp), ih, List.filter_cons_of_neg (by simp [q])]
end
end Rv
set_option Elab.async false
set_option linter.all false
set_option maxRecDepth 100000
/-! P2: operations on the values, for simp. -/
namespace Rv
open PySem PySem.Spec L2
open PyProof.Rows hiding St
section
variable {μ : Store} {p : Nat} {ds es : List D} {Q : D → Store → Prop}
theorem asL_ref (h : μ[p]? = some (.lst ds)) : asL μ (.ref p) = some ds := by
  show (match μ[p]? with
    | some (.lst ds) => some ds
    | _ => none) = _
  rw [h]
theorem dIx_ref {i : Int} {x : D} (h : μ[p]? = some (.lst ds)) (e : atI ds i = some x) : dIx (.ref p) (.int i) μ = .ok x μ := by
  show (match asQ μ (.ref p) with
      | some ds => (match atI ds i with
        | some d => Out.ok d μ
        | none => .stuck)
      | none => .stuck) = _
  rw [show asQ μ (.ref p) = some ds from asL_ref h]
  dsimp only
  rw [e]
theorem dIx_lst {i : Int} {x : D} (e : atI ds i = some x) : dIx (.lst ds) (.int i) μ = .ok x μ := by
  show (match atI ds i with
        | some d => Out.ok d μ
        | none => .stuck) = _
  rw [e]
theorem dIx_tup {i : Int} {x : D} (e : atI ds i = some x) : dIx (.tup ds) (.int i) μ = .ok x μ := by
  show (match atI ds i with
        | some d => Out.ok d μ
        | none => .stuck) = _
  rw [e]
theorem dIx_str {i : Int} {s : List Nat} {c : Nat} (l : s.length ≤ maxL) (e : atI s i = some c) : dIx (.str s) (.int i) μ = .ok (.str [c]) μ := by
  show (if s.length ≤ maxL then (match atI s i with
      | some c => Out.ok (D.str [c]) μ
      | none => .stuck) else .stuck) = _
  rw [if_pos l, e]
theorem atI_nat {α : Type} {xs : List α} {i : Nat} (h : i < xs.length) : atI xs (i : Int) = xs[i]? := by
  unfold atI ixN
  rw [if_pos (by omega), if_pos (by omega)]
  rfl
theorem atI_int {α : Type} {xs : List α} {i : Int} (h0 : 0 ≤ i) (h : i < xs.length) : atI xs i = xs[i.toNat]? := by
  unfold atI ixN
  rw [if_pos (by omega), if_pos (by omega)]
  rfl
theorem ixN_int {n : Nat} {i : Int} (h0 : 0 ≤ i) (h : i < n) : ixN n i = some i.toNat := by
  unfold ixN
  rw [if_pos (by omega), if_pos (by omega)]
theorem dSet_ref {i : Int} {d : D} (h : μ[p]? = some (.lst ds)) (h0 : 0 ≤ i) (h1 : i < ds.length) : dSet (.ref p) (.int i) d μ = some (μ.set p (.lst (ds.set i.toNat d))) := by
  show (match μ[p]? with
    | some (.lst ds) => (ixN ds.length i).map fun q => μ.set p (.lst (ds.set q d))
    | _ => none) = _
  rw [h]
  dsimp only
  rw [ixN_int h0 h1]
  rfl
theorem dAdd_int {i j : Int} : dPlus (.int i) (.int j) μ = .ok (.int (i + j)) μ := rfl
theorem dAdd_str {s t : List Nat} : dPlus (.str s) (.str t) μ = if s.length + t.length ≤ maxL then .ok (.str (s ++ t)) μ else .stuck := rfl
theorem dAdd_tup : dPlus (.tup ds) (.tup es) μ = if ds.length + es.length ≤ maxL then .ok (.tup (ds ++ es)) μ else .stuck := rfl
theorem dAdd_lst : dPlus (.lst ds) (.lst es) μ = if ds.length + es.length ≤ maxL then .ok (.lst (ds ++ es)) μ else .stuck := rfl
theorem dSub_int {i j : Int} : dSub (.int i) (.int j) μ = .ok (.int (i - j)) μ := rfl
theorem dTimes_int {i j : Int} : dTimes (.int i) (.int j) μ = if (-(2 ^ 64) < i ∧ i < 2 ^ 64) ∨ (-(2 ^ 64) < j ∧ j < 2 ^ 64) then .ok (.int (i * j)) μ else .stuck := rfl
theorem dDiv_int {i j : Int} : dDiv (.int i) (.int j) μ = if 0 < j ∧ j < 1073741824 then .ok (.int (i / j)) μ else .stuck := rfl
theorem dMod_int {i j : Int} : dMod (.int i) (.int j) μ = if 0 < j then .ok (.int (i % j)) μ else .stuck := rfl
theorem fInt_int {i : Int} : fInt [.int i] μ = .ok (.int i) μ := rfl
theorem fDivmod_int {i j : Int} : fDivmod [.int i, .int j] μ = if 0 < j ∧ j < 1073741824 then .ok (.tup [.int (i / j), .int (i % j)]) μ else .stuck := rfl
theorem dLt_int {i j : Int} : dLt (.int i) (.int j) μ = .ok (.bl (decide (i < j))) μ := rfl
theorem dLe_int {i j : Int} : dLe (.int i) (.int j) μ = .ok (.bl (decide (i ≤ j))) μ := rfl
theorem dGt_int {i j : Int} : dGt (.int i) (.int j) μ = .ok (.bl (decide (j < i))) μ := rfl
theorem dGe_int {i j : Int} : dGe (.int i) (.int j) μ = .ok (.bl (decide (j ≤ i))) μ := rfl
theorem dEq_int {i j : Int} : dEq (.int i) (.int j) μ = .ok (.bl (decide (i = j))) μ := rfl
theorem dNe_int {i j : Int} : dNe (.int i) (.int j) μ = .ok (.bl (!decide (i = j))) μ := rfl
theorem dEq_str {i j : List Nat} : dEq (.str i) (.str j) μ = .ok (.bl (decide (i = j))) μ := rfl
theorem dNe_str {i j : List Nat} : dNe (.str i) (.str j) μ = .ok (.bl (!decide (i = j))) μ := rfl
theorem outB_bl {b : Bool} : outB (.bl b) μ = .ok b μ := rfl
theorem arity_ap {n : Nat} {F : Fn} : arity n F [] ds μ = if ds.length = n then F ds μ else .stuck := by
  show (if ds.length + 0 = n then F (ds ++ []) μ else .stuck) = _
  rw [List.append_nil, Nat.add_zero]
theorem arity1_ap {n : Nat} {F : Fn} : arity1 n F [] ds μ = if ds.length + 1 = n then F ds μ else .stuck := by
  show (if ds.length + 0 + 1 = n then F (ds ++ []) μ else .stuck) = _
  rw [List.append_nil, Nat.add_zero]
theorem arity1K_ap {n j k : Nat} {F : Fn} : arity1K n j k F [] ds es μ = if ds.length = j ∧ es.length = k ∧ j + k + 1 = n then F (ds ++ es) μ else .stuck := by
  show (if ds.length = j ∧ es.length = k ∧ j + k + 0 + 1 = n then F (ds ++ es ++ []) μ else .stuck) = _
  rw [List.append_nil, Nat.add_zero]
theorem tgT_ap {n : Nat} {gs : List D → C} {ρ : Env'} : tgT n gs (.tup ds) ρ μ = if ds.length = n then gs ds ρ μ else .stuck := rfl
theorem tgsC_ap {g : D → C} {gs : List D → C} {d : D} {ρ : Env'} : tgsC g gs (d :: ds) ρ μ = (g d ρ μ).bind (gs ds) := rfl
theorem tgsN_ap {ρ : Env'} : tgsN [] ρ μ = .nx ρ μ := rfl
theorem gN_ap {i : Nat} {d : D} {ρ : Env'} : gN i d ρ = some (ρ.set i (some d)) := rfl
theorem fLen_str {s : List Nat} : fLen [.str s] μ = if s.length ≤ maxL then .ok (.int s.length) μ else .stuck := by
  show (match (if s.length ≤ maxL then some s.length else none) with
    | some n => Out.ok (D.int n) μ
    | none => .stuck) = _
  by_cases h : s.length ≤ maxL
  · rw [if_pos h, if_pos h]
  · rw [if_neg h, if_neg h]
theorem fLen_lst : fLen [.lst ds] μ = .ok (.int ds.length) μ := rfl
theorem fLen_tup : fLen [.tup ds] μ = .ok (.int ds.length) μ := rfl
theorem fLen_ref (h : μ[p]? = some (.lst ds)) : fLen [.ref p] μ = .ok (.int ds.length) μ := by
  show (match (asL μ (.ref p)).map List.length with
    | some n => Out.ok (D.int n) μ
    | none => .stuck) = _
  rw [asL_ref h]
  rfl
end
end Rv
set_option Elab.async false
set_option linter.all false
set_option maxRecDepth 100000
/-! P3: one step each through the mirrors. -/
namespace Rv
open PySem PySem.Spec L2
open PyProof.Rows hiding St
section
variable {ρ : Env'} {μ : Store} {Q : D → Store → Prop} {QB : Bool → Store → Prop} {QL : List D → Store → Prop} {N : Env' → Store → Prop} {T : D → Store → Prop} {a b c : C} {m n o : M D} {t u : M Bool} {ms mk : M (List D)} {d : D} {ds : List D} {i j k : Nat} {x y : Int} {F : Fn} {g : TgM} {r s : List Nat} {cl f : Str}
theorem s_seq (h : (a ρ μ).wp (fun ρ μ => (b ρ μ).wp N T) T) : (cSeq a b ρ μ).wp N T := by rw [cSeq_ap, OutS.wp_bind]; exact h
theorem s_nil (h : N ρ μ) : (cNil ρ μ).wp N T := h
theorem s_ret (h : (m ρ μ).wp T) : (cRet m ρ μ).wp N T := by rw [cRet_ap, Out.wp_bindS]; exact h
theorem s_retN (h : T .non μ) : (cRetN ρ μ).wp N T := h
theorem s_expr (h : (m ρ μ).wp fun _ μ => N ρ μ) : (cExpr m ρ μ).wp N T := by rw [cExpr_ap, Out.wp_bindS]; exact h
theorem s_if (h : (t ρ μ).wp fun k μ1 => (if k = true then a ρ μ1 else b ρ μ1).wp N T) : (cIf t a b ρ μ).wp N T := by rw [cIf_ap, Out.wp_bindS]; exact h
theorem s_ifT {o p : OutS} (h : o.wp N T) : (if true = true then o else p).wp N T := h
theorem s_ifF {o p : OutS} (h : p.wp N T) : (if false = true then o else p).wp N T := h
theorem s_set (h : (m ρ μ).wp fun d μ1 => N (ρ.set i (some d)) μ1) : (cSet i m ρ μ).wp N T := by rw [cSet_ap, Out.wp_bindS]; exact h
theorem s_for {mi : MI} (h : (mi ρ μ).wp fun p μ1 => (forGo p.1 g b p.2 ρ μ1).wp N T) : (cFor mi g b ρ μ).wp N T := by rw [cFor_ap, Out.wp_bindS]; exact h
theorem s_try (h : (a ρ μ).wp N T) : (cTry a ρ μ).wp N T := by rw [cTry_ap, OutS.wp_only]; exact h
theorem s_asg {g : D → C} (h : (m ρ μ).wp fun d μ1 => (g d ρ μ1).wp N T) : (cAsg g m ρ μ).wp N T := by rw [cAsg_ap, Out.wp_bindS]; exact h
theorem s_par (h : (ms ρ μ).wp fun ds μ1 => ∃ d1 d2, ds = [d1, d2] ∧ N ((ρ.set i (some d1)).set j (some d2)) μ1) : (cPar i j ms ρ μ).wp N T := by
  rw [cPar_ap, Out.wp_bindS]
  refine Out.wp_mono h fun ds μ1 q => ?_
  obtain ⟨d1, d2, rfl, q⟩ := q
  exact q
theorem s_par3 (h : (ms ρ μ).wp fun ds μ1 => ∃ d1 d2 d3, ds = [d1, d2, d3] ∧ N (((ρ.set k (some d3)).set j (some d2)).set i (some d1)) μ1) : (cPar3 i j k ms ρ μ).wp N T := by
  rw [cPar3_ap, Out.wp_bindS]
  refine Out.wp_mono h fun ds μ1 q => ?_
  obtain ⟨d1, d2, d3, rfl, q⟩ := q
  exact q
theorem s_C (h : Q d μ) : (mC d ρ μ).wp Q := h
theorem s_var (e : ρ[i]? = some (some d)) (h : Q d μ) : (mVar i ρ μ).wp Q := by rw [mVar_ap, e]; exact h
theorem s_m1 {f : D → Store → Out D} (h : (m ρ μ).wp fun d μ => (f d μ).wp Q) : (m1 f m ρ μ).wp Q := by rw [m1_ap, Out.wp_bind]; exact h
theorem s_m2 {f : D → D → Store → Out D} (h : (m ρ μ).wp fun d μ => (n ρ μ).wp fun e μ => (f d e μ).wp Q) : (m2 f m n ρ μ).wp Q := by
  rw [m2_ap, Out.wp_bind]
  refine Out.wp_mono h fun d μ q => ?_
  rw [Out.wp_bind]
  exact q
theorem s_T (h : (m ρ μ).wp fun d μ => ∃ b, truth μ d = some b ∧ QB b μ) : (mT m ρ μ).wp QB := by
  rw [mT_ap, Out.wp_bind]
  refine Out.wp_mono h fun d μ q => ?_
  obtain ⟨b, e, q⟩ := q
  rw [e]
  exact q
theorem s_B (h : (m ρ μ).wp fun d μ => ∃ b, d = .bl b ∧ QB b μ) : (mB m ρ μ).wp QB := by
  rw [mB_ap, Out.wp_bind]
  refine Out.wp_mono h fun d μ q => ?_
  obtain ⟨b, rfl, q⟩ := q
  exact q
theorem s_andM (h : (t ρ μ).wp fun b μ => if b = true then (u ρ μ).wp QB else QB false μ) : (tAndM t u ρ μ).wp QB := by
  rw [tAndM_ap, Out.wp_bind]
  refine Out.wp_mono h fun b μ q => ?_
  cases b <;> exact q
theorem s_orM (h : (t ρ μ).wp fun b μ => if b = true then QB true μ else (u ρ μ).wp QB) : (tOrM t u ρ μ).wp QB := by
  rw [tOrM_ap, Out.wp_bind]
  refine Out.wp_mono h fun b μ q => ?_
  cases b <;> exact q
theorem s_notM (h : (t ρ μ).wp fun b μ => QB (!b) μ) : (tNotM t ρ μ).wp QB := by rw [tNotM_ap, Out.wp_bind]; exact h
theorem s_and (h : (m ρ μ).wp fun d μ => ∃ b, d = .bl b ∧ (if b = true then (n ρ μ).wp Q else Q (.bl false) μ)) : (mAnd m n ρ μ).wp Q := by
  rw [mAnd_ap, Out.wp_bind]
  refine Out.wp_mono h fun d μ q => ?_
  obtain ⟨b, rfl, q⟩ := q
  cases b <;> exact q
theorem s_or (h : (m ρ μ).wp fun d μ => ∃ b, d = .bl b ∧ (if b = true then Q (.bl true) μ else (n ρ μ).wp Q)) : (mOr m n ρ μ).wp Q := by
  rw [mOr_ap, Out.wp_bind]
  refine Out.wp_mono h fun d μ q => ?_
  obtain ⟨b, rfl, q⟩ := q
  cases b <;> exact q
theorem s_ite (h : (t ρ μ).wp fun b μ => if b = true then (m ρ μ).wp Q else (n ρ μ).wp Q) : (mIf t m n ρ μ).wp Q := by
  rw [mIf_ap, Out.wp_bind]
  refine Out.wp_mono h fun b μ q => ?_
  cases b <;> exact q
theorem s_pT {p q : Prop} (h : p) : if true = true then p else q := h
theorem s_pF {p q : Prop} (h : q) : if false = true then p else q := h
theorem s_aN (h : QL [] μ) : (maNil ρ μ).wp QL := h
theorem s_aC (h : (m ρ μ).wp fun d μ => (ms ρ μ).wp fun ds μ => QL (d :: ds) μ) : (maCons m ms ρ μ).wp QL := by
  rw [maCons_ap, Out.wp_bind]
  refine Out.wp_mono h fun d μ q => ?_
  rw [Out.wp_bind]
  exact q
theorem s_aS (h : (m ρ μ).wp fun d μ => ∃ xs, asQ μ d = some xs ∧ (ms ρ μ).wp fun ds μ => QL (xs ++ ds) μ) : (maStar m ms ρ μ).wp QL := by
  rw [maStar_ap, Out.wp_bind]
  refine Out.wp_mono h fun d μ q => ?_
  obtain ⟨xs, e, q⟩ := q
  rw [e]
  dsimp only
  rw [Out.wp_bind]
  exact q
theorem s_tup (h : (ms ρ μ).wp fun ds μ => ds.length ≤ maxL ∧ Q (.tup ds) μ) : (mTup ms ρ μ).wp Q := by
  rw [mTup_ap, Out.wp_bind]
  refine Out.wp_mono h fun d μ q => ?_
  rw [if_pos q.1]
  exact q.2
theorem s_fz (h : (ms ρ μ).wp fun ds μ => Q (.lst ds) μ) : (mFz ms ρ μ).wp Q := by rw [mFz_ap, Out.wp_bind]; exact h
theorem s_nw (h : (ms ρ μ).wp fun ds μ => Q (.ref μ.length) (μ ++ [.lst ds])) : (mNw ms ρ μ).wp Q := by rw [mNw_ap, Out.wp_bind]; exact h
theorem s_len (h : (ms ρ μ).wp fun ds μ => ds.length ≤ maxL ∧ QL ds μ) : (mLen ms ρ μ).wp QL := by
  rw [mLen_ap, Out.wp_bind]
  refine Out.wp_mono h fun d μ q => ?_
  rw [if_pos q.1]
  exact q.2
theorem s_slN {Q : Option Int → Store → Prop} (h : Q none μ) : (moNone ρ μ).wp Q := h
theorem s_slS {Q : Option Int → Store → Prop} (h : (m ρ μ).wp fun d μ => ∃ i, d = .int i ∧ Q (some i) μ) : (moSome m ρ μ).wp Q := by
  rw [moSome_ap, Out.wp_bind]
  refine Out.wp_mono h fun d μ q => ?_
  obtain ⟨i, rfl, q⟩ := q
  exact q
theorem s_sl {lo hi : M (Option Int)} (h : (m ρ μ).wp fun d μ => (lo ρ μ).wp fun l μ => (hi ρ μ).wp fun h μ => (dSl d l h μ).wp Q) : (mSl m lo hi ρ μ).wp Q := by
  rw [mSl_ap, Out.wp_bind]
  refine Out.wp_mono h fun d μ q => ?_
  rw [Out.wp_bind]
  refine Out.wp_mono q fun d μ q => ?_
  rw [Out.wp_bind]
  exact q
theorem s_call (h : (ms ρ μ).wp fun ds μ => (F ds μ).wp Q) : (mCall F ms ρ μ).wp Q := by rw [mCall_ap, Out.wp_bind]; exact h
theorem s_callB (h : (ms ρ μ).wp fun ds μ => (F ds μ).wp Q) : (mCallB F ms ρ μ).wp Q := by
  rw [mCallB_ap, Out.wp_bind]
  refine Out.wp_mono h fun d μ q => ?_
  rw [Out.wp_only]
  exact q
theorem s_callK {F : List D → List D → Store → Out D} (h : (ms ρ μ).wp fun ds μ => (mk ρ μ).wp fun es μ => (F ds es μ).wp Q) : (mCallK F ms mk ρ μ).wp Q := by
  rw [mCallK_ap, Out.wp_bind]
  refine Out.wp_mono h fun d μ q => ?_
  rw [Out.wp_bind]
  exact q
theorem s_callL (e : ρ[i]? = some (some (.cls cl))) (h : (ms ρ μ).wp fun ds μ => (F ds μ).wp Q) : (mCallL i cl F ms ρ μ).wp Q := by
  show (match ρ[i]? with
  | some (some (.cls c')) => if c' = cl then (ms ρ μ).bind F else .stuck
  | _ => Out.stuck).wp Q
  rw [e]
  dsimp only
  rw [if_pos rfl, Out.wp_bind]
  exact h
theorem s_cmeth (h : (ms ρ μ).wp fun ds μ => (F (.cls cl :: ds) μ).wp Q) : (mCMeth cl F ms ρ μ).wp Q := by rw [mCMeth_ap, Out.wp_bind]; exact h
theorem s_meth {g : Str} (h : (m ρ μ).wp fun d μ => ∃ ns ds, asI μ d = some (cl, ns, ds) ∧ g ∉ ns ∧ (ms ρ μ).wp fun ds μ => (F (d :: ds) μ).wp Q) : (mMeth cl g F m ms ρ μ).wp Q := by
  show ((m ρ μ).bind fun d μ1 => match asI μ1 d with
  | some (c, ns, _) => if c = cl ∧ g ∉ ns then (ms ρ μ1).bind fun ds μ2 => F (d :: ds) μ2 else .stuck
  | none => .stuck).wp Q
  rw [Out.wp_bind]
  refine Out.wp_mono h fun d μ q => ?_
  obtain ⟨ns, ds, e, hg, q⟩ := q
  rw [e]
  dsimp only
  rw [if_pos ⟨rfl, hg⟩, Out.wp_bind]
  exact q
theorem s_app (h : (m ρ μ).wp fun d1 μ => ∃ xs, asL μ d1 = some xs ∧ (n ρ μ).wp fun d2 μ => (fApp d1 d2 μ).wp Q) : (mApp m n ρ μ).wp Q := by
  rw [mApp_ap, Out.wp_bind]
  refine Out.wp_mono h fun d μ q => ?_
  obtain ⟨xs, e, q⟩ := q
  rw [e]
  dsimp only
  rw [Out.wp_bind]
  exact q
theorem s_M1 {f : List Nat → D → Store → Out D} (h : (m ρ μ).wp fun d μ => ∃ s, d = .str s ∧ (n ρ μ).wp fun y μ => (f s y μ).wp Q) : (mM1 f m n ρ μ).wp Q := by
  rw [mM1_ap, Out.wp_bind]
  refine Out.wp_mono h fun d μ q => ?_
  obtain ⟨s, rfl, q⟩ := q
  dsimp only
  rw [Out.wp_bind]
  refine Out.wp_mono q fun d μ q => ?_
  rw [Out.wp_only]
  exact q
theorem s_It {QI : Lv × List D → Store → Prop} (h : (m ρ μ).wp fun d μ => ∃ p, itD μ d = some p ∧ QI p μ) : (mIt m ρ μ).wp QI := by
  rw [mIt_ap, Out.wp_bind]
  refine Out.wp_mono h fun d μ q => ?_
  obtain ⟨p, e, q⟩ := q
  rw [e]
  exact q
theorem s_I {QI : Lv × List D → Store → Prop} {kk : List D → Store → Out (Lv × List D)} (h : (ms ρ μ).wp fun ds μ => (kk ds μ).wp QI) : (mI kk ms ρ μ).wp QI := by rw [mI_ap, Out.wp_bind]; exact h
theorem s_lc {mi : MI} {vs : List Nat} (h : (mi ρ μ).wp fun p μ => p.2.length ≤ maxL ∧ (lcGo p.1 g t m (wipeM ρ vs) p.2 μ).wp QL) : (mLc mi vs g t m ρ μ).wp QL := by
  rw [mLc_ap, Out.wp_bind]
  refine Out.wp_mono h fun p μ q => ?_
  rw [if_pos q.1, Out.wp_only]
  exact q.2
theorem s_fmt (h : (m ρ μ).wp fun d μ => ∃ s, d = .str s ∧ s.length ≤ maxL ∧ Q (.str s) μ) : (mFmt m ρ μ).wp Q := by
  rw [mFmt_ap, Out.wp_bind]
  refine Out.wp_mono h fun d μ q => ?_
  obtain ⟨s, rfl, l, q⟩ := q
  dsimp only
  rw [if_pos l]
  exact q
theorem s_jN (h : Q (.str r) μ) : (joinGo [] r ρ μ).wp Q := h
theorem s_jC {l : List (M D)} (h : (m ρ μ).wp fun d μ => ∃ s, d = .str s ∧ r.length + s.length ≤ maxL ∧ (joinGo l (r ++ s) ρ μ).wp Q) : (joinGo (m :: l) r ρ μ).wp Q := by
  rw [joinGo_cons, Out.wp_bind]
  refine Out.wp_mono h fun d μ q => ?_
  obtain ⟨s, rfl, l, q⟩ := q
  dsimp only
  rw [if_pos l]
  exact q
theorem s_tgP (e : g d ρ = some ρ') (h : N ρ' μ) : (tgP g d ρ μ).wp N T := by rw [tgP_ap, e]; exact h
theorem s_tgN (h : N (ρ.set i (some d)) μ) : (tgP (gN i) d ρ μ).wp N T := h
theorem s_tgSub (h : (m ρ μ).wp fun o μ => (n ρ μ).wp fun i μ => ∃ μ3, dSet o i d μ = some μ3 ∧ N ρ μ3) : (tgSub m n d ρ μ).wp N T := by
  rw [tgSub_ap, Out.wp_bindS]
  refine Out.wp_mono h fun o μ q => ?_
  rw [Out.wp_bindS]
  refine Out.wp_mono q fun i μ q => ?_
  obtain ⟨μ3, e, q⟩ := q
  rw [e]
  exact q
theorem s_fld (h : (m ρ μ).wp fun d μ => (n ρ μ).wp fun o μ => ∃ μ3, dSetF cl f o d μ = some μ3 ∧ N ρ μ3) : (cFld cl f n m ρ μ).wp N T := by
  rw [cFld_ap, Out.wp_bindS]
  refine Out.wp_mono h fun o μ q => ?_
  rw [Out.wp_bindS]
  refine Out.wp_mono q fun i μ q => ?_
  obtain ⟨μ3, e, q⟩ := q
  rw [e]
  exact q
theorem s_tgT {gs : List D → C} (e : ds.length = i) (h : (gs ds ρ μ).wp N T) : (tgT i gs (.tup ds) ρ μ).wp N T := by rw [tgT_ap, if_pos e]; exact h
theorem s_tgC {g : D → C} {gs : List D → C} (h : (g d ρ μ).wp (fun ρ μ => (gs ds ρ μ).wp N T) T) : (tgsC g gs (d :: ds) ρ μ).wp N T := by rw [tgsC_ap, OutS.wp_bind]; exact h
theorem s_tgE (h : N ρ μ) : (tgsN [] ρ μ).wp N T := h
theorem s_ok {α : Type} {o : Out α} {v : α} {μ' : Store} {Q : α → Store → Prop} (e : o = .ok v μ') (h : Q v μ') : o.wp Q := by rw [e]; exact h
theorem s_add (h : Q (.int (x + y)) μ) : (dPlus (.int x) (.int y) μ).wp Q := h
theorem s_addS (l : r.length + s.length ≤ maxL) (h : Q (.str (r ++ s)) μ) : (dPlus (.str r) (.str s) μ).wp Q := by rw [dAdd_str, if_pos l]; exact h
theorem s_addT {es : List D} (l : ds.length + es.length ≤ maxL) (h : Q (.tup (ds ++ es)) μ) : (dPlus (.tup ds) (.tup es) μ).wp Q := by rw [dAdd_tup, if_pos l]; exact h
theorem s_addL {es : List D} (l : ds.length + es.length ≤ maxL) (h : Q (.lst (ds ++ es)) μ) : (dPlus (.lst ds) (.lst es) μ).wp Q := by rw [dAdd_lst, if_pos l]; exact h
theorem s_sub (h : Q (.int (x - y)) μ) : (dSub (.int x) (.int y) μ).wp Q := h
theorem s_mul (e : (-(2 ^ 64) < x ∧ x < 2 ^ 64) ∨ (-(2 ^ 64) < y ∧ y < 2 ^ 64)) (h : Q (.int (x * y)) μ) : (dTimes (.int x) (.int y) μ).wp Q := by rw [dTimes_int, if_pos e]; exact h
theorem s_div (e : 0 < y ∧ y < 1073741824) (h : Q (.int (x / y)) μ) : (dDiv (.int x) (.int y) μ).wp Q := by rw [dDiv_int, if_pos e]; exact h
theorem s_mod (e : 0 < y) (h : Q (.int (x % y)) μ) : (dMod (.int x) (.int y) μ).wp Q := by rw [dMod_int, if_pos e]; exact h
theorem s_int (h : Q (.int x) μ) : (fInt [.int x] μ).wp Q := h
theorem s_divmod (e : 0 < y ∧ y < 1073741824) (h : Q (.tup [.int (x / y), .int (x % y)]) μ) : (fDivmod [.int x, .int y] μ).wp Q := by rw [fDivmod_int, if_pos e]; exact h
theorem s_lt (h : Q (.bl (decide (x < y))) μ) : (dLt (.int x) (.int y) μ).wp Q := h
theorem s_le (h : Q (.bl (decide (x ≤ y))) μ) : (dLe (.int x) (.int y) μ).wp Q := h
theorem s_gt (h : Q (.bl (decide (y < x))) μ) : (dGt (.int x) (.int y) μ).wp Q := h
theorem s_ge (h : Q (.bl (decide (y ≤ x))) μ) : (dGe (.int x) (.int y) μ).wp Q := h
theorem s_eqI (h : Q (.bl (decide (x = y))) μ) : (dEq (.int x) (.int y) μ).wp Q := h
theorem s_neI (h : Q (.bl (!decide (x = y))) μ) : (dNe (.int x) (.int y) μ).wp Q := h
theorem s_eqS (h : Q (.bl (decide (r = s))) μ) : (dEq (.str r) (.str s) μ).wp Q := h
theorem s_neS (h : Q (.bl (!decide (r = s))) μ) : (dNe (.str r) (.str s) μ).wp Q := h
theorem s_not {b : Bool} (h : Q (.bl (!b)) μ) : (dNot (.bl b) μ).wp Q := h
theorem s_ar (e : ds.length = i) (h : (F ds μ).wp Q) : (arity i F [] ds μ).wp Q := by rw [arity_ap, if_pos e]; exact h
theorem s_ar1 (e : ds.length + 1 = i) (h : (F ds μ).wp Q) : (arity1 i F [] ds μ).wp Q := by rw [arity1_ap, if_pos e]; exact h
theorem s_ar1K {es : List D} (e : ds.length = j ∧ es.length = k ∧ j + k + 1 = i) (h : (F (ds ++ es) μ).wp Q) : (arity1K i j k F [] ds es μ).wp Q := by rw [arity1K_ap, if_pos e]; exact h
theorem s_lenL (h : Q (.int ds.length) μ) : (fLen [.lst ds] μ).wp Q := h
theorem s_lenT (h : Q (.int ds.length) μ) : (fLen [.tup ds] μ).wp Q := h
theorem s_lenS (l : r.length ≤ maxL) (h : Q (.int r.length) μ) : (fLen [.str r] μ).wp Q := by rw [fLen_str, if_pos l]; exact h
end
end Rv
set_option Elab.async false
set_option linter.all false
set_option maxRecDepth 100000
/-! P4: the store, lists of texts, slices. -/
namespace Rv
open PySem PySem.Spec L2
open PyProof.Rows hiding St
mutual
theorem D.low_mono {n n' : Nat} (hn : n ≤ n') : ∀ {d : D}, D.low n d = true → D.low n' d = true
  | .ref k, h => by
    have : k < n := of_decide_eq_true h
    exact decide_eq_true (Nat.lt_of_lt_of_le this hn)
  | .tup ds, h => D.lowL_mono hn (ds := ds) h
  | .lst ds, h => D.lowL_mono hn (ds := ds) h
  | .dct ks ds, h => D.lowL_mono hn (ds := ds) h
  | .obj c ns ds, h => D.lowL_mono hn (ds := ds) h
  | .non, _ => rfl
  | .bl _, _ => rfl
  | .int _, _ => rfl
  | .str _, _ => rfl
  | .cls _, _ => rfl
  | .ty _, _ => rfl
  | .scr _, _ => rfl
theorem D.lowL_mono {n n' : Nat} (hn : n ≤ n') : ∀ {ds : List D}, D.lowL n ds = true → D.lowL n' ds = true
  | [], _ => rfl
  | d :: ds, h => by
    have h : (D.low n d && D.lowL n ds) = true := h
    rw [Bool.and_eq_true] at h
    show (D.low n' d && D.lowL n' ds) = true
    rw [D.low_mono hn h.1, D.lowL_mono hn h.2]
    rfl
end
theorem MO.low_mono {n n' : Nat} (hn : n ≤ n') {m : MO} (h : MO.low n m = true) : MO.low n' m = true := by
  cases m with
  | lst ds => exact D.lowL_mono hn (ds := ds) h
  | dct ks ds => exact D.lowL_mono hn (ds := ds) h
  | ins c ns ds => exact D.lowL_mono hn (ds := ds) h
theorem WF_app {μ L : Store} (wf : WF μ) (h : ∀ m ∈ L, MO.low (μ.length + L.length) m = true) : WF (μ ++ L) := by
  intro m hm
  rw [List.length_append]
  rcases List.mem_append.mp hm with q | q
  · exact MO.low_mono (Nat.le_add_right ..) (wf m q)
  · exact h m q
theorem WF_set {μ : Store} {p : Nat} {m : MO} (wf : WF μ) (hm : MO.low μ.length m = true) : WF (μ.set p m) := by
  intro x hx
  rw [List.length_set]
  rcases List.mem_or_eq_of_mem_set hx with h | h
  · exact wf x h
  · rw [h]; exact hm
theorem self_set {μ : Store} {p : Nat} {m : MO} (h : μ[p]? = some m) : μ = μ.set p m := by
  obtain ⟨hl, e⟩ := List.getElem?_eq_some_iff.mp h
  rw [← e, List.set_getElem_self]
/-! lists of texts -/
abbrev strD (ws : List (List Nat)) : List D := ws.map D.str
theorem low_str {n : Nat} : ∀ {ws : List (List Nat)}, D.lowL n (strD ws) = true
  | [] => rfl
  | w :: ws => low_str (ws := ws)
theorem flDs_str : ∀ {ws : List (List Nat)}, flDs (strD ws) = some (ws.map fun w => V.str (toS w))
  | [] => rfl
  | w :: ws => by
    show (match flD (.str w), flDs (strD ws) with
    | some v, some vs => some (v :: vs)
    | _, _ => none) = _
    rw [flDs_str]
    rfl
theorem inV_str {t : List Nat} : ∀ {ws : List (List Nat)}, inV (.str (toS t)) (ws.map fun w => V.str (toS w)) = decide (t ∈ ws)
  | [] => by simp [inV]
  | w :: ws => by
    have ih : ((ws.map fun w => V.str (toS w)).any fun y => eqV y (.str (toS t))) = decide (t ∈ ws) := inV_str
    show ((toS w == toS t) || (ws.map fun w => V.str (toS w)).any fun y => eqV y (.str (toS t))) = _
    rw [ih]
    by_cases e : w = t
    · subst e
      simp
    · have e2 : (toS w == toS t) = false := by
        rw [beq_eq_false_iff_ne]
        exact fun h => e (toS_inj.mp h)
      have e3 : ¬ t = w := fun h => e h.symm
      rw [e2]
      simp [e3]
theorem inB_str {μ : Store} {t : List Nat} {d : D} {ws : List (List Nat)} (h : asQ μ d = some (strD ws)) : inB μ (.str t) d = some (decide (t ∈ ws)) := by
  have e : (match flD (.str t), (asQ μ d).bind flDs with
    | some v, some vs => some (inV v vs)
    | _, _ => none) = some (decide (t ∈ ws)) := by
    rw [h]
    show (match some (V.str (toS t)), flDs (strD ws) with
    | some v, some vs => some (inV v vs)
    | _, _ => none) = _
    rw [flDs_str]
    show some (inV (.str (toS t)) (ws.map fun w => V.str (toS w))) = _
    rw [inV_str]
  unfold inB
  split
  · rename_i c s
    simp [asQ, asL] at h
  · exact e
theorem dIn_str {μ : Store} {t : List Nat} {d : D} {ws : List (List Nat)} (h : asQ μ d = some (strD ws)) : dIn (.str t) d μ = .ok (.bl (decide (t ∈ ws))) μ := by
  show dB (inB μ (.str t) d) μ = _
  rw [inB_str h]
  rfl
theorem dNotIn_str {μ : Store} {t : List Nat} {d : D} {ws : List (List Nat)} (h : asQ μ d = some (strD ws)) : dNotIn (.str t) d μ = .ok (.bl (!decide (t ∈ ws))) μ := by
  show dB ((inB μ (.str t) d).map not) μ = _
  rw [inB_str h]
  rfl
theorem pigeon {α : Type} [DecidableEq α] : ∀ {C F : List α}, C.Nodup → F.length < C.length → ∃ x ∈ C, x ∉ F
  | [], F, _, h => by simp at h
  | x :: C, F, nd, h => by
    by_cases hx : x ∈ F
    · obtain ⟨n1, n2⟩ := List.nodup_cons.mp nd
      have l : (F.erase x).length < C.length := by
        rw [List.length_erase_of_mem hx]
        have : 0 < F.length := List.length_pos_of_mem hx
        rw [List.length_cons] at h
        omega
      obtain ⟨y, hy, hn⟩ := pigeon n2 l
      refine ⟨y, List.mem_cons_of_mem _ hy, fun q => hn ?_⟩
      have : y ≠ x := fun e => n1 (e ▸ hy)
      exact (List.mem_erase_of_ne this).mpr q
    · exact ⟨x, List.mem_cons_self .., hx⟩
theorem cutD_take {α : Type} {xs : List α} {k : Int} (h : 0 ≤ k) : cutD xs none (some k) = xs.take k.toNat := by
  unfold cutD HT.sIx
  simp only [List.drop_zero, Nat.sub_zero]
  rw [if_neg (by omega)]
  rcases Nat.le_total k.toNat xs.length with q | q
  · rw [Nat.min_eq_left q]
  · rw [Nat.min_eq_right q, List.take_of_length_le (Nat.le_refl _), List.take_of_length_le q]
theorem cutD_drop {α : Type} {xs : List α} {k : Int} (h : 0 ≤ k) : cutD xs (some k) none = xs.drop k.toNat := by
  unfold cutD HT.sIx
  dsimp only
  rw [if_neg (by omega)]
  rcases Nat.le_total k.toNat xs.length with q | q
  · rw [Nat.min_eq_left q, List.take_of_length_le (by rw [List.length_drop]; exact Nat.le_refl _)]
  · rw [Nat.min_eq_right q, List.drop_of_length_le q, List.drop_of_length_le (Nat.le_refl _), List.take_nil]
theorem s_pow {x y : Int} {μ : Store} {Q : D → Store → Prop} (e : 0 ≤ y ∧ y ≤ 1000000 ∧ x.natAbs < 2 ^ 64) (h : Q (.int (x ^ y.toNat)) μ) : (dPow (.int x) (.int y) μ).wp Q := by
  show (if 0 ≤ y ∧ y ≤ 1000000 ∧ x.natAbs < 2 ^ 64 then Out.ok (D.int (x ^ y.toNat)) μ else .stuck).wp Q
  rw [if_pos e]
  exact h
theorem s_neg {x : Int} {μ : Store} {Q : D → Store → Prop} (h : Q (.int (-x)) μ) : (dNeg (.int x) μ).wp Q := h
end Rv
set_option Elab.async false
set_option linter.all false
set_option maxRecDepth 100000
/-! P5: more steps: kinds, chains, new things, fields, getters. -/
namespace Rv
open PySem PySem.Spec L2
open PyProof.Rows hiding St
section
variable {ρ : Env'} {μ : Store} {Q : D → Store → Prop} {d c : D} {F : Fn} {cl f : Str} {ns : List Str} {ds es : List D} {n : Nat}
theorem s_isi {T : Isi} {t u : Tg} {b : Bool} (h1 : tgOf μ d = some t) (h2 : tgC c = some u) (h3 : T.own t = true) (h4 : T.get t u = some b) (q : Q (.bl b) μ) : (fIsi T [d, c] μ).wp Q := by
  show (match tgOf μ d, tgC c with
    | some t, some u => if T.own t then (match T.get t u with
      | some b => Out.ok (D.bl b) μ
      | none => .stuck) else .stuck
    | _, _ => .stuck).wp Q
  rw [h1, h2]
  dsimp only
  rw [if_pos h3, h4]
  exact q
theorem s_chain {g : D → D → Store → Out D} {f : D → D → Store → Out D} {m n o : M D} (h : (m ρ μ).wp fun x μ => (n ρ μ).wp fun y μ => (f x y μ).wp fun z μ => ∃ b, z = .bl b ∧ if b = true then (o ρ μ).wp fun w μ => (g y w μ).wp Q else Q (.bl false) μ) : (mChain f g m n o ρ μ).wp Q := by
  rw [mChain_ap, Out.wp_bind]
  refine Out.wp_mono h fun x μ q => ?_
  rw [Out.wp_bind]
  refine Out.wp_mono q fun y μ q => ?_
  rw [Out.wp_bind, Out.wp_only]
  refine Out.wp_mono q fun z μ q => ?_
  obtain ⟨b, rfl, q⟩ := q
  cases b with
  | true =>
    show ((o ρ μ).bind fun w μ4 => (g y w μ4).only).wp Q
    rw [Out.wp_bind]
    refine Out.wp_mono (show (o ρ μ).wp fun w μ => (g y w μ).wp Q from q) fun w μ q => ?_
    rw [Out.wp_only]
    exact q
  | false => exact q
theorem s_inC {x : Nat} {s : List Nat} (h : Q (.bl (decide (x ∈ s))) μ) : (dIn (.str [x]) (.str s) μ).wp Q := h
theorem s_ninC {x : Nat} {s : List Nat} (h : Q (.bl (!decide (x ∈ s))) μ) : (dNotIn (.str [x]) (.str s) μ).wp Q := h
theorem dBls_true {α : Type} : ∀ {xs : List α}, dBls (xs.map fun _ => D.bl true) = some (xs.map fun _ => true)
  | [] => rfl
  | x :: xs => by
    show (dBls (xs.map fun _ => D.bl true)).map (true :: ·) = _
    rw [dBls_true]
    rfl
theorem fAll_true {α : Type} {xs : List α} : fAll [.lst (xs.map fun _ => D.bl true)] μ = .ok (.bl true) μ := by
  show (match (some (xs.map fun _ => D.bl true)).bind (fun xs => (dBls xs).map fun bs => D.bl (bs.all id)) with
    | some r => Out.ok r μ
    | none => .stuck) = _
  rw [Option.bind_some, dBls_true]
  have : ((xs.map fun _ => true).all id) = true := List.all_eq_true.mpr fun b hb => by
    obtain ⟨_, _, e⟩ := List.mem_map.mp hb
    rw [← e]; rfl
  show Out.ok (D.bl ((xs.map fun _ => true).all id)) μ = _
  rw [this]
/-! new things -/
theorem new_eq {us : List D} (h : F (.ref μ.length :: us) (μ ++ [MO.ins cl [] []]) = .ok .non (μ ++ [MO.ins cl ns ds])) (hl : D.lowL μ.length ds = true) : newF cl false F us μ = .ok (.obj cl ns ds) μ := by
  show made μ false (F (.ref μ.length :: us) (μ ++ [MO.ins cl [] []])) = _
  rw [h]
  show region μ (.ret (.ref μ.length) (μ ++ [MO.ins cl ns ds])) = _
  have hf : frz μ.length (μ ++ [MO.ins cl ns ds]) (.ref μ.length) = .obj cl ns ds := by
    show (if μ.length < μ.length then D.ref μ.length else match (μ ++ [MO.ins cl ns ds])[μ.length]? with
      | some (.lst ds) => .lst ds
      | some (.dct ks ds) => .dct ks ds
      | some (.ins c ns ds) => .obj c ns ds
      | none => .ref μ.length) = _
    rw [if_neg (Nat.lt_irrefl _), List.getElem?_append_right (Nat.le_refl _), Nat.sub_self]
    rfl
  show (if (kept μ.length μ (μ ++ [MO.ins cl ns ds]) && D.low μ.length (frz μ.length (μ ++ [MO.ins cl ns ds]) (.ref μ.length))) = true then Out.ok (frz μ.length (μ ++ [MO.ins cl ns ds]) (.ref μ.length)) ((μ ++ [MO.ins cl ns ds]).take μ.length) else .stuck) = _
  rw [hf, kept_self rfl, List.take_left, show D.low μ.length (.obj cl ns ds) = true from hl]
  rfl
theorem newK_eq {us : List D} (h : F (.ref μ.length :: us) (μ ++ [MO.ins cl [] []]) = .ok .non (μ ++ [MO.ins cl ns ds])) (hl : D.lowL μ.length ds = true) : newF cl true F us μ = .ok (.ref μ.length) (μ ++ [MO.ins cl ns ds]) := by
  show made μ true (F (.ref μ.length :: us) (μ ++ [MO.ins cl [] []])) = _
  rw [h]
  show region1 μ (.ret (.ref μ.length) (μ ++ [MO.ins cl ns ds])) = _
  show (match (μ ++ [MO.ins cl ns ds])[μ.length]? with
    | some m => if (decide (μ.length ≤ μ.length) && (kept μ.length μ (μ ++ [MO.ins cl ns ds]) && MO.low μ.length m)) = true then Out.ok (D.ref μ.length) ((μ ++ [MO.ins cl ns ds]).take μ.length ++ [m]) else .stuck
    | none => .stuck) = _
  rw [List.getElem?_append_right (Nat.le_refl _), Nat.sub_self]
  show (if (decide (μ.length ≤ μ.length) && (kept μ.length μ (μ ++ [MO.ins cl ns ds]) && MO.low μ.length (.ins cl ns ds))) = true then Out.ok (D.ref μ.length) ((μ ++ [MO.ins cl ns ds]).take μ.length ++ [MO.ins cl ns ds]) else .stuck) = _
  rw [kept_self rfl, List.take_left, show MO.low μ.length (.ins cl ns ds) = true from hl, decide_eq_true (Nat.le_refl _)]
  rfl
/-! fields -/
theorem dFld_obj {x : D} (e : fget f ns ds = some x) : dFld cl f (.obj cl ns ds) μ = .ok x μ := by
  show (if cl = cl then (match fget f ns ds with
    | some d => Out.ok d μ
    | none => .stuck) else .stuck) = _
  rw [if_pos rfl, e]
theorem asI_ref {p : Nat} (h : μ[p]? = some (.ins cl ns ds)) : asI μ (.ref p) = some (cl, ns, ds) := by
  show (match μ[p]? with
    | some (.ins c ns ds) => some (c, ns, ds)
    | _ => none) = _
  rw [h]
theorem dFld_ref {p : Nat} {x : D} (h : μ[p]? = some (.ins cl ns ds)) (e : fget f ns ds = some x) : dFld cl f (.ref p) μ = .ok x μ := by
  show (match asI μ (.ref p) with
    | some (c, ns, ds) => if c = cl then (match fget f ns ds with
      | some d => Out.ok d μ
      | none => .stuck) else .stuck
    | none => .stuck) = _
  rw [asI_ref h]
  dsimp only
  rw [if_pos rfl, e]
theorem dProp_eq {x : D} {μ' : Store} (h : asI μ d = some (cl, ns, ds)) (e : F [d] μ = .ok x μ') : dProp cl F d μ = .ok x μ' := by
  show (match asI μ d with
    | some (c, _, _) => if c = cl then (F [d] μ).only else .stuck
    | none => .stuck) = _
  rw [h]
  dsimp only
  rw [if_pos rfl, e]
  rfl
theorem dSetF_ref {p : Nat} (h : μ[p]? = some (.ins cl ns ds)) (l : ns.length < 1000) : dSetF cl f (.ref p) d μ = some (μ.set p (.ins cl (dPutF f d ns ds).1 (dPutF f d ns ds).2)) := by
  show (match μ[p]? with
    | some (.ins c ns ds) => if c = cl ∧ ns.length < 1000 then some (μ.set p (.ins c (dPutF f d ns ds).1 (dPutF f d ns ds).2)) else none
    | _ => none) = _
  rw [h]
  dsimp only
  rw [if_pos ⟨rfl, l⟩]
theorem new_at {m : MO} {L : Store} : (μ ++ m :: L)[μ.length]? = some m := by
  rw [List.getElem?_append_right (Nat.le_refl _), Nat.sub_self]
  rfl
theorem new_set {m m' : MO} {L : Store} : (μ ++ m :: L).set μ.length m' = μ ++ m' :: L := by
  rw [List.set_append_right _ _ (Nat.le_refl _), Nat.sub_self]
  rfl
end
end Rv
set_option Elab.async false
set_option linter.all false
set_option maxRecDepth 100000
/-! P6: tests whose answer is known, comprehensions whose parts change nothing, texts shown. -/
namespace Rv
open PySem PySem.Spec L2
open PyProof.Rows hiding St
section
variable {ρ : Env'} {μ : Store} {Q : D → Store → Prop} {QB : Bool → Store → Prop} {QL : List D → Store → Prop} {N : Env' → Store → Prop} {T : D → Store → Prop} {p : Prop} [Decidable p] {a b : Prop} {o q : OutS}
theorem iD_pos (hp : p) (h : a) : if decide p = true then a else b := by rw [if_pos (decide_eq_true hp)]; exact h
theorem iD_neg (hp : ¬p) (h : b) : if decide p = true then a else b := by rw [if_neg (by simpa using hp)]; exact h
theorem iN_pos (hp : ¬p) (h : a) : if (!decide p) = true then a else b := by rw [if_pos (by simpa using hp)]; exact h
theorem iN_neg (hp : p) (h : b) : if (!decide p) = true then a else b := by rw [if_neg (by simpa using hp)]; exact h
theorem oD_pos (hp : p) (h : o.wp N T) : (if decide p = true then o else q).wp N T := by rw [if_pos (decide_eq_true hp)]; exact h
theorem oD_neg (hp : ¬p) (h : q.wp N T) : (if decide p = true then o else q).wp N T := by rw [if_neg (by simpa using hp)]; exact h
theorem oN_pos (hp : ¬p) (h : o.wp N T) : (if (!decide p) = true then o else q).wp N T := by rw [if_pos (by simpa using hp)]; exact h
theorem oN_neg (hp : p) (h : q.wp N T) : (if (!decide p) = true then o else q).wp N T := by rw [if_neg (by simpa using hp)]; exact h
theorem iB_pos {k : Bool} (hp : k = true) (h : a) : if k = true then a else b := by rw [if_pos hp]; exact h
theorem iB_neg {k : Bool} (hp : k = false) (h : b) : if k = true then a else b := by rw [if_neg (by simp [hp])]; exact h
theorem oB_pos {k : Bool} (hp : k = true) (h : o.wp N T) : (if k = true then o else q).wp N T := by rw [if_pos hp]; exact h
theorem oB_neg {k : Bool} (hp : k = false) (h : q.wp N T) : (if k = true then o else q).wp N T := by rw [if_neg (by simp [hp])]; exact h
end
section
variable {ρ : Env'} {μ : Store} {Q : D → Store → Prop} {QB : Bool → Store → Prop} {QL : List D → Store → Prop} {N : Env' → Store → Prop} {T : D → Store → Prop} {F : Fn} {cl f : Str} {d x : D} {ns : List Str} {ds : List D}
theorem s_prop (e : asI μ d = some (cl, ns, ds)) (h : (F [d] μ).wp Q) : (dProp cl F d μ).wp Q := by
  show (match asI μ d with
    | some (c, _, _) => if c = cl then (F [d] μ).only else .stuck
    | none => .stuck).wp Q
  rw [e]
  dsimp only
  rw [if_pos rfl, Out.wp_only]
  exact h
theorem s_get (e : asI μ d = some (cl, ns, ds)) (g : fget f ns ds = some x) (h : Q x μ) : (dFld cl f d μ).wp Q := by
  show (match asI μ d with
    | some (c, ns, ds) => if c = cl then (match fget f ns ds with
      | some d => Out.ok d μ
      | none => .stuck) else .stuck
    | none => .stuck).wp Q
  rw [e]
  dsimp only
  rw [if_pos rfl, g]
  exact h
theorem s_lcF {α : Type} {mi : MI} {vs : List Nat} {g : TgM} {t : M Bool} {m : M D} (xs : List α) (h : α → D) (p : α → Bool) (f : α → D) (l : xs.length ≤ maxL) (hi : (mi ρ μ).wp fun q ν => q = (none, xs.map h) ∧ ν = μ)
    (hm : ∀ x ∈ xs, ∃ ρ1, g (h x) (wipeM ρ vs) = some ρ1 ∧ ((t ρ1 μ).wp fun b ν => b = p x ∧ ν = μ) ∧ (p x = true → (m ρ1 μ).wp fun d ν => d = f x ∧ ν = μ))
    (q : QL ((xs.filter p).map f) μ) : (mLc mi vs g t m ρ μ).wp QL := by
  refine s_lc (Out.wp_mono hi fun r ν e => ?_)
  obtain ⟨rfl, rfl⟩ := e
  refine ⟨by rw [List.length_map]; exact l, s_ok (lcGo_map fun x hx => ?_) q⟩
  obtain ⟨ρ1, e1, e2, e3⟩ := hm x hx
  exact ⟨ρ1, e1, Out.eq_of e2, fun hp => Out.eq_of (e3 hp)⟩
theorem s_lcM {α : Type} {mi : MI} {vs : List Nat} {g : TgM} {m : M D} (xs : List α) (h : α → D) (f : α → D) (l : xs.length ≤ maxL) (hi : (mi ρ μ).wp fun q ν => q = (none, xs.map h) ∧ ν = μ)
    (hm : ∀ x ∈ xs, ∃ ρ1, g (h x) (wipeM ρ vs) = some ρ1 ∧ (m ρ1 μ).wp fun d ν => d = f x ∧ ν = μ)
    (q : QL (xs.map f) μ) : (mLc mi vs g (fun _ μ => .ok true μ) m ρ μ).wp QL := by
  refine s_lcF xs h (fun _ => true) f l hi (fun x hx => ?_) (by rw [List.filter_eq_self.mpr fun _ _ => rfl]; exact q)
  obtain ⟨ρ1, e1, e2⟩ := hm x hx
  exact ⟨ρ1, e1, ⟨rfl, rfl⟩, fun _ => e2⟩
theorem s_enuT {QI : Lv × List D → Store → Prop} (h : QI (none, enumD ds) μ) : (enuT [.tup ds] μ).wp QI := h
theorem s_zipT {QI : Lv × List D → Store → Prop} {es : List D} (h : QI (none, zipD ds es) μ) : (zipO [.tup ds, .tup es] μ).wp QI := h
theorem s_rngI {n : Int} {QI : Lv × List D → Store → Prop} (e : -(2 ^ 62) ≤ n ∧ n < 2 ^ 62) (h : QI (none, rngD 0 n.toNat) μ) : (rng1 [.int n] μ).wp QI := by
  show (if -(2 ^ 62) ≤ n ∧ n < 2 ^ 62 then Out.ok (none, rngD 0 n.toNat) μ else .stuck).wp QI
  rw [if_pos e]
  exact h
theorem enumD_get {i : Nat} (h : (enumD ds)[i]? = some d) : ∃ x, ds[i]? = some x ∧ d = .tup [.int (i : Nat), x] := by
  unfold enumD at h
  rw [List.getElem?_map] at h
  cases q : (List.range ds.length)[i]? with
  | none => rw [q] at h; cases h
  | some j =>
    rw [q] at h
    obtain ⟨hl, e⟩ := List.getElem?_eq_some_iff.mp q
    rw [List.getElem_range] at e
    rw [List.length_range] at hl
    subst e
    refine ⟨ds[i], List.getElem?_eq_getElem hl, ?_⟩
    have h := (Option.some.inj h).symm
    rw [h]
    show D.tup [D.int (i : Nat), ds.getD i D.non] = _
    rw [List.getD_eq_getElem?_getD, List.getElem?_eq_getElem hl]
    rfl
theorem map_at {α : Type} {xs : List α} {h : α → D} {i : Nat} (e : (xs.map h)[i]? = some d) : ∃ x, xs[i]? = some x ∧ d = h x := by
  rw [List.getElem?_map] at e
  cases q : xs[i]? with
  | none => rw [q] at e; cases e
  | some x =>
    rw [q] at e
    exact ⟨x, rfl, (Option.some.inj e).symm⟩
theorem s_split {c : Nat} {s : List Nat} {ws : List (List Nat)} (e : TL.spl [c] 0 [] s = ws) (hc : c < 256) (l : s.length + 2 ≤ maxL) (q : Q (.lst (strD ws)) μ) : (fSplit s (.str [c]) μ).wp Q := by
  show (if ([c].all (fun n => decide (n < 256)) && decide (s.length + 2 ≤ maxL)) = true then Out.ok (.lst ((TL.spl [c] 0 [] s).map D.str)) μ else .stuck).wp Q
  rw [if_pos (show ([c].all (fun n => decide (n < 256)) && decide (s.length + 2 ≤ maxL)) = true by rw [decide_eq_true l, Bool.and_true]; simp [hc]), e]
  exact q
theorem dStrs_str : ∀ {ws : List (List Nat)}, dStrs (strD ws) = some ws
  | [] => rfl
  | w :: ws => by
    show (dStrs (strD ws)).map (w :: ·) = _
    rw [dStrs_str]
    rfl
theorem s_join {s : List Nat} {ys : List (List Nat)} (e : asQ μ d = some (strD ys)) (l : (ys.map List.length).sum + ys.length * s.length ≤ maxL) (q : Q (.str (TL.joinL s ys)) μ) : (fJoin s d μ).wp Q := by
  show (match (asQ μ d).bind dStrs with
    | some ys => if (ys.map List.length).sum + ys.length * s.length ≤ maxL then Out.ok (D.str (TL.joinL s ys)) μ else .stuck
    | none => .stuck).wp Q
  rw [e, Option.bind_some, dStrs_str]
  dsimp only
  rw [if_pos l]
  exact q
theorem sum_len {k : Nat} : ∀ {ys : List (List Nat)}, (∀ y ∈ ys, y.length ≤ k) → (ys.map List.length).sum ≤ k * ys.length
  | [], _ => by simp
  | y :: ys, h => by
    have h1 := h y (List.mem_cons_self ..)
    have h2 := sum_len (ys := ys) fun z hz => h z (List.mem_cons_of_mem _ hz)
    rw [List.map_cons, List.sum_cons, List.length_cons, Nat.mul_add, Nat.mul_one]
    omega
theorem joinL_len {s : List Nat} : ∀ {ys : List (List Nat)}, (TL.joinL s ys).length ≤ (ys.map List.length).sum + ys.length * s.length
  | [] => by simp [TL.joinL]
  | [y] => by simp [TL.joinL]
  | y :: z :: r => by
    have ih := joinL_len (s := s) (ys := z :: r)
    show (y ++ (s ++ TL.joinL s (z :: r))).length ≤ _
    rw [List.length_append, List.length_append, List.map_cons, List.sum_cons, List.length_cons (a := y), Nat.add_mul, Nat.one_mul]
    omega
/-! ints in a list -/
abbrev intD (ws : List Int) : List D := ws.map D.int
theorem flDs_int : ∀ {ws : List Int}, flDs (intD ws) = some (ws.map V.int)
  | [] => rfl
  | w :: ws => by
    show (match flD (.int w), flDs (intD ws) with
    | some v, some vs => some (v :: vs)
    | _, _ => none) = _
    rw [flDs_int]
    rfl
theorem inV_int {t : Int} : ∀ {ws : List Int}, inV (.int t) (ws.map V.int) = decide (t ∈ ws)
  | [] => by simp [inV]
  | w :: ws => by
    have ih : ((ws.map V.int).any fun y => eqV y (.int t)) = decide (t ∈ ws) := inV_int
    show ((w == t) || (ws.map V.int).any fun y => eqV y (.int t)) = _
    rw [ih]
    by_cases e : w = t
    · subst e
      simp
    · have e2 : (w == t) = false := by rw [beq_eq_false_iff_ne]; exact e
      have e3 : ¬ t = w := fun h => e h.symm
      rw [e2]
      simp [e3]
theorem inB_int {t : Int} {ws : List Int} (h : asQ μ d = some (intD ws)) : inB μ (.int t) d = some (decide (t ∈ ws)) := by
  show (match flD (.int t), (asQ μ d).bind flDs with
    | some v, some vs => some (inV v vs)
    | _, _ => none) = _
  rw [h]
  show (match some (V.int t), flDs (intD ws) with
    | some v, some vs => some (inV v vs)
    | _, _ => none) = _
  rw [flDs_int]
  show some (inV (.int t) (ws.map V.int)) = _
  rw [inV_int]
theorem s_inI {t : Int} (ws : List Int) (h : asQ μ d = some (intD ws)) (q : Q (.bl (decide (t ∈ ws))) μ) : (dIn (.int t) d μ).wp Q := by
  show (dB (inB μ (.int t) d) μ).wp Q
  rw [inB_int h]
  exact q
theorem s_inS {t : List Nat} (ws : List (List Nat)) (h : asQ μ d = some (strD ws)) (q : Q (.bl (decide (t ∈ ws))) μ) : (dIn (.str t) d μ).wp Q := s_ok (dIn_str h) q
theorem s_ninS {t : List Nat} (ws : List (List Nat)) (h : asQ μ d = some (strD ws)) (q : Q (.bl (!decide (t ∈ ws))) μ) : (dNotIn (.str t) d μ).wp Q := s_ok (dNotIn_str h) q
/-! regions -/
theorem NQ_new {m m' : MO} (wf : WF μ) (hl : MO.low (μ.length + 1) m' = true) (q : Q .non (μ ++ [m'])) : NQ (μ ++ [m]) Q ρ (μ ++ [m']) := by
  have hn : (μ ++ [m]).length = μ.length + 1 := by simp
  refine ⟨kept_low fun x hx => ?_, ?_⟩
  · rw [hn] at hx ⊢
    rcases List.mem_append.mp (List.mem_of_mem_take hx) with h | h
    · exact MO.low_mono (Nat.le_succ _) (wf x h)
    · rw [List.mem_singleton.mp h]; exact hl
  · rw [hn, List.take_of_length_le (by simp)]
    exact q
/-- a field of a new thing -/
theorem s_fldN {cl f : Str} {n m : M D} {ns' : List Str} {ds' : List D} (ν : Store) (h : (m ρ μ).wp fun d μ' => μ' = ν ++ [.ins cl ns ds] ∧ ((n ρ (ν ++ [.ins cl ns ds])).wp fun o μ'' => o = .ref ν.length ∧ μ'' = ν ++ [.ins cl ns ds]) ∧ ns.length < 1000 ∧ dPutF f d ns ds = (ns', ds') ∧ N ρ (ν ++ [.ins cl ns' ds'])) : (cFld cl f n m ρ μ).wp N T := by
  refine s_fld (Out.wp_mono h fun d μ' q => ?_)
  obtain ⟨rfl, q1, q2, q3, q4⟩ := q
  refine Out.wp_mono q1 fun o μ'' q => ?_
  obtain ⟨rfl, rfl⟩ := q
  refine ⟨_, dSetF_ref (new_at (L := [])) q2, ?_⟩
  rw [q3, new_set]
  exact q4
end
/-! ### what repr shows -/
mutual
def rb : PyData → Nat
  | .none => 4
  | .bool _ => 5
  | .int _ => 1921
  | .str x => 10 * x.length + 2
  | .list xs => rbL xs + 2
  | .tuple xs => rbL xs + 3
  | .dict _ => 0
def rbL : List PyData → Nat
  | [] => 0
  | x :: xs => rb x + 2 + rbL xs
end
mutual
def rOk : PyData → Bool
  | .none => true
  | .bool _ => true
  | .int i => decide (i.natAbs.log2 < 1920)
  | .str x => x.cps.toList.all fun c => decide (c < 16 ^ 8)
  | .list xs => rOkL xs
  | .tuple xs => rOkL xs
  | .dict _ => false
def rOkL : List PyData → Bool
  | [] => true
  | x :: xs => rOk x && rOkL xs
end
theorem textFrom_le : ∀ (ts : List Str) (k : Nat) (acc : Str), (textFrom k acc ts).length ≤ acc.length + piled ts
  | [], k, acc => Nat.le_refl _
  | t :: r, k, acc => by
    have h := textFrom_le r (k + 1) (acc ++ (if k > 0 then ", " else "" : String) ++ t)
    have e : (acc ++ (if k > 0 then ", " else "" : String) ++ t).length = acc.length + (if k > 0 then 2 else 0) + t.length := by
      rw [strLen_append, strLen_append]
      split <;> rfl
    rw [e] at h
    have hp : piled (t :: r) = t.length + 2 + piled r := by simp [piled]
    rw [hp]
    show (textFrom (k + 1) _ r).length ≤ _
    have : (if k > 0 then 2 else 0 : Nat) ≤ 2 := by split <;> omega
    omega
theorem listText_le (ts : List Str) : (listText ts).length ≤ piled ts + 2 := by
  unfold listText
  rw [strLen_append]
  have h := textFrom_le ts 0 "["
  have e1 : ("[" : Str).length = 1 := rfl
  have e2 : ("]" : Str).length = 1 := rfl
  rw [e1] at h
  rw [e2]
  omega
theorem tupleText_le (ts : List Str) : (tupleText ts).length ≤ piled ts + 3 := by
  unfold tupleText
  rw [strLen_append, strLen_append]
  have e1 : ("(" : Str).length = 1 := rfl
  have e2 : ((if (ts.length == 1) = true then ",)" else ")" : String) : Str).length ≤ 2 := by
    split
    · exact Nat.le_refl _
    · exact Nat.le_succ _
  rw [e1]
  cases ts with
  | nil =>
    have e3 : (Str.join ", " []).length = 0 := rfl
    rw [e3]
    omega
  | cons t r =>
    have := join_length_add (t :: r) (by simp)
    omega
mutual
theorem shown_le : ∀ {p : PyData}, rOk p = true → p.shown.length ≤ rb p ∧ p.showable = true ∧ p.hasDict = false
  | .none, _ => ⟨Nat.le_refl _, rfl, rfl⟩
  | .bool b, _ => ⟨by cases b; exact Nat.le_refl _; exact Nat.le_succ _, rfl, rfl⟩
  | .int i, h => by
    have h : i.natAbs.log2 < 1920 := of_decide_eq_true h
    exact ⟨int_text_len_1921 h, decide_eq_true h, rfl⟩
  | .str x, h => ⟨StrLaws.reprText_len x fun c hc => by
      have := List.all_eq_true.mp (show (x.cps.toList.all fun c => decide (c < 16 ^ 8)) = true from h) c hc
      exact of_decide_eq_true this, rfl, rfl⟩
  | .list xs, h => by
    obtain ⟨h1, h2, h3⟩ := shownL_le (xs := xs) h
    refine ⟨?_, h2, h3⟩
    show (listText (PyData.shownAll xs)).length ≤ rbL xs + 2
    have := listText_le (PyData.shownAll xs)
    omega
  | .tuple xs, h => by
    obtain ⟨h1, h2, h3⟩ := shownL_le (xs := xs) h
    refine ⟨?_, h2, h3⟩
    show (tupleText (PyData.shownAll xs)).length ≤ rbL xs + 3
    have := tupleText_le (PyData.shownAll xs)
    omega
  | .dict _, h => by cases h
theorem shownL_le : ∀ {xs : List PyData}, rOkL xs = true → piled (PyData.shownAll xs) ≤ rbL xs ∧ PyData.showableAll xs = true ∧ PyData.hasDictAll xs = false
  | [], _ => ⟨Nat.le_refl _, rfl, rfl⟩
  | x :: xs, h => by
    have h : (rOk x && rOkL xs) = true := h
    rw [Bool.and_eq_true] at h
    obtain ⟨a1, a2, a3⟩ := shown_le h.1
    obtain ⟨b1, b2, b3⟩ := shownL_le h.2
    refine ⟨?_, ?_, ?_⟩
    · show piled (x.shown :: PyData.shownAll xs) ≤ rb x + 2 + rbL xs
      have hp : piled (x.shown :: PyData.shownAll xs) = x.shown.length + 2 + piled (PyData.shownAll xs) := by simp [piled]
      omega
    · show (x.showable && PyData.showableAll xs) = true
      rw [a2, b2]; rfl
    · show (x.hasDict || PyData.hasDictAll xs) = false
      rw [a3, b3]; rfl
end
theorem s_repr {μ : Store} {ds : List D} {ps : List PyData} {Q : D → Store → Prop} (e : pydL μ ds = some ps) (h1 : rOkL ps = true) (h2 : rbL ps + 2 ≤ maxL) (h3 : PyData.depthAll ps ≤ 59) (q : Q (.str (ofS (PyData.list ps).shown)) μ) : (fRepr [.lst ds] μ).wp Q := by
  have e' : pyd μ (.lst ds) = some (.list ps) := by
    show (pydL μ ds).map PyData.list = _
    rw [e]; rfl
  obtain ⟨a1, a2, a3⟩ := shown_le (p := .list ps) h1
  have hl : (PyData.list ps).shown.length ≤ maxL := Nat.le_trans a1 h2
  have hd : (PyData.list ps).depth ≤ 60 := by
    show PyData.depthAll ps + 1 ≤ 60
    omega
  show (match pyd μ (.lst ds) with
    | some p => (match D.lst ds with
      | .int i => if i.natAbs.log2 < 1920 then Out.ok (D.str (ofS (toString i))) μ else .stuck
      | _ => if (p.showable && !p.hasDict) && (decide (p.shown.length ≤ maxL) && decide (p.depth ≤ 60)) then (match D.lst ds with
        | .tup _ => Out.ok (D.str (ofS p.shown)) μ
        | .lst _ => Out.ok (D.str (ofS p.shown)) μ
        | .ref _ => Out.ok (D.str (ofS p.shown)) μ
        | _ => .stuck) else .stuck)
    | none => .stuck).wp Q
  rw [e']
  dsimp only
  rw [a2, a3, decide_eq_true hl, decide_eq_true hd]
  exact q
/-! bool lists, compared -/
def blD (bs : List Bool) : List D := bs.map D.bl
theorem pydL_bl {μ : Store} : ∀ {bs : List Bool}, pydL μ (blD bs) = some (bs.map PyData.bool)
  | [] => rfl
  | b :: bs => by
    show (match some (PyData.bool b), pydL μ (blD bs) with
    | some p, some ps => some (p :: ps)
    | _, _ => none) = _
    rw [pydL_bl]
    rfl
theorem eqv_bl : ∀ {bs cs : List Bool}, PyData.eqvAll (bs.map PyData.bool) (cs.map PyData.bool) = decide (bs = cs)
  | [], [] => rfl
  | [], c :: cs => by simp [PyData.eqvAll]
  | b :: bs, [] => by simp [PyData.eqvAll]
  | b :: bs, c :: cs => by
    show ((b == c) && PyData.eqvAll (bs.map PyData.bool) (cs.map PyData.bool)) = _
    rw [eqv_bl]
    cases b <;> cases c <;> simp
theorem shaped_bl : ∀ {bs : List Bool}, SeqAt.shaped (.list (bs.map PyData.bool)) = true := by
  intro bs
  have h1 : ∀ {bs : List Bool}, PyData.canLayAll0 (bs.map PyData.bool) = true := by
    intro bs
    induction bs with
    | nil => rfl
    | cons b bs ih => exact ih
  have h2 : ∀ {bs : List Bool}, PyData.depthAll (bs.map PyData.bool) = 0 := by
    intro bs
    induction bs with
    | nil => rfl
    | cons b bs ih =>
      show max 0 (PyData.depthAll (bs.map PyData.bool)) = 0
      rw [ih]; rfl
  unfold SeqAt.shaped
  rw [show PyData.canLay0 (.list (bs.map PyData.bool)) = true from h1, show PyData.depth (.list (bs.map PyData.bool)) = 1 by show PyData.depthAll _ + 1 = 1; rw [h2]]
  rfl
theorem eqB_bl {μ : Store} {bs cs : List Bool} : eqB μ (.lst (blD bs)) (.lst (blD cs)) = some (decide (bs = cs)) := by
  have e1 : ∀ bs : List Bool, pyd μ (.lst (blD bs)) = some (.list (bs.map PyData.bool)) := fun bs => by
    show (pydL μ (blD bs)).map PyData.list = _
    rw [pydL_bl]; rfl
  show (match pyd μ (.lst (blD bs)), pyd μ (.lst (blD cs)) with
    | some p, some q => if SeqAt.shaped p && SeqAt.shaped q then some (PyData.eqv p q) else none
    | _, _ => none) = _
  rw [e1, e1]
  dsimp only
  rw [shaped_bl, shaped_bl]
  show some (PyData.eqvAll _ _) = _
  rw [eqv_bl]
theorem s_eqBl {μ : Store} {bs cs : List Bool} {Q : D → Store → Prop} (q : Q (.bl (decide (bs = cs))) μ) : (dEq (.lst (blD bs)) (.lst (blD cs)) μ).wp Q := by
  show (dB (eqB μ (.lst (blD bs)) (.lst (blD cs))) μ).wp Q
  rw [eqB_bl]
  exact q
theorem s_neBl {μ : Store} {bs cs : List Bool} {Q : D → Store → Prop} (q : Q (.bl (!decide (bs = cs))) μ) : (dNe (.lst (blD bs)) (.lst (blD cs)) μ).wp Q := by
  show (dB ((eqB μ (.lst (blD bs)) (.lst (blD cs))).map not) μ).wp Q
  rw [eqB_bl]
  exact q
end Rv
set_option Elab.async false
set_option linter.all false
set_option maxRecDepth 100000
/-! P7: special methods, loops unrolled, stores with a tail. -/
namespace Rv
open PySem PySem.Spec L2
open PyProof.Rows hiding St
section
variable {ρ : Env'} {μ μ' : Store} {Q : D → Store → Prop} {QB : Bool → Store → Prop} {QL : List D → Store → Prop} {N : Env' → Store → Prop} {T : D → Store → Prop} {F : Fn} {cl f : Str} {d d1 d2 x : D} {ns : List Str} {ds : List D} {k b : Bool} {m : M D} {g : TgM} {t : M Bool} {c : C}
theorem isC_of (e : asI μ d = some (cl, ns, ds)) : isC μ cl d = true := by
  show (match asI μ d with
    | some (c, _, _) => decide (c = cl)
    | none => false) = true
  rw [e]
  exact decide_eq_true rfl
theorem s_notN (e : (match d with | .non => false | _ => true) = k) (q : Q (.bl k) μ) : (dNotN d .non μ).wp Q := by
  have h : dNotN d .non μ = .ok (.bl k) μ := by rw [← e]; rfl
  rw [h]
  exact q
theorem s_isN (e : (match d with | .non => true | _ => false) = k) (q : Q (.bl k) μ) : (dIsN d .non μ).wp Q := by
  have h : dIsN d .non μ = .ok (.bl k) μ := by rw [← e]; rfl
  rw [h]
  exact q
theorem s_lenK {n : Int} (h : isC μ cl d = true) (e : F [d] μ = .ok (.int n) μ) (hn : 0 ≤ n ∧ n < 2 ^ 63) (q : Q (.int n) μ) : (fLenK cl F [d] μ).wp Q := by
  show (if isC μ cl d = true then (F [d] μ).only.bind fun r μ1 => (match r with
    | .int n => if 0 ≤ n ∧ n < 2 ^ 63 then Out.ok (D.int n) μ1 else .stuck
    | _ => .stuck) else .stuck).wp Q
  rw [if_pos h, e]
  show (if 0 ≤ n ∧ n < 2 ^ 63 then Out.ok (D.int n) μ else .stuck).wp Q
  rw [if_pos hn]
  exact q
theorem s_itemK (h : isC μ cl d1 = true) (q : (F [d1, d2] μ).wp Q) : (dItem cl F d1 d2 μ).wp Q := by
  show (if isC μ cl d1 = true then F [d1, d2] μ else .stuck).wp Q
  rw [if_pos h]
  exact q
theorem s_inK (h : isC μ cl d2 = true) (e : F [d2, d1] μ = .ok (.bl k) μ) (q : Q (.bl (b ^^ k)) μ) : (dInK b cl F d1 d2 μ).wp Q := by
  show (if isC μ cl d2 = true then blOut b (F [d2, d1] μ) else .stuck).wp Q
  rw [if_pos h, e]
  exact q
theorem s_eqK {ts : List Tg} (h1 : isC μ cl d1 = true) (h2 : tgIn μ cl ts d2 = true) (e : F [d1, d2] μ = .ok (.bl k) μ) (q : Q (.bl (b ^^ k)) μ) : (dEqK b cl ts F d1 d2 μ).wp Q := by
  show (if isC μ cl d1 = true ∧ tgIn μ cl ts d2 = true then blOut b (F [d1, d2] μ) else .stuck).wp Q
  rw [if_pos ⟨h1, h2⟩, e]
  exact q
theorem s_TK (h : (m ρ μ).wp fun d μ => isC μ cl d = true ∧ ∃ k, F [d] μ = .ok (.bl k) μ ∧ QB k μ) : (mTK cl F m ρ μ).wp QB := by
  show ((m ρ μ).bind fun d μ1 => if isC μ1 cl d = true then (F [d] μ1).only.bind outB else .stuck).wp QB
  rw [Out.wp_bind]
  refine Out.wp_mono h fun d μ q => ?_
  obtain ⟨h1, k, e, q⟩ := q
  rw [if_pos h1, e]
  exact q
theorem s_lcN (q : QL [] μ) : (lcGo none g t m ρ [] μ).wp QL := q
theorem s_lcC {ρ1 : Env'} (e : g d ρ = some ρ1) (h : (t ρ1 μ).wp fun k μ1 => if k = true then (m ρ1 μ1).wp fun y μ2 => (lcGo none g t m ρ ds μ2).wp fun ys μ3 => QL (y :: ys) μ3 else (lcGo none g t m ρ ds μ1).wp QL) : (lcGo none g t m ρ (d :: ds) μ).wp QL := by
  show (if lvOk none μ = true then (match g d ρ with
    | none => Out.stuck
    | some ρ1 => (t ρ1 μ).bind fun k μ1 => if k = true then (m ρ1 μ1).bind fun y μ2 => (lcGo none g t m ρ ds μ2).bind fun ys μ3 => .ok (y :: ys) μ3 else lcGo none g t m ρ ds μ1) else .stuck).wp QL
  rw [if_pos (show lvOk none μ = true from rfl), e]
  dsimp only
  rw [Out.wp_bind]
  refine Out.wp_mono h fun k μ1 q => ?_
  cases k with
  | true =>
    rw [if_pos rfl] at q ⊢
    rw [Out.wp_bind]
    refine Out.wp_mono q fun y μ2 q => ?_
    rw [Out.wp_bind]
    exact q
  | false =>
    rw [if_neg (by decide)] at q ⊢
    exact q
/-- the same where nothing is asked -/
theorem s_lcC1 {ρ1 : Env'} (e : g d ρ = some ρ1) (h : (m ρ1 μ).wp fun y μ2 => (lcGo none g (fun _ μ => .ok true μ) m ρ ds μ2).wp fun ys μ3 => QL (y :: ys) μ3) : (lcGo none g (fun _ μ => .ok true μ) m ρ (d :: ds) μ).wp QL :=
  s_lcC e (by
    show (if true = true then (m ρ1 μ).wp (fun y μ2 => (lcGo none g (fun _ μ => .ok true μ) m ρ ds μ2).wp fun ys μ3 => QL (y :: ys) μ3) else (lcGo none g (fun _ μ => .ok true μ) m ρ ds μ).wp QL)
    rw [if_pos rfl]
    exact h)
theorem s_forN (h : N ρ μ) : (forGo none g c [] ρ μ).wp N T := h
theorem s_forC {ρ1 : Env'} (e : g d ρ = some ρ1) (h : (c ρ1 μ).wpL (fun ρ μ => (forGo none g c ds ρ μ).wp N T) N T) : (forGo none g c (d :: ds) ρ μ).wp N T := by
  unfold forGo
  rw [if_pos (show lvOk none μ = true from rfl), e]
  dsimp only
  cases q : c ρ1 μ with
  | nx ρ2 μ2 => rw [q] at h; exact h
  | ct ρ2 μ2 => rw [q] at h; exact h
  | brk ρ2 μ2 => rw [q] at h; exact h
  | ret d μ2 => rw [q] at h; exact h
  | exc c ns ds ρ2 μ2 => rw [q] at h; exact h.elim
  | stuck => rw [q] at h; exact h.elim
theorem s_rng1' {n : Int} {QI : Lv × List D → Store → Prop} (e : -(2 ^ 62) ≤ n ∧ n < 2 ^ 62) (h : QI (none, (List.range n.toNat).map fun (i : Nat) => D.int (i : Nat)) μ) : (rng1 [.int n] μ).wp QI := by
  refine s_rngI e ?_
  have : rngD 0 n.toNat = (List.range n.toNat).map fun (i : Nat) => D.int (i : Nat) := by
    unfold rngD
    refine List.map_congr_left fun i _ => ?_
    rw [Int.zero_add]
  rw [this]
  exact h
/-! stores with a tail -/
theorem T_at {A L : Store} {n j : Nat} (h : A.length = n) : (A ++ L)[n + j]? = L[j]? := by
  subst h
  rw [List.getElem?_append_right (by omega), Nat.add_sub_cancel_left]
theorem T_set {A L : Store} {n j : Nat} {m : MO} (h : A.length = n) : (A ++ L).set (n + j) m = A ++ L.set j m := by
  subst h
  rw [List.set_append_right _ _ (by omega), Nat.add_sub_cancel_left]
theorem s_setAt {P : Store → Prop} {p : Nat} {ds : List D} {j : Int} (h : μ[p]? = some (.lst ds)) (h0 : 0 ≤ j) (h1 : j < ds.length) (q : P (μ.set p (.lst (ds.set j.toNat d)))) : ∃ μ3, dSet (.ref p) (.int j) d μ = some μ3 ∧ P μ3 := ⟨_, dSet_ref h h0 h1, q⟩
end
/-! zip as a range -/
theorem zip_range {α β : Type} {xs : List α} {ys : List β} (a : α) (b : β) (h : xs.length = ys.length) : xs.zip ys = (List.range xs.length).map fun i => (xs.getD i a, ys.getD i b) := by
  refine List.ext_getElem (by simp [h]) fun i h1 h2 => ?_
  simp only [List.length_zip, List.length_map, List.length_range] at h1 h2
  simp only [List.getElem_zip, List.getElem_map, List.getElem_range, List.getD_eq_getElem?_getD]
  rw [List.getElem?_eq_getElem (by omega), List.getElem?_eq_getElem (by omega)]
  rfl
theorem zip_fst {α β γ : Type} {xs : List α} {ys : List β} (f : α → γ) (h : xs.length = ys.length) : (xs.zip ys).map (fun p => f p.1) = xs.map f := by
  show (xs.zip ys).map (f ∘ Prod.fst) = _
  rw [← List.map_map, List.map_fst_zip (by omega)]
theorem zip_snd {α β γ : Type} {xs : List α} {ys : List β} (f : β → γ) (h : xs.length = ys.length) : (xs.zip ys).map (fun p => f p.2) = ys.map f := by
  show (xs.zip ys).map (f ∘ Prod.snd) = _
  rw [← List.map_map, List.map_snd_zip (by omega)]
theorem filt_range {α β γ : Type} {xs : List α} {ys : List β} (a : α) (b : β) (h : xs.length = ys.length) (p : β → Bool) (f : α → γ) :
    ((List.range xs.length).filter (fun i => p (ys.getD i b))).map (fun i => f (xs.getD i a)) = ((xs.zip ys).filter fun q => p q.2).map fun q => f q.1 := by
  rw [zip_range a b h, List.filter_map, List.map_map]
  rfl
theorem filt_zip_len {α β : Type} {xs : List α} {ys : List β} (h : xs.length = ys.length) (p : β → Bool) : ((xs.zip ys).filter fun q => p q.2).length = (ys.filter p).length := by
  have : ys = (xs.zip ys).map Prod.snd := (List.map_snd_zip (by omega)).symm
  conv => rhs; rw [this, List.filter_map, List.length_map]
  rfl
/-! bounds of what is shown -/
theorem rbL_le {k : Nat} : ∀ {ps : List PyData}, (∀ p ∈ ps, rb p ≤ k) → rbL ps ≤ (k + 2) * ps.length
  | [], _ => Nat.zero_le _
  | p :: ps, h => by
    have h1 := h p (List.mem_cons_self ..)
    have h2 := rbL_le (ps := ps) fun q hq => h q (List.mem_cons_of_mem _ hq)
    show rb p + 2 + rbL ps ≤ (k + 2) * (ps.length + 1)
    rw [Nat.mul_add, Nat.mul_one]
    omega
theorem rOkL_all : ∀ {ps : List PyData}, (∀ p ∈ ps, rOk p = true) → rOkL ps = true
  | [], _ => rfl
  | p :: ps, h => by
    show (rOk p && rOkL ps) = true
    rw [h p (List.mem_cons_self ..), rOkL_all (ps := ps) fun q hq => h q (List.mem_cons_of_mem _ hq)]
    rfl
theorem depthL_le {k : Nat} : ∀ {ps : List PyData}, (∀ p ∈ ps, p.depth ≤ k) → PyData.depthAll ps ≤ k
  | [], _ => Nat.zero_le _
  | p :: ps, h => by
    have h1 := h p (List.mem_cons_self ..)
    have h2 := depthL_le (ps := ps) fun q hq => h q (List.mem_cons_of_mem _ hq)
    show max p.depth (PyData.depthAll ps) ≤ k
    omega
theorem log_of {i : Int} (h : -(10 ^ 40) < i ∧ i < 10 ^ 40) : i.natAbs.log2 < 1920 := by
  have h1 : i.natAbs < 10 ^ 40 := by omega
  by_cases h0 : i.natAbs = 0
  · rw [h0]; decide
  · refine (Nat.log2_lt h0).mpr (Nat.lt_trans h1 ?_)
    exact Nat.lt_of_lt_of_le (show 10 ^ 40 < 2 ^ 200 by decide) (Nat.pow_le_pow_right (by decide) (by decide))
end Rv
set_option Elab.async false
set_option linter.all false
set_option maxRecDepth 100000
/-! P8: further steps. -/
namespace Rv
open PySem PySem.Spec L2
open PyProof.Rows hiding St
section
variable {ρ : Env'} {μ μ' : Store} {Q : D → Store → Prop} {QB : Bool → Store → Prop} {QL : List D → Store → Prop} {N : Env' → Store → Prop} {T : D → Store → Prop} {F : Fn} {cl f : Str} {d d1 d2 x : D} {ns : List Str} {ds : List D} {k b : Bool} {m n : M D} {g : TgM} {t : M Bool} {c : C}
theorem s_tgSubK (h : (m ρ μ).wp fun o μ => (n ρ μ).wp fun i μ => isC μ cl o = true ∧ (F [o, i, d] μ).wp fun _ μ => N ρ μ) : (tgSubK cl F m n d ρ μ).wp N T := by
  show ((m ρ μ).bindS ρ fun o μ1 => (n ρ μ1).bindS ρ fun i μ2 => if isC μ2 cl o = true then (F [o, i, d] μ2).bindS ρ fun _ μ3 => .nx ρ μ3 else .stuck).wp N T
  rw [Out.wp_bindS]
  refine Out.wp_mono h fun o μ q => ?_
  rw [Out.wp_bindS]
  refine Out.wp_mono q fun i μ q => ?_
  rw [if_pos q.1, Out.wp_bindS]
  exact q.2
theorem s_timesB (n : Nat) {i : Int} (e : i = n) (hn : n ≤ 1000) (q : Q (.lst (blD (List.replicate n b))) μ) : (dTimes (.lst [.bl b]) (.int i) μ).wp Q := by
  subst e
  have h : -(2 ^ 63) ≤ (n : Int) ∧ (n : Int) < 2 ^ 63 ∧ [D.bl b].length * (n : Int).toNat ≤ maxL := by
    refine ⟨by omega, by omega, ?_⟩
    simp only [List.length_cons, List.length_nil, Int.toNat_natCast]
    show _ ≤ 16777216
    omega
  have e1 : dTimes (.lst [.bl b]) (.int n) μ = .ok (.lst (repD (n : Int).toNat [D.bl b])) μ := by
    unfold dTimes asL
    exact if_pos h
  rw [e1]
  have e2 : repD (n : Int).toNat [D.bl b] = blD (List.replicate n b) := by
    rw [Int.toNat_natCast]
    unfold repD blD
    rw [List.flatten_replicate_singleton, List.map_replicate]
  rw [e2]
  exact q
theorem runF1_wp {n : Nat} (h : (c (begin n ds) μ).wp (fun _ _ => False) fun d μ' => ∃ k m, d = .ref k ∧ μ'[k]? = some m ∧ μ.length ≤ k ∧ kept μ.length μ μ' = true ∧ MO.low μ.length m = true ∧ Q (.ref μ.length) (μ'.take μ.length ++ [m])) : (runF1 n c ds μ).wp Q := by
  show (region1 μ (c (begin n ds) μ)).wp Q
  cases e : c (begin n ds) μ with
  | ret d μ' =>
    rw [e] at h
    obtain ⟨k, m, rfl, h1, h2, h3, h4, q⟩ := h
    show (match μ'[k]? with
      | some m => if (decide (μ.length ≤ k) && (kept μ.length μ μ' && MO.low μ.length m)) = true then Out.ok (D.ref μ.length) (μ'.take μ.length ++ [m]) else .stuck
      | none => .stuck).wp Q
    rw [h1]
    dsimp only
    rw [decide_eq_true h2, h3, h4]
    exact q
  | nx ρ μ' => rw [e] at h; exact h.elim
  | brk ρ μ' => rw [e] at h; exact h.elim
  | ct ρ μ' => rw [e] at h; exact h.elim
  | exc c ns ds ρ μ' => rw [e] at h; exact h.elim
  | stuck => rw [e] at h; exact h.elim
theorem s_lenC {zs : List Int} (h : Q (.int zs.length) μ) : (fLen [.scr zs] μ).wp Q := h
theorem s_min2 {i j : Int} (h : Q (.int (if j < i then j else i)) μ) : (fMin2 [.int i, .int j] μ).wp Q := h
theorem s_max2 {i j : Int} (h : Q (.int (if j > i then j else i)) μ) : (fMax2 [.int i, .int j] μ).wp Q := h
theorem s_abs {i : Int} (h : Q (.int (if i < 0 then -i else i)) μ) : (fAbs [.int i] μ).wp Q := h
theorem s_slC {zs : List Int} {lo hi : Option Int} (h : Q (.lst ((cutD zs lo hi).map D.int)) μ) : (dSl (.scr zs) lo hi μ).wp Q := h
theorem s_ixC {zs : List Int} {i k : Int} (e : atI zs i = some k) (h : Q (.int k) μ) : (dIx (.scr zs) (.int i) μ).wp Q := by
  show (match atI zs i with
      | some k => Out.ok (D.int k) μ
      | none => .stuck).wp Q
  rw [e]
  exact h
theorem eqU_non {rc : Str} {ts : List Tg} (h1 : isC μ cl d1 = true) (h2 : tgIn μ cl ts .non = true) : dEqU b cl rc ts F d1 .non μ = .ok (.bl b) μ := by
  unfold dEqU
  rw [if_pos ⟨h1, h2⟩]
theorem eqU_tup {rc : Str} {ts : List Tg} (h1 : isC μ cl d1 = true) (h2 : tgIn μ cl ts (.tup ds) = true) : dEqU b cl rc ts F d1 (.tup ds) μ = .ok (.bl b) μ := by
  unfold dEqU
  rw [if_pos ⟨h1, h2⟩]
theorem eqU_obj {rc : Str} {ts : List Tg} (h1 : isC μ cl d1 = true) (h2 : tgIn μ cl ts (.obj rc ns ds) = true) (e : F [.obj rc ns ds, d1] μ = .ok (.bl k) μ) : dEqU b cl rc ts F d1 (.obj rc ns ds) μ = .ok (.bl (b ^^ k)) μ := by
  unfold dEqU
  rw [if_pos ⟨h1, h2⟩]
  dsimp only
  rw [if_pos (show isC μ rc (.obj rc ns ds) = true from decide_eq_true rfl), e]
  rfl
theorem eqU_ref {rc : Str} {ts : List Tg} {i j : Nat} (h1 : isC μ cl (.ref i) = true) (h2 : tgIn μ cl ts (.ref j) = true) (h3 : isC μ rc (.ref j) = false) (h4 : i ≠ j) (h5 : isC μ cl (.ref j) = true) : dEqU b cl rc ts F (.ref i) (.ref j) μ = .ok (.bl b) μ := by
  unfold dEqU
  rw [if_pos ⟨h1, h2⟩]
  dsimp only
  rw [if_neg (by rw [h3]; decide), if_pos ⟨h4, h5⟩]
theorem tgIn_of {ts : List Tg} {t : Tg} (h : tgOf μ d = some t) (e : t = .c cl ∨ t ∈ ts) : tgIn μ cl ts d = true := by
  unfold tgIn
  rw [h]
  dsimp only
  rcases e with e | e
  · rw [decide_eq_true e]
    rfl
  · rw [decide_eq_true e, Bool.or_true]
/-! values worked out by themselves, one lemma an operation -/
variable {v e : D}
theorem v_ix (h : dIx d1 d2 μ = .ok v μ') (q : Q v μ') : (dIx d1 d2 μ).wp Q := s_ok h q
theorem v_isi {S : Isi} (h : fIsi S ds μ = .ok v μ') (q : Q v μ') : (fIsi S ds μ).wp Q := s_ok h q
theorem v_in (h : dIn d1 d2 μ = .ok v μ') (q : Q v μ') : (dIn d1 d2 μ).wp Q := s_ok h q
theorem v_nin (h : dNotIn d1 d2 μ = .ok v μ') (q : Q v μ') : (dNotIn d1 d2 μ).wp Q := s_ok h q
theorem v_isN (h : dIsN d1 d2 μ = .ok v μ') (q : Q v μ') : (dIsN d1 d2 μ).wp Q := s_ok h q
theorem v_notN (h : dNotN d1 d2 μ = .ok v μ') (q : Q v μ') : (dNotN d1 d2 μ).wp Q := s_ok h q
theorem v_tup (h : fTuple ds μ = .ok v μ') (q : Q v μ') : (fTuple ds μ).wp Q := s_ok h q
theorem v_fld (h : dFld cl f d μ = .ok v μ') (q : Q v μ') : (dFld cl f d μ).wp Q := s_ok h q
theorem v_len (h : fLen ds μ = .ok v μ') (q : Q v μ') : (fLen ds μ).wp Q := s_ok h q
theorem le_maxL {n : Nat} (h : n ≤ 16777216) : n ≤ maxL := h
end
end Rv
set_option Elab.async false
set_option linter.all false
set_option maxRecDepth 100000
set_option maxHeartbeats 4000000
/-! printed by gen.py: the mirrors of ringvotes_k65_desks_set_one_by_one and that they are right. -/
namespace G
open PySem PySem.Spec L2 Rv
open PyProof.Rows hiding St
def top (i : Nat) : Stmt := PySem.Challenge.pw_ringvotes_k65_desks_set_one_by_one.main.body.getD i (.Pass ⟨0, 0, 0, 0⟩)
def mem (i j : Nat) : Stmt := match top i with
  | .ClassDef _ _ _ b _ _ _ _ _ _ _ => b.getD j (.Pass ⟨0, 0, 0, 0⟩)
  | _ => .Pass ⟨0, 0, 0, 0⟩
def isiT : Isi where
  cs := ["Pipe", "Meter", "Net", "Desk"]
  tab := [(.b "NoneType", .b "int", false), (.b "NoneType", .b "bool", false), (.b "NoneType", .b "str", false), (.b "NoneType", .b "tuple", false), (.b "NoneType", .c "Pipe", false), (.b "NoneType", .c "Meter", false), (.b "NoneType", .c "Net", false), (.b "bool", .b "int", true), (.b "bool", .b "bool", true), (.b "bool", .b "str", false), (.b "bool", .b "tuple", false), (.b "bool", .c "Pipe", false), (.b "bool", .c "Meter", false), (.b "bool", .c "Net", false), (.b "int", .b "int", true), (.b "int", .b "bool", false), (.b "int", .b "str", false), (.b "int", .b "tuple", false), (.b "int", .c "Pipe", false), (.b "int", .c "Meter", false), (.b "int", .c "Net", false), (.b "str", .b "int", false), (.b "str", .b "bool", false), (.b "str", .b "str", true), (.b "str", .b "tuple", false), (.b "str", .c "Pipe", false), (.b "str", .c "Meter", false), (.b "str", .c "Net", false), (.b "tuple", .b "int", false), (.b "tuple", .b "bool", false), (.b "tuple", .b "str", false), (.b "tuple", .b "tuple", true), (.b "tuple", .c "Pipe", false), (.b "tuple", .c "Meter", false), (.b "tuple", .c "Net", false), (.b "list", .b "int", false), (.b "list", .b "bool", false), (.b "list", .b "str", false), (.b "list", .b "tuple", false), (.b "list", .c "Pipe", false), (.b "list", .c "Meter", false), (.b "list", .c "Net", false), (.b "dict", .b "int", false), (.b "dict", .b "bool", false), (.b "dict", .b "str", false), (.b "dict", .b "tuple", false), (.b "dict", .c "Pipe", false), (.b "dict", .c "Meter", false), (.b "dict", .c "Net", false), (.c "Pipe", .b "int", false), (.c "Pipe", .b "bool", false), (.c "Pipe", .b "str", false), (.c "Pipe", .b "tuple", false), (.c "Pipe", .c "Pipe", true), (.c "Pipe", .c "Meter", false), (.c "Pipe", .c "Net", false), (.c "Meter", .b "int", false), (.c "Meter", .b "bool", false), (.c "Meter", .b "str", false), (.c "Meter", .b "tuple", false), (.c "Meter", .c "Pipe", false), (.c "Meter", .c "Meter", true), (.c "Meter", .c "Net", false), (.c "Net", .b "int", false), (.c "Net", .b "bool", false), (.c "Net", .b "str", false), (.c "Net", .b "tuple", false), (.c "Net", .c "Pipe", false), (.c "Net", .c "Meter", false), (.c "Net", .c "Net", true), (.c "Desk", .b "int", false), (.c "Desk", .b "bool", false), (.c "Desk", .b "str", false), (.c "Desk", .b "tuple", false), (.c "Desk", .c "Pipe", false), (.c "Desk", .c "Meter", false), (.c "Desk", .c "Net", false)]
def N__law_draw : List Str := ["_law_pool_here", "_law_many", "_law_state", "_law_factor", "_law_digit"]
def c__law_draw : C := cSeq (cAsg (tgSub (mVar 0) (mC (.int 2))) (m2 dPlus (m2 dIx (mVar 0) (mC (.int 2))) (mC (.int 1)))) (cSeq (cSet 2 (mCallB fInt (maCons (m2 dIx (mVar 0) (mC (.int 0))) (maNil)))) (cSeq (cSet 3 (m2 dPlus (mC (.int 48271)) (m2 dTimes (mC (.int 2)) (m2 dMod (mCallB fInt (maCons (mVar 2) (maNil))) (mC (.int 5003)))))) (cSeq (cAsg (tgSub (mVar 0) (mC (.int 0))) (m2 dMod (mCallB fInt (maCons (m2 dPlus (m2 dPlus (m2 dTimes (mVar 2) (mVar 3)) (m2 dTimes (mC (.int 39373)) (m2 dIx (mVar 0) (mC (.int 2))))) (mC (.int 17))) (maNil))) (mC (.int 2147483563)))) (cSeq (cIf (mB (m2 (dGt) (m2 dIx (mVar 0) (mC (.int 1))) (mC (.int 0)))) (cSeq (cAsg (tgT 2 (tgsC (tgSub (mVar 0) (mC (.int 1))) (tgsC (tgP (gN 4)) (tgsN)))) (mCallB fDivmod (maCons (m2 dIx (mVar 0) (mC (.int 1))) (maCons (mVar 1) (maNil))))) (cRet (mVar 4))) (cNil)) (cRet (m2 dMod (mCallB fInt (maCons (m2 dDiv (m2 dIx (mVar 0) (mC (.int 0))) (mC (.int 97))) (maNil))) (mVar 1)))))))
def F__law_draw : Fn := runF 5 c__law_draw
def D__law_draw : DefA := { adr := aG "_law_draw", name := "_law_draw", qual := "_law_draw", st := top 39 }
def N__law_word : List Str := ["_law_pool_here", "_law_letters", "_law_found", "_law_place", "_law_signs"]
def c__law_word : C := cSeq (cAsg (tgT 2 (tgsC (tgP (gN 1)) (tgsC (tgP (gN 2)) (tgsN)))) (mTup (maCons (mC (.str [97, 98, 99, 100, 101, 102, 103, 104, 105, 106, 107, 108, 109, 110, 111, 112, 113, 114, 115, 116, 117, 118, 119, 120, 121, 122])) (maCons (mC (.str [])) (maNil))))) (cSeq (cFor (mI rng1 (maCons (m2 dPlus (mC (.int 1)) (mCall (arity 2 F__law_draw []) (maCons (mVar 0) (maCons (mC (.int 5)) (maNil))))) (maNil))) (gN 3) (cSeq (cSet 4 (mIf (mB (m2 (dEq) (mVar 3) (mC (.int 0)))) (mVar 1) (m2 dPlus (mVar 1) (mC (.str [48, 49, 50, 51, 52, 53, 54, 55, 56, 57]))))) (cSet 2 (m2 dPlus (mVar 2) (m2 dIx (mVar 4) (mCall (arity 2 F__law_draw []) (maCons (mVar 0) (maCons (mCallB fLen (maCons (mVar 4) (maNil))) (maNil))))))))) (cRet (mVar 2)))
def F__law_word : Fn := runF 5 c__law_word
def D__law_word : DefA := { adr := aG "_law_word", name := "_law_word", qual := "_law_word", st := top 40 }
def N__law_words : List Str := ["_law_pool_here", "_law_many", "_law_signs", "_law_found", "_law_twins", "_law_stem", "_law_part", "_law_first", "_law_place", "_law_word_here", "_law_free", "_law_sign", "_law_tag"]
def c__law_words : C := cSeq (cAsg (tgT 2 (tgsC (tgP (gN 2)) (tgsC (tgP (gN 3)) (tgsN)))) (mTup (maCons (mC (.str [97, 98, 99, 100, 101, 102, 103, 104, 105, 106, 107, 108, 109, 110, 111, 112, 113, 114, 115, 116, 117, 118, 119, 120, 121, 122, 48, 49, 50, 51, 52, 53, 54, 55, 56, 57])) (maCons (mNw (mLen (maNil))) (maNil))))) (cSeq (cPar 4 5 (maCons (m2 (dEq) (mCall (arity 2 F__law_draw []) (maCons (mVar 0) (maCons (mC (.int 2)) (maNil)))) (mC (.int 1))) (maCons (mCall (arity 1 F__law_word []) (maCons (mVar 0) (maNil))) (maNil)))) (cSeq (cPar 6 7 (maCons (m2 dPlus (mC (.int 1)) (mCall (arity 2 F__law_draw []) (maCons (mVar 0) (maCons (mC (.int 5)) (maNil))))) (maCons (mCall (arity 2 F__law_draw []) (maCons (mVar 0) (maCons (mC (.int 36)) (maNil)))) (maNil)))) (cSeq (cFor (mI rng1 (maCons (mVar 1) (maNil))) (gN 8) (cSeq (cSet 9 (m2 dPlus (m2 dPlus (mSl (mVar 5) (moNone) (moSome (mVar 6))) (m2 dIx (mVar 2) (m2 dMod (mCallB fInt (maCons (m2 dPlus (mVar 7) (mVar 8)) (maNil))) (mC (.int 36))))) (mSl (mVar 5) (moSome (mVar 6)) (moNone)))) (cSeq (cIf (tNotM (mT (mVar 4))) (cSet 9 (mCall (arity 1 F__law_word []) (maCons (mVar 0) (maNil)))) (cNil)) (cSeq (cSet 10 (m2 dPlus (mFz (mLen (maCons (mVar 9) (maNil)))) (mFz (mLc (mIt (mVar 2)) [11] (gN 11) (fun _ μ => .ok true μ) (m2 dPlus (mVar 9) (mVar 11)))))) (cExpr (mApp (mVar 3) (m2 dIx (mFz (mLc (mIt (mVar 10)) [12] (gN 12) (mB (m2 (dNotIn) (mVar 12) (mVar 3))) (mVar 12))) (mC (.int 0))))))))) (cRet (mVar 3)))))
def F__law_words : Fn := runF 13 c__law_words
def D__law_words : DefA := { adr := aG "_law_words", name := "_law_words", qual := "_law_words", st := top 41 }
def N__law_lines : List Str := ["_law_pool_here", "_law_many", "_law_wide", "_law_tags", "_law_spots", "_law_found", "_law_tag", "_law_begin"]
def c__law_lines : C := cSeq (cPar3 3 4 5 (maCons (mCall (arity 2 F__law_words []) (maCons (mVar 0) (maCons (mVar 1) (maNil)))) (maCons (mCall (arity 2 F__law_words []) (maCons (mVar 0) (maCons (mVar 2) (maNil)))) (maCons (mNw (mLen (maNil))) (maNil))))) (cSeq (cFor (mIt (mVar 3)) (gN 6) (cSeq (cSet 7 (mCall (arity 2 F__law_draw []) (maCons (mVar 0) (maCons (mVar 2) (maNil))))) (cExpr (mApp (mVar 5) (mTup (maCons (mVar 6) (maCons (m2 dIx (mVar 4) (mVar 7)) (maCons (m2 dIx (mVar 4) (m2 dMod (mCallB fInt (maCons (m2 dPlus (m2 dPlus (mVar 7) (mC (.int 1))) (mCall (arity 2 F__law_draw []) (maCons (mVar 0) (maCons (m2 dSub (mVar 2) (mC (.int 1))) (maNil))))) (maNil))) (mVar 2))) (maNil))))))))) (cRet (mVar 5)))
def F__law_lines : Fn := runF 8 c__law_lines
def D__law_lines : DefA := { adr := aG "_law_lines", name := "_law_lines", qual := "_law_lines", st := top 42 }
def N__law_dials : List Str := ["_law_pool_here", "_law_lines_here", "_law_many", "_law_rare", "_law_found", "_law_tag"]
def c__law_dials : C := cSeq (cSet 4 (mNw (mLen (maNil)))) (cSeq (cFor (mIt (mCall (arity 2 F__law_words []) (maCons (mVar 0) (maCons (mVar 2) (maNil))))) (gN 5) (cExpr (mApp (mVar 4) (mTup (maCons (mVar 5) (maCons (m2 dIx (m2 dIx (mVar 1) (mCall (arity 2 F__law_draw []) (maCons (mVar 0) (maCons (mCallB fLen (maCons (mVar 1) (maNil))) (maNil))))) (mC (.int 0))) (maCons (m2 (dEq) (mCall (arity 2 F__law_draw []) (maCons (mVar 0) (maCons (mVar 3) (maNil)))) (mC (.int 0))) (maNil)))))))) (cRet (mVar 4)))
def F__law_dials : Fn := runF 6 c__law_dials
def D__law_dials : DefA := { adr := aG "_law_dials", name := "_law_dials", qual := "_law_dials", st := top 43 }
def N_is_name : List Str := ["value", "sign"]
def c_is_name : C := cSeq (cIf (tOrM (tNotM (mT (mCallB (fIsi isiT) (maCons (mVar 0) (maCons (mC (.ty "str")) (maNil)))))) (tOrM (tNotM (mB (mChain (dLe) (dLe) (mC (.int 1)) (mCallB fLen (maCons (mVar 0) (maNil))) (mC (.int 8))))) (mB (m2 (dNotIn) (m2 dIx (mVar 0) (mC (.int 0))) (mC (.str [97, 98, 99, 100, 101, 102, 103, 104, 105, 106, 107, 108, 109, 110, 111, 112, 113, 114, 115, 116, 117, 118, 119, 120, 121, 122])))))) (cRet (mC (.bl false))) (cNil)) (cRet (mCallB fAll (maCons (mFz (mLc (mIt (mVar 0)) [1] (gN 1) (fun _ μ => .ok true μ) (mOr (m2 (dIn) (mVar 1) (mC (.str [97, 98, 99, 100, 101, 102, 103, 104, 105, 106, 107, 108, 109, 110, 111, 112, 113, 114, 115, 116, 117, 118, 119, 120, 121, 122]))) (m2 (dIn) (mVar 1) (mC (.str [48, 49, 50, 51, 52, 53, 54, 55, 56, 57])))))) (maNil))))
def F_is_name : Fn := runF 2 c_is_name
def D_is_name : DefA := { adr := aG "is_name", name := "is_name", qual := "is_name", st := top 21 }
def N_check_name : List Str := ["value"]
def c_check_name : C := cIf (tNotM (mT (mCall (arity 1 F_is_name []) (maCons (mVar 0) (maNil))))) (cStuck) (cNil)
def F_check_name : Fn := runF 1 c_check_name
def D_check_name : DefA := { adr := aG "check_name", name := "check_name", qual := "check_name", st := top 22 }
def N_Pipe___init__ : List Str := ["self", "name", "start", "end"]
def c_Pipe___init__ : C := cSeq (cExpr (mCall (arity 1 F_check_name []) (maCons (mVar 1) (maNil)))) (cSeq (cExpr (mCall (arity 1 F_check_name []) (maCons (mVar 2) (maNil)))) (cSeq (cExpr (mCall (arity 1 F_check_name []) (maCons (mVar 3) (maNil)))) (cSeq (cIf (mB (m2 (dEq) (mVar 3) (mVar 2))) (cStuck) (cNil)) (cFld "Pipe" "kept" (mVar 0) (mTup (maCons (mVar 1) (maCons (mVar 2) (maCons (mVar 3) (maNil)))))))))
def F_Pipe___init__ : Fn := runF 4 c_Pipe___init__
def D_Pipe___init__ : DefA := { adr := aM "Pipe" "__init__", name := "__init__", qual := "Pipe.__init__", st := mem 24 0 }
def N_Meter___init__ : List Str := ["self", "name", "at", "sealed"]
def c_Meter___init__ : C := cSeq (cExpr (mCall (arity 1 F_check_name []) (maCons (mVar 1) (maNil)))) (cSeq (cExpr (mCall (arity 1 F_check_name []) (maCons (mVar 2) (maNil)))) (cSeq (cIf (tNotM (mT (mCallB (fIsi isiT) (maCons (mVar 3) (maCons (mC (.ty "bool")) (maNil)))))) (cStuck) (cNil)) (cFld "Meter" "kept" (mVar 0) (mTup (maCons (mVar 1) (maCons (mVar 2) (maCons (mVar 3) (maNil))))))))
def F_Meter___init__ : Fn := runF 4 c_Meter___init__
def D_Meter___init__ : DefA := { adr := aM "Meter" "__init__", name := "__init__", qual := "Meter.__init__", st := mem 25 0, kwd := [("sealed", .bl false)] }
def N_item_of : List Str := ["line", "words"]
def c_item_of : C := cSeq (cSet 1 (mM1 fSplit (mVar 0) (mC (.str [32])))) (cSeq (cTry (cSeq (cIf (tAndM (mB (m2 (dEq) (mCallB fLen (maCons (mVar 1) (maNil))) (mC (.int 4)))) (mB (m2 (dEq) (m2 dIx (mVar 1) (mC (.int 0))) (mC (.str [112, 105, 112, 101]))))) (cRet (mCall (arity1 4 (newF "Pipe" false F_Pipe___init__) []) (maCons (m2 dIx (mVar 1) (mC (.int 1))) (maCons (m2 dIx (mVar 1) (mC (.int 2))) (maCons (m2 dIx (mVar 1) (mC (.int 3))) (maNil)))))) (cNil)) (cIf (tAndM (mB (m2 (dIn) (mCallB fLen (maCons (mVar 1) (maNil))) (mTup (maCons (mC (.int 3)) (maCons (mC (.int 4)) (maNil)))))) (mB (m2 (dEq) (m2 dIx (mVar 1) (mC (.int 0))) (mC (.str [109, 101, 116, 101, 114]))))) (cRet (mCallK (arity1K 4 2 1 (newF "Meter" false F_Meter___init__) []) (maCons (m2 dIx (mVar 1) (mC (.int 1))) (maCons (m2 dIx (mVar 1) (mC (.int 2))) (maNil))) (maCons (m2 (dEq) (mCallB fLen (maCons (mVar 1) (maNil))) (mC (.int 4))) (maNil)))) (cNil)))) (cRet (mC .non)))
def F_item_of : Fn := runF 2 c_item_of
def D_item_of : DefA := { adr := aG "item_of", name := "item_of", qual := "item_of", st := top 29 }
def N_Pipe_name : List Str := ["self"]
def c_Pipe_name : C := cRet (m2 dIx (m1 (dFld "Pipe" "kept") (mVar 0)) (mC (.int 0)))
def F_Pipe_name : Fn := runF 1 c_Pipe_name
def D_Pipe_name : DefA := { adr := aR "property" "Pipe" "name", name := "name", qual := "Pipe.name", st := mem 24 1 }
def N_check_pipes : List Str := ["pipes", "names", "index", "pipe"]
def c_check_pipes : C := cSeq (cIf (tOrM (tNotM (mT (mCallB (fIsi isiT) (maCons (mVar 0) (maCons (mC (.ty "tuple")) (maNil)))))) (mB (m2 (dEq) (mCallB fLen (maCons (mVar 0) (maNil))) (mC (.int 0))))) (cStuck) (cNil)) (cSeq (cSet 1 (mNw (mLen (maNil)))) (cFor (mI enuT (maCons (mVar 0) (maNil))) (gT (gsC (gN 2) (gsC (gN 3) (gsN)))) (cSeq (cIf (tOrM (tNotM (mT (mCallB (fIsi isiT) (maCons (mVar 3) (maCons (mC (.cls "Pipe")) (maNil)))))) (tOrM (mB (m2 (dIn) (m1 (dProp "Pipe" F_Pipe_name) (mVar 3)) (mVar 1))) (mB (m2 (dGe) (mVar 2) (mC (.int 12)))))) (cStuck) (cNil)) (cExpr (mApp (mVar 1) (m1 (dProp "Pipe" F_Pipe_name) (mVar 3)))))))
def F_check_pipes : Fn := runF 4 c_check_pipes
def D_check_pipes : DefA := { adr := aG "check_pipes", name := "check_pipes", qual := "check_pipes", st := top 26 }
def N_Meter_name : List Str := ["self"]
def c_Meter_name : C := cRet (m2 dIx (m1 (dFld "Meter" "kept") (mVar 0)) (mC (.int 0)))
def F_Meter_name : Fn := runF 1 c_Meter_name
def D_Meter_name : DefA := { adr := aR "property" "Meter" "name", name := "name", qual := "Meter.name", st := mem 25 1 }
def N_Meter_at : List Str := ["self"]
def c_Meter_at : C := cRet (m2 dIx (m1 (dFld "Meter" "kept") (mVar 0)) (mC (.int 1)))
def F_Meter_at : Fn := runF 1 c_Meter_at
def D_Meter_at : DefA := { adr := aR "property" "Meter" "at", name := "at", qual := "Meter.at", st := mem 25 2 }
def N_check_meters : List Str := ["meters", "pipes", "places", "pipe", "names", "index", "meter"]
def c_check_meters : C := cSeq (cIf (tNotM (mT (mCallB (fIsi isiT) (maCons (mVar 0) (maCons (mC (.ty "tuple")) (maNil)))))) (cStuck) (cNil)) (cSeq (cSet 2 (mFz (mLc (mIt (mVar 1)) [3] (gN 3) (fun _ μ => .ok true μ) (m1 (dProp "Pipe" F_Pipe_name) (mVar 3))))) (cSeq (cSet 4 (mNw (mLen (maNil)))) (cFor (mI enuT (maCons (mVar 0) (maNil))) (gT (gsC (gN 5) (gsC (gN 6) (gsN)))) (cSeq (cIf (tOrM (tNotM (mT (mCallB (fIsi isiT) (maCons (mVar 6) (maCons (mC (.cls "Meter")) (maNil)))))) (tOrM (mB (m2 (dIn) (m1 (dProp "Meter" F_Meter_name) (mVar 6)) (mVar 4))) (tOrM (mB (m2 (dNotIn) (m1 (dProp "Meter" F_Meter_at) (mVar 6)) (mVar 2))) (mB (m2 (dGe) (mVar 5) (mC (.int 12))))))) (cStuck) (cNil)) (cExpr (mApp (mVar 4) (m1 (dProp "Meter" F_Meter_name) (mVar 6))))))))
def F_check_meters : Fn := runF 7 c_check_meters
def D_check_meters : DefA := { adr := aG "check_meters", name := "check_meters", qual := "check_meters", st := top 27 }
def N_Net___init__ : List Str := ["self", "pipes", "meters"]
def c_Net___init__ : C := cSeq (cExpr (mCall (arity 1 F_check_pipes []) (maCons (mVar 1) (maNil)))) (cSeq (cExpr (mCall (arity 2 F_check_meters []) (maCons (mVar 2) (maCons (mVar 1) (maNil))))) (cSeq (cFld "Net" "joined" (mVar 0) (mVar 1)) (cFld "Net" "fitted" (mVar 0) (mVar 2))))
def F_Net___init__ : Fn := runF 3 c_Net___init__
def D_Net___init__ : DefA := { adr := aM "Net" "__init__", name := "__init__", qual := "Net.__init__", st := mem 30 0, dfl := [.adr (dfA (aM "Net" "__init__") 0)] }
def N_Pipe_start : List Str := ["self"]
def c_Pipe_start : C := cRet (m2 dIx (m1 (dFld "Pipe" "kept") (mVar 0)) (mC (.int 1)))
def F_Pipe_start : Fn := runF 1 c_Pipe_start
def D_Pipe_start : DefA := { adr := aR "property" "Pipe" "start", name := "start", qual := "Pipe.start", st := mem 24 2 }
def N_Pipe_end : List Str := ["self"]
def c_Pipe_end : C := cRet (m2 dIx (m1 (dFld "Pipe" "kept") (mVar 0)) (mC (.int 2)))
def F_Pipe_end : Fn := runF 1 c_Pipe_end
def D_Pipe_end : DefA := { adr := aR "property" "Pipe" "end", name := "end", qual := "Pipe.end", st := mem 24 3 }
def N_Meter_sealed : List Str := ["self"]
def c_Meter_sealed : C := cRet (m2 dIx (m1 (dFld "Meter" "kept") (mVar 0)) (mC (.int 2)))
def F_Meter_sealed : Fn := runF 1 c_Meter_sealed
def D_Meter_sealed : DefA := { adr := aR "property" "Meter" "sealed", name := "sealed", qual := "Meter.sealed", st := mem 25 3 }
def N_line_of : List Str := ["item"]
def c_line_of : C := cSeq (cIf (mT (mCallB (fIsi isiT) (maCons (mVar 0) (maCons (mC (.cls "Pipe")) (maNil))))) (cRet (joinGo [mC (.str [112, 105, 112, 101, 32]), mFmt (m1 (dProp "Pipe" F_Pipe_name) (mVar 0)), mC (.str [32]), mFmt (m1 (dProp "Pipe" F_Pipe_start) (mVar 0)), mC (.str [32]), mFmt (m1 (dProp "Pipe" F_Pipe_end) (mVar 0))] [])) (cNil)) (cRet (mIf (mT (m1 (dProp "Meter" F_Meter_sealed) (mVar 0))) (joinGo [mC (.str [109, 101, 116, 101, 114, 32]), mFmt (m1 (dProp "Meter" F_Meter_name) (mVar 0)), mC (.str [32]), mFmt (m1 (dProp "Meter" F_Meter_at) (mVar 0)), mC (.str [32, 115, 101, 97, 108, 101, 100])] []) (joinGo [mC (.str [109, 101, 116, 101, 114, 32]), mFmt (m1 (dProp "Meter" F_Meter_name) (mVar 0)), mC (.str [32]), mFmt (m1 (dProp "Meter" F_Meter_at) (mVar 0))] [])))
def F_line_of : Fn := runF 1 c_line_of
def D_line_of : DefA := { adr := aG "line_of", name := "line_of", qual := "line_of", st := top 28 }
def N_Net___str__ : List Str := ["self", "item"]
def c_Net___str__ : C := cRet (mM1 fJoin (mC (.str [10])) (mFz (mLc (mIt (mTup (maStar (m1 (dFld "Net" "joined") (mVar 0)) (maStar (m1 (dFld "Net" "fitted") (mVar 0)) (maNil))))) [1] (gN 1) (fun _ μ => .ok true μ) (mCall (arity 1 F_line_of []) (maCons (mVar 1) (maNil))))))
def F_Net___str__ : Fn := runF 2 c_Net___str__
def D_Net___str__ : DefA := { adr := aM "Net" "__str__", name := "__str__", qual := "Net.__str__", st := mem 30 16 }
def N_Net_read : List Str := ["cls", "text", "items", "line", "pipes", "item", "meters", "net"]
def c_Net_read : C := cSeq (cIf (tNotM (mT (mCallB (fIsi isiT) (maCons (mVar 1) (maCons (mC (.ty "str")) (maNil)))))) (cStuck) (cNil)) (cSeq (cSet 2 (mFz (mLc (mIt (mM1 fSplit (mVar 1) (mC (.str [10])))) [3] (gN 3) (fun _ μ => .ok true μ) (mCall (arity 1 F_item_of []) (maCons (mVar 3) (maNil)))))) (cSeq (cSet 4 (mCallB fTuple (maCons (mFz (mLc (mIt (mVar 2)) [5] (gN 5) (mT (mCallB (fIsi isiT) (maCons (mVar 5) (maCons (mC (.cls "Pipe")) (maNil))))) (mVar 5))) (maNil)))) (cSeq (cSet 6 (mCallB fTuple (maCons (mFz (mLc (mIt (mVar 2)) [5] (gN 5) (mT (mCallB (fIsi isiT) (maCons (mVar 5) (maCons (mC (.cls "Meter")) (maNil))))) (mVar 5))) (maNil)))) (cSeq (cTry (cSet 7 (mCallL 0 "Net" (arity1 3 (newF "Net" false F_Net___init__) []) (maCons (mVar 4) (maCons (mVar 6) (maNil)))))) (cSeq (cIf (mB (m2 (dNe) (mCallB (fStrK "Net" F_Net___str__) (maCons (mVar 7) (maNil))) (mVar 1))) (cStuck) (cNil)) (cRet (mVar 7)))))))
def F_Net_read : Fn := runF 8 c_Net_read
def D_Net_read : DefA := { adr := aR "classmethod" "Net" "read", name := "read", qual := "Net.read", st := mem 30 1 }
def N__law_text : List Str := ["_law_lines_here", "_law_dials_here", "_law_rows_here", "_law_line", "_law_tag", "_law_shut"]
def c__law_text : C := cSeq (cSet 2 (mNw (mLc (mIt (mVar 0)) [3] (gN 3) (fun _ μ => .ok true μ) (m2 dPlus (mC (.str [112, 105, 112, 101, 32])) (mM1 fJoin (mC (.str [32])) (mVar 3)))))) (cSeq (cFor (mIt (mVar 1)) (gT (gsC (gN 4) (gsC (gN 3) (gsC (gN 5) (gsN))))) (cExpr (mApp (mVar 2) (m2 dPlus (m2 dPlus (m2 dPlus (m2 dPlus (mC (.str [109, 101, 116, 101, 114, 32])) (mVar 4)) (mC (.str [32]))) (mVar 3)) (mIf (mT (mVar 5)) (mC (.str [32, 115, 101, 97, 108, 101, 100])) (mC (.str []))))))) (cRet (mM1 fJoin (mC (.str [10])) (mVar 2))))
def F__law_text : Fn := runF 6 c__law_text
def D__law_text : DefA := { adr := aG "_law_text", name := "_law_text", qual := "_law_text", st := top 44 }
def N_check_net : List Str := ["value"]
def c_check_net : C := cIf (tNotM (mT (mCallB (fIsi isiT) (maCons (mVar 0) (maCons (mC (.cls "Net")) (maNil)))))) (cStuck) (cNil)
def F_check_net : Fn := runF 1 c_check_net
def D_check_net : DefA := { adr := aG "check_net", name := "check_net", qual := "check_net", st := top 31 }
def N_Net_meters : List Str := ["self"]
def c_Net_meters : C := cRet (m1 (dFld "Net" "fitted") (mVar 0))
def F_Net_meters : Fn := runF 1 c_Net_meters
def D_Net_meters : DefA := { adr := aR "property" "Net" "meters", name := "meters", qual := "Net.meters", st := mem 30 3 }
def N_Desk___init__ : List Str := ["self", "net", "meter"]
def c_Desk___init__ : C := cSeq (cExpr (mCall (arity 1 F_check_net []) (maCons (mVar 1) (maNil)))) (cSeq (cFld "Desk" "board" (mVar 0) (mVar 1)) (cSeq (cFld "Desk" "now" (mVar 0) (mCallB fTuple (maCons (mFz (mLc (mIt (m1 (dProp "Net" F_Net_meters) (mVar 1))) [2] (gN 2) (fun _ μ => .ok true μ) (mIf (mT (m1 (dProp "Meter" F_Meter_sealed) (mVar 2))) (mC (.int 0)) (mC .non)))) (maNil)))) (cFld "Desk" "past" (mVar 0) (mTup (maNil)))))
def F_Desk___init__ : Fn := runF 3 c_Desk___init__
def D_Desk___init__ : DefA := { adr := aM "Desk" "__init__", name := "__init__", qual := "Desk.__init__", st := mem 35 0 }
def N_Desk_readings : List Str := ["self"]
def c_Desk_readings : C := cRet (m1 (dFld "Desk" "now") (mVar 0))
def F_Desk_readings : Fn := runF 1 c_Desk_readings
def D_Desk_readings : DefA := { adr := aR "property" "Desk" "readings", name := "readings", qual := "Desk.readings", st := mem 35 2 }
def N_Desk_changes : List Str := ["self"]
def c_Desk_changes : C := cRet (mCallB fLen (maCons (m1 (dFld "Desk" "past") (mVar 0)) (maNil)))
def F_Desk_changes : Fn := runF 1 c_Desk_changes
def D_Desk_changes : DefA := { adr := aR "property" "Desk" "changes", name := "changes", qual := "Desk.changes", st := mem 35 3 }
def N_Desk___len__ : List Str := ["self", "reading"]
def c_Desk___len__ : C := cRet (mCallB fLen (maCons (mFz (mLc (mIt (m1 (dFld "Desk" "now") (mVar 0))) [1] (gN 1) (mB (m2 (dNotN) (mVar 1) (mC .non))) (mVar 1))) (maNil)))
def F_Desk___len__ : Fn := runF 2 c_Desk___len__
def D_Desk___len__ : DefA := { adr := aM "Desk" "__len__", name := "__len__", qual := "Desk.__len__", st := mem 35 8 }
def N_seat_of : List Str := ["meters", "name", "index", "meter"]
def c_seat_of : C := cSeq (cFor (mI enuT (maCons (mVar 0) (maNil))) (gT (gsC (gN 2) (gsC (gN 3) (gsN)))) (cIf (tAndM (mT (mCallB (fIsi isiT) (maCons (mVar 1) (maCons (mC (.ty "str")) (maNil))))) (mB (m2 (dEq) (m1 (dProp "Meter" F_Meter_name) (mVar 3)) (mVar 1)))) (cRet (mVar 2)) (cNil))) (cStuck)
def F_seat_of : Fn := runF 4 c_seat_of
def D_seat_of : DefA := { adr := aG "seat_of", name := "seat_of", qual := "seat_of", st := top 33 }
def N_Desk___getitem__ : List Str := ["self", "name"]
def c_Desk___getitem__ : C := cRet (m2 dIx (m1 (dFld "Desk" "now") (mVar 0)) (mCall (arity 2 F_seat_of []) (maCons (m1 (dProp "Net" F_Net_meters) (m1 (dFld "Desk" "board") (mVar 0))) (maCons (mVar 1) (maNil)))))
def F_Desk___getitem__ : Fn := runF 2 c_Desk___getitem__
def D_Desk___getitem__ : DefA := { adr := aM "Desk" "__getitem__", name := "__getitem__", qual := "Desk.__getitem__", st := mem 35 4 }
def N_Desk___contains__ : List Str := ["self", "value", "speaking", "meter", "reading"]
def c_Desk___contains__ : C := cSeq (cSet 2 (mFz (mLc (mI zipO (maCons (m1 (dProp "Net" F_Net_meters) (m1 (dFld "Desk" "board") (mVar 0))) (maCons (m1 (dFld "Desk" "now") (mVar 0)) (maNil)))) [3, 4] (gT (gsC (gN 3) (gsC (gN 4) (gsN)))) (mB (m2 (dNotN) (mVar 4) (mC .non))) (m1 (dProp "Meter" F_Meter_name) (mVar 3))))) (cRet (mAnd (mCallB (fIsi isiT) (maCons (mVar 1) (maCons (mC (.ty "str")) (maNil)))) (m2 (dIn) (mVar 1) (mVar 2))))
def F_Desk___contains__ : Fn := runF 5 c_Desk___contains__
def D_Desk___contains__ : DefA := { adr := aM "Desk" "__contains__", name := "__contains__", qual := "Desk.__contains__", st := mem 35 7 }
def N_Desk_net : List Str := ["self"]
def c_Desk_net : C := cRet (m1 (dFld "Desk" "board") (mVar 0))
def F_Desk_net : Fn := runF 1 c_Desk_net
def D_Desk_net : DefA := { adr := aR "property" "Desk" "net", name := "net", qual := "Desk.net", st := mem 35 1 }
def N_Net___eq__ : List Str := ["self", "other"]
def c_Net___eq__ : C := cRet (mAnd (mCallB (fIsi isiT) (maCons (mVar 1) (maCons (mC (.cls "Net")) (maNil)))) (m2 (dEq) (mCallB (fStrK "Net" F_Net___str__) (maCons (mVar 0) (maNil))) (mCallB (fStrK "Net" F_Net___str__) (maCons (mVar 1) (maNil)))))
def F_Net___eq__ : Fn := runF 2 c_Net___eq__
def D_Net___eq__ : DefA := { adr := aM "Net" "__eq__", name := "__eq__", qual := "Net.__eq__", st := mem 30 18 }
def N_Desk___bool__ : List Str := ["self"]
def c_Desk___bool__ : C := cRet (mC (.bl true))
def F_Desk___bool__ : Fn := runF 1 c_Desk___bool__
def D_Desk___bool__ : DefA := { adr := aM "Desk" "__bool__", name := "__bool__", qual := "Desk.__bool__", st := mem 35 9 }
def N__law_desk_right : List Str := ["_law_desk", "_law_grid", "_law_lines_here", "_law_dials_here", "_law_shown", "_law_many", "_law_tags", "_law_dial", "_law_speaking", "_law_k", "_law_told", "_law_tag", "_law_due", "_law_line", "_law_thing"]
def c__law_desk_right : C := cSeq (cSet 6 (mFz (mLc (mIt (mVar 3)) [7] (gN 7) (fun _ μ => .ok true μ) (m2 dIx (mVar 7) (mC (.int 0)))))) (cSeq (cSet 8 (mFz (mLc (mI rng1 (maCons (mCallB fLen (maCons (mVar 6) (maNil))) (maNil))) [9] (gN 9) (mB (m2 (dNotN) (m2 dIx (mVar 4) (mVar 9)) (mC .non))) (m2 dIx (mVar 6) (mVar 9))))) (cSeq (cSet 10 (mFz (mLen (maCons (m1 (dProp "Desk" F_Desk_readings) (mVar 0)) (maCons (m1 (dProp "Desk" F_Desk_changes) (mVar 0)) (maCons (mCallB (fLenK "Desk" F_Desk___len__) (maCons (mVar 0) (maNil))) (maCons (mFz (mLc (mIt (mVar 6)) [11] (gN 11) (fun _ μ => .ok true μ) (m2 (dItem "Desk" F_Desk___getitem__) (mVar 0) (mVar 11)))) (maCons (mFz (mLc (mIt (mVar 6)) [11] (gN 11) (fun _ μ => .ok true μ) (m2 (dInK false "Desk" F_Desk___contains__) (mVar 11) (mVar 0)))) (maNil))))))))) (cSeq (cSet 12 (mFz (mLen (maCons (mCallB fTuple (maCons (mVar 4) (maNil))) (maCons (mVar 5) (maCons (mCallB fLen (maCons (mVar 8) (maNil))) (maCons (mVar 4) (maCons (mFz (mLc (mIt (mVar 6)) [11] (gN 11) (fun _ μ => .ok true μ) (m2 (dIn) (mVar 11) (mVar 8)))) (maNil))))))))) (cSeq (cIf (tOrM (mB (m2 (dNe) (mCallB fRepr (maCons (mVar 10) (maNil))) (mCallB fRepr (maCons (mVar 12) (maNil))))) (tOrM (mB (m2 (dEqK true "Net" [.b "NoneType", .b "bool", .b "int", .b "str", .b "tuple", .b "list", .b "dict", .c "Desk"] F_Net___eq__) (m1 (dProp "Desk" F_Desk_net) (mVar 0)) (mVar 1))) (tNotM (mTK "Desk" F_Desk___bool__ (mVar 0))))) (cRet (mC (.bl false))) (cNil)) (cSeq (cIf (mB (m2 (dNe) (mFz (mLc (mIt (mVar 2)) [13] (gN 13) (fun _ μ => .ok true μ) (m2 (dInK false "Desk" F_Desk___contains__) (m2 dIx (mVar 13) (mC (.int 0))) (mVar 0)))) (mFz (mLc (mIt (mVar 2)) [13] (gN 13) (fun _ μ => .ok true μ) (m2 (dIn) (m2 dIx (mVar 13) (mC (.int 0))) (mVar 8)))))) (cRet (mC (.bl false))) (cNil)) (cRet (m2 (dEq) (mFz (mLc (mIt (mFz (mLen (maCons (mC .non) (maCons (mC (.int 0)) (maCons (mC (.bl true)) (maCons (mC (.str [])) (maCons (mC (.str [77])) (maCons (mTup (maNil)) (maCons (mVar 6) (maCons (mC (.dct [] [])) (maCons (mVar 1) (maCons (mVar 0) (maNil)))))))))))))) [14] (gN 14) (fun _ μ => .ok true μ) (m2 (dInK false "Desk" F_Desk___contains__) (mVar 14) (mVar 0)))) (m2 dTimes (mFz (mLen (maCons (mC (.bl false)) (maNil)))) (mC (.int 10))))))))))
def F__law_desk_right : Fn := runF 15 c__law_desk_right
def D__law_desk_right : DefA := { adr := aG "_law_desk_right", name := "_law_desk_right", qual := "_law_desk_right", st := top 47 }
def N__law_both_right : List Str := ["_law_both", "_law_grid", "_law_lines_here", "_law_dials_here", "_law_shown", "_law_many", "_law_k"]
def c__law_both_right : C := cSeq (cFor (mI rng1 (maCons (mC (.int 2)) (maNil))) (gN 6) (cIf (tNotM (mT (mCall (arity 6 F__law_desk_right []) (maCons (m2 dIx (mVar 0) (mVar 6)) (maCons (mVar 1) (maCons (mVar 2) (maCons (mVar 3) (maCons (m2 dIx (mVar 4) (mVar 6)) (maCons (m2 dIx (mVar 5) (mVar 6)) (maNil)))))))))) (cRet (mC (.bl false))) (cNil))) (cRet (mC (.bl true)))
def F__law_both_right : Fn := runF 7 c__law_both_right
def D__law_both_right : DefA := { adr := aG "_law_both_right", name := "_law_both_right", qual := "_law_both_right", st := top 48 }
def N__law_number : List Str := ["_law_pool_here"]
def c__law_number : C := cSeq (cIf (mB (m2 (dLt) (mCall (arity 2 F__law_draw []) (maCons (mVar 0) (maCons (mC (.int 6)) (maNil)))) (mC (.int 5)))) (cRet (m2 dSub (mCall (arity 2 F__law_draw []) (maCons (mVar 0) (maCons (mC (.int 7)) (maNil)))) (mC (.int 3)))) (cNil)) (cRet (m2 dPlus (m2 dIx (mFz (mLen (maCons (m2 dPow (mC (.int 10)) (mC (.int 6))) (maCons (m1 dNeg (m2 dPow (mC (.int 10)) (mC (.int 6)))) (maCons (m2 dPow (mC (.int 10)) (mC (.int 30))) (maCons (m1 dNeg (m2 dPow (mC (.int 10)) (mC (.int 30)))) (maNil))))))) (mCall (arity 2 F__law_draw []) (maCons (mVar 0) (maCons (mC (.int 4)) (maNil))))) (mCall (arity 2 F__law_draw []) (maCons (mVar 0) (maCons (mC (.int 3)) (maNil))))))
def F__law_number : Fn := runF 1 c__law_number
def D__law_number : DefA := { adr := aG "_law_number", name := "_law_number", qual := "_law_number", st := top 45 }
def N__law_reading : List Str := ["_law_pool_here", "_law_shut"]
def c__law_reading : C := cRet (mIf (tAndM (mB (m2 (dEq) (mCall (arity 2 F__law_draw []) (maCons (mVar 0) (maCons (mC (.int 4)) (maNil)))) (mC (.int 0)))) (tNotM (mT (mVar 1)))) (mC .non) (mCall (arity 1 F__law_number []) (maCons (mVar 0) (maNil))))
def F__law_reading : Fn := runF 2 c__law_reading
def D__law_reading : DefA := { adr := aG "_law_reading", name := "_law_reading", qual := "_law_reading", st := top 46 }
def N_is_integer : List Str := ["value"]
def c_is_integer : C := cRet (mAnd (mCallB (fIsi isiT) (maCons (mVar 0) (maCons (mC (.ty "int")) (maNil)))) (m1 dNot (mCallB (fIsi isiT) (maCons (mVar 0) (maCons (mC (.ty "bool")) (maNil))))))
def F_is_integer : Fn := runF 1 c_is_integer
def D_is_integer : DefA := { adr := aG "is_integer", name := "is_integer", qual := "is_integer", st := top 20 }
def N_check_reading : List Str := ["meter", "reading"]
def c_check_reading : C := cSeq (cIf (tAndM (mB (m2 (dIsN) (mVar 1) (mC .non))) (tNotM (mT (m1 (dProp "Meter" F_Meter_sealed) (mVar 0))))) (cRetN) (cNil)) (cIf (tNotM (mT (mCall (arity 1 F_is_integer []) (maCons (mVar 1) (maNil))))) (cStuck) (cNil))
def F_check_reading : Fn := runF 2 c_check_reading
def D_check_reading : DefA := { adr := aG "check_reading", name := "check_reading", qual := "check_reading", st := top 34 }
def N_Desk___setitem__ : List Str := ["self", "name", "reading", "seat"]
def c_Desk___setitem__ : C := cSeq (cSet 3 (mCall (arity 2 F_seat_of []) (maCons (m1 (dProp "Net" F_Net_meters) (m1 (dFld "Desk" "board") (mVar 0))) (maCons (mVar 1) (maNil))))) (cSeq (cExpr (mCall (arity 2 F_check_reading []) (maCons (m2 dIx (m1 (dProp "Net" F_Net_meters) (m1 (dFld "Desk" "board") (mVar 0))) (mVar 3)) (maCons (mVar 2) (maNil))))) (cSeq (cFld "Desk" "past" (mVar 0) (m2 dPlus (m1 (dFld "Desk" "past") (mVar 0)) (mTup (maCons (m1 (dFld "Desk" "now") (mVar 0)) (maNil))))) (cFld "Desk" "now" (mVar 0) (m2 dPlus (m2 dPlus (mSl (m1 (dFld "Desk" "now") (mVar 0)) (moNone) (moSome (mVar 3))) (mTup (maCons (mVar 2) (maNil)))) (mSl (m1 (dFld "Desk" "now") (mVar 0)) (moSome (m2 dPlus (mVar 3) (mC (.int 1)))) (moNone))))))
def F_Desk___setitem__ : Fn := runF 4 c_Desk___setitem__
def D_Desk___setitem__ : DefA := { adr := aM "Desk" "__setitem__", name := "__setitem__", qual := "Desk.__setitem__", st := mem 35 5 }
def N__law_set : List Str := ["_law_desk", "_law_tag", "_law_worth"]
def c__law_set : C := cAsg (tgSubK "Desk" F_Desk___setitem__ (mVar 0) (mVar 1)) (mVar 2)
def F__law_set : Fn := runF 3 c__law_set
def D__law_set : DefA := { adr := aG "_law_set", name := "_law_set", qual := "_law_set", st := top 49 }
def N__law_right : List Str := ["_law_pool_here", "_law_lines_here", "_law_dials_here", "_law_grid", "_law_both", "_law_many", "_law_shown", "_law_dial", "_law_turn", "_law_step", "_law_which", "_law_asked", "_law_at", "_law_worth", "_law_others", "_law_thing"]
def c__law_right : C := cSeq (cSet 1 (mCall (arity 3 F__law_lines []) (maCons (mVar 0) (maCons (m2 dPlus (mC (.int 1)) (mCall (arity 2 F__law_draw []) (maCons (mVar 0) (maCons (mC (.int 5)) (maNil))))) (maCons (m2 dPlus (mC (.int 2)) (mCall (arity 2 F__law_draw []) (maCons (mVar 0) (maCons (mC (.int 3)) (maNil))))) (maNil)))))) (cSeq (cSet 2 (mCall (arity 4 F__law_dials []) (maCons (mVar 0) (maCons (mVar 1) (maCons (mCall (arity 2 F__law_draw []) (maCons (mVar 0) (maCons (mC (.int 6)) (maNil)))) (maCons (mC (.int 3)) (maNil))))))) (cSeq (cSet 3 (mCMeth "Net" (arity 2 F_Net_read []) (maCons (mCall (arity 2 F__law_text []) (maCons (mVar 1) (maCons (mVar 2) (maNil)))) (maNil)))) (cSeq (cAsg (tgT 2 (tgsC (tgP (gN 4)) (tgsC (tgP (gN 5)) (tgsN)))) (mTup (maCons (mFz (mLen (maCons (mCall (arity1 2 (newF "Desk" true F_Desk___init__) []) (maCons (mVar 3) (maNil))) (maCons (mCallK (arity1K 2 0 1 (newF "Desk" true F_Desk___init__) []) maNil (maCons (mCMeth "Net" (arity 2 F_Net_read []) (maCons (mCall (arity 2 F__law_text []) (maCons (mVar 1) (maCons (mVar 2) (maNil)))) (maNil))) (maNil))) (maNil))))) (maCons (mNw (mLen (maCons (mC (.int 0)) (maCons (mC (.int 0)) (maNil))))) (maNil))))) (cSeq (cSet 6 (mFz (mLc (mI rng1 (maCons (mC (.int 2)) (maNil))) [8] (gN 8) (fun _ μ => .ok true μ) (mNw (mLc (mIt (mVar 2)) [7] (gN 7) (fun _ μ => .ok true μ) (mIf (mT (m2 dIx (mVar 7) (mC (.int 2)))) (mC (.int 0)) (mC .non))))))) (cSeq (cFor (mI rng1 (maCons (m2 dPlus (mC (.int 2)) (mCall (arity 2 F__law_draw []) (maCons (mVar 0) (maCons (mC (.int 8)) (maNil))))) (maNil))) (gN 9) (cSeq (cPar 10 11 (maCons (mCall (arity 2 F__law_draw []) (maCons (mVar 0) (maCons (mC (.int 2)) (maNil)))) (maCons (mOr (m2 (dGt) (mCall (arity 2 F__law_draw []) (maCons (mVar 0) (maCons (mC (.int 3)) (maNil)))) (mC (.int 0))) (m2 (dEq) (mVar 9) (mC (.int 0)))) (maNil)))) (cSeq (cIf (tAndM (mT (mVar 11)) (tNotM (mT (mCall (arity 6 F__law_both_right []) (maCons (mVar 4) (maCons (mVar 3) (maCons (mVar 1) (maCons (mVar 2) (maCons (mVar 6) (maCons (mVar 5) (maNil))))))))))) (cRet (mC (.bl false))) (cNil)) (cIf (mB (m2 (dNe) (mVar 2) (mFz (mLen (maNil))))) (cSeq (cSet 12 (mCall (arity 2 F__law_draw []) (maCons (mVar 0) (maCons (mCallB fLen (maCons (mVar 2) (maNil))) (maNil))))) (cSeq (cSet 13 (mCall (arity 2 F__law_reading []) (maCons (mVar 0) (maCons (m2 dIx (m2 dIx (mVar 2) (mVar 12)) (mC (.int 2))) (maNil))))) (cSeq (cAsg (tgSub (m2 dIx (mVar 6) (mVar 10)) (mVar 12)) (mVar 13)) (cSeq (cAsg (tgSub (mVar 5) (mVar 10)) (m2 dPlus (m2 dIx (mVar 5) (mVar 10)) (mC (.int 1)))) (cExpr (mCall (arity 3 F__law_set []) (maCons (m2 dIx (mVar 4) (mVar 10)) (maCons (m2 dIx (m2 dIx (mVar 2) (mVar 12)) (mC (.int 0))) (maCons (mVar 13) (maNil)))))))))) (cNil))))) (cSeq (cIf (tNotM (mT (mCall (arity 6 F__law_both_right []) (maCons (mVar 4) (maCons (mVar 3) (maCons (mVar 1) (maCons (mVar 2) (maCons (mVar 6) (maCons (mVar 5) (maNil)))))))))) (cRet (mC (.bl false))) (cNil)) (cSeq (cSet 14 (mFz (mLen (maCons (m2 dIx (mVar 4) (mC (.int 1))) (maCons (mVar 3) (maCons (mCallB fTuple (maCons (m2 dIx (mVar 6) (mC (.int 0))) (maNil))) (maCons (mC .non) (maCons (m1 (dProp "Desk" F_Desk_readings) (m2 dIx (mVar 4) (mC (.int 0)))) (maNil))))))))) (cSeq (cIf (mB (m2 (dNe) (mFz (mLc (mIt (mVar 14)) [15] (gN 15) (fun _ μ => .ok true μ) (m2 (dEqU false "Desk" "Net" [.b "NoneType", .b "bool", .b "int", .b "str", .b "tuple", .b "list", .b "dict", .c "Net"] F_Net___eq__) (m2 dIx (mVar 4) (mC (.int 0))) (mVar 15)))) (m2 dTimes (mFz (mLen (maCons (mC (.bl false)) (maNil)))) (mC (.int 5))))) (cRet (mC (.bl false))) (cNil)) (cRet (m2 (dEq) (mFz (mLc (mIt (mVar 14)) [15] (gN 15) (fun _ μ => .ok true μ) (m2 (dEqU true "Desk" "Net" [.b "NoneType", .b "bool", .b "int", .b "str", .b "tuple", .b "list", .b "dict", .c "Net"] F_Net___eq__) (m2 dIx (mVar 4) (mC (.int 0))) (mVar 15)))) (m2 dTimes (mFz (mLen (maCons (mC (.bl true)) (maNil)))) (mC (.int 5)))))))))))))
def F__law_right : Fn := runF 16 c__law_right
def D__law_right : DefA := { adr := aG "_law_right", name := "_law_right", qual := "_law_right", st := top 50 }
def N__law_pool : List Str := ["_law_cell", "_law_digits"]
def c__law_pool : C := cSeq (cSet 1 (mIf (tOrM (mB (m2 (dLt) (mVar 0) (mC (.int 0)))) (mB (m2 (dGe) (mVar 0) (m2 dPow (mC (.int 10)) (mC (.int 18)))))) (mCallB fAbs (maCons (mVar 0) (maNil))) (mC (.int 0)))) (cRet (mNw (mLen (maCons (m2 dMod (mCallB fInt (maCons (mVar 0) (maNil))) (mC (.int 2147483563))) (maCons (mVar 1) (maCons (mC (.int 0)) (maNil)))))))
def F__law_pool : Fn := runF1 2 c__law_pool
def D__law_pool : DefA := { adr := aG "_law_pool", name := "_law_pool", qual := "_law_pool", st := top 38 }
def N__law_start : List Str := ["_law_script", "_law_place", "_law_found", "_law_cell"]
def c__law_start : C := cSeq (cIf (mB (m2 (dLt) (mVar 1) (mCallB fLen (maCons (mVar 0) (maNil))))) (cRet (m2 dIx (mVar 0) (mVar 1))) (cNil)) (cSeq (cSet 2 (m2 dPlus (m2 dPlus (mC (.int 40961)) (m2 dTimes (m2 dTimes (mC (.int 7919)) (mVar 1)) (mVar 1))) (m2 dTimes (mC (.int 31)) (mVar 1)))) (cSeq (cFor (mIt (mSl (mVar 0) (moNone) (moSome (mC (.int 4))))) (gN 3) (cSet 2 (m2 dMod (mCallB fInt (maCons (m2 dPlus (m2 dTimes (mVar 2) (mC (.int 52369))) (mVar 3)) (maNil))) (mC (.int 2147483563))))) (cRet (mVar 2))))
def F__law_start : Fn := runF 4 c__law_start
def D__law_start : DefA := { adr := aG "_law_start", name := "_law_start", qual := "_law_start", st := top 37 }
def N_law : List Str := ["_law_script", "_law_place"]
def c_law : C := cSeq (cFor (mI rng1 (maCons (mCallB fMax2 (maCons (mC (.int 2)) (maCons (mCallB fMin2 (maCons (mCallB fLen (maCons (mVar 0) (maNil))) (maCons (mC (.int 4)) (maNil)))) (maNil)))) (maNil))) (gN 1) (cIf (tNotM (mT (mCall (arity 1 F__law_right []) (maCons (mCall (arity 1 F__law_pool []) (maCons (mCall (arity 2 F__law_start []) (maCons (mVar 0) (maCons (mVar 1) (maNil)))) (maNil))) (maNil))))) (cRet (mC (.bl false))) (cNil))) (cRet (mC (.bl true)))
def F_law : Fn := runF 2 c_law
def D_law : DefA := { adr := aG "law", name := "law", qual := "law", st := top 51 }
/-! ### facts -/
structure Fx (K : PySem.W.Frag) (mg : Str → Option Value) : Prop where
  b_len : mg ("len" : Str) = none
  b_min : mg ("min" : Str) = none
  b_max : mg ("max" : Str) = none
  b_range : mg ("range" : Str) = none
  b_int : mg ("int" : Str) = none
  b_divmod : mg ("divmod" : Str) = none
  g__law_draw : mg ("_law_draw" : Str) = some (.ref (He.ga K "_law_draw"))
  k__law_draw : PySem.W.keepIn K (.ref (He.ga K "_law_draw")) = true
  g__law_word : mg ("_law_word" : Str) = some (.ref (He.ga K "_law_word"))
  k__law_word : PySem.W.keepIn K (.ref (He.ga K "_law_word")) = true
  g__law_words : mg ("_law_words" : Str) = some (.ref (He.ga K "_law_words"))
  k__law_words : PySem.W.keepIn K (.ref (He.ga K "_law_words")) = true
  g__law_lines : mg ("_law_lines" : Str) = some (.ref (He.ga K "_law_lines"))
  k__law_lines : PySem.W.keepIn K (.ref (He.ga K "_law_lines")) = true
  g__law_dials : mg ("_law_dials" : Str) = some (.ref (He.ga K "_law_dials"))
  k__law_dials : PySem.W.keepIn K (.ref (He.ga K "_law_dials")) = true
  b_str : mg ("str" : Str) = none
  b_isinstance : mg ("isinstance" : Str) = none
  isi : Isi.ok K isiT = true
  i_LONGEST_NAME : ∃ t, mg ("LONGEST_NAME" : Str) = some (.int 8 t)
  s_LETTERS : ∃ t, mg ("LETTERS" : Str) = some (.str "abcdefghijklmnopqrstuvwxyz" t)
  s_DIGITS : ∃ t, mg ("DIGITS" : Str) = some (.str "0123456789" t)
  b_all : mg ("all" : Str) = none
  g_is_name : mg ("is_name" : Str) = some (.ref (He.ga K "is_name"))
  k_is_name : PySem.W.keepIn K (.ref (He.ga K "is_name")) = true
  g_check_name : mg ("check_name" : Str) = some (.ref (He.ga K "check_name"))
  k_check_name : PySem.W.keepIn K (.ref (He.ga K "check_name")) = true
  c_Pipe : Cls K (He.ga K "Pipe")
  na_Pipe_kept : NoAttr K (He.ga K "Pipe") "kept"
  mk_Pipe : Mk K (He.ga K "Pipe") (He.ma K (He.ga K "Pipe") "__init__")
  g_Pipe : mg ("Pipe" : Str) = some (.ref (He.ga K "Pipe"))
  k_Pipe : PySem.W.keepIn K (.ref (He.ga K "Pipe")) = true
  b_bool : mg ("bool" : Str) = none
  c_Meter : Cls K (He.ga K "Meter")
  na_Meter_kept : NoAttr K (He.ga K "Meter") "kept"
  mk_Meter : Mk K (He.ga K "Meter") (He.ma K (He.ga K "Meter") "__init__")
  g_Meter : mg ("Meter" : Str) = some (.ref (He.ga K "Meter"))
  k_Meter : PySem.W.keepIn K (.ref (He.ga K "Meter")) = true
  g_item_of : mg ("item_of" : Str) = some (.ref (He.ga K "item_of"))
  k_item_of : PySem.W.keepIn K (.ref (He.ga K "item_of")) = true
  b_tuple : mg ("tuple" : Str) = none
  b_enumerate : mg ("enumerate" : Str) = none
  pr_Pipe_name : PropOf K (He.ga K "Pipe") "name" (aM "Pipe" "name" K) (aR "property" "Pipe" "name" K)
  i_MOST_PIPES : ∃ t, mg ("MOST_PIPES" : Str) = some (.int 12 t)
  g_check_pipes : mg ("check_pipes" : Str) = some (.ref (He.ga K "check_pipes"))
  k_check_pipes : PySem.W.keepIn K (.ref (He.ga K "check_pipes")) = true
  pr_Meter_name : PropOf K (He.ga K "Meter") "name" (aM "Meter" "name" K) (aR "property" "Meter" "name" K)
  pr_Meter_at : PropOf K (He.ga K "Meter") "at" (aM "Meter" "at" K) (aR "property" "Meter" "at" K)
  i_MOST_METERS : ∃ t, mg ("MOST_METERS" : Str) = some (.int 12 t)
  g_check_meters : mg ("check_meters" : Str) = some (.ref (He.ga K "check_meters"))
  k_check_meters : PySem.W.keepIn K (.ref (He.ga K "check_meters")) = true
  c_Net : Cls K (He.ga K "Net")
  na_Net_joined : NoAttr K (He.ga K "Net") "joined"
  na_Net_fitted : NoAttr K (He.ga K "Net") "fitted"
  mk_Net : Mk K (He.ga K "Net") (He.ma K (He.ga K "Net") "__init__")
  k_Net : PySem.W.keepIn K (.ref (He.ga K "Net")) = true
  pr_Pipe_start : PropOf K (He.ga K "Pipe") "start" (aM "Pipe" "start" K) (aR "property" "Pipe" "start" K)
  pr_Pipe_end : PropOf K (He.ga K "Pipe") "end" (aM "Pipe" "end" K) (aR "property" "Pipe" "end" K)
  pr_Meter_sealed : PropOf K (He.ga K "Meter") "sealed" (aM "Meter" "sealed" K) (aR "property" "Meter" "sealed" K)
  g_line_of : mg ("line_of" : Str) = some (.ref (He.ga K "line_of"))
  k_line_of : PySem.W.keepIn K (.ref (He.ga K "line_of")) = true
  mt_Net___str__ : Meth K (He.ga K "Net") "__str__" (He.ma K (He.ga K "Net") "__str__")
  g__law_text : mg ("_law_text" : Str) = some (.ref (He.ga K "_law_text"))
  k__law_text : PySem.W.keepIn K (.ref (He.ga K "_law_text")) = true
  g_Net : mg ("Net" : Str) = some (.ref (He.ga K "Net"))
  cr_Net : ClX.CRead K (He.ga K "Net") (.type "type")
  cm_Net_read : ClX.CMet K (He.ga K "Net") (.type "type") "read" (aM "Net" "read" K) (aR "classmethod" "Net" "read" K)
  g_check_net : mg ("check_net" : Str) = some (.ref (He.ga K "check_net"))
  k_check_net : PySem.W.keepIn K (.ref (He.ga K "check_net")) = true
  c_Desk : Cls K (He.ga K "Desk")
  na_Desk_board : NoAttr K (He.ga K "Desk") "board"
  pr_Net_meters : PropOf K (He.ga K "Net") "meters" (aM "Net" "meters" K) (aR "property" "Net" "meters" K)
  na_Desk_now : NoAttr K (He.ga K "Desk") "now"
  na_Desk_past : NoAttr K (He.ga K "Desk") "past"
  mk_Desk : Mk K (He.ga K "Desk") (He.ma K (He.ga K "Desk") "__init__")
  g_Desk : mg ("Desk" : Str) = some (.ref (He.ga K "Desk"))
  k_Desk : PySem.W.keepIn K (.ref (He.ga K "Desk")) = true
  pr_Desk_readings : PropOf K (He.ga K "Desk") "readings" (aM "Desk" "readings" K) (aR "property" "Desk" "readings" K)
  pr_Desk_changes : PropOf K (He.ga K "Desk") "changes" (aM "Desk" "changes" K) (aR "property" "Desk" "changes" K)
  mt_Desk___len__ : Meth K (He.ga K "Desk") "__len__" (He.ma K (He.ga K "Desk") "__len__")
  g_seat_of : mg ("seat_of" : Str) = some (.ref (He.ga K "seat_of"))
  k_seat_of : PySem.W.keepIn K (.ref (He.ga K "seat_of")) = true
  mt_Desk___getitem__ : Meth K (He.ga K "Desk") "__getitem__" (He.ma K (He.ga K "Desk") "__getitem__")
  fn_Desk___getitem__ : PySem.W.fnIn K (He.ma K (He.ga K "Desk") "__getitem__") = true
  b_zip : mg ("zip" : Str) = none
  mt_Desk___contains__ : Meth K (He.ga K "Desk") "__contains__" (He.ma K (He.ga K "Desk") "__contains__")
  b_repr : mg ("repr" : Str) = none
  pr_Desk_net : PropOf K (He.ga K "Desk") "net" (aM "Desk" "net" K) (aR "property" "Desk" "net" K)
  mt_Net___eq__ : Meth K (He.ga K "Net") "__eq__" (He.ma K (He.ga K "Net") "__eq__")
  nb_Net : notB K "Net" [.b "NoneType", .b "bool", .b "int", .b "str", .b "tuple", .b "list", .b "dict", .c "Desk"] = true
  eo_Net : eqOB K "Net" = true
  mt_Desk___bool__ : Meth K (He.ga K "Desk") "__bool__" (He.ma K (He.ga K "Desk") "__bool__")
  g__law_desk_right : mg ("_law_desk_right" : Str) = some (.ref (He.ga K "_law_desk_right"))
  k__law_desk_right : PySem.W.keepIn K (.ref (He.ga K "_law_desk_right")) = true
  g__law_both_right : mg ("_law_both_right" : Str) = some (.ref (He.ga K "_law_both_right"))
  k__law_both_right : PySem.W.keepIn K (.ref (He.ga K "_law_both_right")) = true
  g__law_number : mg ("_law_number" : Str) = some (.ref (He.ga K "_law_number"))
  k__law_number : PySem.W.keepIn K (.ref (He.ga K "_law_number")) = true
  g__law_reading : mg ("_law_reading" : Str) = some (.ref (He.ga K "_law_reading"))
  k__law_reading : PySem.W.keepIn K (.ref (He.ga K "_law_reading")) = true
  g_is_integer : mg ("is_integer" : Str) = some (.ref (He.ga K "is_integer"))
  k_is_integer : PySem.W.keepIn K (.ref (He.ga K "is_integer")) = true
  g_check_reading : mg ("check_reading" : Str) = some (.ref (He.ga K "check_reading"))
  k_check_reading : PySem.W.keepIn K (.ref (He.ga K "check_reading")) = true
  mt_Desk___setitem__ : Meth K (He.ga K "Desk") "__setitem__" (He.ma K (He.ga K "Desk") "__setitem__")
  nq_Desk : PySem.W.noSeq K (He.ga K "Desk") = true
  g__law_set : mg ("_law_set" : Str) = some (.ref (He.ga K "_law_set"))
  k__law_set : PySem.W.keepIn K (.ref (He.ga K "_law_set")) = true
  nb_Desk : notB K "Desk" [.b "NoneType", .b "bool", .b "int", .b "str", .b "tuple", .b "list", .b "dict", .c "Net"] = true
  eu_Desk : eqUB K "Desk" = true
  st_Desk : PySem.W.subIn K (.ref (He.ga K "Desk")) (.type "tuple") = some false
  ne_Desk_Net : He.ga K "Desk" ≠ He.ga K "Net"
  b_abs : mg ("abs" : Str) = none
  g__law_start : mg ("_law_start" : Str) = some (.ref (He.ga K "_law_start"))
  k__law_start : PySem.W.keepIn K (.ref (He.ga K "_law_start")) = true
  g__law_pool : mg ("_law_pool" : Str) = some (.ref (He.ga K "_law_pool"))
  k__law_pool : PySem.W.keepIn K (.ref (He.ga K "_law_pool")) = true
  g__law_right : mg ("_law_right" : Str) = some (.ref (He.ga K "_law_right"))
  k__law_right : PySem.W.keepIn K (.ref (He.ga K "_law_right")) = true
  g_law : mg ("law" : Str) = some (.ref (He.ga K "law"))
  d__law_draw : ∃ fd, FnD K D__law_draw fd
  d__law_word : ∃ fd, FnD K D__law_word fd
  d__law_words : ∃ fd, FnD K D__law_words fd
  d__law_lines : ∃ fd, FnD K D__law_lines fd
  d__law_dials : ∃ fd, FnD K D__law_dials fd
  d_is_name : ∃ fd, FnD K D_is_name fd
  d_check_name : ∃ fd, FnD K D_check_name fd
  d_Pipe___init__ : ∃ fd, FnD K D_Pipe___init__ fd
  d_Meter___init__ : ∃ fd, FnD K D_Meter___init__ fd
  d_item_of : ∃ fd, FnD K D_item_of fd
  d_Pipe_name : ∃ fd, FnD K D_Pipe_name fd
  d_check_pipes : ∃ fd, FnD K D_check_pipes fd
  d_Meter_name : ∃ fd, FnD K D_Meter_name fd
  d_Meter_at : ∃ fd, FnD K D_Meter_at fd
  d_check_meters : ∃ fd, FnD K D_check_meters fd
  d_Net___init__ : ∃ fd, FnD K D_Net___init__ fd
  d_Pipe_start : ∃ fd, FnD K D_Pipe_start fd
  d_Pipe_end : ∃ fd, FnD K D_Pipe_end fd
  d_Meter_sealed : ∃ fd, FnD K D_Meter_sealed fd
  d_line_of : ∃ fd, FnD K D_line_of fd
  d_Net___str__ : ∃ fd, FnD K D_Net___str__ fd
  d_Net_read : ∃ fd, FnD K D_Net_read fd
  d__law_text : ∃ fd, FnD K D__law_text fd
  d_check_net : ∃ fd, FnD K D_check_net fd
  d_Net_meters : ∃ fd, FnD K D_Net_meters fd
  d_Desk___init__ : ∃ fd, FnD K D_Desk___init__ fd
  d_Desk_readings : ∃ fd, FnD K D_Desk_readings fd
  d_Desk_changes : ∃ fd, FnD K D_Desk_changes fd
  d_Desk___len__ : ∃ fd, FnD K D_Desk___len__ fd
  d_seat_of : ∃ fd, FnD K D_seat_of fd
  d_Desk___getitem__ : ∃ fd, FnD K D_Desk___getitem__ fd
  d_Desk___contains__ : ∃ fd, FnD K D_Desk___contains__ fd
  d_Desk_net : ∃ fd, FnD K D_Desk_net fd
  d_Net___eq__ : ∃ fd, FnD K D_Net___eq__ fd
  d_Desk___bool__ : ∃ fd, FnD K D_Desk___bool__ fd
  d__law_desk_right : ∃ fd, FnD K D__law_desk_right fd
  d__law_both_right : ∃ fd, FnD K D__law_both_right fd
  d__law_number : ∃ fd, FnD K D__law_number fd
  d__law_reading : ∃ fd, FnD K D__law_reading fd
  d_is_integer : ∃ fd, FnD K D_is_integer fd
  d_check_reading : ∃ fd, FnD K D_check_reading fd
  d_Desk___setitem__ : ∃ fd, FnD K D_Desk___setitem__ fd
  d__law_set : ∃ fd, FnD K D__law_set fd
  d__law_right : ∃ fd, FnD K D__law_right fd
  d__law_pool : ∃ fd, FnD K D__law_pool fd
  d__law_start : ∃ fd, FnD K D__law_start fd
  d_law : ∃ fd, FnD K D_law fd
def fs : Facts := [
  fFa (.free "len"),
  fFa (.free "min"),
  fFa (.free "max"),
  fFa (.free "range"),
  fFa (.free "int"),
  fFa (.free "divmod"),
  fFa (.glo "_law_draw"),
  fFa (.keep "_law_draw"),
  fFa (.glo "_law_word"),
  fFa (.keep "_law_word"),
  fFa (.glo "_law_words"),
  fFa (.keep "_law_words"),
  fFa (.glo "_law_lines"),
  fFa (.keep "_law_lines"),
  fFa (.glo "_law_dials"),
  fFa (.keep "_law_dials"),
  fFa (.free "str"),
  fFa (.free "isinstance"),
  fun K => Isi.ok K isiT,
  fFa (.int "LONGEST_NAME" 8),
  fFa (.str "LETTERS" "abcdefghijklmnopqrstuvwxyz"),
  fFa (.str "DIGITS" "0123456789"),
  fFa (.free "all"),
  fFa (.glo "is_name"),
  fFa (.keep "is_name"),
  fFa (.glo "check_name"),
  fFa (.keep "check_name"),
  fFa (.cls "Pipe"),
  fFa (.noat "Pipe" "kept"),
  fFa (.mkr "Pipe"),
  fFa (.glo "Pipe"),
  fFa (.keep "Pipe"),
  fFa (.free "bool"),
  fFa (.cls "Meter"),
  fFa (.noat "Meter" "kept"),
  fFa (.mkr "Meter"),
  fFa (.glo "Meter"),
  fFa (.keep "Meter"),
  fFa (.glo "item_of"),
  fFa (.keep "item_of"),
  fFa (.free "tuple"),
  fFa (.free "enumerate"),
  propB "Pipe" "name",
  fFa (.int "MOST_PIPES" 12),
  fFa (.glo "check_pipes"),
  fFa (.keep "check_pipes"),
  propB "Meter" "name",
  propB "Meter" "at",
  fFa (.int "MOST_METERS" 12),
  fFa (.glo "check_meters"),
  fFa (.keep "check_meters"),
  fFa (.cls "Net"),
  fFa (.noat "Net" "joined"),
  fFa (.noat "Net" "fitted"),
  fFa (.mkr "Net"),
  fFa (.keep "Net"),
  propB "Pipe" "start",
  propB "Pipe" "end",
  propB "Meter" "sealed",
  fFa (.glo "line_of"),
  fFa (.keep "line_of"),
  fFa (.meth "Net" "__str__"),
  fFa (.glo "_law_text"),
  fFa (.keep "_law_text"),
  fFa (.glo "Net"),
  creadB "Net",
  cmetB "Net" "read",
  fFa (.glo "check_net"),
  fFa (.keep "check_net"),
  fFa (.cls "Desk"),
  fFa (.noat "Desk" "board"),
  propB "Net" "meters",
  fFa (.noat "Desk" "now"),
  fFa (.noat "Desk" "past"),
  fFa (.mkr "Desk"),
  fFa (.glo "Desk"),
  fFa (.keep "Desk"),
  propB "Desk" "readings",
  propB "Desk" "changes",
  fFa (.meth "Desk" "__len__"),
  fFa (.glo "seat_of"),
  fFa (.keep "seat_of"),
  fFa (.meth "Desk" "__getitem__"),
  fnB (aM "Desk" "__getitem__"),
  fFa (.free "zip"),
  fFa (.meth "Desk" "__contains__"),
  fFa (.free "repr"),
  propB "Desk" "net",
  fFa (.meth "Net" "__eq__"),
  fun K => notB K "Net" [.b "NoneType", .b "bool", .b "int", .b "str", .b "tuple", .b "list", .b "dict", .c "Desk"],
  fun K => eqOB K "Net",
  fFa (.meth "Desk" "__bool__"),
  fFa (.glo "_law_desk_right"),
  fFa (.keep "_law_desk_right"),
  fFa (.glo "_law_both_right"),
  fFa (.keep "_law_both_right"),
  fFa (.glo "_law_number"),
  fFa (.keep "_law_number"),
  fFa (.glo "_law_reading"),
  fFa (.keep "_law_reading"),
  fFa (.glo "is_integer"),
  fFa (.keep "is_integer"),
  fFa (.glo "check_reading"),
  fFa (.keep "check_reading"),
  fFa (.meth "Desk" "__setitem__"),
  noSeqB "Desk",
  fFa (.glo "_law_set"),
  fFa (.keep "_law_set"),
  fun K => notB K "Desk" [.b "NoneType", .b "bool", .b "int", .b "str", .b "tuple", .b "list", .b "dict", .c "Net"],
  fun K => eqUB K "Desk",
  subTB "Desk" "tuple" false,
  neB "Desk" "Net",
  fFa (.free "abs"),
  fFa (.glo "_law_start"),
  fFa (.keep "_law_start"),
  fFa (.glo "_law_pool"),
  fFa (.keep "_law_pool"),
  fFa (.glo "_law_right"),
  fFa (.keep "_law_right"),
  fFa (.glo "law")]
def dfs : List DefA := [D__law_draw, D__law_word, D__law_words, D__law_lines, D__law_dials, D_is_name, D_check_name, D_Pipe___init__, D_Meter___init__, D_item_of, D_Pipe_name, D_check_pipes, D_Meter_name, D_Meter_at, D_check_meters, D_Net___init__, D_Pipe_start, D_Pipe_end, D_Meter_sealed, D_line_of, D_Net___str__, D_Net_read, D__law_text, D_check_net, D_Net_meters, D_Desk___init__, D_Desk_readings, D_Desk_changes, D_Desk___len__, D_seat_of, D_Desk___getitem__, D_Desk___contains__, D_Desk_net, D_Net___eq__, D_Desk___bool__, D__law_desk_right, D__law_both_right, D__law_number, D__law_reading, D_is_integer, D_check_reading, D_Desk___setitem__, D__law_set, D__law_right, D__law_pool, D__law_start, D_law]
theorem fx_of {K : PySem.W.Frag} {h : Heap} {mg : Str → Option Value} (X : K.In h) (G : h.Ns mainGlobals mg) (c : SaysA fs dfs K) : Fx K mg where
  b_len := He.free_ok X G (c.fact 0 (f := fFa (.free "len")) rfl)
  b_min := He.free_ok X G (c.fact 1 (f := fFa (.free "min")) rfl)
  b_max := He.free_ok X G (c.fact 2 (f := fFa (.free "max")) rfl)
  b_range := He.free_ok X G (c.fact 3 (f := fFa (.free "range")) rfl)
  b_int := He.free_ok X G (c.fact 4 (f := fFa (.free "int")) rfl)
  b_divmod := He.free_ok X G (c.fact 5 (f := fFa (.free "divmod")) rfl)
  g__law_draw := He.glo_ok X G (c.fact 6 (f := fFa (.glo "_law_draw")) rfl)
  k__law_draw := He.keep_ok (c.fact 7 (f := fFa (.keep "_law_draw")) rfl)
  g__law_word := He.glo_ok X G (c.fact 8 (f := fFa (.glo "_law_word")) rfl)
  k__law_word := He.keep_ok (c.fact 9 (f := fFa (.keep "_law_word")) rfl)
  g__law_words := He.glo_ok X G (c.fact 10 (f := fFa (.glo "_law_words")) rfl)
  k__law_words := He.keep_ok (c.fact 11 (f := fFa (.keep "_law_words")) rfl)
  g__law_lines := He.glo_ok X G (c.fact 12 (f := fFa (.glo "_law_lines")) rfl)
  k__law_lines := He.keep_ok (c.fact 13 (f := fFa (.keep "_law_lines")) rfl)
  g__law_dials := He.glo_ok X G (c.fact 14 (f := fFa (.glo "_law_dials")) rfl)
  k__law_dials := He.keep_ok (c.fact 15 (f := fFa (.keep "_law_dials")) rfl)
  b_str := He.free_ok X G (c.fact 16 (f := fFa (.free "str")) rfl)
  b_isinstance := He.free_ok X G (c.fact 17 (f := fFa (.free "isinstance")) rfl)
  isi := (c.fact 18 (f := fun K => Isi.ok K isiT) rfl)
  i_LONGEST_NAME := He.int_ok X G (c.fact 19 (f := fFa (.int "LONGEST_NAME" 8)) rfl)
  s_LETTERS := He.str_ok X G (c.fact 20 (f := fFa (.str "LETTERS" "abcdefghijklmnopqrstuvwxyz")) rfl)
  s_DIGITS := He.str_ok X G (c.fact 21 (f := fFa (.str "DIGITS" "0123456789")) rfl)
  b_all := He.free_ok X G (c.fact 22 (f := fFa (.free "all")) rfl)
  g_is_name := He.glo_ok X G (c.fact 23 (f := fFa (.glo "is_name")) rfl)
  k_is_name := He.keep_ok (c.fact 24 (f := fFa (.keep "is_name")) rfl)
  g_check_name := He.glo_ok X G (c.fact 25 (f := fFa (.glo "check_name")) rfl)
  k_check_name := He.keep_ok (c.fact 26 (f := fFa (.keep "check_name")) rfl)
  c_Pipe := He.cls_ok (c.fact 27 (f := fFa (.cls "Pipe")) rfl)
  na_Pipe_kept := He.noat_ok (c.fact 28 (f := fFa (.noat "Pipe" "kept")) rfl)
  mk_Pipe := He.mkr_ok (c.fact 29 (f := fFa (.mkr "Pipe")) rfl)
  g_Pipe := He.glo_ok X G (c.fact 30 (f := fFa (.glo "Pipe")) rfl)
  k_Pipe := He.keep_ok (c.fact 31 (f := fFa (.keep "Pipe")) rfl)
  b_bool := He.free_ok X G (c.fact 32 (f := fFa (.free "bool")) rfl)
  c_Meter := He.cls_ok (c.fact 33 (f := fFa (.cls "Meter")) rfl)
  na_Meter_kept := He.noat_ok (c.fact 34 (f := fFa (.noat "Meter" "kept")) rfl)
  mk_Meter := He.mkr_ok (c.fact 35 (f := fFa (.mkr "Meter")) rfl)
  g_Meter := He.glo_ok X G (c.fact 36 (f := fFa (.glo "Meter")) rfl)
  k_Meter := He.keep_ok (c.fact 37 (f := fFa (.keep "Meter")) rfl)
  g_item_of := He.glo_ok X G (c.fact 38 (f := fFa (.glo "item_of")) rfl)
  k_item_of := He.keep_ok (c.fact 39 (f := fFa (.keep "item_of")) rfl)
  b_tuple := He.free_ok X G (c.fact 40 (f := fFa (.free "tuple")) rfl)
  b_enumerate := He.free_ok X G (c.fact 41 (f := fFa (.free "enumerate")) rfl)
  pr_Pipe_name := propB_ok (c.fact 42 (f := propB "Pipe" "name") rfl)
  i_MOST_PIPES := He.int_ok X G (c.fact 43 (f := fFa (.int "MOST_PIPES" 12)) rfl)
  g_check_pipes := He.glo_ok X G (c.fact 44 (f := fFa (.glo "check_pipes")) rfl)
  k_check_pipes := He.keep_ok (c.fact 45 (f := fFa (.keep "check_pipes")) rfl)
  pr_Meter_name := propB_ok (c.fact 46 (f := propB "Meter" "name") rfl)
  pr_Meter_at := propB_ok (c.fact 47 (f := propB "Meter" "at") rfl)
  i_MOST_METERS := He.int_ok X G (c.fact 48 (f := fFa (.int "MOST_METERS" 12)) rfl)
  g_check_meters := He.glo_ok X G (c.fact 49 (f := fFa (.glo "check_meters")) rfl)
  k_check_meters := He.keep_ok (c.fact 50 (f := fFa (.keep "check_meters")) rfl)
  c_Net := He.cls_ok (c.fact 51 (f := fFa (.cls "Net")) rfl)
  na_Net_joined := He.noat_ok (c.fact 52 (f := fFa (.noat "Net" "joined")) rfl)
  na_Net_fitted := He.noat_ok (c.fact 53 (f := fFa (.noat "Net" "fitted")) rfl)
  mk_Net := He.mkr_ok (c.fact 54 (f := fFa (.mkr "Net")) rfl)
  k_Net := He.keep_ok (c.fact 55 (f := fFa (.keep "Net")) rfl)
  pr_Pipe_start := propB_ok (c.fact 56 (f := propB "Pipe" "start") rfl)
  pr_Pipe_end := propB_ok (c.fact 57 (f := propB "Pipe" "end") rfl)
  pr_Meter_sealed := propB_ok (c.fact 58 (f := propB "Meter" "sealed") rfl)
  g_line_of := He.glo_ok X G (c.fact 59 (f := fFa (.glo "line_of")) rfl)
  k_line_of := He.keep_ok (c.fact 60 (f := fFa (.keep "line_of")) rfl)
  mt_Net___str__ := He.meth_ok (c.fact 61 (f := fFa (.meth "Net" "__str__")) rfl)
  g__law_text := He.glo_ok X G (c.fact 62 (f := fFa (.glo "_law_text")) rfl)
  k__law_text := He.keep_ok (c.fact 63 (f := fFa (.keep "_law_text")) rfl)
  g_Net := He.glo_ok X G (c.fact 64 (f := fFa (.glo "Net")) rfl)
  cr_Net := creadB_ok (c.fact 65 (f := creadB "Net") rfl)
  cm_Net_read := cmetB_ok (c.fact 66 (f := cmetB "Net" "read") rfl)
  g_check_net := He.glo_ok X G (c.fact 67 (f := fFa (.glo "check_net")) rfl)
  k_check_net := He.keep_ok (c.fact 68 (f := fFa (.keep "check_net")) rfl)
  c_Desk := He.cls_ok (c.fact 69 (f := fFa (.cls "Desk")) rfl)
  na_Desk_board := He.noat_ok (c.fact 70 (f := fFa (.noat "Desk" "board")) rfl)
  pr_Net_meters := propB_ok (c.fact 71 (f := propB "Net" "meters") rfl)
  na_Desk_now := He.noat_ok (c.fact 72 (f := fFa (.noat "Desk" "now")) rfl)
  na_Desk_past := He.noat_ok (c.fact 73 (f := fFa (.noat "Desk" "past")) rfl)
  mk_Desk := He.mkr_ok (c.fact 74 (f := fFa (.mkr "Desk")) rfl)
  g_Desk := He.glo_ok X G (c.fact 75 (f := fFa (.glo "Desk")) rfl)
  k_Desk := He.keep_ok (c.fact 76 (f := fFa (.keep "Desk")) rfl)
  pr_Desk_readings := propB_ok (c.fact 77 (f := propB "Desk" "readings") rfl)
  pr_Desk_changes := propB_ok (c.fact 78 (f := propB "Desk" "changes") rfl)
  mt_Desk___len__ := He.meth_ok (c.fact 79 (f := fFa (.meth "Desk" "__len__")) rfl)
  g_seat_of := He.glo_ok X G (c.fact 80 (f := fFa (.glo "seat_of")) rfl)
  k_seat_of := He.keep_ok (c.fact 81 (f := fFa (.keep "seat_of")) rfl)
  mt_Desk___getitem__ := He.meth_ok (c.fact 82 (f := fFa (.meth "Desk" "__getitem__")) rfl)
  fn_Desk___getitem__ := (c.fact 83 (f := fnB (aM "Desk" "__getitem__")) rfl)
  b_zip := He.free_ok X G (c.fact 84 (f := fFa (.free "zip")) rfl)
  mt_Desk___contains__ := He.meth_ok (c.fact 85 (f := fFa (.meth "Desk" "__contains__")) rfl)
  b_repr := He.free_ok X G (c.fact 86 (f := fFa (.free "repr")) rfl)
  pr_Desk_net := propB_ok (c.fact 87 (f := propB "Desk" "net") rfl)
  mt_Net___eq__ := He.meth_ok (c.fact 88 (f := fFa (.meth "Net" "__eq__")) rfl)
  nb_Net := (c.fact 89 (f := fun K => notB K "Net" [.b "NoneType", .b "bool", .b "int", .b "str", .b "tuple", .b "list", .b "dict", .c "Desk"]) rfl)
  eo_Net := (c.fact 90 (f := fun K => eqOB K "Net") rfl)
  mt_Desk___bool__ := He.meth_ok (c.fact 91 (f := fFa (.meth "Desk" "__bool__")) rfl)
  g__law_desk_right := He.glo_ok X G (c.fact 92 (f := fFa (.glo "_law_desk_right")) rfl)
  k__law_desk_right := He.keep_ok (c.fact 93 (f := fFa (.keep "_law_desk_right")) rfl)
  g__law_both_right := He.glo_ok X G (c.fact 94 (f := fFa (.glo "_law_both_right")) rfl)
  k__law_both_right := He.keep_ok (c.fact 95 (f := fFa (.keep "_law_both_right")) rfl)
  g__law_number := He.glo_ok X G (c.fact 96 (f := fFa (.glo "_law_number")) rfl)
  k__law_number := He.keep_ok (c.fact 97 (f := fFa (.keep "_law_number")) rfl)
  g__law_reading := He.glo_ok X G (c.fact 98 (f := fFa (.glo "_law_reading")) rfl)
  k__law_reading := He.keep_ok (c.fact 99 (f := fFa (.keep "_law_reading")) rfl)
  g_is_integer := He.glo_ok X G (c.fact 100 (f := fFa (.glo "is_integer")) rfl)
  k_is_integer := He.keep_ok (c.fact 101 (f := fFa (.keep "is_integer")) rfl)
  g_check_reading := He.glo_ok X G (c.fact 102 (f := fFa (.glo "check_reading")) rfl)
  k_check_reading := He.keep_ok (c.fact 103 (f := fFa (.keep "check_reading")) rfl)
  mt_Desk___setitem__ := He.meth_ok (c.fact 104 (f := fFa (.meth "Desk" "__setitem__")) rfl)
  nq_Desk := (c.fact 105 (f := noSeqB "Desk") rfl)
  g__law_set := He.glo_ok X G (c.fact 106 (f := fFa (.glo "_law_set")) rfl)
  k__law_set := He.keep_ok (c.fact 107 (f := fFa (.keep "_law_set")) rfl)
  nb_Desk := (c.fact 108 (f := fun K => notB K "Desk" [.b "NoneType", .b "bool", .b "int", .b "str", .b "tuple", .b "list", .b "dict", .c "Net"]) rfl)
  eu_Desk := (c.fact 109 (f := fun K => eqUB K "Desk") rfl)
  st_Desk := of_decide_eq_true (c.fact 110 (f := subTB "Desk" "tuple" false) rfl)
  ne_Desk_Net := of_decide_eq_true (c.fact 111 (f := neB "Desk" "Net") rfl)
  b_abs := He.free_ok X G (c.fact 112 (f := fFa (.free "abs")) rfl)
  g__law_start := He.glo_ok X G (c.fact 113 (f := fFa (.glo "_law_start")) rfl)
  k__law_start := He.keep_ok (c.fact 114 (f := fFa (.keep "_law_start")) rfl)
  g__law_pool := He.glo_ok X G (c.fact 115 (f := fFa (.glo "_law_pool")) rfl)
  k__law_pool := He.keep_ok (c.fact 116 (f := fFa (.keep "_law_pool")) rfl)
  g__law_right := He.glo_ok X G (c.fact 117 (f := fFa (.glo "_law_right")) rfl)
  k__law_right := He.keep_ok (c.fact 118 (f := fFa (.keep "_law_right")) rfl)
  g_law := He.glo_ok X G (c.fact 119 (f := fFa (.glo "law")) rfl)
  d__law_draw := c.def_ 0 (d := D__law_draw) rfl
  d__law_word := c.def_ 1 (d := D__law_word) rfl
  d__law_words := c.def_ 2 (d := D__law_words) rfl
  d__law_lines := c.def_ 3 (d := D__law_lines) rfl
  d__law_dials := c.def_ 4 (d := D__law_dials) rfl
  d_is_name := c.def_ 5 (d := D_is_name) rfl
  d_check_name := c.def_ 6 (d := D_check_name) rfl
  d_Pipe___init__ := c.def_ 7 (d := D_Pipe___init__) rfl
  d_Meter___init__ := c.def_ 8 (d := D_Meter___init__) rfl
  d_item_of := c.def_ 9 (d := D_item_of) rfl
  d_Pipe_name := c.def_ 10 (d := D_Pipe_name) rfl
  d_check_pipes := c.def_ 11 (d := D_check_pipes) rfl
  d_Meter_name := c.def_ 12 (d := D_Meter_name) rfl
  d_Meter_at := c.def_ 13 (d := D_Meter_at) rfl
  d_check_meters := c.def_ 14 (d := D_check_meters) rfl
  d_Net___init__ := c.def_ 15 (d := D_Net___init__) rfl
  d_Pipe_start := c.def_ 16 (d := D_Pipe_start) rfl
  d_Pipe_end := c.def_ 17 (d := D_Pipe_end) rfl
  d_Meter_sealed := c.def_ 18 (d := D_Meter_sealed) rfl
  d_line_of := c.def_ 19 (d := D_line_of) rfl
  d_Net___str__ := c.def_ 20 (d := D_Net___str__) rfl
  d_Net_read := c.def_ 21 (d := D_Net_read) rfl
  d__law_text := c.def_ 22 (d := D__law_text) rfl
  d_check_net := c.def_ 23 (d := D_check_net) rfl
  d_Net_meters := c.def_ 24 (d := D_Net_meters) rfl
  d_Desk___init__ := c.def_ 25 (d := D_Desk___init__) rfl
  d_Desk_readings := c.def_ 26 (d := D_Desk_readings) rfl
  d_Desk_changes := c.def_ 27 (d := D_Desk_changes) rfl
  d_Desk___len__ := c.def_ 28 (d := D_Desk___len__) rfl
  d_seat_of := c.def_ 29 (d := D_seat_of) rfl
  d_Desk___getitem__ := c.def_ 30 (d := D_Desk___getitem__) rfl
  d_Desk___contains__ := c.def_ 31 (d := D_Desk___contains__) rfl
  d_Desk_net := c.def_ 32 (d := D_Desk_net) rfl
  d_Net___eq__ := c.def_ 33 (d := D_Net___eq__) rfl
  d_Desk___bool__ := c.def_ 34 (d := D_Desk___bool__) rfl
  d__law_desk_right := c.def_ 35 (d := D__law_desk_right) rfl
  d__law_both_right := c.def_ 36 (d := D__law_both_right) rfl
  d__law_number := c.def_ 37 (d := D__law_number) rfl
  d__law_reading := c.def_ 38 (d := D__law_reading) rfl
  d_is_integer := c.def_ 39 (d := D_is_integer) rfl
  d_check_reading := c.def_ 40 (d := D_check_reading) rfl
  d_Desk___setitem__ := c.def_ 41 (d := D_Desk___setitem__) rfl
  d__law_set := c.def_ 42 (d := D__law_set) rfl
  d__law_right := c.def_ 43 (d := D__law_right) rfl
  d__law_pool := c.def_ 44 (d := D__law_pool) rfl
  d__law_start := c.def_ 45 (d := D__law_start) rfl
  d_law := c.def_ 46 (d := D_law) rfl
section
variable {P : Program} {w : World} {K : PySem.W.Frag} {mg : Str → Option Value} {base : Heap}
theorem sc__law_draw : FnScope N__law_draw ["_law_pool_here", "_law_many"] (defScope (top 39)) := ⟨rfl, rfl, rfl, by decide +kernel, rfl, by decide +kernel, by decide +kernel⟩
theorem q__law_draw (fx : Fx K mg) : ∃ fd, FnQ P w K mg base 1 ((aG "_law_draw") K) fd ["_law_pool_here", "_law_many"] F__law_draw ∧ Binds K fd ["_law_pool_here", "_law_many"] [] := by
  obtain ⟨fd, FD⟩ := fx.d__law_draw
  refine ⟨fd, fnQ (c := c__law_draw) FD sc__law_draw (by decide) fun cdv A outer s H E hr => ?_, FunD.full FD fun _ _ _ _ _ _ us hl => match us, hl with | [_, _], _ => rfl⟩
  have tk : Takes (BX P w K mg base N__law_draw "_law_draw" (defScope (top 39)) ((aG "_law_draw") K) cdv A outer s H E) (BW E) := tk_cx
  have nd : N__law_draw.Nodup := sc__law_draw.nd
  exact SSs.cons (SS.asg (SGS.sub (SE.var 0) (SE.int)) (SE.op opb_plus (SE.ix opi_ix (SE.var 0) (SE.int)) (SE.int))) (SSs.cons (SS.set 2 nd rfl (by first | exact Or.inl rfl | exact Or.inr rfl) (SE.callTy cd_int rfl fx.b_int (by kernel_rfl) (SA.cons (SE.ix opi_ix (SE.var 0) (SE.int)) (SA.nil)))) (SSs.cons (SS.set 3 nd rfl (by first | exact Or.inl rfl | exact Or.inr rfl) (SE.op opb_plus (SE.int) (SE.op opb_times (SE.int) (SE.op opb_mod (SE.callTy cd_int rfl fx.b_int (by kernel_rfl) (SA.cons (SE.var 2) (SA.nil))) (SE.int))))) (SSs.cons (SS.asg (SGS.sub (SE.var 0) (SE.int)) (SE.op opb_mod (SE.callTy cd_int rfl fx.b_int (by kernel_rfl) (SA.cons (SE.op opb_plus (SE.op opb_plus (SE.op opb_times (SE.var 2) (SE.var 3)) (SE.op opb_times (SE.int) (SE.ix opi_ix (SE.var 0) (SE.int)))) (SE.int)) (SA.nil))) (SE.int))) (SSs.cons (SS.if_ (ST.cmp opb_gt (SE.ix opi_ix (SE.var 0) (SE.int)) (SE.int)) (SSs.cons (SS.asg (SGS.tup rfl (SGSs.cons (SGS.sub (SE.var 0) (SE.int)) (SGSs.cons (SGS.pat (SG.name 4 nd rfl (by first | exact Or.inl rfl | exact Or.inr rfl))) (SGSs.nil)))) (SE.callB cd_divmod rfl fx.b_divmod (by kernel_rfl) (SA.cons (SE.ix opi_ix (SE.var 0) (SE.int)) (SA.cons (SE.var 1) (SA.nil))))) (SSs.one (SS.ret (SE.var 4)))) (SSs.nil)) (SSs.one (SS.ret (SE.op opb_mod (SE.callTy cd_int rfl fx.b_int (by kernel_rfl) (SA.cons (SE.op opb_div (SE.ix opi_ix (SE.var 0) (SE.int)) (SE.int)) (SA.nil))) (SE.var 1))))))))
theorem sc__law_word : FnScope N__law_word ["_law_pool_here"] (defScope (top 40)) := ⟨rfl, rfl, rfl, by decide +kernel, rfl, by decide +kernel, by decide +kernel⟩
theorem q__law_word (fx : Fx K mg) : ∃ fd, FnQ P w K mg base 2 ((aG "_law_word") K) fd ["_law_pool_here"] F__law_word ∧ Binds K fd ["_law_pool_here"] [] := by
  obtain ⟨fd, FD⟩ := fx.d__law_word
  obtain ⟨fd__law_draw, F__law_draw, B__law_draw⟩ := q__law_draw (P := P) (w := w) (base := base) fx
  refine ⟨fd, fnQ (c := c__law_word) FD sc__law_word (by decide) fun cdv A outer s H E hr => ?_, FunD.full FD fun _ _ _ _ _ _ us hl => match us, hl with | [_], _ => rfl⟩
  have tk : Takes (BX P w K mg base N__law_word "_law_word" (defScope (top 40)) ((aG "_law_word") K) cdv A outer s H E) (BW E) := tk_cx
  have nd : N__law_word.Nodup := sc__law_word.nd
  exact SSs.cons (SS.asg (SGS.tup rfl (SGSs.cons (SGS.pat (SG.name 1 nd rfl (by first | exact Or.inl rfl | exact Or.inr rfl))) (SGSs.cons (SGS.pat (SG.name 2 nd rfl (by first | exact Or.inl rfl | exact Or.inr rfl))) (SGSs.nil)))) (SE.tup (SA.cons (SE.str [97, 98, 99, 100, 101, 102, 103, 104, 105, 106, 107, 108, 109, 110, 111, 112, 113, 114, 115, 116, 117, 118, 119, 120, 121, 122]) (SA.cons (SE.str []) (SA.nil))))) (SSs.cons (SS.for po_cx rfl (SI.range1 rfl fx.b_range (SA.cons (SE.op opb_plus (SE.int) (SE.call (callee_fn (ps := ["_law_pool_here", "_law_many"]) F__law_draw (hr.mono (by decide)) tk B__law_draw Cst.nil) rfl fx.g__law_draw fx.k__law_draw (SA.cons (SE.var 0) (SA.cons (SE.int) (SA.nil))))) (SA.nil))) (SG.name 3 nd rfl (by first | exact Or.inl rfl | exact Or.inr rfl)) (SSs.cons (SS.set 4 nd rfl (by first | exact Or.inl rfl | exact Or.inr rfl) (SE.ite (ST.cmp (opb_eq (Room.units hr.rm)) (SE.var 3) (SE.int)) (SE.var 1) (SE.op opb_plus (SE.var 1) (SE.str [48, 49, 50, 51, 52, 53, 54, 55, 56, 57])))) (SSs.one (SS.set 2 nd rfl (by first | exact Or.inl rfl | exact Or.inr rfl) (SE.op opb_plus (SE.var 2) (SE.ix opi_ix (SE.var 4) (SE.call (callee_fn (ps := ["_law_pool_here", "_law_many"]) F__law_draw (hr.mono (by decide)) tk B__law_draw Cst.nil) rfl fx.g__law_draw fx.k__law_draw (SA.cons (SE.var 0) (SA.cons (SE.callB cd_len rfl fx.b_len (by kernel_rfl) (SA.cons (SE.var 4) (SA.nil))) (SA.nil)))))))))) (SSs.one (SS.ret (SE.var 2))))
theorem sc__law_words : FnScope N__law_words ["_law_pool_here", "_law_many"] (defScope (top 41)) := ⟨rfl, rfl, rfl, by decide +kernel, rfl, by decide +kernel, by decide +kernel⟩
theorem q__law_words (fx : Fx K mg) : ∃ fd, FnQ P w K mg base 3 ((aG "_law_words") K) fd ["_law_pool_here", "_law_many"] F__law_words ∧ Binds K fd ["_law_pool_here", "_law_many"] [] := by
  obtain ⟨fd, FD⟩ := fx.d__law_words
  obtain ⟨fd__law_draw, F__law_draw, B__law_draw⟩ := q__law_draw (P := P) (w := w) (base := base) fx
  obtain ⟨fd__law_word, F__law_word, B__law_word⟩ := q__law_word (P := P) (w := w) (base := base) fx
  refine ⟨fd, fnQ (c := c__law_words) FD sc__law_words (by decide) fun cdv A outer s H E hr => ?_, FunD.full FD fun _ _ _ _ _ _ us hl => match us, hl with | [_, _], _ => rfl⟩
  have tk : Takes (BX P w K mg base N__law_words "_law_words" (defScope (top 41)) ((aG "_law_words") K) cdv A outer s H E) (BW E) := tk_cx
  have nd : N__law_words.Nodup := sc__law_words.nd
  exact SSs.cons (SS.asg (SGS.tup rfl (SGSs.cons (SGS.pat (SG.name 2 nd rfl (by first | exact Or.inl rfl | exact Or.inr rfl))) (SGSs.cons (SGS.pat (SG.name 3 nd rfl (by first | exact Or.inl rfl | exact Or.inr rfl))) (SGSs.nil)))) (SE.tup (SA.cons (SE.str [97, 98, 99, 100, 101, 102, 103, 104, 105, 106, 107, 108, 109, 110, 111, 112, 113, 114, 115, 116, 117, 118, 119, 120, 121, 122, 48, 49, 50, 51, 52, 53, 54, 55, 56, 57]) (SA.cons (SF.nw (SF.lst (SA.nil))) (SA.nil))))) (SSs.cons (SS.par 4 5 rfl nd rfl rfl (by decide) rfl rfl (SA.cons (SE.cmp (opb_eq (Room.units hr.rm)) (SE.call (callee_fn (ps := ["_law_pool_here", "_law_many"]) F__law_draw (hr.mono (by decide)) tk B__law_draw Cst.nil) rfl fx.g__law_draw fx.k__law_draw (SA.cons (SE.var 0) (SA.cons (SE.int) (SA.nil)))) (SE.int)) (SA.cons (SE.call (callee_fn (ps := ["_law_pool_here"]) F__law_word (hr.mono (by decide)) tk B__law_word Cst.nil) rfl fx.g__law_word fx.k__law_word (SA.cons (SE.var 0) (SA.nil))) (SA.nil))) (by kernel_rfl)) (SSs.cons (SS.par 6 7 rfl nd rfl rfl (by decide) rfl rfl (SA.cons (SE.op opb_plus (SE.int) (SE.call (callee_fn (ps := ["_law_pool_here", "_law_many"]) F__law_draw (hr.mono (by decide)) tk B__law_draw Cst.nil) rfl fx.g__law_draw fx.k__law_draw (SA.cons (SE.var 0) (SA.cons (SE.int) (SA.nil))))) (SA.cons (SE.call (callee_fn (ps := ["_law_pool_here", "_law_many"]) F__law_draw (hr.mono (by decide)) tk B__law_draw Cst.nil) rfl fx.g__law_draw fx.k__law_draw (SA.cons (SE.var 0) (SA.cons (SE.int) (SA.nil)))) (SA.nil))) (by kernel_rfl)) (SSs.cons (SS.for po_cx rfl (SI.range1 rfl fx.b_range (SA.cons (SE.var 1) (SA.nil))) (SG.name 8 nd rfl (by first | exact Or.inl rfl | exact Or.inr rfl)) (SSs.cons (SS.set 9 nd rfl (by first | exact Or.inl rfl | exact Or.inr rfl) (SE.op opb_plus (SE.op opb_plus (SE.slice (SE.var 5) (SO.none_) (SO.some_ (SE.var 6))) (SE.ix opi_ix (SE.var 2) (SE.op opb_mod (SE.callTy cd_int rfl fx.b_int (by kernel_rfl) (SA.cons (SE.op opb_plus (SE.var 7) (SE.var 8)) (SA.nil))) (SE.int)))) (SE.slice (SE.var 5) (SO.some_ (SE.var 6)) (SO.none_)))) (SSs.cons (SS.if_ (ST.not (ST.val (SE.var 4))) (SSs.one (SS.set 9 nd rfl (by first | exact Or.inl rfl | exact Or.inr rfl) (SE.call (callee_fn (ps := ["_law_pool_here"]) F__law_word (hr.mono (by decide)) tk B__law_word Cst.nil) rfl fx.g__law_word fx.k__law_word (SA.cons (SE.var 0) (SA.nil))))) (SSs.nil)) (SSs.cons (SS.set 10 nd rfl (by first | exact Or.inl rfl | exact Or.inr rfl) (SE.op opb_plus (SF.fz (SF.lst (SA.cons (SE.var 9) (SA.nil)))) (SF.fz (SF.lc (own := [("_law_sign", 11)]) (vs := [11]) rfl nd (SI.val (SE.var 2)) (blkOk_by (by kernel_rfl)) (by decide) (fun _ _ _ _ _ => SG.name 11 nd rfl (by first | exact Or.inl rfl | exact Or.inr rfl)) (fun _ _ _ _ _ => .inl ⟨rfl, rfl⟩) (fun _ _ _ _ _ => SE.op opb_plus (SE.var 9) (SE.var 11)))))) (SSs.one (SS.expr (SE.append (SE.var 3) (SE.ix opi_ix (SF.fz (SF.lc (own := [("_law_tag", 12)]) (vs := [12]) rfl nd (SI.val (SE.var 10)) (blkOk_by (by kernel_rfl)) (by decide) (fun _ _ _ _ _ => SG.name 12 nd rfl (by first | exact Or.inl rfl | exact Or.inr rfl)) (fun _ _ _ _ _ => .inr ⟨_, rfl, ST.cmp opb_notin (SE.var 12) (SE.var 3)⟩) (fun _ _ _ _ _ => SE.var 12))) (SE.int))))))))) (SSs.one (SS.ret (SE.var 3))))))
theorem sc__law_lines : FnScope N__law_lines ["_law_pool_here", "_law_many", "_law_wide"] (defScope (top 42)) := ⟨rfl, rfl, rfl, by decide +kernel, rfl, by decide +kernel, by decide +kernel⟩
theorem q__law_lines (fx : Fx K mg) : ∃ fd, FnQ P w K mg base 4 ((aG "_law_lines") K) fd ["_law_pool_here", "_law_many", "_law_wide"] F__law_lines ∧ Binds K fd ["_law_pool_here", "_law_many", "_law_wide"] [] := by
  obtain ⟨fd, FD⟩ := fx.d__law_lines
  obtain ⟨fd__law_words, F__law_words, B__law_words⟩ := q__law_words (P := P) (w := w) (base := base) fx
  obtain ⟨fd__law_draw, F__law_draw, B__law_draw⟩ := q__law_draw (P := P) (w := w) (base := base) fx
  refine ⟨fd, fnQ (c := c__law_lines) FD sc__law_lines (by decide) fun cdv A outer s H E hr => ?_, FunD.full FD fun _ _ _ _ _ _ us hl => match us, hl with | [_, _, _], _ => rfl⟩
  have tk : Takes (BX P w K mg base N__law_lines "_law_lines" (defScope (top 42)) ((aG "_law_lines") K) cdv A outer s H E) (BW E) := tk_cx
  have nd : N__law_lines.Nodup := sc__law_lines.nd
  exact SSs.cons (SS.par3 3 4 5 rfl nd rfl rfl rfl rfl rfl rfl (SA.cons (SE.call (callee_fn (ps := ["_law_pool_here", "_law_many"]) F__law_words (hr.mono (by decide)) tk B__law_words Cst.nil) rfl fx.g__law_words fx.k__law_words (SA.cons (SE.var 0) (SA.cons (SE.var 1) (SA.nil)))) (SA.cons (SE.call (callee_fn (ps := ["_law_pool_here", "_law_many"]) F__law_words (hr.mono (by decide)) tk B__law_words Cst.nil) rfl fx.g__law_words fx.k__law_words (SA.cons (SE.var 0) (SA.cons (SE.var 2) (SA.nil)))) (SA.cons (SF.nw (SF.lst (SA.nil))) (SA.nil)))) (by kernel_rfl)) (SSs.cons (SS.for po_cx rfl (SI.val (SE.var 3)) (SG.name 6 nd rfl (by first | exact Or.inl rfl | exact Or.inr rfl)) (SSs.cons (SS.set 7 nd rfl (by first | exact Or.inl rfl | exact Or.inr rfl) (SE.call (callee_fn (ps := ["_law_pool_here", "_law_many"]) F__law_draw (hr.mono (by decide)) tk B__law_draw Cst.nil) rfl fx.g__law_draw fx.k__law_draw (SA.cons (SE.var 0) (SA.cons (SE.var 2) (SA.nil))))) (SSs.one (SS.expr (SE.append (SE.var 5) (SE.tup (SA.cons (SE.var 6) (SA.cons (SE.ix opi_ix (SE.var 4) (SE.var 7)) (SA.cons (SE.ix opi_ix (SE.var 4) (SE.op opb_mod (SE.callTy cd_int rfl fx.b_int (by kernel_rfl) (SA.cons (SE.op opb_plus (SE.op opb_plus (SE.var 7) (SE.int)) (SE.call (callee_fn (ps := ["_law_pool_here", "_law_many"]) F__law_draw (hr.mono (by decide)) tk B__law_draw Cst.nil) rfl fx.g__law_draw fx.k__law_draw (SA.cons (SE.var 0) (SA.cons (SE.op opb_sub (SE.var 2) (SE.int)) (SA.nil))))) (SA.nil))) (SE.var 2))) (SA.nil)))))))))) (SSs.one (SS.ret (SE.var 5))))
theorem sc__law_dials : FnScope N__law_dials ["_law_pool_here", "_law_lines_here", "_law_many", "_law_rare"] (defScope (top 43)) := ⟨rfl, rfl, rfl, by decide +kernel, rfl, by decide +kernel, by decide +kernel⟩
theorem q__law_dials (fx : Fx K mg) : ∃ fd, FnQ P w K mg base 4 ((aG "_law_dials") K) fd ["_law_pool_here", "_law_lines_here", "_law_many", "_law_rare"] F__law_dials ∧ Binds K fd ["_law_pool_here", "_law_lines_here", "_law_many", "_law_rare"] [] := by
  obtain ⟨fd, FD⟩ := fx.d__law_dials
  obtain ⟨fd__law_words, F__law_words, B__law_words⟩ := q__law_words (P := P) (w := w) (base := base) fx
  obtain ⟨fd__law_draw, F__law_draw, B__law_draw⟩ := q__law_draw (P := P) (w := w) (base := base) fx
  refine ⟨fd, fnQ (c := c__law_dials) FD sc__law_dials (by decide) fun cdv A outer s H E hr => ?_, FunD.full FD fun _ _ _ _ _ _ us hl => match us, hl with | [_, _, _, _], _ => rfl⟩
  have tk : Takes (BX P w K mg base N__law_dials "_law_dials" (defScope (top 43)) ((aG "_law_dials") K) cdv A outer s H E) (BW E) := tk_cx
  have nd : N__law_dials.Nodup := sc__law_dials.nd
  exact SSs.cons (SS.set 4 nd rfl (by first | exact Or.inl rfl | exact Or.inr rfl) (SF.nw (SF.lst (SA.nil)))) (SSs.cons (SS.for po_cx rfl (SI.val (SE.call (callee_fn (ps := ["_law_pool_here", "_law_many"]) F__law_words (hr.mono (by decide)) tk B__law_words Cst.nil) rfl fx.g__law_words fx.k__law_words (SA.cons (SE.var 0) (SA.cons (SE.var 2) (SA.nil))))) (SG.name 5 nd rfl (by first | exact Or.inl rfl | exact Or.inr rfl)) (SSs.one (SS.expr (SE.append (SE.var 4) (SE.tup (SA.cons (SE.var 5) (SA.cons (SE.ix opi_ix (SE.ix opi_ix (SE.var 1) (SE.call (callee_fn (ps := ["_law_pool_here", "_law_many"]) F__law_draw (hr.mono (by decide)) tk B__law_draw Cst.nil) rfl fx.g__law_draw fx.k__law_draw (SA.cons (SE.var 0) (SA.cons (SE.callB cd_len rfl fx.b_len (by kernel_rfl) (SA.cons (SE.var 1) (SA.nil))) (SA.nil))))) (SE.int)) (SA.cons (SE.cmp (opb_eq (Room.units hr.rm)) (SE.call (callee_fn (ps := ["_law_pool_here", "_law_many"]) F__law_draw (hr.mono (by decide)) tk B__law_draw Cst.nil) rfl fx.g__law_draw fx.k__law_draw (SA.cons (SE.var 0) (SA.cons (SE.var 3) (SA.nil)))) (SE.int)) (SA.nil))))))))) (SSs.one (SS.ret (SE.var 4))))
theorem sc_is_name : FnScope N_is_name ["value"] (defScope (top 21)) := ⟨rfl, rfl, rfl, by decide +kernel, rfl, by decide +kernel, by decide +kernel⟩
theorem q_is_name (fx : Fx K mg) : ∃ fd, FnQ P w K mg base 1 ((aG "is_name") K) fd ["value"] F_is_name ∧ Binds K fd ["value"] [] := by
  obtain ⟨fd, FD⟩ := fx.d_is_name
  refine ⟨fd, fnQ (c := c_is_name) FD sc_is_name (by decide) fun cdv A outer s H E hr => ?_, FunD.full FD fun _ _ _ _ _ _ us hl => match us, hl with | [_], _ => rfl⟩
  have tk : Takes (BX P w K mg base N_is_name "is_name" (defScope (top 21)) ((aG "is_name") K) cdv A outer s H E) (BW E) := tk_cx
  have nd : N_is_name.Nodup := sc_is_name.nd
  exact SSs.cons (SS.if_ (SW.st (SW.or (ST.not (ST.val (SE.callB (cd_isi fx.isi) rfl fx.b_isinstance (by kernel_rfl) (SA.cons (SE.var 0) (SA.cons (SE.bty rfl fx.b_str (by kernel_rfl)) (SA.nil)))))) (SW.or (ST.not (ST.chain opb_le opb_le (SE.int) (SE.callB cd_len rfl fx.b_len (by kernel_rfl) (SA.cons (SE.var 0) (SA.nil))) (SE.gint rfl fx.i_LONGEST_NAME))) (SW.or1 (ST.cmp opb_notin (SE.ix opi_ix (SE.var 0) (SE.int)) (SE.gstr (s := [97, 98, 99, 100, 101, 102, 103, 104, 105, 106, 107, 108, 109, 110, 111, 112, 113, 114, 115, 116, 117, 118, 119, 120, 121, 122]) rfl fx.s_LETTERS rfl)))))) (SSs.one (SS.ret (SE.bl))) (SSs.nil)) (SSs.one (SS.ret (SE.callB (cd_all rfl) rfl fx.b_all (by kernel_rfl) (SA.cons (SF.fz (SF.lc (own := [("sign", 1)]) (vs := [1]) rfl nd (SI.val (SE.var 0)) (blkOk_by (by kernel_rfl)) (by decide) (fun _ _ _ _ _ => SG.name 1 nd rfl (by first | exact Or.inl rfl | exact Or.inr rfl)) (fun _ _ _ _ _ => .inl ⟨rfl, rfl⟩) (fun _ _ _ _ _ => SE.or (SE.cmp opb_in (SE.var 1) (SE.gstr (s := [97, 98, 99, 100, 101, 102, 103, 104, 105, 106, 107, 108, 109, 110, 111, 112, 113, 114, 115, 116, 117, 118, 119, 120, 121, 122]) rfl fx.s_LETTERS rfl)) (SE.bone (SE.cmp opb_in (SE.var 1) (SE.gstr (s := [48, 49, 50, 51, 52, 53, 54, 55, 56, 57]) rfl fx.s_DIGITS rfl)))))) (SA.nil)))))
theorem sc_check_name : FnScope N_check_name ["value"] (defScope (top 22)) := ⟨rfl, rfl, rfl, by decide +kernel, rfl, by decide +kernel, by decide +kernel⟩
theorem q_check_name (fx : Fx K mg) : ∃ fd, FnQ P w K mg base 2 ((aG "check_name") K) fd ["value"] F_check_name ∧ Binds K fd ["value"] [] := by
  obtain ⟨fd, FD⟩ := fx.d_check_name
  obtain ⟨fd_is_name, F_is_name, B_is_name⟩ := q_is_name (P := P) (w := w) (base := base) fx
  refine ⟨fd, fnQ (c := c_check_name) FD sc_check_name (by decide) fun cdv A outer s H E hr => ?_, FunD.full FD fun _ _ _ _ _ _ us hl => match us, hl with | [_], _ => rfl⟩
  have tk : Takes (BX P w K mg base N_check_name "check_name" (defScope (top 22)) ((aG "check_name") K) cdv A outer s H E) (BW E) := tk_cx
  have nd : N_check_name.Nodup := sc_check_name.nd
  exact SSs.one (SS.if_ (ST.not (ST.val (SE.call (callee_fn (ps := ["value"]) F_is_name (hr.mono (by decide)) tk B_is_name Cst.nil) rfl fx.g_is_name fx.k_is_name (SA.cons (SE.var 0) (SA.nil))))) (SSs.one (SS.never)) (SSs.nil))
theorem sc_Pipe___init__ : FnScope N_Pipe___init__ ["self", "name", "start", "end"] (defScope (mem 24 0)) := ⟨rfl, rfl, rfl, by decide +kernel, rfl, by decide +kernel, by decide +kernel⟩
theorem q_Pipe___init__ (fx : Fx K mg) : ∃ fd, FnQ P w K mg base 3 ((aM "Pipe" "__init__") K) fd ["self", "name", "start", "end"] F_Pipe___init__ ∧ Binds K fd ["self", "name", "start", "end"] [] := by
  obtain ⟨fd, FD⟩ := fx.d_Pipe___init__
  obtain ⟨fd_check_name, F_check_name, B_check_name⟩ := q_check_name (P := P) (w := w) (base := base) fx
  refine ⟨fd, fnQ (c := c_Pipe___init__) FD sc_Pipe___init__ (by decide) fun cdv A outer s H E hr => ?_, FunD.full FD fun _ _ _ _ _ _ us hl => match us, hl with | [_, _, _, _], _ => rfl⟩
  have tk : Takes (BX P w K mg base N_Pipe___init__ "Pipe.__init__" (defScope (mem 24 0)) ((aM "Pipe" "__init__") K) cdv A outer s H E) (BW E) := tk_cx
  have nd : N_Pipe___init__.Nodup := sc_Pipe___init__.nd
  exact SSs.cons (SS.expr (SE.call (callee_fn (ps := ["value"]) F_check_name (hr.mono (by decide)) tk B_check_name Cst.nil) rfl fx.g_check_name fx.k_check_name (SA.cons (SE.var 1) (SA.nil)))) (SSs.cons (SS.expr (SE.call (callee_fn (ps := ["value"]) F_check_name (hr.mono (by decide)) tk B_check_name Cst.nil) rfl fx.g_check_name fx.k_check_name (SA.cons (SE.var 2) (SA.nil)))) (SSs.cons (SS.expr (SE.call (callee_fn (ps := ["value"]) F_check_name (hr.mono (by decide)) tk B_check_name Cst.nil) rfl fx.g_check_name fx.k_check_name (SA.cons (SE.var 3) (SA.nil)))) (SSs.cons (SS.if_ (ST.cmp (opb_eq (Room.units hr.rm)) (SE.var 3) (SE.var 2)) (SSs.one (SS.never)) (SSs.nil)) (SSs.one (SS.fld "Pipe" fx.c_Pipe fx.na_Pipe_kept (SE.var 0) (SE.tup (SA.cons (SE.var 1) (SA.cons (SE.var 2) (SA.cons (SE.var 3) (SA.nil))))))))))
theorem sc_Meter___init__ : FnScope N_Meter___init__ ["self", "name", "at", "sealed"] (defScope (mem 25 0)) := ⟨rfl, rfl, rfl, by decide +kernel, rfl, by decide +kernel, by decide +kernel⟩
theorem q_Meter___init__ (fx : Fx K mg) : ∃ fd, FnQ P w K mg base 3 ((aM "Meter" "__init__") K) fd ["self", "name", "at", "sealed"] F_Meter___init__ ∧ BindsK K fd ["self", "name", "at", "sealed"] 3 ["sealed"] [] := by
  obtain ⟨fd, FD⟩ := fx.d_Meter___init__
  obtain ⟨fd_check_name, F_check_name, B_check_name⟩ := q_check_name (P := P) (w := w) (base := base) fx
  refine ⟨fd, fnQ (c := c_Meter___init__) FD sc_Meter___init__ (by decide) fun cdv A outer s H E hr => ?_, FunD.fullK FD 3 ["sealed"] fun _ _ _ _ _ _ us ws l1 l2 => match us, ws, l1, l2 with | [_, _, _], [_], _, _ => rfl⟩
  have tk : Takes (BX P w K mg base N_Meter___init__ "Meter.__init__" (defScope (mem 25 0)) ((aM "Meter" "__init__") K) cdv A outer s H E) (BW E) := tk_cx
  have nd : N_Meter___init__.Nodup := sc_Meter___init__.nd
  exact SSs.cons (SS.expr (SE.call (callee_fn (ps := ["value"]) F_check_name (hr.mono (by decide)) tk B_check_name Cst.nil) rfl fx.g_check_name fx.k_check_name (SA.cons (SE.var 1) (SA.nil)))) (SSs.cons (SS.expr (SE.call (callee_fn (ps := ["value"]) F_check_name (hr.mono (by decide)) tk B_check_name Cst.nil) rfl fx.g_check_name fx.k_check_name (SA.cons (SE.var 2) (SA.nil)))) (SSs.cons (SS.if_ (ST.not (ST.val (SE.callB (cd_isi fx.isi) rfl fx.b_isinstance (by kernel_rfl) (SA.cons (SE.var 3) (SA.cons (SE.bty rfl fx.b_bool (by kernel_rfl)) (SA.nil)))))) (SSs.one (SS.never)) (SSs.nil)) (SSs.one (SS.fld "Meter" fx.c_Meter fx.na_Meter_kept (SE.var 0) (SE.tup (SA.cons (SE.var 1) (SA.cons (SE.var 2) (SA.cons (SE.var 3) (SA.nil)))))))))
theorem sc_item_of : FnScope N_item_of ["line"] (defScope (top 29)) := ⟨rfl, rfl, rfl, by decide +kernel, rfl, by decide +kernel, by decide +kernel⟩
theorem q_item_of (fx : Fx K mg) : ∃ fd, FnQ P w K mg base 5 ((aG "item_of") K) fd ["line"] F_item_of ∧ Binds K fd ["line"] [] := by
  obtain ⟨fd, FD⟩ := fx.d_item_of
  obtain ⟨fd_Pipe___init__, F_Pipe___init__, B_Pipe___init__⟩ := q_Pipe___init__ (P := P) (w := w) (base := base) fx
  obtain ⟨fd_Meter___init__, F_Meter___init__, BK_Meter___init___1⟩ := q_Meter___init__ (P := P) (w := w) (base := base) fx
  refine ⟨fd, fnQ (c := c_item_of) FD sc_item_of (by decide) fun cdv A outer s H E hr => ?_, FunD.full FD fun _ _ _ _ _ _ us hl => match us, hl with | [_], _ => rfl⟩
  have tk : Takes (BX P w K mg base N_item_of "item_of" (defScope (top 29)) ((aG "item_of") K) cdv A outer s H E) (BW E) := tk_cx
  have nd : N_item_of.Nodup := sc_item_of.nd
  exact SSs.cons (SS.set 1 nd rfl (by first | exact Or.inl rfl | exact Or.inr rfl) (SE.m1 met_split PySem.F.slot_str_split PySem.F.type_str_split (SE.var 0) (SE.str [32]))) (SSs.cons (SS.tryNo (SSs.cons (SS.if_ (SW.st (SW.and (ST.cmp (opb_eq (Room.units hr.rm)) (SE.callB cd_len rfl fx.b_len (by kernel_rfl) (SA.cons (SE.var 1) (SA.nil))) (SE.int)) (SW.and1 (ST.cmp (opb_eq (Room.units hr.rm)) (SE.ix opi_ix (SE.var 1) (SE.int)) (SE.str [112, 105, 112, 101]))))) (SSs.one (SS.ret (SE.call (callee_cls (c := "Pipe") (ps := ["self", "name", "start", "end"]) (keep := false) fx.mk_Pipe F_Pipe___init__ (hr.mono (by decide)) Rv.takes0 B_Pipe___init__ Cst.nil) rfl fx.g_Pipe fx.k_Pipe (SA.cons (SE.ix opi_ix (SE.var 1) (SE.int)) (SA.cons (SE.ix opi_ix (SE.var 1) (SE.int)) (SA.cons (SE.ix opi_ix (SE.var 1) (SE.int)) (SA.nil))))))) (SSs.nil)) (SSs.one (SS.if_ (SW.st (SW.and (ST.cmp opb_in (SE.callB cd_len rfl fx.b_len (by kernel_rfl) (SA.cons (SE.var 1) (SA.nil))) (SE.tup (SA.cons (SE.int) (SA.cons (SE.int) (SA.nil))))) (SW.and1 (ST.cmp (opb_eq (Room.units hr.rm)) (SE.ix opi_ix (SE.var 1) (SE.int)) (SE.str [109, 101, 116, 101, 114]))))) (SSs.one (SS.ret (SE.callK (callee_clsK (c := "Meter") (ps := ["self", "name", "at", "sealed"]) (keep := false) (j := 2) (ks := ["sealed"]) fx.mk_Meter F_Meter___init__ (hr.mono (by decide)) Rv.takes0 BK_Meter___init___1 Cst.nil) rfl fx.g_Meter fx.k_Meter (SA.cons (SE.ix opi_ix (SE.var 1) (SE.int)) (SA.cons (SE.ix opi_ix (SE.var 1) (SE.int)) (SA.nil))) (SK.cons (SE.cmp (opb_eq (Room.units hr.rm)) (SE.callB cd_len rfl fx.b_len (by kernel_rfl) (SA.cons (SE.var 1) (SA.nil))) (SE.int)) (SK.nil))))) (SSs.nil))))) (SSs.one (SS.ret (SE.non))))
theorem sc_Pipe_name : FnScope N_Pipe_name ["self"] (defScope (mem 24 1)) := ⟨rfl, rfl, rfl, by decide +kernel, rfl, by decide +kernel, by decide +kernel⟩
theorem q_Pipe_name (fx : Fx K mg) : ∃ fd, FnQ P w K mg base 1 ((aR "property" "Pipe" "name") K) fd ["self"] F_Pipe_name ∧ Binds K fd ["self"] [] := by
  obtain ⟨fd, FD⟩ := fx.d_Pipe_name
  refine ⟨fd, fnQ (c := c_Pipe_name) FD sc_Pipe_name (by decide) fun cdv A outer s H E hr => ?_, FunD.full FD fun _ _ _ _ _ _ us hl => match us, hl with | [_], _ => rfl⟩
  have tk : Takes (BX P w K mg base N_Pipe_name "Pipe.name" (defScope (mem 24 1)) ((aR "property" "Pipe" "name") K) cdv A outer s H E) (BW E) := tk_cx
  have nd : N_Pipe_name.Nodup := sc_Pipe_name.nd
  exact SSs.one (SS.ret (SE.ix opi_ix (SE.fld "Pipe" fx.c_Pipe fx.na_Pipe_kept (SE.var 0)) (SE.int)))
theorem sc_check_pipes : FnScope N_check_pipes ["pipes"] (defScope (top 26)) := ⟨rfl, rfl, rfl, by decide +kernel, rfl, by decide +kernel, by decide +kernel⟩
theorem q_check_pipes (fx : Fx K mg) : ∃ fd, FnQ P w K mg base 3 ((aG "check_pipes") K) fd ["pipes"] F_check_pipes ∧ Binds K fd ["pipes"] [] := by
  obtain ⟨fd, FD⟩ := fx.d_check_pipes
  obtain ⟨fd_Pipe_name, F_Pipe_name, B_Pipe_name⟩ := q_Pipe_name (P := P) (w := w) (base := base) fx
  refine ⟨fd, fnQ (c := c_check_pipes) FD sc_check_pipes (by decide) fun cdv A outer s H E hr => ?_, FunD.full FD fun _ _ _ _ _ _ us hl => match us, hl with | [_], _ => rfl⟩
  have tk : Takes (BX P w K mg base N_check_pipes "check_pipes" (defScope (top 26)) ((aG "check_pipes") K) cdv A outer s H E) (BW E) := tk_cx
  have nd : N_check_pipes.Nodup := sc_check_pipes.nd
  exact SSs.cons (SS.if_ (SW.st (SW.or (ST.not (ST.val (SE.callB (cd_isi fx.isi) rfl fx.b_isinstance (by kernel_rfl) (SA.cons (SE.var 0) (SA.cons (SE.bty rfl fx.b_tuple (by kernel_rfl)) (SA.nil)))))) (SW.or1 (ST.cmp (opb_eq (Room.units hr.rm)) (SE.callB cd_len rfl fx.b_len (by kernel_rfl) (SA.cons (SE.var 0) (SA.nil))) (SE.int))))) (SSs.one (SS.never)) (SSs.nil)) (SSs.cons (SS.set 1 nd rfl (by first | exact Or.inl rfl | exact Or.inr rfl) (SF.nw (SF.lst (SA.nil)))) (SSs.one (SS.for po_cx rfl (SI.enumT rfl fx.b_enumerate (SA.cons (SE.var 0) (SA.nil))) (SG.tup rfl (SGs.cons (SG.name 2 nd rfl (by first | exact Or.inl rfl | exact Or.inr rfl)) (SGs.cons (SG.name 3 nd rfl (by first | exact Or.inl rfl | exact Or.inr rfl)) (SGs.nil))) (fun _ _ _ h => gsC_len (fun _ _ _ h => gsC_len (fun _ _ _ h => gsN_len h) h) h)) (SSs.cons (SS.if_ (SW.st (SW.or (ST.not (ST.val (SE.callB (cd_isi fx.isi) rfl fx.b_isinstance (by kernel_rfl) (SA.cons (SE.var 3) (SA.cons (SE.gcls rfl fx.g_Pipe) (SA.nil)))))) (SW.or (ST.cmp opb_in (SE.prop "Pipe" fx.c_Pipe fx.pr_Pipe_name F_Pipe_name (hr.mono (by decide)) B_Pipe_name rfl (SE.var 3)) (SE.var 1)) (SW.or1 (ST.cmp opb_ge (SE.var 2) (SE.gint rfl fx.i_MOST_PIPES)))))) (SSs.one (SS.never)) (SSs.nil)) (SSs.one (SS.expr (SE.append (SE.var 1) (SE.prop "Pipe" fx.c_Pipe fx.pr_Pipe_name F_Pipe_name (hr.mono (by decide)) B_Pipe_name rfl (SE.var 3)))))))))
theorem sc_Meter_name : FnScope N_Meter_name ["self"] (defScope (mem 25 1)) := ⟨rfl, rfl, rfl, by decide +kernel, rfl, by decide +kernel, by decide +kernel⟩
theorem q_Meter_name (fx : Fx K mg) : ∃ fd, FnQ P w K mg base 1 ((aR "property" "Meter" "name") K) fd ["self"] F_Meter_name ∧ Binds K fd ["self"] [] := by
  obtain ⟨fd, FD⟩ := fx.d_Meter_name
  refine ⟨fd, fnQ (c := c_Meter_name) FD sc_Meter_name (by decide) fun cdv A outer s H E hr => ?_, FunD.full FD fun _ _ _ _ _ _ us hl => match us, hl with | [_], _ => rfl⟩
  have tk : Takes (BX P w K mg base N_Meter_name "Meter.name" (defScope (mem 25 1)) ((aR "property" "Meter" "name") K) cdv A outer s H E) (BW E) := tk_cx
  have nd : N_Meter_name.Nodup := sc_Meter_name.nd
  exact SSs.one (SS.ret (SE.ix opi_ix (SE.fld "Meter" fx.c_Meter fx.na_Meter_kept (SE.var 0)) (SE.int)))
theorem sc_Meter_at : FnScope N_Meter_at ["self"] (defScope (mem 25 2)) := ⟨rfl, rfl, rfl, by decide +kernel, rfl, by decide +kernel, by decide +kernel⟩
theorem q_Meter_at (fx : Fx K mg) : ∃ fd, FnQ P w K mg base 1 ((aR "property" "Meter" "at") K) fd ["self"] F_Meter_at ∧ Binds K fd ["self"] [] := by
  obtain ⟨fd, FD⟩ := fx.d_Meter_at
  refine ⟨fd, fnQ (c := c_Meter_at) FD sc_Meter_at (by decide) fun cdv A outer s H E hr => ?_, FunD.full FD fun _ _ _ _ _ _ us hl => match us, hl with | [_], _ => rfl⟩
  have tk : Takes (BX P w K mg base N_Meter_at "Meter.at" (defScope (mem 25 2)) ((aR "property" "Meter" "at") K) cdv A outer s H E) (BW E) := tk_cx
  have nd : N_Meter_at.Nodup := sc_Meter_at.nd
  exact SSs.one (SS.ret (SE.ix opi_ix (SE.fld "Meter" fx.c_Meter fx.na_Meter_kept (SE.var 0)) (SE.int)))
theorem sc_check_meters : FnScope N_check_meters ["meters", "pipes"] (defScope (top 27)) := ⟨rfl, rfl, rfl, by decide +kernel, rfl, by decide +kernel, by decide +kernel⟩
theorem q_check_meters (fx : Fx K mg) : ∃ fd, FnQ P w K mg base 3 ((aG "check_meters") K) fd ["meters", "pipes"] F_check_meters ∧ Binds K fd ["meters", "pipes"] [] := by
  obtain ⟨fd, FD⟩ := fx.d_check_meters
  obtain ⟨fd_Pipe_name, F_Pipe_name, B_Pipe_name⟩ := q_Pipe_name (P := P) (w := w) (base := base) fx
  obtain ⟨fd_Meter_name, F_Meter_name, B_Meter_name⟩ := q_Meter_name (P := P) (w := w) (base := base) fx
  obtain ⟨fd_Meter_at, F_Meter_at, B_Meter_at⟩ := q_Meter_at (P := P) (w := w) (base := base) fx
  refine ⟨fd, fnQ (c := c_check_meters) FD sc_check_meters (by decide) fun cdv A outer s H E hr => ?_, FunD.full FD fun _ _ _ _ _ _ us hl => match us, hl with | [_, _], _ => rfl⟩
  have tk : Takes (BX P w K mg base N_check_meters "check_meters" (defScope (top 27)) ((aG "check_meters") K) cdv A outer s H E) (BW E) := tk_cx
  have nd : N_check_meters.Nodup := sc_check_meters.nd
  exact SSs.cons (SS.if_ (ST.not (ST.val (SE.callB (cd_isi fx.isi) rfl fx.b_isinstance (by kernel_rfl) (SA.cons (SE.var 0) (SA.cons (SE.bty rfl fx.b_tuple (by kernel_rfl)) (SA.nil)))))) (SSs.one (SS.never)) (SSs.nil)) (SSs.cons (SS.setLc (own := [("pipe", 3)]) (vs := [3]) 2 fresh_fz rfl rfl (sw_true rfl rfl rfl rfl) rfl nd (SI.val (SE.var 1)) (blkOk_by (by kernel_rfl)) (by decide) (fun _ _ _ _ _ => SG.name 3 nd rfl (by first | exact Or.inl rfl | exact Or.inr rfl)) (fun _ _ _ _ _ => .inl ⟨rfl, rfl⟩) (fun _ _ _ _ _ => SE.prop "Pipe" fx.c_Pipe fx.pr_Pipe_name F_Pipe_name (hr.mono (by decide)) B_Pipe_name rfl (SE.var 3))) (SSs.cons (SS.set 4 nd rfl (by first | exact Or.inl rfl | exact Or.inr rfl) (SF.nw (SF.lst (SA.nil)))) (SSs.one (SS.for po_cx rfl (SI.enumT rfl fx.b_enumerate (SA.cons (SE.var 0) (SA.nil))) (SG.tup rfl (SGs.cons (SG.name 5 nd rfl (by first | exact Or.inl rfl | exact Or.inr rfl)) (SGs.cons (SG.name 6 nd rfl (by first | exact Or.inl rfl | exact Or.inr rfl)) (SGs.nil))) (fun _ _ _ h => gsC_len (fun _ _ _ h => gsC_len (fun _ _ _ h => gsN_len h) h) h)) (SSs.cons (SS.if_ (SW.st (SW.or (ST.not (ST.val (SE.callB (cd_isi fx.isi) rfl fx.b_isinstance (by kernel_rfl) (SA.cons (SE.var 6) (SA.cons (SE.gcls rfl fx.g_Meter) (SA.nil)))))) (SW.or (ST.cmp opb_in (SE.prop "Meter" fx.c_Meter fx.pr_Meter_name F_Meter_name (hr.mono (by decide)) B_Meter_name rfl (SE.var 6)) (SE.var 4)) (SW.or (ST.cmp opb_notin (SE.prop "Meter" fx.c_Meter fx.pr_Meter_at F_Meter_at (hr.mono (by decide)) B_Meter_at rfl (SE.var 6)) (SE.var 2)) (SW.or1 (ST.cmp opb_ge (SE.var 5) (SE.gint rfl fx.i_MOST_METERS))))))) (SSs.one (SS.never)) (SSs.nil)) (SSs.one (SS.expr (SE.append (SE.var 4) (SE.prop "Meter" fx.c_Meter fx.pr_Meter_name F_Meter_name (hr.mono (by decide)) B_Meter_name rfl (SE.var 6))))))))))
theorem sc_Net___init__ : FnScope N_Net___init__ ["self", "pipes", "meters"] (defScope (mem 30 0)) := ⟨rfl, rfl, rfl, by decide +kernel, rfl, by decide +kernel, by decide +kernel⟩
theorem q_Net___init__ (fx : Fx K mg) : ∃ fd, FnQ P w K mg base 4 ((aM "Net" "__init__") K) fd ["self", "pipes", "meters"] F_Net___init__ ∧ Binds K fd ["self", "pipes", "meters"] [] := by
  obtain ⟨fd, FD⟩ := fx.d_Net___init__
  obtain ⟨fd_check_pipes, F_check_pipes, B_check_pipes⟩ := q_check_pipes (P := P) (w := w) (base := base) fx
  obtain ⟨fd_check_meters, F_check_meters, B_check_meters⟩ := q_check_meters (P := P) (w := w) (base := base) fx
  refine ⟨fd, fnQ (c := c_Net___init__) FD sc_Net___init__ (by decide) fun cdv A outer s H E hr => ?_, FunD.fullD FD (List.cons_ne_nil _ _) 3 rfl fun _ _ _ _ _ _ _ us its hl hi => match us, hl, its, hi with | [_, _, _], _, [_], _ => ⟨_, rfl, rfl⟩⟩
  have tk : Takes (BX P w K mg base N_Net___init__ "Net.__init__" (defScope (mem 30 0)) ((aM "Net" "__init__") K) cdv A outer s H E) (BW E) := tk_cx
  have nd : N_Net___init__.Nodup := sc_Net___init__.nd
  exact SSs.cons (SS.expr (SE.call (callee_fn (ps := ["pipes"]) F_check_pipes (hr.mono (by decide)) tk B_check_pipes Cst.nil) rfl fx.g_check_pipes fx.k_check_pipes (SA.cons (SE.var 1) (SA.nil)))) (SSs.cons (SS.expr (SE.call (callee_fn (ps := ["meters", "pipes"]) F_check_meters (hr.mono (by decide)) tk B_check_meters Cst.nil) rfl fx.g_check_meters fx.k_check_meters (SA.cons (SE.var 2) (SA.cons (SE.var 1) (SA.nil))))) (SSs.cons (SS.fld "Net" fx.c_Net fx.na_Net_joined (SE.var 0) (SE.var 1)) (SSs.one (SS.fld "Net" fx.c_Net fx.na_Net_fitted (SE.var 0) (SE.var 2)))))
theorem sc_Pipe_start : FnScope N_Pipe_start ["self"] (defScope (mem 24 2)) := ⟨rfl, rfl, rfl, by decide +kernel, rfl, by decide +kernel, by decide +kernel⟩
theorem q_Pipe_start (fx : Fx K mg) : ∃ fd, FnQ P w K mg base 1 ((aR "property" "Pipe" "start") K) fd ["self"] F_Pipe_start ∧ Binds K fd ["self"] [] := by
  obtain ⟨fd, FD⟩ := fx.d_Pipe_start
  refine ⟨fd, fnQ (c := c_Pipe_start) FD sc_Pipe_start (by decide) fun cdv A outer s H E hr => ?_, FunD.full FD fun _ _ _ _ _ _ us hl => match us, hl with | [_], _ => rfl⟩
  have tk : Takes (BX P w K mg base N_Pipe_start "Pipe.start" (defScope (mem 24 2)) ((aR "property" "Pipe" "start") K) cdv A outer s H E) (BW E) := tk_cx
  have nd : N_Pipe_start.Nodup := sc_Pipe_start.nd
  exact SSs.one (SS.ret (SE.ix opi_ix (SE.fld "Pipe" fx.c_Pipe fx.na_Pipe_kept (SE.var 0)) (SE.int)))
theorem sc_Pipe_end : FnScope N_Pipe_end ["self"] (defScope (mem 24 3)) := ⟨rfl, rfl, rfl, by decide +kernel, rfl, by decide +kernel, by decide +kernel⟩
theorem q_Pipe_end (fx : Fx K mg) : ∃ fd, FnQ P w K mg base 1 ((aR "property" "Pipe" "end") K) fd ["self"] F_Pipe_end ∧ Binds K fd ["self"] [] := by
  obtain ⟨fd, FD⟩ := fx.d_Pipe_end
  refine ⟨fd, fnQ (c := c_Pipe_end) FD sc_Pipe_end (by decide) fun cdv A outer s H E hr => ?_, FunD.full FD fun _ _ _ _ _ _ us hl => match us, hl with | [_], _ => rfl⟩
  have tk : Takes (BX P w K mg base N_Pipe_end "Pipe.end" (defScope (mem 24 3)) ((aR "property" "Pipe" "end") K) cdv A outer s H E) (BW E) := tk_cx
  have nd : N_Pipe_end.Nodup := sc_Pipe_end.nd
  exact SSs.one (SS.ret (SE.ix opi_ix (SE.fld "Pipe" fx.c_Pipe fx.na_Pipe_kept (SE.var 0)) (SE.int)))
theorem sc_Meter_sealed : FnScope N_Meter_sealed ["self"] (defScope (mem 25 3)) := ⟨rfl, rfl, rfl, by decide +kernel, rfl, by decide +kernel, by decide +kernel⟩
theorem q_Meter_sealed (fx : Fx K mg) : ∃ fd, FnQ P w K mg base 1 ((aR "property" "Meter" "sealed") K) fd ["self"] F_Meter_sealed ∧ Binds K fd ["self"] [] := by
  obtain ⟨fd, FD⟩ := fx.d_Meter_sealed
  refine ⟨fd, fnQ (c := c_Meter_sealed) FD sc_Meter_sealed (by decide) fun cdv A outer s H E hr => ?_, FunD.full FD fun _ _ _ _ _ _ us hl => match us, hl with | [_], _ => rfl⟩
  have tk : Takes (BX P w K mg base N_Meter_sealed "Meter.sealed" (defScope (mem 25 3)) ((aR "property" "Meter" "sealed") K) cdv A outer s H E) (BW E) := tk_cx
  have nd : N_Meter_sealed.Nodup := sc_Meter_sealed.nd
  exact SSs.one (SS.ret (SE.ix opi_ix (SE.fld "Meter" fx.c_Meter fx.na_Meter_kept (SE.var 0)) (SE.int)))
theorem sc_line_of : FnScope N_line_of ["item"] (defScope (top 28)) := ⟨rfl, rfl, rfl, by decide +kernel, rfl, by decide +kernel, by decide +kernel⟩
theorem q_line_of (fx : Fx K mg) : ∃ fd, FnQ P w K mg base 3 ((aG "line_of") K) fd ["item"] F_line_of ∧ Binds K fd ["item"] [] := by
  obtain ⟨fd, FD⟩ := fx.d_line_of
  obtain ⟨fd_Pipe_name, F_Pipe_name, B_Pipe_name⟩ := q_Pipe_name (P := P) (w := w) (base := base) fx
  obtain ⟨fd_Pipe_start, F_Pipe_start, B_Pipe_start⟩ := q_Pipe_start (P := P) (w := w) (base := base) fx
  obtain ⟨fd_Pipe_end, F_Pipe_end, B_Pipe_end⟩ := q_Pipe_end (P := P) (w := w) (base := base) fx
  obtain ⟨fd_Meter_sealed, F_Meter_sealed, B_Meter_sealed⟩ := q_Meter_sealed (P := P) (w := w) (base := base) fx
  obtain ⟨fd_Meter_name, F_Meter_name, B_Meter_name⟩ := q_Meter_name (P := P) (w := w) (base := base) fx
  obtain ⟨fd_Meter_at, F_Meter_at, B_Meter_at⟩ := q_Meter_at (P := P) (w := w) (base := base) fx
  refine ⟨fd, fnQ (c := c_line_of) FD sc_line_of (by decide) fun cdv A outer s H E hr => ?_, FunD.full FD fun _ _ _ _ _ _ us hl => match us, hl with | [_], _ => rfl⟩
  have tk : Takes (BX P w K mg base N_line_of "line_of" (defScope (top 28)) ((aG "line_of") K) cdv A outer s H E) (BW E) := tk_cx
  have nd : N_line_of.Nodup := sc_line_of.nd
  exact SSs.cons (SS.if_ (ST.val (SE.callB (cd_isi fx.isi) rfl fx.b_isinstance (by kernel_rfl) (SA.cons (SE.var 0) (SA.cons (SE.gcls rfl fx.g_Pipe) (SA.nil))))) (SSs.one (SS.ret (SE.joined (SJ.cons (SE.str [112, 105, 112, 101, 32]) (SJ.cons (SE.fmt (SE.prop "Pipe" fx.c_Pipe fx.pr_Pipe_name F_Pipe_name (hr.mono (by decide)) B_Pipe_name rfl (SE.var 0))) (SJ.cons (SE.str [32]) (SJ.cons (SE.fmt (SE.prop "Pipe" fx.c_Pipe fx.pr_Pipe_start F_Pipe_start (hr.mono (by decide)) B_Pipe_start rfl (SE.var 0))) (SJ.cons (SE.str [32]) (SJ.cons (SE.fmt (SE.prop "Pipe" fx.c_Pipe fx.pr_Pipe_end F_Pipe_end (hr.mono (by decide)) B_Pipe_end rfl (SE.var 0))) SJ.nil))))))))) (SSs.nil)) (SSs.one (SS.ret (SE.ite (ST.val (SE.prop "Meter" fx.c_Meter fx.pr_Meter_sealed F_Meter_sealed (hr.mono (by decide)) B_Meter_sealed rfl (SE.var 0))) (SE.joined (SJ.cons (SE.str [109, 101, 116, 101, 114, 32]) (SJ.cons (SE.fmt (SE.prop "Meter" fx.c_Meter fx.pr_Meter_name F_Meter_name (hr.mono (by decide)) B_Meter_name rfl (SE.var 0))) (SJ.cons (SE.str [32]) (SJ.cons (SE.fmt (SE.prop "Meter" fx.c_Meter fx.pr_Meter_at F_Meter_at (hr.mono (by decide)) B_Meter_at rfl (SE.var 0))) (SJ.cons (SE.str [32, 115, 101, 97, 108, 101, 100]) SJ.nil)))))) (SE.joined (SJ.cons (SE.str [109, 101, 116, 101, 114, 32]) (SJ.cons (SE.fmt (SE.prop "Meter" fx.c_Meter fx.pr_Meter_name F_Meter_name (hr.mono (by decide)) B_Meter_name rfl (SE.var 0))) (SJ.cons (SE.str [32]) (SJ.cons (SE.fmt (SE.prop "Meter" fx.c_Meter fx.pr_Meter_at F_Meter_at (hr.mono (by decide)) B_Meter_at rfl (SE.var 0))) SJ.nil))))))))
theorem sc_Net___str__ : FnScope N_Net___str__ ["self"] (defScope (mem 30 16)) := ⟨rfl, rfl, rfl, by decide +kernel, rfl, by decide +kernel, by decide +kernel⟩
theorem q_Net___str__ (fx : Fx K mg) : ∃ fd, FnQ P w K mg base 4 ((aM "Net" "__str__") K) fd ["self"] F_Net___str__ ∧ Binds K fd ["self"] [] := by
  obtain ⟨fd, FD⟩ := fx.d_Net___str__
  obtain ⟨fd_line_of, F_line_of, B_line_of⟩ := q_line_of (P := P) (w := w) (base := base) fx
  refine ⟨fd, fnQ (c := c_Net___str__) FD sc_Net___str__ (by decide) fun cdv A outer s H E hr => ?_, FunD.full FD fun _ _ _ _ _ _ us hl => match us, hl with | [_], _ => rfl⟩
  have tk : Takes (BX P w K mg base N_Net___str__ "Net.__str__" (defScope (mem 30 16)) ((aM "Net" "__str__") K) cdv A outer s H E) (BW E) := tk_cx
  have nd : N_Net___str__.Nodup := sc_Net___str__.nd
  exact SSs.one (SS.ret (SE.m1 met_join PySem.F.slot_str_join PySem.F.type_str_join (SE.str [10]) (SF.fz (SF.lc (own := [("item", 1)]) (vs := [1]) rfl nd (SI.val (SE.tup (SA.star (SE.fld "Net" fx.c_Net fx.na_Net_joined (SE.var 0)) (SA.star (SE.fld "Net" fx.c_Net fx.na_Net_fitted (SE.var 0)) (SA.nil))))) (blkOk_by (by kernel_rfl)) (by decide) (fun _ _ _ _ _ => SG.name 1 nd rfl (by first | exact Or.inl rfl | exact Or.inr rfl)) (fun _ _ _ _ _ => .inl ⟨rfl, rfl⟩) (fun _ _ _ _ _ => SE.call (callee_fn (ps := ["item"]) F_line_of (hr.mono (by decide)) takesB B_line_of Cst.nil) rfl fx.g_line_of fx.k_line_of (SA.cons (SE.var 1) (SA.nil)))))))
theorem sc_Net_read : FnScope N_Net_read ["cls", "text"] (defScope (mem 30 1)) := ⟨rfl, rfl, rfl, by decide +kernel, rfl, by decide +kernel, by decide +kernel⟩
theorem q_Net_read (fx : Fx K mg) : ∃ fd, FnQ P w K mg base 7 ((aR "classmethod" "Net" "read") K) fd ["cls", "text"] F_Net_read ∧ Binds K fd ["cls", "text"] [] := by
  obtain ⟨fd, FD⟩ := fx.d_Net_read
  obtain ⟨fd_item_of, F_item_of, B_item_of⟩ := q_item_of (P := P) (w := w) (base := base) fx
  obtain ⟨fd_Net___init__, F_Net___init__, B_Net___init__⟩ := q_Net___init__ (P := P) (w := w) (base := base) fx
  obtain ⟨fd_Net___str__, F_Net___str__, B_Net___str__⟩ := q_Net___str__ (P := P) (w := w) (base := base) fx
  refine ⟨fd, fnQ (c := c_Net_read) FD sc_Net_read (by decide) fun cdv A outer s H E hr => ?_, FunD.full FD fun _ _ _ _ _ _ us hl => match us, hl with | [_, _], _ => rfl⟩
  have tk : Takes (BX P w K mg base N_Net_read "Net.read" (defScope (mem 30 1)) ((aR "classmethod" "Net" "read") K) cdv A outer s H E) (BW E) := tk_cx
  have nd : N_Net_read.Nodup := sc_Net_read.nd
  exact SSs.cons (SS.if_ (ST.not (ST.val (SE.callB (cd_isi fx.isi) rfl fx.b_isinstance (by kernel_rfl) (SA.cons (SE.var 1) (SA.cons (SE.bty rfl fx.b_str (by kernel_rfl)) (SA.nil)))))) (SSs.one (SS.never)) (SSs.nil)) (SSs.cons (SS.setLc (own := [("line", 3)]) (vs := [3]) 2 fresh_fz rfl rfl (sw_true rfl rfl rfl rfl) rfl nd (SI.val (SE.m1 met_split PySem.F.slot_str_split PySem.F.type_str_split (SE.var 1) (SE.str [10]))) (blkOk_by (by kernel_rfl)) (by decide) (fun _ _ _ _ _ => SG.name 3 nd rfl (by first | exact Or.inl rfl | exact Or.inr rfl)) (fun _ _ _ _ _ => .inl ⟨rfl, rfl⟩) (fun _ _ _ _ _ => SE.call (callee_fn (ps := ["line"]) F_item_of (hr.mono (by decide)) takesB B_item_of Cst.nil) rfl fx.g_item_of fx.k_item_of (SA.cons (SE.var 3) (SA.nil)))) (SSs.cons (SS.set 4 nd rfl (by first | exact Or.inl rfl | exact Or.inr rfl) (SE.callTy cd_tuple rfl fx.b_tuple (by kernel_rfl) (SA.cons (SF.fz (SF.lc (own := [("item", 5)]) (vs := [5]) rfl nd (SI.val (SE.var 2)) (blkOk_by (by kernel_rfl)) (by decide) (fun _ _ _ _ _ => SG.name 5 nd rfl (by first | exact Or.inl rfl | exact Or.inr rfl)) (fun _ _ _ _ _ => .inr ⟨_, rfl, ST.val (SE.callB (cd_isi fx.isi) rfl fx.b_isinstance (by kernel_rfl) (SA.cons (SE.var 5) (SA.cons (SE.gcls rfl fx.g_Pipe) (SA.nil))))⟩) (fun _ _ _ _ _ => SE.var 5))) (SA.nil)))) (SSs.cons (SS.set 6 nd rfl (by first | exact Or.inl rfl | exact Or.inr rfl) (SE.callTy cd_tuple rfl fx.b_tuple (by kernel_rfl) (SA.cons (SF.fz (SF.lc (own := [("item", 5)]) (vs := [5]) rfl nd (SI.val (SE.var 2)) (blkOk_by (by kernel_rfl)) (by decide) (fun _ _ _ _ _ => SG.name 5 nd rfl (by first | exact Or.inl rfl | exact Or.inr rfl)) (fun _ _ _ _ _ => .inr ⟨_, rfl, ST.val (SE.callB (cd_isi fx.isi) rfl fx.b_isinstance (by kernel_rfl) (SA.cons (SE.var 5) (SA.cons (SE.gcls rfl fx.g_Meter) (SA.nil))))⟩) (fun _ _ _ _ _ => SE.var 5))) (SA.nil)))) (SSs.cons (SS.tryNo (SSs.one (SS.set 7 nd rfl (by first | exact Or.inl rfl | exact Or.inr rfl) (SE.callL 0 "Net" (callee_cls (c := "Net") (ps := ["self", "pipes", "meters"]) (keep := false) fx.mk_Net F_Net___init__ (hr.mono (by decide)) Rv.takes0 B_Net___init__ Cst.nil) fx.k_Net (SA.cons (SE.var 4) (SA.cons (SE.var 6) (SA.nil))))))) (SSs.cons (SS.if_ (ST.cmp (opb_ne (Room.units hr.rm)) (SE.callTy (cd_strK (Spc.mk F_Net___str__ (hr.mono (by decide)) B_Net___str__ fx.mt_Net___str__) rfl tk) rfl fx.b_str (by kernel_rfl) (SA.cons (SE.var 7) (SA.nil))) (SE.var 1)) (SSs.one (SS.never)) (SSs.nil)) (SSs.one (SS.ret (SE.var 7))))))))
theorem sc__law_text : FnScope N__law_text ["_law_lines_here", "_law_dials_here"] (defScope (top 44)) := ⟨rfl, rfl, rfl, by decide +kernel, rfl, by decide +kernel, by decide +kernel⟩
theorem q__law_text (fx : Fx K mg) : ∃ fd, FnQ P w K mg base 1 ((aG "_law_text") K) fd ["_law_lines_here", "_law_dials_here"] F__law_text ∧ Binds K fd ["_law_lines_here", "_law_dials_here"] [] := by
  obtain ⟨fd, FD⟩ := fx.d__law_text
  refine ⟨fd, fnQ (c := c__law_text) FD sc__law_text (by decide) fun cdv A outer s H E hr => ?_, FunD.full FD fun _ _ _ _ _ _ us hl => match us, hl with | [_, _], _ => rfl⟩
  have tk : Takes (BX P w K mg base N__law_text "_law_text" (defScope (top 44)) ((aG "_law_text") K) cdv A outer s H E) (BW E) := tk_cx
  have nd : N__law_text.Nodup := sc__law_text.nd
  exact SSs.cons (SS.setLc (own := [("_law_line", 3)]) (vs := [3]) 2 fresh_nw rfl rfl (sw_true rfl rfl rfl rfl) rfl nd (SI.val (SE.var 0)) (blkOk_by (by kernel_rfl)) (by decide) (fun _ _ _ _ _ => SG.name 3 nd rfl (by first | exact Or.inl rfl | exact Or.inr rfl)) (fun _ _ _ _ _ => .inl ⟨rfl, rfl⟩) (fun _ _ _ _ _ => SE.op opb_plus (SE.str [112, 105, 112, 101, 32]) (SE.m1 met_join PySem.F.slot_str_join PySem.F.type_str_join (SE.str [32]) (SE.var 3)))) (SSs.cons (SS.for po_cx rfl (SI.val (SE.var 1)) (SG.tup rfl (SGs.cons (SG.name 4 nd rfl (by first | exact Or.inl rfl | exact Or.inr rfl)) (SGs.cons (SG.name 3 nd rfl (by first | exact Or.inl rfl | exact Or.inr rfl)) (SGs.cons (SG.name 5 nd rfl (by first | exact Or.inl rfl | exact Or.inr rfl)) (SGs.nil)))) (fun _ _ _ h => gsC_len (fun _ _ _ h => gsC_len (fun _ _ _ h => gsC_len (fun _ _ _ h => gsN_len h) h) h) h)) (SSs.one (SS.expr (SE.append (SE.var 2) (SE.op opb_plus (SE.op opb_plus (SE.op opb_plus (SE.op opb_plus (SE.str [109, 101, 116, 101, 114, 32]) (SE.var 4)) (SE.str [32])) (SE.var 3)) (SE.ite (ST.val (SE.var 5)) (SE.str [32, 115, 101, 97, 108, 101, 100]) (SE.str []))))))) (SSs.one (SS.ret (SE.m1 met_join PySem.F.slot_str_join PySem.F.type_str_join (SE.str [10]) (SE.var 2)))))
theorem sc_check_net : FnScope N_check_net ["value"] (defScope (top 31)) := ⟨rfl, rfl, rfl, by decide +kernel, rfl, by decide +kernel, by decide +kernel⟩
theorem q_check_net (fx : Fx K mg) : ∃ fd, FnQ P w K mg base 1 ((aG "check_net") K) fd ["value"] F_check_net ∧ Binds K fd ["value"] [] := by
  obtain ⟨fd, FD⟩ := fx.d_check_net
  refine ⟨fd, fnQ (c := c_check_net) FD sc_check_net (by decide) fun cdv A outer s H E hr => ?_, FunD.full FD fun _ _ _ _ _ _ us hl => match us, hl with | [_], _ => rfl⟩
  have tk : Takes (BX P w K mg base N_check_net "check_net" (defScope (top 31)) ((aG "check_net") K) cdv A outer s H E) (BW E) := tk_cx
  have nd : N_check_net.Nodup := sc_check_net.nd
  exact SSs.one (SS.if_ (ST.not (ST.val (SE.callB (cd_isi fx.isi) rfl fx.b_isinstance (by kernel_rfl) (SA.cons (SE.var 0) (SA.cons (SE.gcls rfl fx.g_Net) (SA.nil)))))) (SSs.one (SS.never)) (SSs.nil))
theorem sc_Net_meters : FnScope N_Net_meters ["self"] (defScope (mem 30 3)) := ⟨rfl, rfl, rfl, by decide +kernel, rfl, by decide +kernel, by decide +kernel⟩
theorem q_Net_meters (fx : Fx K mg) : ∃ fd, FnQ P w K mg base 1 ((aR "property" "Net" "meters") K) fd ["self"] F_Net_meters ∧ Binds K fd ["self"] [] := by
  obtain ⟨fd, FD⟩ := fx.d_Net_meters
  refine ⟨fd, fnQ (c := c_Net_meters) FD sc_Net_meters (by decide) fun cdv A outer s H E hr => ?_, FunD.full FD fun _ _ _ _ _ _ us hl => match us, hl with | [_], _ => rfl⟩
  have tk : Takes (BX P w K mg base N_Net_meters "Net.meters" (defScope (mem 30 3)) ((aR "property" "Net" "meters") K) cdv A outer s H E) (BW E) := tk_cx
  have nd : N_Net_meters.Nodup := sc_Net_meters.nd
  exact SSs.one (SS.ret (SE.fld "Net" fx.c_Net fx.na_Net_fitted (SE.var 0)))
theorem sc_Desk___init__ : FnScope N_Desk___init__ ["self", "net"] (defScope (mem 35 0)) := ⟨rfl, rfl, rfl, by decide +kernel, rfl, by decide +kernel, by decide +kernel⟩
theorem q_Desk___init__ (fx : Fx K mg) : ∃ fd, FnQ P w K mg base 3 ((aM "Desk" "__init__") K) fd ["self", "net"] F_Desk___init__ ∧ Binds K fd ["self", "net"] [] ∧ BindsK K fd ["self", "net"] 1 ["net"] [] := by
  obtain ⟨fd, FD⟩ := fx.d_Desk___init__
  obtain ⟨fd_check_net, F_check_net, B_check_net⟩ := q_check_net (P := P) (w := w) (base := base) fx
  obtain ⟨fd_Net_meters, F_Net_meters, B_Net_meters⟩ := q_Net_meters (P := P) (w := w) (base := base) fx
  obtain ⟨fd_Meter_sealed, F_Meter_sealed, B_Meter_sealed⟩ := q_Meter_sealed (P := P) (w := w) (base := base) fx
  refine ⟨fd, fnQ (c := c_Desk___init__) FD sc_Desk___init__ (by decide) fun cdv A outer s H E hr => ?_, FunD.full FD fun _ _ _ _ _ _ us hl => match us, hl with | [_, _], _ => rfl, FunD.fullK FD 1 ["net"] fun _ _ _ _ _ _ us ws l1 l2 => match us, ws, l1, l2 with | [_], [_], _, _ => rfl⟩
  have tk : Takes (BX P w K mg base N_Desk___init__ "Desk.__init__" (defScope (mem 35 0)) ((aM "Desk" "__init__") K) cdv A outer s H E) (BW E) := tk_cx
  have nd : N_Desk___init__.Nodup := sc_Desk___init__.nd
  exact SSs.cons (SS.expr (SE.call (callee_fn (ps := ["value"]) F_check_net (hr.mono (by decide)) tk B_check_net Cst.nil) rfl fx.g_check_net fx.k_check_net (SA.cons (SE.var 1) (SA.nil)))) (SSs.cons (SS.fld "Desk" fx.c_Desk fx.na_Desk_board (SE.var 0) (SE.var 1)) (SSs.cons (SS.fld "Desk" fx.c_Desk fx.na_Desk_now (SE.var 0) (SE.callTy cd_tuple rfl fx.b_tuple (by kernel_rfl) (SA.cons (SF.fz (SF.lc (own := [("meter", 2)]) (vs := [2]) rfl nd (SI.val (SE.prop "Net" fx.c_Net fx.pr_Net_meters F_Net_meters (hr.mono (by decide)) B_Net_meters rfl (SE.var 1))) (blkOk_by (by kernel_rfl)) (by decide) (fun _ _ _ _ _ => SG.name 2 nd rfl (by first | exact Or.inl rfl | exact Or.inr rfl)) (fun _ _ _ _ _ => .inl ⟨rfl, rfl⟩) (fun _ _ _ _ _ => SE.ite (ST.val (SE.prop "Meter" fx.c_Meter fx.pr_Meter_sealed F_Meter_sealed (hr.mono (by decide)) B_Meter_sealed rfl (SE.var 2))) (SE.int) (SE.non)))) (SA.nil)))) (SSs.one (SS.fld "Desk" fx.c_Desk fx.na_Desk_past (SE.var 0) (SE.tup (SA.nil))))))
theorem sc_Desk_readings : FnScope N_Desk_readings ["self"] (defScope (mem 35 2)) := ⟨rfl, rfl, rfl, by decide +kernel, rfl, by decide +kernel, by decide +kernel⟩
theorem q_Desk_readings (fx : Fx K mg) : ∃ fd, FnQ P w K mg base 1 ((aR "property" "Desk" "readings") K) fd ["self"] F_Desk_readings ∧ Binds K fd ["self"] [] := by
  obtain ⟨fd, FD⟩ := fx.d_Desk_readings
  refine ⟨fd, fnQ (c := c_Desk_readings) FD sc_Desk_readings (by decide) fun cdv A outer s H E hr => ?_, FunD.full FD fun _ _ _ _ _ _ us hl => match us, hl with | [_], _ => rfl⟩
  have tk : Takes (BX P w K mg base N_Desk_readings "Desk.readings" (defScope (mem 35 2)) ((aR "property" "Desk" "readings") K) cdv A outer s H E) (BW E) := tk_cx
  have nd : N_Desk_readings.Nodup := sc_Desk_readings.nd
  exact SSs.one (SS.ret (SE.fld "Desk" fx.c_Desk fx.na_Desk_now (SE.var 0)))
theorem sc_Desk_changes : FnScope N_Desk_changes ["self"] (defScope (mem 35 3)) := ⟨rfl, rfl, rfl, by decide +kernel, rfl, by decide +kernel, by decide +kernel⟩
theorem q_Desk_changes (fx : Fx K mg) : ∃ fd, FnQ P w K mg base 1 ((aR "property" "Desk" "changes") K) fd ["self"] F_Desk_changes ∧ Binds K fd ["self"] [] := by
  obtain ⟨fd, FD⟩ := fx.d_Desk_changes
  refine ⟨fd, fnQ (c := c_Desk_changes) FD sc_Desk_changes (by decide) fun cdv A outer s H E hr => ?_, FunD.full FD fun _ _ _ _ _ _ us hl => match us, hl with | [_], _ => rfl⟩
  have tk : Takes (BX P w K mg base N_Desk_changes "Desk.changes" (defScope (mem 35 3)) ((aR "property" "Desk" "changes") K) cdv A outer s H E) (BW E) := tk_cx
  have nd : N_Desk_changes.Nodup := sc_Desk_changes.nd
  exact SSs.one (SS.ret (SE.callB cd_len rfl fx.b_len (by kernel_rfl) (SA.cons (SE.fld "Desk" fx.c_Desk fx.na_Desk_past (SE.var 0)) (SA.nil))))
theorem sc_Desk___len__ : FnScope N_Desk___len__ ["self"] (defScope (mem 35 8)) := ⟨rfl, rfl, rfl, by decide +kernel, rfl, by decide +kernel, by decide +kernel⟩
theorem q_Desk___len__ (fx : Fx K mg) : ∃ fd, FnQ P w K mg base 1 ((aM "Desk" "__len__") K) fd ["self"] F_Desk___len__ ∧ Binds K fd ["self"] [] := by
  obtain ⟨fd, FD⟩ := fx.d_Desk___len__
  refine ⟨fd, fnQ (c := c_Desk___len__) FD sc_Desk___len__ (by decide) fun cdv A outer s H E hr => ?_, FunD.full FD fun _ _ _ _ _ _ us hl => match us, hl with | [_], _ => rfl⟩
  have tk : Takes (BX P w K mg base N_Desk___len__ "Desk.__len__" (defScope (mem 35 8)) ((aM "Desk" "__len__") K) cdv A outer s H E) (BW E) := tk_cx
  have nd : N_Desk___len__.Nodup := sc_Desk___len__.nd
  exact SSs.one (SS.ret (SE.callB cd_len rfl fx.b_len (by kernel_rfl) (SA.cons (SF.fz (SF.lc (own := [("reading", 1)]) (vs := [1]) rfl nd (SI.val (SE.fld "Desk" fx.c_Desk fx.na_Desk_now (SE.var 0))) (blkOk_by (by kernel_rfl)) (by decide) (fun _ _ _ _ _ => SG.name 1 nd rfl (by first | exact Or.inl rfl | exact Or.inr rfl)) (fun _ _ _ _ _ => .inr ⟨_, rfl, ST.cmp opb_isnot (SE.var 1) (SE.non)⟩) (fun _ _ _ _ _ => SE.var 1))) (SA.nil))))
theorem sc_seat_of : FnScope N_seat_of ["meters", "name"] (defScope (top 33)) := ⟨rfl, rfl, rfl, by decide +kernel, rfl, by decide +kernel, by decide +kernel⟩
theorem q_seat_of (fx : Fx K mg) : ∃ fd, FnQ P w K mg base 3 ((aG "seat_of") K) fd ["meters", "name"] F_seat_of ∧ Binds K fd ["meters", "name"] [] := by
  obtain ⟨fd, FD⟩ := fx.d_seat_of
  obtain ⟨fd_Meter_name, F_Meter_name, B_Meter_name⟩ := q_Meter_name (P := P) (w := w) (base := base) fx
  refine ⟨fd, fnQ (c := c_seat_of) FD sc_seat_of (by decide) fun cdv A outer s H E hr => ?_, FunD.full FD fun _ _ _ _ _ _ us hl => match us, hl with | [_, _], _ => rfl⟩
  have tk : Takes (BX P w K mg base N_seat_of "seat_of" (defScope (top 33)) ((aG "seat_of") K) cdv A outer s H E) (BW E) := tk_cx
  have nd : N_seat_of.Nodup := sc_seat_of.nd
  exact SSs.cons (SS.for po_cx rfl (SI.enumT rfl fx.b_enumerate (SA.cons (SE.var 0) (SA.nil))) (SG.tup rfl (SGs.cons (SG.name 2 nd rfl (by first | exact Or.inl rfl | exact Or.inr rfl)) (SGs.cons (SG.name 3 nd rfl (by first | exact Or.inl rfl | exact Or.inr rfl)) (SGs.nil))) (fun _ _ _ h => gsC_len (fun _ _ _ h => gsC_len (fun _ _ _ h => gsN_len h) h) h)) (SSs.one (SS.if_ (SW.st (SW.and (ST.val (SE.callB (cd_isi fx.isi) rfl fx.b_isinstance (by kernel_rfl) (SA.cons (SE.var 1) (SA.cons (SE.bty rfl fx.b_str (by kernel_rfl)) (SA.nil))))) (SW.and1 (ST.cmp (opb_eq (Room.units hr.rm)) (SE.prop "Meter" fx.c_Meter fx.pr_Meter_name F_Meter_name (hr.mono (by decide)) B_Meter_name rfl (SE.var 3)) (SE.var 1))))) (SSs.one (SS.ret (SE.var 2))) (SSs.nil)))) (SSs.one (SS.never))
theorem sc_Desk___getitem__ : FnScope N_Desk___getitem__ ["self", "name"] (defScope (mem 35 4)) := ⟨rfl, rfl, rfl, by decide +kernel, rfl, by decide +kernel, by decide +kernel⟩
theorem q_Desk___getitem__ (fx : Fx K mg) : ∃ fd, FnQ P w K mg base 4 ((aM "Desk" "__getitem__") K) fd ["self", "name"] F_Desk___getitem__ ∧ Binds K fd ["self", "name"] [] := by
  obtain ⟨fd, FD⟩ := fx.d_Desk___getitem__
  obtain ⟨fd_seat_of, F_seat_of, B_seat_of⟩ := q_seat_of (P := P) (w := w) (base := base) fx
  obtain ⟨fd_Net_meters, F_Net_meters, B_Net_meters⟩ := q_Net_meters (P := P) (w := w) (base := base) fx
  refine ⟨fd, fnQ (c := c_Desk___getitem__) FD sc_Desk___getitem__ (by decide) fun cdv A outer s H E hr => ?_, FunD.full FD fun _ _ _ _ _ _ us hl => match us, hl with | [_, _], _ => rfl⟩
  have tk : Takes (BX P w K mg base N_Desk___getitem__ "Desk.__getitem__" (defScope (mem 35 4)) ((aM "Desk" "__getitem__") K) cdv A outer s H E) (BW E) := tk_cx
  have nd : N_Desk___getitem__.Nodup := sc_Desk___getitem__.nd
  exact SSs.one (SS.ret (SE.ix opi_ix (SE.fld "Desk" fx.c_Desk fx.na_Desk_now (SE.var 0)) (SE.call (callee_fn (ps := ["meters", "name"]) F_seat_of (hr.mono (by decide)) tk B_seat_of Cst.nil) rfl fx.g_seat_of fx.k_seat_of (SA.cons (SE.prop "Net" fx.c_Net fx.pr_Net_meters F_Net_meters (hr.mono (by decide)) B_Net_meters rfl (SE.fld "Desk" fx.c_Desk fx.na_Desk_board (SE.var 0))) (SA.cons (SE.var 1) (SA.nil))))))
theorem sc_Desk___contains__ : FnScope N_Desk___contains__ ["self", "value"] (defScope (mem 35 7)) := ⟨rfl, rfl, rfl, by decide +kernel, rfl, by decide +kernel, by decide +kernel⟩
theorem q_Desk___contains__ (fx : Fx K mg) : ∃ fd, FnQ P w K mg base 3 ((aM "Desk" "__contains__") K) fd ["self", "value"] F_Desk___contains__ ∧ Binds K fd ["self", "value"] [] := by
  obtain ⟨fd, FD⟩ := fx.d_Desk___contains__
  obtain ⟨fd_Net_meters, F_Net_meters, B_Net_meters⟩ := q_Net_meters (P := P) (w := w) (base := base) fx
  obtain ⟨fd_Meter_name, F_Meter_name, B_Meter_name⟩ := q_Meter_name (P := P) (w := w) (base := base) fx
  refine ⟨fd, fnQ (c := c_Desk___contains__) FD sc_Desk___contains__ (by decide) fun cdv A outer s H E hr => ?_, FunD.full FD fun _ _ _ _ _ _ us hl => match us, hl with | [_, _], _ => rfl⟩
  have tk : Takes (BX P w K mg base N_Desk___contains__ "Desk.__contains__" (defScope (mem 35 7)) ((aM "Desk" "__contains__") K) cdv A outer s H E) (BW E) := tk_cx
  have nd : N_Desk___contains__.Nodup := sc_Desk___contains__.nd
  exact SSs.cons (SS.setLc (own := [("meter", 3), ("reading", 4)]) (vs := [3, 4]) 2 fresh_fz rfl rfl (sw_true rfl rfl rfl rfl) rfl nd (SI.zip rfl fx.b_zip (SA.cons (SE.prop "Net" fx.c_Net fx.pr_Net_meters F_Net_meters (hr.mono (by decide)) B_Net_meters rfl (SE.fld "Desk" fx.c_Desk fx.na_Desk_board (SE.var 0))) (SA.cons (SE.fld "Desk" fx.c_Desk fx.na_Desk_now (SE.var 0)) (SA.nil)))) (blkOk_by (by kernel_rfl)) (by decide) (fun _ _ _ _ _ => SG.tup rfl (SGs.cons (SG.name 3 nd rfl (by first | exact Or.inl rfl | exact Or.inr rfl)) (SGs.cons (SG.name 4 nd rfl (by first | exact Or.inl rfl | exact Or.inr rfl)) (SGs.nil))) (fun _ _ _ h => gsC_len (fun _ _ _ h => gsC_len (fun _ _ _ h => gsN_len h) h) h)) (fun _ _ _ _ _ => .inr ⟨_, rfl, ST.cmp opb_isnot (SE.var 4) (SE.non)⟩) (fun _ _ _ _ _ => SE.prop "Meter" fx.c_Meter fx.pr_Meter_name F_Meter_name (hr.mono (by decide)) B_Meter_name rfl (SE.var 3))) (SSs.one (SS.ret (SE.and (SE.callB (cd_isi fx.isi) rfl fx.b_isinstance (by kernel_rfl) (SA.cons (SE.var 1) (SA.cons (SE.bty rfl fx.b_str (by kernel_rfl)) (SA.nil)))) (SE.bone (SE.cmp opb_in (SE.var 1) (SE.var 2))))))
theorem sc_Desk_net : FnScope N_Desk_net ["self"] (defScope (mem 35 1)) := ⟨rfl, rfl, rfl, by decide +kernel, rfl, by decide +kernel, by decide +kernel⟩
theorem q_Desk_net (fx : Fx K mg) : ∃ fd, FnQ P w K mg base 1 ((aR "property" "Desk" "net") K) fd ["self"] F_Desk_net ∧ Binds K fd ["self"] [] := by
  obtain ⟨fd, FD⟩ := fx.d_Desk_net
  refine ⟨fd, fnQ (c := c_Desk_net) FD sc_Desk_net (by decide) fun cdv A outer s H E hr => ?_, FunD.full FD fun _ _ _ _ _ _ us hl => match us, hl with | [_], _ => rfl⟩
  have tk : Takes (BX P w K mg base N_Desk_net "Desk.net" (defScope (mem 35 1)) ((aR "property" "Desk" "net") K) cdv A outer s H E) (BW E) := tk_cx
  have nd : N_Desk_net.Nodup := sc_Desk_net.nd
  exact SSs.one (SS.ret (SE.fld "Desk" fx.c_Desk fx.na_Desk_board (SE.var 0)))
theorem sc_Net___eq__ : FnScope N_Net___eq__ ["self", "other"] (defScope (mem 30 18)) := ⟨rfl, rfl, rfl, by decide +kernel, rfl, by decide +kernel, by decide +kernel⟩
theorem q_Net___eq__ (fx : Fx K mg) : ∃ fd, FnQ P w K mg base 7 ((aM "Net" "__eq__") K) fd ["self", "other"] F_Net___eq__ ∧ Binds K fd ["self", "other"] [] := by
  obtain ⟨fd, FD⟩ := fx.d_Net___eq__
  obtain ⟨fd_Net___str__, F_Net___str__, B_Net___str__⟩ := q_Net___str__ (P := P) (w := w) (base := base) fx
  refine ⟨fd, fnQ (c := c_Net___eq__) FD sc_Net___eq__ (by decide) fun cdv A outer s H E hr => ?_, FunD.full FD fun _ _ _ _ _ _ us hl => match us, hl with | [_, _], _ => rfl⟩
  have tk : Takes (BX P w K mg base N_Net___eq__ "Net.__eq__" (defScope (mem 30 18)) ((aM "Net" "__eq__") K) cdv A outer s H E) (BW E) := tk_cx
  have nd : N_Net___eq__.Nodup := sc_Net___eq__.nd
  exact SSs.one (SS.ret (SE.and (SE.callB (cd_isi fx.isi) rfl fx.b_isinstance (by kernel_rfl) (SA.cons (SE.var 1) (SA.cons (SE.gcls rfl fx.g_Net) (SA.nil)))) (SE.bone (SE.cmp (opb_eq (Room.units hr.rm)) (SE.callTy (cd_strK (Spc.mk F_Net___str__ (hr.mono (by decide)) B_Net___str__ fx.mt_Net___str__) rfl tk) rfl fx.b_str (by kernel_rfl) (SA.cons (SE.var 0) (SA.nil))) (SE.callTy (cd_strK (Spc.mk F_Net___str__ (hr.mono (by decide)) B_Net___str__ fx.mt_Net___str__) rfl tk) rfl fx.b_str (by kernel_rfl) (SA.cons (SE.var 1) (SA.nil)))))))
theorem sc_Desk___bool__ : FnScope N_Desk___bool__ ["self"] (defScope (mem 35 9)) := ⟨rfl, rfl, rfl, by decide +kernel, rfl, by decide +kernel, by decide +kernel⟩
theorem q_Desk___bool__ (fx : Fx K mg) : ∃ fd, FnQ P w K mg base 1 ((aM "Desk" "__bool__") K) fd ["self"] F_Desk___bool__ ∧ Binds K fd ["self"] [] := by
  obtain ⟨fd, FD⟩ := fx.d_Desk___bool__
  refine ⟨fd, fnQ (c := c_Desk___bool__) FD sc_Desk___bool__ (by decide) fun cdv A outer s H E hr => ?_, FunD.full FD fun _ _ _ _ _ _ us hl => match us, hl with | [_], _ => rfl⟩
  have tk : Takes (BX P w K mg base N_Desk___bool__ "Desk.__bool__" (defScope (mem 35 9)) ((aM "Desk" "__bool__") K) cdv A outer s H E) (BW E) := tk_cx
  have nd : N_Desk___bool__.Nodup := sc_Desk___bool__.nd
  exact SSs.one (SS.ret (SE.bl))
theorem sc__law_desk_right : FnScope N__law_desk_right ["_law_desk", "_law_grid", "_law_lines_here", "_law_dials_here", "_law_shown", "_law_many"] (defScope (top 47)) := ⟨rfl, rfl, rfl, by decide +kernel, rfl, by decide +kernel, by decide +kernel⟩
theorem q__law_desk_right (fx : Fx K mg) : ∃ fd, FnQ P w K mg base 10 ((aG "_law_desk_right") K) fd ["_law_desk", "_law_grid", "_law_lines_here", "_law_dials_here", "_law_shown", "_law_many"] F__law_desk_right ∧ Binds K fd ["_law_desk", "_law_grid", "_law_lines_here", "_law_dials_here", "_law_shown", "_law_many"] [] := by
  obtain ⟨fd, FD⟩ := fx.d__law_desk_right
  obtain ⟨fd_Desk_readings, F_Desk_readings, B_Desk_readings⟩ := q_Desk_readings (P := P) (w := w) (base := base) fx
  obtain ⟨fd_Desk_changes, F_Desk_changes, B_Desk_changes⟩ := q_Desk_changes (P := P) (w := w) (base := base) fx
  obtain ⟨fd_Desk___len__, F_Desk___len__, B_Desk___len__⟩ := q_Desk___len__ (P := P) (w := w) (base := base) fx
  obtain ⟨fd_Desk___getitem__, F_Desk___getitem__, B_Desk___getitem__⟩ := q_Desk___getitem__ (P := P) (w := w) (base := base) fx
  obtain ⟨fd_Desk___contains__, F_Desk___contains__, B_Desk___contains__⟩ := q_Desk___contains__ (P := P) (w := w) (base := base) fx
  obtain ⟨fd_Desk_net, F_Desk_net, B_Desk_net⟩ := q_Desk_net (P := P) (w := w) (base := base) fx
  obtain ⟨fd_Net___eq__, F_Net___eq__, B_Net___eq__⟩ := q_Net___eq__ (P := P) (w := w) (base := base) fx
  obtain ⟨fd_Desk___bool__, F_Desk___bool__, B_Desk___bool__⟩ := q_Desk___bool__ (P := P) (w := w) (base := base) fx
  refine ⟨fd, fnQ (c := c__law_desk_right) FD sc__law_desk_right (by decide) fun cdv A outer s H E hr => ?_, FunD.full FD fun _ _ _ _ _ _ us hl => match us, hl with | [_, _, _, _, _, _], _ => rfl⟩
  have tk : Takes (BX P w K mg base N__law_desk_right "_law_desk_right" (defScope (top 47)) ((aG "_law_desk_right") K) cdv A outer s H E) (BW E) := tk_cx
  have nd : N__law_desk_right.Nodup := sc__law_desk_right.nd
  exact SSs.cons (SS.set 6 nd rfl (by first | exact Or.inl rfl | exact Or.inr rfl) (SF.fz (SF.lc (own := [("_law_dial", 7)]) (vs := [7]) rfl nd (SI.val (SE.var 3)) (blkOk_by (by kernel_rfl)) (by decide) (fun _ _ _ _ _ => SG.name 7 nd rfl (by first | exact Or.inl rfl | exact Or.inr rfl)) (fun _ _ _ _ _ => .inl ⟨rfl, rfl⟩) (fun _ _ _ _ _ => SE.ix opi_ix (SE.var 7) (SE.int))))) (SSs.cons (SS.set 8 nd rfl (by first | exact Or.inl rfl | exact Or.inr rfl) (SF.fz (SF.lc (own := [("_law_k", 9)]) (vs := [9]) rfl nd (SI.range1 rfl fx.b_range (SA.cons (SE.callB cd_len rfl fx.b_len (by kernel_rfl) (SA.cons (SE.var 6) (SA.nil))) (SA.nil))) (blkOk_by (by kernel_rfl)) (by decide) (fun _ _ _ _ _ => SG.name 9 nd rfl (by first | exact Or.inl rfl | exact Or.inr rfl)) (fun _ _ _ _ _ => .inr ⟨_, rfl, ST.cmp opb_isnot (SE.ix opi_ix (SE.var 4) (SE.var 9)) (SE.non)⟩) (fun _ _ _ _ _ => SE.ix opi_ix (SE.var 6) (SE.var 9))))) (SSs.cons (SS.set 10 nd rfl (by first | exact Or.inl rfl | exact Or.inr rfl) (SF.fz (SF.lst (SA.cons (SE.prop "Desk" fx.c_Desk fx.pr_Desk_readings F_Desk_readings (hr.mono (by decide)) B_Desk_readings rfl (SE.var 0)) (SA.cons (SE.prop "Desk" fx.c_Desk fx.pr_Desk_changes F_Desk_changes (hr.mono (by decide)) B_Desk_changes rfl (SE.var 0)) (SA.cons (SE.callB (cd_lenK (Spc.mk F_Desk___len__ (hr.mono (by decide)) B_Desk___len__ fx.mt_Desk___len__) rfl tk) rfl fx.b_len (by kernel_rfl) (SA.cons (SE.var 0) (SA.nil))) (SA.cons (SF.fz (SF.lc (own := [("_law_tag", 11)]) (vs := [11]) rfl nd (SI.val (SE.var 6)) (blkOk_by (by kernel_rfl)) (by decide) (fun _ _ _ _ _ => SG.name 11 nd rfl (by first | exact Or.inl rfl | exact Or.inr rfl)) (fun _ _ _ _ _ => .inl ⟨rfl, rfl⟩) (fun _ _ _ _ _ => SE.ixK (Spc.mk F_Desk___getitem__ (hr.mono (by decide)) B_Desk___getitem__ fx.mt_Desk___getitem__) rfl fx.fn_Desk___getitem__ takesB (SE.var 0) (SE.var 11)))) (SA.cons (SF.fz (SF.lc (own := [("_law_tag", 11)]) (vs := [11]) rfl nd (SI.val (SE.var 6)) (blkOk_by (by kernel_rfl)) (by decide) (fun _ _ _ _ _ => SG.name 11 nd rfl (by first | exact Or.inl rfl | exact Or.inr rfl)) (fun _ _ _ _ _ => .inl ⟨rfl, rfl⟩) (fun _ _ _ _ _ => SE.cmp (opb_inK (Spc.mk F_Desk___contains__ (hr.mono (by decide)) B_Desk___contains__ fx.mt_Desk___contains__) rfl takesB) (SE.var 11) (SE.var 0)))) (SA.nil))))))))) (SSs.cons (SS.set 12 nd rfl (by first | exact Or.inl rfl | exact Or.inr rfl) (SF.fz (SF.lst (SA.cons (SE.callTy cd_tuple rfl fx.b_tuple (by kernel_rfl) (SA.cons (SE.var 4) (SA.nil))) (SA.cons (SE.var 5) (SA.cons (SE.callB cd_len rfl fx.b_len (by kernel_rfl) (SA.cons (SE.var 8) (SA.nil))) (SA.cons (SE.var 4) (SA.cons (SF.fz (SF.lc (own := [("_law_tag", 11)]) (vs := [11]) rfl nd (SI.val (SE.var 6)) (blkOk_by (by kernel_rfl)) (by decide) (fun _ _ _ _ _ => SG.name 11 nd rfl (by first | exact Or.inl rfl | exact Or.inr rfl)) (fun _ _ _ _ _ => .inl ⟨rfl, rfl⟩) (fun _ _ _ _ _ => SE.cmp opb_in (SE.var 11) (SE.var 8)))) (SA.nil))))))))) (SSs.cons (SS.if_ (SW.st (SW.or (ST.cmp (opb_ne (Room.units hr.rm)) (SE.callB (cd_repr hr) rfl fx.b_repr (by kernel_rfl) (SA.cons (SE.var 10) (SA.nil))) (SE.callB (cd_repr hr) rfl fx.b_repr (by kernel_rfl) (SA.cons (SE.var 12) (SA.nil)))) (SW.or (ST.cmp (opb_neK (Spc.mk F_Net___eq__ (hr.mono (by decide)) B_Net___eq__ fx.mt_Net___eq__) rfl fx.nb_Net fx.eo_Net tk) (SE.prop "Desk" fx.c_Desk fx.pr_Desk_net F_Desk_net (hr.mono (by decide)) B_Desk_net rfl (SE.var 0)) (SE.var 1)) (SW.or1 (ST.not (ST.own (Spc.mk F_Desk___bool__ (hr.mono (by decide)) B_Desk___bool__ fx.mt_Desk___bool__) rfl tk (SE.var 0))))))) (SSs.one (SS.ret (SE.bl))) (SSs.nil)) (SSs.cons (SS.if_ (ST.cmp (opb_ne (Room.units hr.rm)) (SF.fz (SF.lc (own := [("_law_line", 13)]) (vs := [13]) rfl nd (SI.val (SE.var 2)) (blkOk_by (by kernel_rfl)) (by decide) (fun _ _ _ _ _ => SG.name 13 nd rfl (by first | exact Or.inl rfl | exact Or.inr rfl)) (fun _ _ _ _ _ => .inl ⟨rfl, rfl⟩) (fun _ _ _ _ _ => SE.cmp (opb_inK (Spc.mk F_Desk___contains__ (hr.mono (by decide)) B_Desk___contains__ fx.mt_Desk___contains__) rfl takesB) (SE.ix opi_ix (SE.var 13) (SE.int)) (SE.var 0)))) (SF.fz (SF.lc (own := [("_law_line", 13)]) (vs := [13]) rfl nd (SI.val (SE.var 2)) (blkOk_by (by kernel_rfl)) (by decide) (fun _ _ _ _ _ => SG.name 13 nd rfl (by first | exact Or.inl rfl | exact Or.inr rfl)) (fun _ _ _ _ _ => .inl ⟨rfl, rfl⟩) (fun _ _ _ _ _ => SE.cmp opb_in (SE.ix opi_ix (SE.var 13) (SE.int)) (SE.var 8))))) (SSs.one (SS.ret (SE.bl))) (SSs.nil)) (SSs.one (SS.ret (SE.cmp (opb_eq (Room.units hr.rm)) (SF.fz (SF.lc (own := [("_law_thing", 14)]) (vs := [14]) rfl nd (SI.val (SF.fz (SF.lst (SA.cons (SE.non) (SA.cons (SE.int) (SA.cons (SE.bl) (SA.cons (SE.str []) (SA.cons (SE.str [77]) (SA.cons (SE.tup (SA.nil)) (SA.cons (SE.var 6) (SA.cons (SE.dict0) (SA.cons (SE.var 1) (SA.cons (SE.var 0) (SA.nil)))))))))))))) (blkOk_by (by kernel_rfl)) (by decide) (fun _ _ _ _ _ => SG.name 14 nd rfl (by first | exact Or.inl rfl | exact Or.inr rfl)) (fun _ _ _ _ _ => .inl ⟨rfl, rfl⟩) (fun _ _ _ _ _ => SE.cmp (opb_inK (Spc.mk F_Desk___contains__ (hr.mono (by decide)) B_Desk___contains__ fx.mt_Desk___contains__) rfl takesB) (SE.var 14) (SE.var 0)))) (SE.op opb_times (SF.fz (SF.lst (SA.cons (SE.bl) (SA.nil)))) (SE.int))))))))))
theorem sc__law_both_right : FnScope N__law_both_right ["_law_both", "_law_grid", "_law_lines_here", "_law_dials_here", "_law_shown", "_law_many"] (defScope (top 48)) := ⟨rfl, rfl, rfl, by decide +kernel, rfl, by decide +kernel, by decide +kernel⟩
theorem q__law_both_right (fx : Fx K mg) : ∃ fd, FnQ P w K mg base 11 ((aG "_law_both_right") K) fd ["_law_both", "_law_grid", "_law_lines_here", "_law_dials_here", "_law_shown", "_law_many"] F__law_both_right ∧ Binds K fd ["_law_both", "_law_grid", "_law_lines_here", "_law_dials_here", "_law_shown", "_law_many"] [] := by
  obtain ⟨fd, FD⟩ := fx.d__law_both_right
  obtain ⟨fd__law_desk_right, F__law_desk_right, B__law_desk_right⟩ := q__law_desk_right (P := P) (w := w) (base := base) fx
  refine ⟨fd, fnQ (c := c__law_both_right) FD sc__law_both_right (by decide) fun cdv A outer s H E hr => ?_, FunD.full FD fun _ _ _ _ _ _ us hl => match us, hl with | [_, _, _, _, _, _], _ => rfl⟩
  have tk : Takes (BX P w K mg base N__law_both_right "_law_both_right" (defScope (top 48)) ((aG "_law_both_right") K) cdv A outer s H E) (BW E) := tk_cx
  have nd : N__law_both_right.Nodup := sc__law_both_right.nd
  exact SSs.cons (SS.for po_cx rfl (SI.range1 rfl fx.b_range (SA.cons (SE.int) (SA.nil))) (SG.name 6 nd rfl (by first | exact Or.inl rfl | exact Or.inr rfl)) (SSs.one (SS.if_ (ST.not (ST.val (SE.call (callee_fn (ps := ["_law_desk", "_law_grid", "_law_lines_here", "_law_dials_here", "_law_shown", "_law_many"]) F__law_desk_right (hr.mono (by decide)) tk B__law_desk_right Cst.nil) rfl fx.g__law_desk_right fx.k__law_desk_right (SA.cons (SE.ix opi_ix (SE.var 0) (SE.var 6)) (SA.cons (SE.var 1) (SA.cons (SE.var 2) (SA.cons (SE.var 3) (SA.cons (SE.ix opi_ix (SE.var 4) (SE.var 6)) (SA.cons (SE.ix opi_ix (SE.var 5) (SE.var 6)) (SA.nil)))))))))) (SSs.one (SS.ret (SE.bl))) (SSs.nil)))) (SSs.one (SS.ret (SE.bl)))
theorem sc__law_number : FnScope N__law_number ["_law_pool_here"] (defScope (top 45)) := ⟨rfl, rfl, rfl, by decide +kernel, rfl, by decide +kernel, by decide +kernel⟩
theorem q__law_number (fx : Fx K mg) : ∃ fd, FnQ P w K mg base 2 ((aG "_law_number") K) fd ["_law_pool_here"] F__law_number ∧ Binds K fd ["_law_pool_here"] [] := by
  obtain ⟨fd, FD⟩ := fx.d__law_number
  obtain ⟨fd__law_draw, F__law_draw, B__law_draw⟩ := q__law_draw (P := P) (w := w) (base := base) fx
  refine ⟨fd, fnQ (c := c__law_number) FD sc__law_number (by decide) fun cdv A outer s H E hr => ?_, FunD.full FD fun _ _ _ _ _ _ us hl => match us, hl with | [_], _ => rfl⟩
  have tk : Takes (BX P w K mg base N__law_number "_law_number" (defScope (top 45)) ((aG "_law_number") K) cdv A outer s H E) (BW E) := tk_cx
  have nd : N__law_number.Nodup := sc__law_number.nd
  exact SSs.cons (SS.if_ (ST.cmp opb_lt (SE.call (callee_fn (ps := ["_law_pool_here", "_law_many"]) F__law_draw (hr.mono (by decide)) tk B__law_draw Cst.nil) rfl fx.g__law_draw fx.k__law_draw (SA.cons (SE.var 0) (SA.cons (SE.int) (SA.nil)))) (SE.int)) (SSs.one (SS.ret (SE.op opb_sub (SE.call (callee_fn (ps := ["_law_pool_here", "_law_many"]) F__law_draw (hr.mono (by decide)) tk B__law_draw Cst.nil) rfl fx.g__law_draw fx.k__law_draw (SA.cons (SE.var 0) (SA.cons (SE.int) (SA.nil)))) (SE.int)))) (SSs.nil)) (SSs.one (SS.ret (SE.op opb_plus (SE.ix opi_ix (SF.fz (SF.lst (SA.cons (SE.op opb_pow (SE.int) (SE.int)) (SA.cons (SE.un opu_neg (SE.op opb_pow (SE.int) (SE.int))) (SA.cons (SE.op opb_pow (SE.int) (SE.int)) (SA.cons (SE.un opu_neg (SE.op opb_pow (SE.int) (SE.int))) (SA.nil))))))) (SE.call (callee_fn (ps := ["_law_pool_here", "_law_many"]) F__law_draw (hr.mono (by decide)) tk B__law_draw Cst.nil) rfl fx.g__law_draw fx.k__law_draw (SA.cons (SE.var 0) (SA.cons (SE.int) (SA.nil))))) (SE.call (callee_fn (ps := ["_law_pool_here", "_law_many"]) F__law_draw (hr.mono (by decide)) tk B__law_draw Cst.nil) rfl fx.g__law_draw fx.k__law_draw (SA.cons (SE.var 0) (SA.cons (SE.int) (SA.nil)))))))
theorem sc__law_reading : FnScope N__law_reading ["_law_pool_here", "_law_shut"] (defScope (top 46)) := ⟨rfl, rfl, rfl, by decide +kernel, rfl, by decide +kernel, by decide +kernel⟩
theorem q__law_reading (fx : Fx K mg) : ∃ fd, FnQ P w K mg base 3 ((aG "_law_reading") K) fd ["_law_pool_here", "_law_shut"] F__law_reading ∧ Binds K fd ["_law_pool_here", "_law_shut"] [] := by
  obtain ⟨fd, FD⟩ := fx.d__law_reading
  obtain ⟨fd__law_draw, F__law_draw, B__law_draw⟩ := q__law_draw (P := P) (w := w) (base := base) fx
  obtain ⟨fd__law_number, F__law_number, B__law_number⟩ := q__law_number (P := P) (w := w) (base := base) fx
  refine ⟨fd, fnQ (c := c__law_reading) FD sc__law_reading (by decide) fun cdv A outer s H E hr => ?_, FunD.full FD fun _ _ _ _ _ _ us hl => match us, hl with | [_, _], _ => rfl⟩
  have tk : Takes (BX P w K mg base N__law_reading "_law_reading" (defScope (top 46)) ((aG "_law_reading") K) cdv A outer s H E) (BW E) := tk_cx
  have nd : N__law_reading.Nodup := sc__law_reading.nd
  exact SSs.one (SS.ret (SE.ite (SW.st (SW.and (ST.cmp (opb_eq (Room.units hr.rm)) (SE.call (callee_fn (ps := ["_law_pool_here", "_law_many"]) F__law_draw (hr.mono (by decide)) tk B__law_draw Cst.nil) rfl fx.g__law_draw fx.k__law_draw (SA.cons (SE.var 0) (SA.cons (SE.int) (SA.nil)))) (SE.int)) (SW.and1 (ST.not (ST.val (SE.var 1)))))) (SE.non) (SE.call (callee_fn (ps := ["_law_pool_here"]) F__law_number (hr.mono (by decide)) tk B__law_number Cst.nil) rfl fx.g__law_number fx.k__law_number (SA.cons (SE.var 0) (SA.nil)))))
theorem sc_is_integer : FnScope N_is_integer ["value"] (defScope (top 20)) := ⟨rfl, rfl, rfl, by decide +kernel, rfl, by decide +kernel, by decide +kernel⟩
theorem q_is_integer (fx : Fx K mg) : ∃ fd, FnQ P w K mg base 1 ((aG "is_integer") K) fd ["value"] F_is_integer ∧ Binds K fd ["value"] [] := by
  obtain ⟨fd, FD⟩ := fx.d_is_integer
  refine ⟨fd, fnQ (c := c_is_integer) FD sc_is_integer (by decide) fun cdv A outer s H E hr => ?_, FunD.full FD fun _ _ _ _ _ _ us hl => match us, hl with | [_], _ => rfl⟩
  have tk : Takes (BX P w K mg base N_is_integer "is_integer" (defScope (top 20)) ((aG "is_integer") K) cdv A outer s H E) (BW E) := tk_cx
  have nd : N_is_integer.Nodup := sc_is_integer.nd
  exact SSs.one (SS.ret (SE.and (SE.callB (cd_isi fx.isi) rfl fx.b_isinstance (by kernel_rfl) (SA.cons (SE.var 0) (SA.cons (SE.bty rfl fx.b_int (by kernel_rfl)) (SA.nil)))) (SE.bone (SE.not (SE.callB (cd_isi fx.isi) rfl fx.b_isinstance (by kernel_rfl) (SA.cons (SE.var 0) (SA.cons (SE.bty rfl fx.b_bool (by kernel_rfl)) (SA.nil))))))))
theorem sc_check_reading : FnScope N_check_reading ["meter", "reading"] (defScope (top 34)) := ⟨rfl, rfl, rfl, by decide +kernel, rfl, by decide +kernel, by decide +kernel⟩
theorem q_check_reading (fx : Fx K mg) : ∃ fd, FnQ P w K mg base 3 ((aG "check_reading") K) fd ["meter", "reading"] F_check_reading ∧ Binds K fd ["meter", "reading"] [] := by
  obtain ⟨fd, FD⟩ := fx.d_check_reading
  obtain ⟨fd_Meter_sealed, F_Meter_sealed, B_Meter_sealed⟩ := q_Meter_sealed (P := P) (w := w) (base := base) fx
  obtain ⟨fd_is_integer, F_is_integer, B_is_integer⟩ := q_is_integer (P := P) (w := w) (base := base) fx
  refine ⟨fd, fnQ (c := c_check_reading) FD sc_check_reading (by decide) fun cdv A outer s H E hr => ?_, FunD.full FD fun _ _ _ _ _ _ us hl => match us, hl with | [_, _], _ => rfl⟩
  have tk : Takes (BX P w K mg base N_check_reading "check_reading" (defScope (top 34)) ((aG "check_reading") K) cdv A outer s H E) (BW E) := tk_cx
  have nd : N_check_reading.Nodup := sc_check_reading.nd
  exact SSs.cons (SS.if_ (SW.st (SW.and (ST.cmp opb_is (SE.var 1) (SE.non)) (SW.and1 (ST.not (ST.val (SE.prop "Meter" fx.c_Meter fx.pr_Meter_sealed F_Meter_sealed (hr.mono (by decide)) B_Meter_sealed rfl (SE.var 0))))))) (SSs.one (SS.retN)) (SSs.nil)) (SSs.one (SS.if_ (ST.not (ST.val (SE.call (callee_fn (ps := ["value"]) F_is_integer (hr.mono (by decide)) tk B_is_integer Cst.nil) rfl fx.g_is_integer fx.k_is_integer (SA.cons (SE.var 1) (SA.nil))))) (SSs.one (SS.never)) (SSs.nil)))
theorem sc_Desk___setitem__ : FnScope N_Desk___setitem__ ["self", "name", "reading"] (defScope (mem 35 5)) := ⟨rfl, rfl, rfl, by decide +kernel, rfl, by decide +kernel, by decide +kernel⟩
theorem q_Desk___setitem__ (fx : Fx K mg) : ∃ fd, FnQ P w K mg base 4 ((aM "Desk" "__setitem__") K) fd ["self", "name", "reading"] F_Desk___setitem__ ∧ Binds K fd ["self", "name", "reading"] [] := by
  obtain ⟨fd, FD⟩ := fx.d_Desk___setitem__
  obtain ⟨fd_seat_of, F_seat_of, B_seat_of⟩ := q_seat_of (P := P) (w := w) (base := base) fx
  obtain ⟨fd_Net_meters, F_Net_meters, B_Net_meters⟩ := q_Net_meters (P := P) (w := w) (base := base) fx
  obtain ⟨fd_check_reading, F_check_reading, B_check_reading⟩ := q_check_reading (P := P) (w := w) (base := base) fx
  refine ⟨fd, fnQ (c := c_Desk___setitem__) FD sc_Desk___setitem__ (by decide) fun cdv A outer s H E hr => ?_, FunD.full FD fun _ _ _ _ _ _ us hl => match us, hl with | [_, _, _], _ => rfl⟩
  have tk : Takes (BX P w K mg base N_Desk___setitem__ "Desk.__setitem__" (defScope (mem 35 5)) ((aM "Desk" "__setitem__") K) cdv A outer s H E) (BW E) := tk_cx
  have nd : N_Desk___setitem__.Nodup := sc_Desk___setitem__.nd
  exact SSs.cons (SS.set 3 nd rfl (by first | exact Or.inl rfl | exact Or.inr rfl) (SE.call (callee_fn (ps := ["meters", "name"]) F_seat_of (hr.mono (by decide)) tk B_seat_of Cst.nil) rfl fx.g_seat_of fx.k_seat_of (SA.cons (SE.prop "Net" fx.c_Net fx.pr_Net_meters F_Net_meters (hr.mono (by decide)) B_Net_meters rfl (SE.fld "Desk" fx.c_Desk fx.na_Desk_board (SE.var 0))) (SA.cons (SE.var 1) (SA.nil))))) (SSs.cons (SS.expr (SE.call (callee_fn (ps := ["meter", "reading"]) F_check_reading (hr.mono (by decide)) tk B_check_reading Cst.nil) rfl fx.g_check_reading fx.k_check_reading (SA.cons (SE.ix opi_ix (SE.prop "Net" fx.c_Net fx.pr_Net_meters F_Net_meters (hr.mono (by decide)) B_Net_meters rfl (SE.fld "Desk" fx.c_Desk fx.na_Desk_board (SE.var 0))) (SE.var 3)) (SA.cons (SE.var 2) (SA.nil))))) (SSs.cons (SS.fld "Desk" fx.c_Desk fx.na_Desk_past (SE.var 0) (SE.op opb_plus (SE.fld "Desk" fx.c_Desk fx.na_Desk_past (SE.var 0)) (SE.tup (SA.cons (SE.fld "Desk" fx.c_Desk fx.na_Desk_now (SE.var 0)) (SA.nil))))) (SSs.one (SS.fld "Desk" fx.c_Desk fx.na_Desk_now (SE.var 0) (SE.op opb_plus (SE.op opb_plus (SE.slice (SE.fld "Desk" fx.c_Desk fx.na_Desk_now (SE.var 0)) (SO.none_) (SO.some_ (SE.var 3))) (SE.tup (SA.cons (SE.var 2) (SA.nil)))) (SE.slice (SE.fld "Desk" fx.c_Desk fx.na_Desk_now (SE.var 0)) (SO.some_ (SE.op opb_plus (SE.var 3) (SE.int))) (SO.none_)))))))
theorem sc__law_set : FnScope N__law_set ["_law_desk", "_law_tag", "_law_worth"] (defScope (top 49)) := ⟨rfl, rfl, rfl, by decide +kernel, rfl, by decide +kernel, by decide +kernel⟩
theorem q__law_set (fx : Fx K mg) : ∃ fd, FnQ P w K mg base 7 ((aG "_law_set") K) fd ["_law_desk", "_law_tag", "_law_worth"] F__law_set ∧ Binds K fd ["_law_desk", "_law_tag", "_law_worth"] [] := by
  obtain ⟨fd, FD⟩ := fx.d__law_set
  obtain ⟨fd_Desk___setitem__, F_Desk___setitem__, B_Desk___setitem__⟩ := q_Desk___setitem__ (P := P) (w := w) (base := base) fx
  refine ⟨fd, fnQ (c := c__law_set) FD sc__law_set (by decide) fun cdv A outer s H E hr => ?_, FunD.full FD fun _ _ _ _ _ _ us hl => match us, hl with | [_, _, _], _ => rfl⟩
  have tk : Takes (BX P w K mg base N__law_set "_law_set" (defScope (top 49)) ((aG "_law_set") K) cdv A outer s H E) (BW E) := tk_cx
  have nd : N__law_set.Nodup := sc__law_set.nd
  exact SSs.one (SS.asg (SGS.subK (Spc.mk F_Desk___setitem__ (hr.mono (by decide)) B_Desk___setitem__ fx.mt_Desk___setitem__) rfl fx.nq_Desk tk (SE.var 0) (SE.var 1)) (SE.var 2))
theorem sc__law_right : FnScope N__law_right ["_law_pool_here"] (defScope (top 50)) := ⟨rfl, rfl, rfl, by decide +kernel, rfl, by decide +kernel, by decide +kernel⟩
theorem q__law_right (fx : Fx K mg) : ∃ fd, FnQ P w K mg base 12 ((aG "_law_right") K) fd ["_law_pool_here"] F__law_right ∧ Binds K fd ["_law_pool_here"] [] := by
  obtain ⟨fd, FD⟩ := fx.d__law_right
  obtain ⟨fd__law_lines, F__law_lines, B__law_lines⟩ := q__law_lines (P := P) (w := w) (base := base) fx
  obtain ⟨fd__law_draw, F__law_draw, B__law_draw⟩ := q__law_draw (P := P) (w := w) (base := base) fx
  obtain ⟨fd__law_dials, F__law_dials, B__law_dials⟩ := q__law_dials (P := P) (w := w) (base := base) fx
  obtain ⟨fd_Net_read, F_Net_read, B_Net_read⟩ := q_Net_read (P := P) (w := w) (base := base) fx
  obtain ⟨fd__law_text, F__law_text, B__law_text⟩ := q__law_text (P := P) (w := w) (base := base) fx
  obtain ⟨fd_Desk___init__, F_Desk___init__, B_Desk___init__, BK_Desk___init___1⟩ := q_Desk___init__ (P := P) (w := w) (base := base) fx
  obtain ⟨fd__law_both_right, F__law_both_right, B__law_both_right⟩ := q__law_both_right (P := P) (w := w) (base := base) fx
  obtain ⟨fd__law_reading, F__law_reading, B__law_reading⟩ := q__law_reading (P := P) (w := w) (base := base) fx
  obtain ⟨fd__law_set, F__law_set, B__law_set⟩ := q__law_set (P := P) (w := w) (base := base) fx
  obtain ⟨fd_Desk_readings, F_Desk_readings, B_Desk_readings⟩ := q_Desk_readings (P := P) (w := w) (base := base) fx
  obtain ⟨fd_Net___eq__, F_Net___eq__, B_Net___eq__⟩ := q_Net___eq__ (P := P) (w := w) (base := base) fx
  refine ⟨fd, fnQ (c := c__law_right) FD sc__law_right (by decide) fun cdv A outer s H E hr => ?_, FunD.full FD fun _ _ _ _ _ _ us hl => match us, hl with | [_], _ => rfl⟩
  have tk : Takes (BX P w K mg base N__law_right "_law_right" (defScope (top 50)) ((aG "_law_right") K) cdv A outer s H E) (BW E) := tk_cx
  have nd : N__law_right.Nodup := sc__law_right.nd
  exact SSs.cons (SS.set 1 nd rfl (by first | exact Or.inl rfl | exact Or.inr rfl) (SE.call (callee_fn (ps := ["_law_pool_here", "_law_many", "_law_wide"]) F__law_lines (hr.mono (by decide)) tk B__law_lines Cst.nil) rfl fx.g__law_lines fx.k__law_lines (SA.cons (SE.var 0) (SA.cons (SE.op opb_plus (SE.int) (SE.call (callee_fn (ps := ["_law_pool_here", "_law_many"]) F__law_draw (hr.mono (by decide)) tk B__law_draw Cst.nil) rfl fx.g__law_draw fx.k__law_draw (SA.cons (SE.var 0) (SA.cons (SE.int) (SA.nil))))) (SA.cons (SE.op opb_plus (SE.int) (SE.call (callee_fn (ps := ["_law_pool_here", "_law_many"]) F__law_draw (hr.mono (by decide)) tk B__law_draw Cst.nil) rfl fx.g__law_draw fx.k__law_draw (SA.cons (SE.var 0) (SA.cons (SE.int) (SA.nil))))) (SA.nil)))))) (SSs.cons (SS.set 2 nd rfl (by first | exact Or.inl rfl | exact Or.inr rfl) (SE.call (callee_fn (ps := ["_law_pool_here", "_law_lines_here", "_law_many", "_law_rare"]) F__law_dials (hr.mono (by decide)) tk B__law_dials Cst.nil) rfl fx.g__law_dials fx.k__law_dials (SA.cons (SE.var 0) (SA.cons (SE.var 1) (SA.cons (SE.call (callee_fn (ps := ["_law_pool_here", "_law_many"]) F__law_draw (hr.mono (by decide)) tk B__law_draw Cst.nil) rfl fx.g__law_draw fx.k__law_draw (SA.cons (SE.var 0) (SA.cons (SE.int) (SA.nil)))) (SA.cons (SE.int) (SA.nil))))))) (SSs.cons (SS.set 3 nd rfl (by first | exact Or.inl rfl | exact Or.inr rfl) (SE.cmeth rfl fx.g_Net fx.cr_Net fx.cm_Net_read (callee_fn (ps := ["cls", "text"]) F_Net_read (hr.mono (by decide)) tk B_Net_read Cst.nil) (SA.cons (SE.call (callee_fn (ps := ["_law_lines_here", "_law_dials_here"]) F__law_text (hr.mono (by decide)) tk B__law_text Cst.nil) rfl fx.g__law_text fx.k__law_text (SA.cons (SE.var 1) (SA.cons (SE.var 2) (SA.nil)))) (SA.nil)))) (SSs.cons (SS.asg (SGS.tup rfl (SGSs.cons (SGS.pat (SG.name 4 nd rfl (by first | exact Or.inl rfl | exact Or.inr rfl))) (SGSs.cons (SGS.pat (SG.name 5 nd rfl (by first | exact Or.inl rfl | exact Or.inr rfl))) (SGSs.nil)))) (SE.tup (SA.cons (SF.fz (SF.lst (SA.cons (SE.call (callee_cls (c := "Desk") (ps := ["self", "net"]) (keep := true) fx.mk_Desk F_Desk___init__ (hr.mono (by decide)) tk B_Desk___init__ Cst.nil) rfl fx.g_Desk fx.k_Desk (SA.cons (SE.var 3) (SA.nil))) (SA.cons (SE.callK0 (callee_clsK (c := "Desk") (ps := ["self", "net"]) (keep := true) (j := 0) (ks := ["net"]) fx.mk_Desk F_Desk___init__ (hr.mono (by decide)) tk BK_Desk___init___1 Cst.nil) rfl fx.g_Desk fx.k_Desk (SK.cons (SE.cmeth rfl fx.g_Net fx.cr_Net fx.cm_Net_read (callee_fn (ps := ["cls", "text"]) F_Net_read (hr.mono (by decide)) tk B_Net_read Cst.nil) (SA.cons (SE.call (callee_fn (ps := ["_law_lines_here", "_law_dials_here"]) F__law_text (hr.mono (by decide)) tk B__law_text Cst.nil) rfl fx.g__law_text fx.k__law_text (SA.cons (SE.var 1) (SA.cons (SE.var 2) (SA.nil)))) (SA.nil))) (SK.nil))) (SA.nil))))) (SA.cons (SF.nw (SF.lst (SA.cons (SE.int) (SA.cons (SE.int) (SA.nil))))) (SA.nil))))) (SSs.cons (SS.setLc (own := [("_law_turn", 8)]) (vs := [8]) 6 fresh_fz rfl rfl (sw_true rfl rfl rfl rfl) rfl nd (SI.range1 rfl fx.b_range (SA.cons (SE.int) (SA.nil))) (blkOk_by (by kernel_rfl)) (by decide) (fun _ _ _ _ _ => SG.name 8 nd rfl (by first | exact Or.inl rfl | exact Or.inr rfl)) (fun _ _ _ _ _ => .inl ⟨rfl, rfl⟩) (fun _ _ _ _ _ => SF.nw (SF.lc (own := [("_law_dial", 7)]) (vs := [7]) rfl nd (SI.val (SE.var 2)) (blkOk_by (by kernel_rfl)) (by decide) (fun _ _ _ _ _ => SG.name 7 nd rfl (by first | exact Or.inl rfl | exact Or.inr rfl)) (fun _ _ _ _ _ => .inl ⟨rfl, rfl⟩) (fun _ _ _ _ _ => SE.ite (ST.val (SE.ix opi_ix (SE.var 7) (SE.int))) (SE.int) (SE.non))))) (SSs.cons (SS.for po_cx rfl (SI.range1 rfl fx.b_range (SA.cons (SE.op opb_plus (SE.int) (SE.call (callee_fn (ps := ["_law_pool_here", "_law_many"]) F__law_draw (hr.mono (by decide)) tk B__law_draw Cst.nil) rfl fx.g__law_draw fx.k__law_draw (SA.cons (SE.var 0) (SA.cons (SE.int) (SA.nil))))) (SA.nil))) (SG.name 9 nd rfl (by first | exact Or.inl rfl | exact Or.inr rfl)) (SSs.cons (SS.par 10 11 rfl nd rfl rfl (by decide) rfl rfl (SA.cons (SE.call (callee_fn (ps := ["_law_pool_here", "_law_many"]) F__law_draw (hr.mono (by decide)) tk B__law_draw Cst.nil) rfl fx.g__law_draw fx.k__law_draw (SA.cons (SE.var 0) (SA.cons (SE.int) (SA.nil)))) (SA.cons (SE.or (SE.cmp opb_gt (SE.call (callee_fn (ps := ["_law_pool_here", "_law_many"]) F__law_draw (hr.mono (by decide)) tk B__law_draw Cst.nil) rfl fx.g__law_draw fx.k__law_draw (SA.cons (SE.var 0) (SA.cons (SE.int) (SA.nil)))) (SE.int)) (SE.bone (SE.cmp (opb_eq (Room.units hr.rm)) (SE.var 9) (SE.int)))) (SA.nil))) (by kernel_rfl)) (SSs.cons (SS.if_ (SW.st (SW.and (ST.val (SE.var 11)) (SW.and1 (ST.not (ST.val (SE.call (callee_fn (ps := ["_law_both", "_law_grid", "_law_lines_here", "_law_dials_here", "_law_shown", "_law_many"]) F__law_both_right (hr.mono (by decide)) tk B__law_both_right Cst.nil) rfl fx.g__law_both_right fx.k__law_both_right (SA.cons (SE.var 4) (SA.cons (SE.var 3) (SA.cons (SE.var 1) (SA.cons (SE.var 2) (SA.cons (SE.var 6) (SA.cons (SE.var 5) (SA.nil))))))))))))) (SSs.one (SS.ret (SE.bl))) (SSs.nil)) (SSs.one (SS.if_ (ST.cmp (opb_ne (Room.units hr.rm)) (SE.var 2) (SF.fz (SF.lst (SA.nil)))) (SSs.cons (SS.set 12 nd rfl (by first | exact Or.inl rfl | exact Or.inr rfl) (SE.call (callee_fn (ps := ["_law_pool_here", "_law_many"]) F__law_draw (hr.mono (by decide)) tk B__law_draw Cst.nil) rfl fx.g__law_draw fx.k__law_draw (SA.cons (SE.var 0) (SA.cons (SE.callB cd_len rfl fx.b_len (by kernel_rfl) (SA.cons (SE.var 2) (SA.nil))) (SA.nil))))) (SSs.cons (SS.set 13 nd rfl (by first | exact Or.inl rfl | exact Or.inr rfl) (SE.call (callee_fn (ps := ["_law_pool_here", "_law_shut"]) F__law_reading (hr.mono (by decide)) tk B__law_reading Cst.nil) rfl fx.g__law_reading fx.k__law_reading (SA.cons (SE.var 0) (SA.cons (SE.ix opi_ix (SE.ix opi_ix (SE.var 2) (SE.var 12)) (SE.int)) (SA.nil))))) (SSs.cons (SS.asg (SGS.sub (SE.ix opi_ix (SE.var 6) (SE.var 10)) (SE.var 12)) (SE.var 13)) (SSs.cons (SS.asg (SGS.sub (SE.var 5) (SE.var 10)) (SE.op opb_plus (SE.ix opi_ix (SE.var 5) (SE.var 10)) (SE.int))) (SSs.one (SS.expr (SE.call (callee_fn (ps := ["_law_desk", "_law_tag", "_law_worth"]) F__law_set (hr.mono (by decide)) tk B__law_set Cst.nil) rfl fx.g__law_set fx.k__law_set (SA.cons (SE.ix opi_ix (SE.var 4) (SE.var 10)) (SA.cons (SE.ix opi_ix (SE.ix opi_ix (SE.var 2) (SE.var 12)) (SE.int)) (SA.cons (SE.var 13) (SA.nil))))))))))) (SSs.nil)))))) (SSs.cons (SS.if_ (ST.not (ST.val (SE.call (callee_fn (ps := ["_law_both", "_law_grid", "_law_lines_here", "_law_dials_here", "_law_shown", "_law_many"]) F__law_both_right (hr.mono (by decide)) tk B__law_both_right Cst.nil) rfl fx.g__law_both_right fx.k__law_both_right (SA.cons (SE.var 4) (SA.cons (SE.var 3) (SA.cons (SE.var 1) (SA.cons (SE.var 2) (SA.cons (SE.var 6) (SA.cons (SE.var 5) (SA.nil)))))))))) (SSs.one (SS.ret (SE.bl))) (SSs.nil)) (SSs.cons (SS.set 14 nd rfl (by first | exact Or.inl rfl | exact Or.inr rfl) (SF.fz (SF.lst (SA.cons (SE.ix opi_ix (SE.var 4) (SE.int)) (SA.cons (SE.var 3) (SA.cons (SE.callTy cd_tuple rfl fx.b_tuple (by kernel_rfl) (SA.cons (SE.ix opi_ix (SE.var 6) (SE.int)) (SA.nil))) (SA.cons (SE.non) (SA.cons (SE.prop "Desk" fx.c_Desk fx.pr_Desk_readings F_Desk_readings (hr.mono (by decide)) B_Desk_readings rfl (SE.ix opi_ix (SE.var 4) (SE.int))) (SA.nil))))))))) (SSs.cons (SS.if_ (ST.cmp (opb_ne (Room.units hr.rm)) (SF.fz (SF.lc (own := [("_law_thing", 15)]) (vs := [15]) rfl nd (SI.val (SE.var 14)) (blkOk_by (by kernel_rfl)) (by decide) (fun _ _ _ _ _ => SG.name 15 nd rfl (by first | exact Or.inl rfl | exact Or.inr rfl)) (fun _ _ _ _ _ => .inl ⟨rfl, rfl⟩) (fun _ _ _ _ _ => SE.cmp (opb_eqU (.inl ⟨rfl, rfl⟩) (Spc.mk F_Net___eq__ (hr.mono (by decide)) B_Net___eq__ fx.mt_Net___eq__) rfl fx.nb_Desk fx.eu_Desk fx.eo_Net fx.st_Desk fx.ne_Desk_Net takesB) (SE.ix opi_ix (SE.var 4) (SE.int)) (SE.var 15)))) (SE.op opb_times (SF.fz (SF.lst (SA.cons (SE.bl) (SA.nil)))) (SE.int))) (SSs.one (SS.ret (SE.bl))) (SSs.nil)) (SSs.one (SS.ret (SE.cmp (opb_eq (Room.units hr.rm)) (SF.fz (SF.lc (own := [("_law_thing", 15)]) (vs := [15]) rfl nd (SI.val (SE.var 14)) (blkOk_by (by kernel_rfl)) (by decide) (fun _ _ _ _ _ => SG.name 15 nd rfl (by first | exact Or.inl rfl | exact Or.inr rfl)) (fun _ _ _ _ _ => .inl ⟨rfl, rfl⟩) (fun _ _ _ _ _ => SE.cmp (opb_eqU (.inr ⟨rfl, rfl⟩) (Spc.mk F_Net___eq__ (hr.mono (by decide)) B_Net___eq__ fx.mt_Net___eq__) rfl fx.nb_Desk fx.eu_Desk fx.eo_Net fx.st_Desk fx.ne_Desk_Net takesB) (SE.ix opi_ix (SE.var 4) (SE.int)) (SE.var 15)))) (SE.op opb_times (SF.fz (SF.lst (SA.cons (SE.bl) (SA.nil)))) (SE.int)))))))))))))
theorem sc__law_pool : FnScope N__law_pool ["_law_cell"] (defScope (top 38)) := ⟨rfl, rfl, rfl, by decide +kernel, rfl, by decide +kernel, by decide +kernel⟩
theorem q__law_pool (fx : Fx K mg) : ∃ fd, FnQ P w K mg base 1 ((aG "_law_pool") K) fd ["_law_cell"] F__law_pool ∧ Binds K fd ["_law_cell"] [] := by
  obtain ⟨fd, FD⟩ := fx.d__law_pool
  refine ⟨fd, fnQ1 (c := c__law_pool) FD sc__law_pool (by decide) fun cdv A outer s H E hr => ?_, FunD.full FD fun _ _ _ _ _ _ us hl => match us, hl with | [_], _ => rfl⟩
  have tk : Takes (BX P w K mg base N__law_pool "_law_pool" (defScope (top 38)) ((aG "_law_pool") K) cdv A outer s H E) (BW E) := tk_cx
  have nd : N__law_pool.Nodup := sc__law_pool.nd
  exact SSs.cons (SS.set 1 nd rfl (by first | exact Or.inl rfl | exact Or.inr rfl) (SE.ite (SW.st (SW.or (ST.cmp opb_lt (SE.var 0) (SE.int)) (SW.or1 (ST.cmp opb_ge (SE.var 0) (SE.op opb_pow (SE.int) (SE.int)))))) (SE.callB cd_abs rfl fx.b_abs (by kernel_rfl) (SA.cons (SE.var 0) (SA.nil))) (SE.int))) (SSs.one (SS.ret (SF.nw (SF.lst (SA.cons (SE.op opb_mod (SE.callTy cd_int rfl fx.b_int (by kernel_rfl) (SA.cons (SE.var 0) (SA.nil))) (SE.int)) (SA.cons (SE.var 1) (SA.cons (SE.int) (SA.nil))))))))
theorem sc__law_start : FnScope N__law_start ["_law_script", "_law_place"] (defScope (top 37)) := ⟨rfl, rfl, rfl, by decide +kernel, rfl, by decide +kernel, by decide +kernel⟩
theorem q__law_start (fx : Fx K mg) : ∃ fd, FnQ P w K mg base 1 ((aG "_law_start") K) fd ["_law_script", "_law_place"] F__law_start ∧ Binds K fd ["_law_script", "_law_place"] [] := by
  obtain ⟨fd, FD⟩ := fx.d__law_start
  refine ⟨fd, fnQ (c := c__law_start) FD sc__law_start (by decide) fun cdv A outer s H E hr => ?_, FunD.full FD fun _ _ _ _ _ _ us hl => match us, hl with | [_, _], _ => rfl⟩
  have tk : Takes (BX P w K mg base N__law_start "_law_start" (defScope (top 37)) ((aG "_law_start") K) cdv A outer s H E) (BW E) := tk_cx
  have nd : N__law_start.Nodup := sc__law_start.nd
  exact SSs.cons (SS.if_ (ST.cmp opb_lt (SE.var 1) (SE.callB cd_len rfl fx.b_len (by kernel_rfl) (SA.cons (SE.var 0) (SA.nil)))) (SSs.one (SS.ret (SE.ix opi_ix (SE.var 0) (SE.var 1)))) (SSs.nil)) (SSs.cons (SS.set 2 nd rfl (by first | exact Or.inl rfl | exact Or.inr rfl) (SE.op opb_plus (SE.op opb_plus (SE.int) (SE.op opb_times (SE.op opb_times (SE.int) (SE.var 1)) (SE.var 1))) (SE.op opb_times (SE.int) (SE.var 1)))) (SSs.cons (SS.for po_cx rfl (SI.val (SE.slice (SE.var 0) (SO.none_) (SO.some_ (SE.int)))) (SG.name 3 nd rfl (by first | exact Or.inl rfl | exact Or.inr rfl)) (SSs.one (SS.set 2 nd rfl (by first | exact Or.inl rfl | exact Or.inr rfl) (SE.op opb_mod (SE.callTy cd_int rfl fx.b_int (by kernel_rfl) (SA.cons (SE.op opb_plus (SE.op opb_times (SE.var 2) (SE.int)) (SE.var 3)) (SA.nil))) (SE.int))))) (SSs.one (SS.ret (SE.var 2)))))
theorem sc_law : FnScope N_law ["_law_script"] (defScope (top 51)) := ⟨rfl, rfl, rfl, by decide +kernel, rfl, by decide +kernel, by decide +kernel⟩
theorem q_law (fx : Fx K mg) {fd : FuncData} (FD : FnD K D_law fd) : FnQ P w K mg base 13 (aG "law" K) fd ["_law_script"] F_law := by
  obtain ⟨fd__law_right, F__law_right, B__law_right⟩ := q__law_right (P := P) (w := w) (base := base) fx
  obtain ⟨fd__law_pool, F__law_pool, B__law_pool⟩ := q__law_pool (P := P) (w := w) (base := base) fx
  obtain ⟨fd__law_start, F__law_start, B__law_start⟩ := q__law_start (P := P) (w := w) (base := base) fx
  refine fnQ (c := c_law) FD sc_law (by decide) fun cdv A outer s H E hr => ?_
  have tk : Takes (BX P w K mg base N_law "law" (defScope (top 51)) ((aG "law") K) cdv A outer s H E) (BW E) := tk_cx
  have nd : N_law.Nodup := sc_law.nd
  exact SSs.cons (SS.for po_cx rfl (SI.range1 rfl fx.b_range (SA.cons (SE.callB (cd_max2 rfl) rfl fx.b_max (by kernel_rfl) (SA.cons (SE.int) (SA.cons (SE.callB (cd_min2 rfl) rfl fx.b_min (by kernel_rfl) (SA.cons (SE.callB cd_len rfl fx.b_len (by kernel_rfl) (SA.cons (SE.var 0) (SA.nil))) (SA.cons (SE.int) (SA.nil)))) (SA.nil)))) (SA.nil))) (SG.name 1 nd rfl (by first | exact Or.inl rfl | exact Or.inr rfl)) (SSs.one (SS.if_ (ST.not (ST.val (SE.call (callee_fn (ps := ["_law_pool_here"]) F__law_right (hr.mono (by decide)) tk B__law_right Cst.nil) rfl fx.g__law_right fx.k__law_right (SA.cons (SE.call (callee_fn (ps := ["_law_cell"]) F__law_pool (hr.mono (by decide)) tk B__law_pool Cst.nil) rfl fx.g__law_pool fx.k__law_pool (SA.cons (SE.call (callee_fn (ps := ["_law_script", "_law_place"]) F__law_start (hr.mono (by decide)) tk B__law_start Cst.nil) rfl fx.g__law_start fx.k__law_start (SA.cons (SE.var 0) (SA.cons (SE.var 1) (SA.nil)))) (SA.nil))) (SA.nil))))) (SSs.one (SS.ret (SE.bl))) (SSs.nil)))) (SSs.one (SS.ret (SE.bl)))
end
end G
set_option Elab.async false
set_option linter.all false
set_option maxRecDepth 100000
set_option maxHeartbeats 2000000
/-! the specs of the law's own functions -/
local macro_rules | `(tactic| walk_at "rv1") => `(tactic| (first | with_reducible refine Rv.s_aC ?_ | with_reducible refine Rv.s_C ?_ | with_reducible refine Rv.s_aN ?_ | with_reducible refine Rv.s_m2 ?_ | with_reducible refine Rv.s_seq ?_ | with_reducible refine Rv.s_nil ?_ | with_reducible refine Rv.s_ret ?_ | with_reducible refine Rv.s_retN ?_ | with_reducible refine Rv.s_expr ?_ | with_reducible refine Rv.s_if ?_ | with_reducible refine Rv.s_ifT ?_ | with_reducible refine Rv.s_ifF ?_ | with_reducible refine Rv.s_set ?_ | with_reducible refine Rv.s_for ?_ | with_reducible refine Rv.s_try ?_ | with_reducible refine Rv.s_asg ?_ | with_reducible refine Rv.s_par ?_ | with_reducible refine Rv.s_par3 ?_ | with_reducible refine Rv.s_m1 ?_ | with_reducible refine Rv.s_T ?_ | with_reducible refine Rv.s_B ?_ | with_reducible refine Rv.s_andM ?_ | with_reducible refine Rv.s_orM ?_ | with_reducible refine Rv.s_notM ?_ | with_reducible refine Rv.s_and ?_ | with_reducible refine Rv.s_or ?_ | with_reducible refine Rv.s_ite ?_ | with_reducible refine Rv.s_pT ?_ | with_reducible refine Rv.s_pF ?_ | with_reducible refine Rv.s_aS ?_ | with_reducible refine Rv.s_tup ?_ | with_reducible refine Rv.s_fz ?_ | with_reducible refine Rv.s_nw ?_ | with_reducible refine Rv.s_len ?_ | with_reducible refine Rv.s_slN ?_ | with_reducible refine Rv.s_slS ?_ | with_reducible refine Rv.s_sl ?_ | with_reducible refine Rv.s_call ?_ | with_reducible refine Rv.s_callB ?_ | with_reducible refine Rv.s_callK ?_ | with_reducible refine Rv.s_cmeth ?_ | with_reducible refine Rv.s_meth ?_ | with_reducible refine Rv.s_app ?_ | with_reducible refine Rv.s_M1 ?_ | with_reducible refine Rv.s_It ?_ | with_reducible refine Rv.s_I ?_ | with_reducible refine Rv.s_fmt ?_ | with_reducible refine Rv.s_jN ?_ | with_reducible refine Rv.s_jC ?_ | with_reducible refine Rv.s_tgN ?_ | with_reducible refine Rv.s_tgSub ?_ | with_reducible refine Rv.s_fld ?_ | with_reducible refine Rv.s_tgC ?_ | with_reducible refine Rv.s_tgE ?_ | with_reducible refine Rv.s_add ?_ | with_reducible refine Rv.s_sub ?_ | with_reducible refine Rv.s_int ?_ | with_reducible refine Rv.s_lt ?_ | with_reducible refine Rv.s_le ?_ | with_reducible refine Rv.s_gt ?_ | with_reducible refine Rv.s_ge ?_ | with_reducible refine Rv.s_eqI ?_ | with_reducible refine Rv.s_neI ?_ | with_reducible refine Rv.s_eqS ?_ | with_reducible refine Rv.s_neS ?_ | with_reducible refine Rv.s_not ?_ | with_reducible refine Rv.s_lenL ?_ | with_reducible refine Rv.s_lenT ?_ | with_reducible refine Rv.s_lc ?_ | ((with_reducible apply Rv.s_var); exact rfl) | ((with_reducible apply Rv.s_callL); exact rfl) | ((with_reducible apply Rv.s_ar); exact rfl) | ((with_reducible apply Rv.s_ar1); exact rfl) | ((with_reducible apply Rv.s_tgT); exact rfl) | ((with_reducible apply Rv.s_ar1K); exact ⟨rfl, rfl, rfl⟩) | ((with_reducible apply Rv.s_mul); (first | omega | (right; omega) | (left; omega))) | ((with_reducible apply Rv.s_div); omega) | ((with_reducible apply Rv.s_mod); omega) | ((with_reducible apply Rv.s_divmod); omega) | ((with_reducible apply Rv.s_lenS); (first | exact Nat.le_of_ble_eq_true rfl | (show _ ≤ 16777216; omega) | (show _ ≤ 16777216; simp only [List.length_append, List.length_cons, List.length_nil, List.length_take, List.length_drop]; omega))) | ((with_reducible apply Rv.s_addS); (first | exact Nat.le_of_ble_eq_true rfl | (show _ ≤ 16777216; omega) | (show _ ≤ 16777216; simp only [List.length_append, List.length_cons, List.length_nil, List.length_take, List.length_drop]; omega))) | ((with_reducible apply Rv.s_pow); decide) | with_reducible refine Rv.s_neg ?_ | with_reducible refine Rv.s_chain ?_ | with_reducible refine Rv.s_inC ?_ | with_reducible refine Rv.s_ninC ?_ | with_reducible refine Rv.s_enuT ?_ | with_reducible refine Rv.s_eqBl ?_ | with_reducible refine Rv.s_neBl ?_ | refine ⟨_, _, rfl, ?_⟩ | refine ⟨_, rfl, ?_⟩ | refine ⟨Nat.le_of_ble_eq_true rfl, ?_⟩ | refine And.intro (show _ ≤ 16777216 by (first | omega | (simp only [List.length_append, List.length_cons, List.length_nil, List.length_map, List.length_take, List.length_drop]; omega))) ?_ | refine Rv.s_ifT ?_ | refine Rv.s_ifF ?_ | refine Rv.s_pT ?_ | refine Rv.s_pF ?_))
namespace G
open PySem PySem.Spec L2 Rv
open PyProof.Rows hiding St
def P3 (a b c : Int) : MO := .lst [.int a, .int b, .int c]
theorem kept_set {μ : Store} {p : Nat} {m : MO} (wf : WF μ) (hm : MO.low μ.length m = true) : kept μ.length μ (μ.set p m) = true := by
  refine kept_low fun x hx => ?_
  rw [show (μ.set p m).take μ.length = μ.set p m from List.take_of_length_le (by rw [List.length_set]; exact Nat.le_refl _)] at hx
  rcases List.mem_or_eq_of_mem_set hx with h | h
  · exact wf x h
  · rw [h]; exact hm
theorem draw_wp {μ : Store} {p : Nat} {a b c m : Int} {Q : D → Store → Prop} (hp : μ[p]? = some (P3 a b c)) (h0 : 0 < m) (h1 : m < 1073741824) (wf : WF μ)
    (hQ : ∀ v a' b' c', 0 ≤ v → v < m → Q (.int v) (μ.set p (P3 a' b' c'))) : (F__law_draw [.ref p, .int m] μ).wp Q := by
  have hl : p < μ.length := (List.getElem?_eq_some_iff.mp hp).1
  have hs : ∀ x, (μ.set p x)[p]? = some x := fun x => List.getElem?_set_self hl
  have R : ∀ v a' b' c', 0 ≤ v → v < m → RQ μ Q (.int v) (μ.set p (P3 a' b' c')) := fun v a' b' c' hv hm => ⟨kept_set wf rfl, rfl, by
    rw [List.take_of_length_le (by rw [List.length_set]; exact Nat.le_refl _)]
    exact hQ v a' b' c' hv hm⟩
  have at0 : ∀ x y z : Int, atI [D.int x, D.int y, D.int z] 0 = some (D.int x) := fun _ _ _ => rfl
  have at1 : ∀ x y z : Int, atI [D.int x, D.int y, D.int z] 1 = some (D.int y) := fun _ _ _ => rfl
  have at2 : ∀ x y z : Int, atI [D.int x, D.int y, D.int z] 2 = some (D.int z) := fun _ _ _ => rfl
  have ix : ∀ (ν : Store) (i x y z : Int) (r : D), ν[p]? = some (P3 x y z) → atI [D.int x, D.int y, D.int z] i = some r → dIx (.ref p) (.int i) ν = .ok r ν := fun ν i x y z r h e => dIx_ref h e
  have st : ∀ (ν : Store) (i x y z : Int) (r : D), ν[p]? = some (P3 x y z) → 0 ≤ i → i < 3 → dSet (.ref p) (.int i) r ν = some (ν.set p (.lst ([D.int x, D.int y, D.int z].set i.toNat r))) := fun ν i x y z r h e1 e2 => dSet_ref h e1 (by simpa using e2)
  refine runF_wp ?_
  show (c__law_draw [some (.ref p), some (.int m), none, none, none] μ).wp (NQ μ Q) (RQ μ Q)
  unfold c__law_draw
  repeat walk_at "rv1"
  refine s_ok (ix _ 2 _ _ _ _ hp rfl) ?_
  repeat walk_at "rv1"
  refine ⟨_, st _ 2 _ _ _ _ hp (by omega) (by omega), ?_⟩
  repeat walk_at "rv1"
  refine s_ok (ix _ 0 _ _ _ _ (hs _) rfl) ?_
  repeat walk_at "rv1"
  refine s_ok (ix _ 2 _ _ _ _ (hs _) rfl) ?_
  repeat walk_at "rv1"
  refine ⟨_, st _ 0 _ _ _ _ (hs _) (by omega) (by omega), ?_⟩
  rw [List.set_set]
  repeat walk_at "rv1"
  refine s_ok (ix _ 1 _ _ _ _ (hs _) rfl) ?_
  repeat walk_at "rv1"
  by_cases hb : 0 < b
  · rw [if_pos (decide_eq_true hb)]
    repeat walk_at "rv1"
    refine s_ok (ix _ 1 _ _ _ _ (hs _) rfl) ?_
    repeat walk_at "rv1"
    refine ⟨_, st _ 1 _ _ _ _ (hs _) (by omega) (by omega), ?_⟩
    rw [List.set_set]
    repeat walk_at "rv1"
    exact R _ _ _ _ (Int.emod_nonneg _ (by omega)) (Int.emod_lt_of_pos _ h0)
  · rw [if_neg (by simpa using hb)]
    repeat walk_at "rv1"
    refine s_ok (ix _ 0 _ _ _ _ (hs _) rfl) ?_
    repeat walk_at "rv1"
    exact R _ _ _ _ (Int.emod_nonneg _ (by omega)) (Int.emod_lt_of_pos _ h0)
abbrev Alpha : List Nat := [97, 98, 99, 100, 101, 102, 103, 104, 105, 106, 107, 108, 109, 110, 111, 112, 113, 114, 115, 116, 117, 118, 119, 120, 121, 122]
abbrev Digs : List Nat := [48, 49, 50, 51, 52, 53, 54, 55, 56, 57]
def IsP (w : List Nat) : Prop := (∀ x ∈ w, x ∈ Alpha ∨ x ∈ Digs) ∧ ∀ x, w.head? = some x → x ∈ Alpha
theorem IsP.nil : IsP [] := ⟨fun x h => (List.not_mem_nil h).elim, fun x h => by cases h⟩
theorem IsP.snoc {w : List Nat} {x : Nat} (h : IsP w) (hx : x ∈ Alpha ∨ x ∈ Digs) (h0 : w = [] → x ∈ Alpha) : IsP (w ++ [x]) := by
  refine ⟨fun y hy => ?_, fun y hy => ?_⟩
  · rcases List.mem_append.mp hy with q | q
    · exact h.1 y q
    · rw [List.mem_singleton.mp q]; exact hx
  · cases w with
    | nil =>
      have : x = y := by simpa using hy
      rw [← this]; exact h0 rfl
    | cons z w => exact h.2 y (by simpa using hy)
theorem rngD_at {lo : Int} {n i : Nat} {d : D} (h : (rngD lo n)[i]? = some d) : d = .int (lo + (i : Nat)) ∧ i < n := by
  unfold rngD at h
  rw [List.getElem?_map] at h
  cases q : (List.range n)[i]? with
  | none => rw [q] at h; cases h
  | some j =>
    rw [q] at h
    obtain ⟨hl, e⟩ := List.getElem?_eq_some_iff.mp q
    rw [List.getElem_range] at e
    rw [List.length_range] at hl
    subst e
    exact ⟨(Option.some.inj h).symm, hl⟩
theorem rngD_len {lo : Int} {n : Nat} : (rngD lo n).length = n := by simp [rngD]
theorem s_rng1 {n : Int} {μ : Store} {QI : Lv × List D → Store → Prop} (e : -(2 ^ 62) ≤ n ∧ n < 2 ^ 62) (h : QI (none, rngD 0 n.toNat) μ) : (rng1 [.int n] μ).wp QI := by
  show (if -(2 ^ 62) ≤ n ∧ n < 2 ^ 62 then Out.ok (none, rngD 0 n.toNat) μ else .stuck).wp QI
  rw [if_pos e]
  exact h
theorem atI_mem {α : Type} {xs : List α} {v : Int} (h0 : 0 ≤ v) (h1 : v < (xs.length : Nat)) : ∃ x, x ∈ xs ∧ atI xs v = some x := by
  have l : v.toNat < xs.length := by omega
  refine ⟨xs[v.toNat], List.getElem_mem l, ?_⟩
  rw [atI_int h0 h1, List.getElem?_eq_getElem l]
theorem word_wp {μ : Store} {p : Nat} {a b c : Int} {Q : D → Store → Prop} (hp : μ[p]? = some (P3 a b c)) (wf : WF μ)
    (hQ : ∀ w a' b' c', IsP w → 1 ≤ w.length → w.length ≤ 5 → Q (.str w) (μ.set p (P3 a' b' c'))) : (F__law_word [.ref p] μ).wp Q := by
  have hl : p < μ.length := (List.getElem?_eq_some_iff.mp hp).1
  have hs : ∀ x, (μ.set p x)[p]? = some x := fun x => List.getElem?_set_self hl
  refine runF_wp ?_
  show (c__law_word [some (.ref p), none, none, none, none] μ).wp (NQ μ Q) (RQ μ Q)
  unfold c__law_word
  repeat walk_at "rv1"
  refine draw_wp hp (by omega) (by omega) wf fun v a1 b1 c1 hv0 hv1 => ?_
  repeat walk_at "rv1"
  refine s_rng1 (by omega) ?_
  refine forGo_wp (k := 0) (I := fun k ρ ν => ∃ found pl sg a b c, ρ = [some (.ref p), some (.str Alpha), some (.str found), pl, sg] ∧ ν = μ.set p (P3 a b c) ∧ found.length = k ∧ IsP found)
    ⟨[], none, none, a1, b1, c1, rfl, rfl, rfl, IsP.nil⟩ ?_ ?_
  · intro i d ρ ν hd hI
    obtain ⟨found, pl, sg, a2, b2, c2, rfl, rfl, hlen, hP⟩ := hI
    obtain ⟨rfl, hi⟩ := rngD_at hd
    refine ⟨_, rfl, OutS.wpL_of ?_⟩
    repeat walk_at "rv1"
    by_cases h0 : (0 + (i : Int) = 0)
    · rw [if_pos (decide_eq_true h0)]
      repeat walk_at "rv1"
      refine draw_wp (hs _) (by decide) (by decide) (WF_set wf rfl) fun v a1 b1 c1 hv0 hv1 => ?_
      obtain ⟨x, hx, ex⟩ := atI_mem hv0 hv1
      refine s_ok (dIx_str (Nat.le_of_ble_eq_true rfl) ex) ?_
      rw [List.set_set]
      repeat walk_at "rv1"
      refine ⟨found ++ [x], _, _, _, _, _, rfl, rfl, by simp [hlen], hP.snoc (.inl hx) fun _ => hx⟩
    · rw [if_neg (by simpa using h0)]
      repeat walk_at "rv1"
      refine draw_wp (hs _) (by decide) (by decide) (WF_set wf rfl) fun v a1 b1 c1 hv0 hv1 => ?_
      obtain ⟨x, hx, ex⟩ := atI_mem hv0 hv1
      refine s_ok (dIx_str (Nat.le_of_ble_eq_true rfl) ex) ?_
      rw [List.set_set]
      repeat walk_at "rv1"
      refine ⟨found ++ [x], _, _, _, _, _, rfl, rfl, by simp [hlen], hP.snoc (List.mem_append.mp hx) fun e => ?_⟩
      rw [e] at hlen
      simp at hlen
      omega
  · intro ρ ν hI
    obtain ⟨found, pl, sg, a2, b2, c2, rfl, rfl, hlen, hP⟩ := hI
    rw [rngD_len] at hlen
    repeat walk_at "rv1"
    refine ⟨kept_set wf rfl, rfl, ?_⟩
    rw [List.take_of_length_le (by rw [List.length_set]; exact Nat.le_refl _)]
    exact hQ _ _ _ _ hP (by omega) (by omega)
end G
set_option Elab.async false
set_option linter.all false
set_option maxRecDepth 100000
set_option maxHeartbeats 2000000
namespace G
open PySem PySem.Spec L2 Rv
open PyProof.Rows hiding St
abbrev AD : List Nat := [97, 98, 99, 100, 101, 102, 103, 104, 105, 106, 107, 108, 109, 110, 111, 112, 113, 114, 115, 116, 117, 118, 119, 120, 121, 122, 48, 49, 50, 51, 52, 53, 54, 55, 56, 57]
def Wd (n : Nat) (w : List Nat) : Prop := IsP w ∧ 1 ≤ w.length ∧ w.length ≤ n
theorem S_at {μ L : Store} {p : Nat} {m : MO} (hl : p < μ.length) : (μ.set p m ++ L)[p]? = some m := by
  rw [List.getElem?_append_left (by rw [List.length_set]; exact hl), List.getElem?_set_self hl]
theorem S_new {μ L : Store} {p : Nat} {m x : MO} : (μ.set p m ++ x :: L)[μ.length]? = some x := by
  rw [List.getElem?_append_right (by rw [List.length_set]; exact Nat.le_refl _), List.length_set, Nat.sub_self]
  rfl
theorem S_wf {μ L : Store} {p : Nat} {a b c : Int} (hl : p < μ.length) (wf : WF (μ ++ L)) : WF (μ.set p (P3 a b c) ++ L) := by
  rw [← List.set_append_left _ _ hl]
  exact WF_set wf rfl
theorem drawL {μ L : Store} {p : Nat} {a b c m : Int} {Q : D → Store → Prop} (hl : p < μ.length) (wf : WF (μ ++ L)) (h0 : 0 < m) (h1 : m < 1073741824)
    (hQ : ∀ v a' b' c', 0 ≤ v → v < m → Q (.int v) (μ.set p (P3 a' b' c') ++ L)) : (F__law_draw [.ref p, .int m] (μ.set p (P3 a b c) ++ L)).wp Q := by
  refine draw_wp (S_at hl) h0 h1 (S_wf hl wf) fun v a' b' c' hv0 hv1 => ?_
  rw [List.set_append_left _ _ (by rw [List.length_set]; exact hl), List.set_set]
  exact hQ v a' b' c' hv0 hv1
theorem wordL {μ L : Store} {p : Nat} {a b c : Int} {Q : D → Store → Prop} (hl : p < μ.length) (wf : WF (μ ++ L))
    (hQ : ∀ w a' b' c', IsP w → 1 ≤ w.length → w.length ≤ 5 → Q (.str w) (μ.set p (P3 a' b' c') ++ L)) : (F__law_word [.ref p] (μ.set p (P3 a b c) ++ L)).wp Q := by
  refine word_wp (S_at hl) (S_wf hl wf) fun v a' b' c' h1 h2 h3 => ?_
  rw [List.set_append_left _ _ (by rw [List.length_set]; exact hl), List.set_set]
  exact hQ v a' b' c' h1 h2 h3
theorem atI_zero {α : Type} {x : α} {xs : List α} : atI (x :: xs) 0 = some x := by
  rw [atI_int (by omega) (by rw [List.length_cons]; omega)]
  rfl
theorem S_set {μ L : Store} {p : Nat} {m x y : MO} : (μ.set p m ++ x :: L).set μ.length y = μ.set p m ++ y :: L := by
  rw [List.set_append_right _ _ (by rw [List.length_set]; exact Nat.le_refl _), List.length_set, Nat.sub_self]
  rfl
theorem s_fApp {μ : Store} {k : Nat} {ds : List D} {d : D} {Q : D → Store → Prop} (h : μ[k]? = some (.lst ds)) (l : ds.length < maxL) (q : Q .non (μ.set k (.lst (ds ++ [d])))) : (fApp (.ref k) d μ).wp Q := by
  show (match μ[k]? with
    | some (.lst ds) => if ds.length < maxL then Out.ok D.non (μ.set k (.lst (ds ++ [d]))) else .stuck
    | _ => .stuck).wp Q
  rw [h]
  dsimp only
  rw [if_pos l]
  exact q
theorem filt_first {C fs : List (List Nat)} (nd : C.Nodup) (h : fs.length < C.length) : ∃ y ys, C.filter (fun t => !decide (t ∈ fs)) = y :: ys ∧ y ∈ C ∧ y ∉ fs := by
  obtain ⟨x, hx, hn⟩ := pigeon nd h
  have hm : x ∈ C.filter (fun t => !decide (t ∈ fs)) := List.mem_filter.mpr ⟨hx, by simp [hn]⟩
  cases q : C.filter (fun t => !decide (t ∈ fs)) with
  | nil => rw [q] at hm; cases hm
  | cons y ys =>
    have hy : y ∈ C.filter (fun t => !decide (t ∈ fs)) := by rw [q]; exact List.mem_cons_self ..
    obtain ⟨h1, h2⟩ := List.mem_filter.mp hy
    exact ⟨y, ys, rfl, h1, by simpa using h2⟩
theorem cand_nd {w : List Nat} {A : List Nat} (h : A.Nodup) : (w :: A.map fun c => w ++ [c]).Nodup := by
  refine List.nodup_cons.mpr ⟨fun q => ?_, ?_⟩
  · obtain ⟨c, _, e⟩ := List.mem_map.mp q
    have := congrArg List.length e
    simp at this
  · refine List.pairwise_map.mpr (h.imp fun {a b} hab e => hab ?_)
    have := List.append_cancel_left e
    simpa using this
theorem cand_wd {w : List Nat} (h : Wd 6 w) : ∀ y ∈ (w :: AD.map fun c => w ++ [c]), Wd 7 y := by
  obtain ⟨h1, h2, h3⟩ := h
  intro y hy
  rcases List.mem_cons.mp hy with e | q
  · rw [e]; exact ⟨h1, h2, by omega⟩
  · obtain ⟨c, hc, e⟩ := List.mem_map.mp q
    rw [← e]
    refine ⟨h1.snoc (List.mem_append.mp (show c ∈ Alpha ++ Digs from hc)) fun e => ?_, by simp, by simp; omega⟩
    rw [e] at h2
    simp at h2
theorem s_slStr {μ : Store} {s : List Nat} {lo hi : Option Int} {Q : D → Store → Prop} (l : s.length ≤ maxL) (h : Q (.str (cutD s lo hi)) μ) : (dSl (.str s) lo hi μ).wp Q := by
  show (if s.length ≤ maxL then Out.ok (.str (cutD s lo hi)) μ else .stuck).wp Q
  rw [if_pos l]
  exact h
theorem IsP.ins {s : List Nat} {k x : Nat} (h : IsP s) (hs : 1 ≤ s.length) (hk : 1 ≤ k) (hx : x ∈ Alpha ∨ x ∈ Digs) : IsP (s.take k ++ [x] ++ s.drop k) := by
  refine ⟨fun y hy => ?_, fun y hy => ?_⟩
  · rcases List.mem_append.mp hy with q | q
    · rcases List.mem_append.mp q with q | q
      · exact h.1 y (List.mem_of_mem_take q)
      · rw [List.mem_singleton.mp q]; exact hx
    · exact h.1 y (List.mem_of_mem_drop q)
  · cases s with
    | nil => simp at hs
    | cons z s =>
      cases k with
      | zero => omega
      | succ k => exact h.2 y (by simpa using hy)
theorem words_wp {μ : Store} {p : Nat} {a b c n : Int} {Q : D → Store → Prop} (hp : μ[p]? = some (P3 a b c)) (wf : WF μ) (hn0 : 0 ≤ n) (hn : n ≤ 30)
    (hQ : ∀ ws a' b' c', ws.length = n.toNat → ws.Nodup → (∀ w ∈ ws, Wd 7 w) → Q (.lst (strD ws)) (μ.set p (P3 a' b' c'))) : (F__law_words [.ref p, .int n] μ).wp Q := by
  have hl : p < μ.length := (List.getElem?_eq_some_iff.mp hp).1
  have wfL : ∀ fs, WF (μ ++ [.lst (strD fs)]) := fun fs => WF_app wf fun m hm => by rw [List.mem_singleton.mp hm]; exact low_str
  refine runF_wp ?_
  show (c__law_words [some (.ref p), some (.int n), none, none, none, none, none, none, none, none, none, none, none] μ).wp (NQ μ Q) (RQ μ Q)
  unfold c__law_words
  generalize hR : RQ μ Q = RR
  generalize hN : NQ μ Q = NN
  rw [self_set hp]
  repeat walk_at "rv1"
  rw [List.length_set]
  refine drawL hl (wfL []) (by omega) (by omega) fun v1 a1 b1 c1 v10 v11 => ?_
  repeat walk_at "rv1"
  refine wordL hl (wfL []) fun stem a2 b2 c2 hst1 hst2 hst3 => ?_
  repeat walk_at "rv1"
  refine drawL hl (wfL []) (by omega) (by omega) fun v2 a3 b3 c3 v20 v21 => ?_
  repeat walk_at "rv1"
  refine drawL hl (wfL []) (by omega) (by omega) fun v3 a4 b4 c4 v30 v31 => ?_
  repeat walk_at "rv1"
  refine s_rng1 (by omega) ?_
  refine forGo_wp (k := 0) (I := fun k ρ ν => ∃ fs o8 o9 o10 a b c, ρ = [some (.ref p), some (.int n), some (.str AD), some (.ref μ.length), some (.bl (decide (v1 = 1))), some (.str stem), some (.int (1 + v2)), some (.int v3), o8, o9, o10, none, none] ∧
      ν = μ.set p (P3 a b c) ++ [.lst (strD fs)] ∧ fs.length = k ∧ fs.Nodup ∧ ∀ w ∈ fs, Wd 7 w)
    ⟨[], none, none, none, a4, b4, c4, rfl, rfl, rfl, List.nodup_nil, fun w h => (List.not_mem_nil h).elim⟩ ?_ ?_
  · intro i d ρ ν hd hI
    obtain ⟨fs, o8, o9, o10, a5, b5, c5, rfl, rfl, hlen, hnd, hW⟩ := hI
    obtain ⟨rfl, hi⟩ := rngD_at hd
    refine ⟨_, rfl, OutS.wpL_of ?_⟩
    repeat walk_at "rv1"
    refine s_slStr (by show _ ≤ 16777216; omega) ?_
    rw [cutD_take (by omega)]
    repeat walk_at "rv1"
    obtain ⟨x, hx, ex⟩ := atI_mem (xs := AD) (v := (v3 + (0 + (i : Int))) % 36) (Int.emod_nonneg _ (by omega)) (Int.emod_lt_of_pos _ (by decide))
    refine s_ok (dIx_str (Nat.le_of_ble_eq_true rfl) ex) ?_
    repeat walk_at "rv1"
    refine s_slStr (by show _ ≤ 16777216; omega) ?_
    rw [cutD_drop (by omega)]
    repeat walk_at "rv1"
    have hP1 : IsP (stem.take (1 + v2).toNat ++ [x] ++ stem.drop (1 + v2).toNat) := IsP.ins hst1 hst2 (by omega) (List.mem_append.mp (show x ∈ Alpha ++ Digs from hx))
    have hL1 : (stem.take (1 + v2).toNat ++ [x] ++ stem.drop (1 + v2).toNat).length = stem.length + 1 := by
      simp only [List.length_append, List.length_cons, List.length_nil, List.length_take, List.length_drop]
      omega
    generalize stem.take (1 + v2).toNat ++ [x] ++ stem.drop (1 + v2).toNat = w0 at hP1 hL1 ⊢
    refine OutS.wp_mono (N := fun ρ ν => ∃ w a b c, ρ = [some (.ref p), some (.int n), some (.str AD), some (.ref μ.length), some (.bl (decide (v1 = 1))), some (.str stem), some (.int (1 + v2)), some (.int v3), some (.int (0 + (i : Int))), some (.str w), o10, none, none] ∧
      ν = μ.set p (P3 a b c) ++ [.lst (strD fs)] ∧ Wd 6 w) (T := RR) ?_ ?_ fun d ν h => h
    · by_cases h1 : v1 = 1
      · rw [if_neg (by simp [h1])]
        repeat walk_at "rv1"
        exact ⟨w0, a5, b5, c5, rfl, rfl, hP1, by omega, by omega⟩
      · rw [if_pos (by simp [h1])]
        repeat walk_at "rv1"
        refine wordL hl (wfL fs) fun w a6 b6 c6 k1 k2 k3 => ?_
        repeat walk_at "rv1"
        exact ⟨w, a6, b6, c6, rfl, rfl, k1, k2, by omega⟩
    · intro ρ ν hI
      obtain ⟨w, a6, b6, c6, rfl, rfl, hw1, hw2, hw3⟩ := hI
      repeat walk_at "rv1"
      refine s_ok (lcGo_map (xs := AD) (h := fun c => D.str [c]) (p := fun _ => true) (f := fun c => D.str (w ++ [c])) fun c hc => ⟨_, rfl, rfl, fun _ => Out.eq_of ?_⟩) ?_
      · repeat walk_at "rv1"
        exact ⟨rfl, rfl⟩
      rw [show AD.filter (fun _ => true) = AD from rfl]
      repeat walk_at "rv1"
      refine s_addL (Nat.le_of_ble_eq_true rfl) ?_
      repeat walk_at "rv1"
      refine ⟨_, asL_ref S_new, ?_⟩
      repeat walk_at "rv1"
      refine s_ok (lcGo_map (xs := w :: AD.map fun c => w ++ [c]) (h := D.str) (p := fun t => !decide (t ∈ fs)) (f := D.str) fun t ht => ⟨_, rfl, Out.eq_of ?_, fun _ => rfl⟩) ?_
      · repeat walk_at "rv1"
        refine s_ok (dNotIn_str (asL_ref S_new)) ?_
        repeat walk_at "rv1"
        exact ⟨rfl, rfl⟩
      obtain ⟨y, ys, ef, hy, hyn⟩ := filt_first (C := w :: AD.map fun c => w ++ [c]) (fs := fs) (cand_nd (by decide)) (by
        show fs.length < 37
        omega)
      rw [ef]
      repeat walk_at "rv1"
      refine s_ok (dIx_lst (x := D.str y) atI_zero) ?_
      refine s_fApp S_new (by show _ < 16777216; rw [List.length_map]; omega) ?_
      rw [S_set]
      refine ⟨fs ++ [y], _, _, _, a6, b6, c6, rfl, by simp [strD], by simp [hlen], ?_, fun z hz => ?_⟩
      · refine List.nodup_append.mpr ⟨hnd, by simp, fun a ha b hb e => ?_⟩
        rw [List.mem_singleton.mp hb] at e
        exact hyn (e ▸ ha)
      · rcases List.mem_append.mp hz with q | q
        · exact hW z q
        · rw [List.mem_singleton.mp q]
          exact cand_wd ⟨hw1, hw2, hw3⟩ y hy
  · intro ρ ν hI
    obtain ⟨fs, o8, o9, o10, a5, b5, c5, rfl, rfl, hlen, hnd, hW⟩ := hI
    rw [rngD_len] at hlen
    repeat walk_at "rv1"
    rw [← hR]
    have hlen2 : (μ.set p (P3 a5 b5 c5) ++ [MO.lst (strD fs)]).take μ.length = μ.set p (P3 a5 b5 c5) := by
      rw [List.take_append_of_le_length (by rw [List.length_set]; exact Nat.le_refl _), List.take_of_length_le (by rw [List.length_set]; exact Nat.le_refl _)]
    have hf : frz μ.length (μ.set p (P3 a5 b5 c5) ++ [MO.lst (strD fs)]) (.ref μ.length) = .lst (strD fs) := by
      show (if μ.length < μ.length then D.ref μ.length else match (μ.set p (P3 a5 b5 c5) ++ [MO.lst (strD fs)])[μ.length]? with
        | some (.lst ds) => .lst ds
        | some (.dct ks ds) => .dct ks ds
        | some (.ins c ns ds) => .obj c ns ds
        | none => .ref μ.length) = _
      rw [if_neg (Nat.lt_irrefl _), S_new]
    refine ⟨kept_low fun m hm => ?_, ?_, ?_⟩
    · rw [hlen2] at hm
      have := WF_set (p := p) (m := P3 a5 b5 c5) wf rfl m hm
      rw [List.length_set] at this
      exact this
    · rw [hf]; exact low_str
    · rw [hf, hlen2]
      exact hQ fs a5 b5 c5 (by omega) hnd hW
end G
set_option Elab.async false
set_option linter.all false
set_option maxRecDepth 100000
set_option maxHeartbeats 2000000
namespace G
open PySem PySem.Spec L2 Rv
open PyProof.Rows hiding St
theorem wordsL {μ L : Store} {p : Nat} {a b c n : Int} {Q : D → Store → Prop} (hl : p < μ.length) (wf : WF (μ ++ L)) (hn0 : 0 ≤ n) (hn : n ≤ 30)
    (hQ : ∀ ws a' b' c', ws.length = n.toNat → ws.Nodup → (∀ w ∈ ws, Wd 7 w) → Q (.lst (strD ws)) (μ.set p (P3 a' b' c') ++ L)) : (F__law_words [.ref p, .int n] (μ.set p (P3 a b c) ++ L)).wp Q := by
  refine words_wp (S_at hl) (S_wf hl wf) hn0 hn fun ws a' b' c' h1 h2 h3 => ?_
  rw [List.set_append_left _ _ (by rw [List.length_set]; exact hl), List.set_set]
  exact hQ ws a' b' c' h1 h2 h3
/-- the end of a function that gives its one local list back -/
theorem RQ_list {μ : Store} {p : Nat} {a b c : Int} {ds : List D} {Q : D → Store → Prop} (wf : WF μ) (hd : D.lowL μ.length ds = true) (q : Q (.lst ds) (μ.set p (P3 a b c))) : RQ μ Q (.ref μ.length) (μ.set p (P3 a b c) ++ [MO.lst ds]) := by
  have hlen2 : (μ.set p (P3 a b c) ++ [MO.lst ds]).take μ.length = μ.set p (P3 a b c) := by
    rw [List.take_append_of_le_length (by rw [List.length_set]; exact Nat.le_refl _), List.take_of_length_le (by rw [List.length_set]; exact Nat.le_refl _)]
  have hf : frz μ.length (μ.set p (P3 a b c) ++ [MO.lst ds]) (.ref μ.length) = .lst ds := by
    show (if μ.length < μ.length then D.ref μ.length else match (μ.set p (P3 a b c) ++ [MO.lst ds])[μ.length]? with
      | some (.lst ds) => .lst ds
      | some (.dct ks ds) => .dct ks ds
      | some (.ins c ns ds) => .obj c ns ds
      | none => .ref μ.length) = _
    rw [if_neg (Nat.lt_irrefl _), S_new]
  refine ⟨kept_low fun m hm => ?_, ?_, ?_⟩
  · rw [hlen2] at hm
    have := WF_set (p := p) (m := P3 a b c) wf rfl m hm
    rw [List.length_set] at this
    exact this
  · rw [hf]; exact hd
  · rw [hf, hlen2]
    exact q
abbrev LineV := List Nat × List Nat × List Nat
def lineD (l : LineV) : D := .tup [.str l.1, .str l.2.1, .str l.2.2]
theorem low_line {n : Nat} : ∀ {ls : List LineV}, D.lowL n (ls.map lineD) = true
  | [] => rfl
  | l :: ls => low_line (ls := ls)
def LineOk (l : LineV) : Prop := Wd 7 l.1 ∧ Wd 7 l.2.1 ∧ Wd 7 l.2.2 ∧ l.2.1 ≠ l.2.2
theorem mod_ne {b v w : Int} (h0 : 0 ≤ b) (h1 : b < w) (h2 : 0 ≤ v) (h3 : v < w - 1) : (b + 1 + v) % w ≠ b := by
  rcases Int.lt_or_le (b + 1 + v) w with q | q
  · rw [Int.emod_eq_of_lt (by omega) q]; omega
  · rw [show b + 1 + v = (b + 1 + v - w) + w by omega, Int.add_emod_right, Int.emod_eq_of_lt (by omega) (by omega)]; omega
theorem lines_wp {μ : Store} {p : Nat} {a b c n k : Int} {Q : D → Store → Prop} (hp : μ[p]? = some (P3 a b c)) (wf : WF μ) (hn0 : 0 ≤ n) (hn : n ≤ 30) (hk0 : 2 ≤ k) (hk : k ≤ 30)
    (hQ : ∀ (ls : List LineV) (a' b' c' : Int), ls.length = n.toNat → (ls.map (·.1)).Nodup → (∀ l ∈ ls, LineOk l) → Q (.lst (ls.map lineD)) (μ.set p (P3 a' b' c'))) : (F__law_lines [.ref p, .int n, .int k] μ).wp Q := by
  have hl : p < μ.length := (List.getElem?_eq_some_iff.mp hp).1
  have wf0 : WF (μ ++ []) := by rw [List.append_nil]; exact wf
  have wfL : ∀ ls : List LineV, WF (μ ++ [.lst (ls.map lineD)]) := fun ls => WF_app wf fun m hm => by rw [List.mem_singleton.mp hm]; exact low_line
  refine runF_wp ?_
  show (c__law_lines [some (.ref p), some (.int n), some (.int k), none, none, none, none, none] μ).wp (NQ μ Q) (RQ μ Q)
  unfold c__law_lines
  generalize hR : RQ μ Q = RR
  generalize hN : NQ μ Q = NN
  rw [self_set hp, ← List.append_nil (μ.set p _)]
  repeat walk_at "rv1"
  refine wordsL hl wf0 hn0 hn fun tags a1 b1 c1 t1 t2 t3 => ?_
  repeat walk_at "rv1"
  refine wordsL hl wf0 (by omega) hk fun spots a2 b2 c2 s1 s2 s3 => ?_
  repeat walk_at "rv1"
  refine ⟨_, _, _, rfl, ?_⟩
  rw [List.append_nil, List.length_set]
  repeat walk_at "rv1"
  refine forGo_wp (k := 0) (I := fun i ρ ν => ∃ (ls : List LineV) (o6 o7 : Option D) (a b c : Int), ρ = [some (.ref p), some (.int n), some (.int k), some (.lst (strD tags)), some (.lst (strD spots)), some (.ref μ.length), o6, o7] ∧
      ν = μ.set p (P3 a b c) ++ [.lst (List.map lineD ls)] ∧ ls.map (·.1) = tags.take i ∧ ∀ l ∈ ls, LineOk l)
    ⟨[], none, none, a2, b2, c2, rfl, rfl, rfl, fun w h => (List.not_mem_nil h).elim⟩ ?_ ?_
  · intro i d ρ ν hd hI
    obtain ⟨ls, o6, o7, a5, b5, c5, rfl, rfl, htg, hW⟩ := hI
    rw [Nat.zero_add] at htg ⊢
    have hd' : (strD tags)[i]? = some d := hd
    rw [List.getElem?_map] at hd'
    cases ht : tags[i]? with
    | none => rw [ht] at hd'; cases hd'
    | some t =>
    rw [ht] at hd'
    obtain rfl : D.str t = d := Option.some.inj hd'
    obtain ⟨hti, hte⟩ := List.getElem?_eq_some_iff.mp ht
    refine ⟨_, rfl, OutS.wpL_of ?_⟩
    repeat walk_at "rv1"
    refine drawL hl (wfL ls) (by omega) (by omega) fun v1 a1 b1 c1 v10 v11 => ?_
    repeat walk_at "rv1"
    refine ⟨_, asL_ref S_new, ?_⟩
    repeat walk_at "rv1"
    have hv1 : v1.toNat < spots.length := by omega
    refine s_ok (dIx_lst (x := D.str spots[v1.toNat]) (by rw [atI_int v10 (by rw [List.length_map]; omega), List.getElem?_map, List.getElem?_eq_getElem hv1]; rfl)) ?_
    repeat walk_at "rv1"
    refine drawL hl (wfL ls) (by omega) (by omega) fun v2 a3 b3 c3 v20 v21 => ?_
    repeat walk_at "rv1"
    have m0 : 0 ≤ (v1 + 1 + v2) % k := Int.emod_nonneg _ (by omega)
    have m1 : (v1 + 1 + v2) % k < k := Int.emod_lt_of_pos _ (by omega)
    have m2 := mod_ne v10 v11 v20 v21
    generalize (v1 + 1 + v2) % k = v3 at m0 m1 m2 ⊢
    have hv3 : v3.toNat < spots.length := by omega
    refine s_ok (dIx_lst (x := D.str spots[v3.toNat]) (by rw [atI_int m0 (by rw [List.length_map]; omega), List.getElem?_map, List.getElem?_eq_getElem hv3]; rfl)) ?_
    repeat walk_at "rv1"
    have hll : ls.length = i := by
      have := congrArg List.length htg
      rw [List.length_map, List.length_take] at this
      omega
    refine s_fApp S_new (by show _ < 16777216; rw [List.length_map]; omega) ?_
    rw [S_set]
    refine ⟨ls ++ [(t, spots[v1.toNat], spots[v3.toNat])], _, _, a3, b3, c3, rfl, by simp [lineD], ?_, fun l hl => ?_⟩
    · rw [List.map_append, htg, List.take_succ, ht]
      rfl
    · rcases List.mem_append.mp hl with q | q
      · exact hW l q
      · rw [List.mem_singleton.mp q]
        refine ⟨t3 _ (hte ▸ List.getElem_mem hti), s3 _ (List.getElem_mem hv1), s3 _ (List.getElem_mem hv3), fun e => ?_⟩
        have nd := List.pairwise_iff_getElem.mp s2
        rcases Nat.lt_trichotomy v1.toNat v3.toNat with z | z | z
        · exact nd _ _ hv1 hv3 z e
        · omega
        · exact nd _ _ hv3 hv1 z e.symm
  · intro ρ ν hI
    obtain ⟨ls, o6, o7, a5, b5, c5, rfl, rfl, htg, hW⟩ := hI
    have htg : ls.map (·.1) = tags := by
      rw [htg, List.take_of_length_le (by simp [strD])]
    repeat walk_at "rv1"
    rw [← hR]
    refine RQ_list wf low_line (hQ ls a5 b5 c5 ?_ ?_ hW)
    · rw [← t1, ← htg, List.length_map]
    · rw [htg]; exact t2
end G
set_option Elab.async false
set_option linter.all false
set_option maxRecDepth 100000
set_option maxHeartbeats 2000000
namespace G
open PySem PySem.Spec L2 Rv
open PyProof.Rows hiding St
abbrev DialV := List Nat × List Nat × Bool
def dialD (l : DialV) : D := .tup [.str l.1, .str l.2.1, .bl l.2.2]
theorem low_dial {n : Nat} : ∀ {ls : List DialV}, D.lowL n (ls.map dialD) = true
  | [] => rfl
  | l :: ls => low_dial (ls := ls)
def DialOk (ls : List LineV) (l : DialV) : Prop := Wd 7 l.1 ∧ l.2.1 ∈ ls.map (·.1)
theorem dials_wp {μ : Store} {p : Nat} {a b c n r : Int} {ls : List LineV} {Q : D → Store → Prop} (hp : μ[p]? = some (P3 a b c)) (wf : WF μ) (hn0 : 0 ≤ n) (hn : n ≤ 30) (hr0 : 0 < r) (hr1 : r < 1073741824) (hls : 0 < ls.length) (hls1 : ls.length ≤ 30)
    (hQ : ∀ (ds : List DialV) (a' b' c' : Int), ds.length = n.toNat → (ds.map (·.1)).Nodup → (∀ l ∈ ds, DialOk ls l) → Q (.lst (ds.map dialD)) (μ.set p (P3 a' b' c'))) : (F__law_dials [.ref p, .lst (ls.map lineD), .int n, .int r] μ).wp Q := by
  have hl : p < μ.length := (List.getElem?_eq_some_iff.mp hp).1
  have wfL : ∀ ds : List DialV, WF (μ ++ [.lst (ds.map dialD)]) := fun ls => WF_app wf fun m hm => by rw [List.mem_singleton.mp hm]; exact low_dial
  refine runF_wp ?_
  show (c__law_dials [some (.ref p), some (.lst (ls.map lineD)), some (.int n), some (.int r), none, none] μ).wp (NQ μ Q) (RQ μ Q)
  unfold c__law_dials
  generalize hR : RQ μ Q = RR
  generalize hN : NQ μ Q = NN
  rw [self_set hp]
  repeat walk_at "rv1"
  rw [List.length_set]
  refine wordsL hl (wfL []) hn0 hn fun tags a1 b1 c1 t1 t2 t3 => ?_
  repeat walk_at "rv1"
  refine forGo_wp (k := 0) (I := fun i ρ ν => ∃ (ds : List DialV) (o5 : Option D) (a b c : Int), ρ = [some (.ref p), some (.lst (ls.map lineD)), some (.int n), some (.int r), some (.ref μ.length), o5] ∧
      ν = μ.set p (P3 a b c) ++ [.lst (List.map dialD ds)] ∧ ds.map (·.1) = tags.take i ∧ ∀ l ∈ ds, DialOk ls l)
    ⟨[], none, a1, b1, c1, rfl, rfl, rfl, fun w h => (List.not_mem_nil h).elim⟩ ?_ ?_
  · intro i d ρ ν hd hI
    obtain ⟨ds, o5, a5, b5, c5, rfl, rfl, htg, hW⟩ := hI
    rw [Nat.zero_add] at htg ⊢
    have hd' : (strD tags)[i]? = some d := hd
    rw [List.getElem?_map] at hd'
    cases ht : tags[i]? with
    | none => rw [ht] at hd'; cases hd'
    | some t =>
    rw [ht] at hd'
    obtain rfl : D.str t = d := Option.some.inj hd'
    obtain ⟨hti, hte⟩ := List.getElem?_eq_some_iff.mp ht
    refine ⟨_, rfl, OutS.wpL_of ?_⟩
    repeat walk_at "rv1"
    refine ⟨_, asL_ref S_new, ?_⟩
    repeat walk_at "rv1"
    rw [List.length_map]
    refine drawL hl (wfL ds) (by omega) (by omega) fun v1 a1 b1 c1 v10 v11 => ?_
    have hv1 : v1.toNat < ls.length := by omega
    refine s_ok (dIx_lst (x := lineD ls[v1.toNat]) (by rw [atI_int v10 (by rw [List.length_map]; omega), List.getElem?_map, List.getElem?_eq_getElem hv1]; rfl)) ?_
    repeat walk_at "rv1"
    refine s_ok (dIx_tup (x := D.str ls[v1.toNat].1) atI_zero) ?_
    repeat walk_at "rv1"
    refine drawL hl (wfL ds) hr0 hr1 fun v2 a3 b3 c3 v20 v21 => ?_
    repeat walk_at "rv1"
    have hll : ds.length = i := by
      have := congrArg List.length htg
      rw [List.length_map, List.length_take] at this
      omega
    refine s_fApp S_new (by show _ < 16777216; rw [List.length_map]; omega) ?_
    rw [S_set]
    refine ⟨ds ++ [(t, ls[v1.toNat].1, decide (v2 = 0))], _, a3, b3, c3, rfl, by simp [dialD], ?_, fun l hl => ?_⟩
    · rw [List.map_append, htg, List.take_succ, ht]
      rfl
    · rcases List.mem_append.mp hl with q | q
      · exact hW l q
      · rw [List.mem_singleton.mp q]
        exact ⟨t3 _ (hte ▸ List.getElem_mem hti), List.mem_map.mpr ⟨_, List.getElem_mem hv1, rfl⟩⟩
  · intro ρ ν hI
    obtain ⟨ds, o5, a5, b5, c5, rfl, rfl, htg, hW⟩ := hI
    have htg : ds.map (·.1) = tags := by
      rw [htg, List.take_of_length_le (by simp [strD])]
    repeat walk_at "rv1"
    rw [← hR]
    refine RQ_list wf low_dial (hQ ds a5 b5 c5 ?_ ?_ hW)
    · rw [← t1, ← htg, List.length_map]
    · rw [htg]; exact t2
end G
set_option Elab.async false
set_option linter.all false
set_option maxRecDepth 100000
set_option maxHeartbeats 2000000
namespace G
open PySem PySem.Spec L2 Rv
open PyProof.Rows hiding St
theorem RQ_int {μ : Store} {p : Nat} {a b c : Int} {d : D} {Q : D → Store → Prop} (wf : WF μ) (h1 : D.low μ.length d = true) (h2 : ∀ ν, frz μ.length ν d = d) (q : Q d (μ.set p (P3 a b c))) : RQ μ Q d (μ.set p (P3 a b c)) := by
  refine ⟨kept_set wf rfl, ?_, ?_⟩
  · rw [h2]; exact h1
  · rw [h2, List.take_of_length_le (by rw [List.length_set]; exact Nat.le_refl _)]
    exact q
theorem number_wp {μ : Store} {p : Nat} {a b c : Int} {Q : D → Store → Prop} (hp : μ[p]? = some (P3 a b c)) (wf : WF μ)
    (hQ : ∀ i a' b' c' : Int, -(10 ^ 31) < i → i < 10 ^ 31 → Q (.int i) (μ.set p (P3 a' b' c'))) : (F__law_number [.ref p] μ).wp Q := by
  have hl : p < μ.length := (List.getElem?_eq_some_iff.mp hp).1
  have hs : ∀ x, (μ.set p x)[p]? = some x := fun x => List.getElem?_set_self hl
  refine runF_wp ?_
  show (c__law_number [some (.ref p)] μ).wp (NQ μ Q) (RQ μ Q)
  unfold c__law_number
  repeat walk_at "rv1"
  refine draw_wp hp (by omega) (by omega) wf fun v1 a1 b1 c1 v10 v11 => ?_
  repeat walk_at "rv1"
  by_cases h5 : v1 < 5
  · rw [if_pos (decide_eq_true h5)]
    repeat walk_at "rv1"
    refine draw_wp (hs _) (by omega) (by omega) (WF_set wf rfl) fun v2 a2 b2 c2 v20 v21 => ?_
    rw [List.set_set]
    repeat walk_at "rv1"
    exact RQ_int wf rfl (fun _ => rfl) (hQ _ _ _ _ (by omega) (by omega))
  · rw [if_neg (by simpa using h5)]
    repeat walk_at "rv1"
    refine draw_wp (hs _) (by omega) (by omega) (WF_set wf rfl) fun v2 a2 b2 c2 v20 v21 => ?_
    rw [List.set_set]
    obtain ⟨x, hx, ex⟩ := atI_mem (xs := [D.int (10 ^ (6 : Int).toNat), D.int (-10 ^ (6 : Int).toNat), D.int (10 ^ (30 : Int).toNat), D.int (-10 ^ (30 : Int).toNat)]) v20 v21
    refine s_ok (dIx_lst ex) ?_
    have : ∃ i : Int, x = .int i ∧ -(10 ^ 30) ≤ i ∧ i ≤ 10 ^ 30 := by
      simp only [List.mem_cons, List.not_mem_nil, or_false] at hx
      rcases hx with rfl | rfl | rfl | rfl <;> exact ⟨_, rfl, by decide, by decide⟩
    obtain ⟨i, rfl, i1, i2⟩ := this
    repeat walk_at "rv1"
    refine draw_wp (hs _) (by omega) (by omega) (WF_set wf rfl) fun v3 a3 b3 c3 v30 v31 => ?_
    rw [List.set_set]
    repeat walk_at "rv1"
    exact RQ_int wf rfl (fun _ => rfl) (hQ _ _ _ _ (by omega) (by omega))
end G
set_option Elab.async false
set_option linter.all false
set_option maxRecDepth 100000
set_option maxHeartbeats 2000000
namespace G
open PySem PySem.Spec L2 Rv
open PyProof.Rows hiding St
/-- a reading: none, or a number that is not too far off -/
def rdD : Option Int → D
  | none => .non
  | some i => .int i
def RdOk (sh : Bool) (o : Option Int) : Prop := (o = none → sh = false) ∧ ∀ i, o = some i → -(10 ^ 31) < i ∧ i < 10 ^ 31
theorem RdOk.num {sh : Bool} {i : Int} (i1 : -(10 ^ 31) < i) (i2 : i < 10 ^ 31) : RdOk sh (some i) := by
  refine ⟨(fun h => nomatch h), fun j hj => ?_⟩
  cases hj
  exact ⟨i1, i2⟩
theorem RdOk.no : RdOk false none := ⟨fun _ => rfl, fun j hj => nomatch hj⟩
theorem reading_wp {μ : Store} {p : Nat} {a b c : Int} {sh : Bool} {Q : D → Store → Prop} (hp : μ[p]? = some (P3 a b c)) (wf : WF μ)
    (hQ : ∀ (o : Option Int) (a' b' c' : Int), RdOk sh o → Q (rdD o) (μ.set p (P3 a' b' c'))) : (F__law_reading [.ref p, .bl sh] μ).wp Q := by
  have hl : p < μ.length := (List.getElem?_eq_some_iff.mp hp).1
  have hs : ∀ x, (μ.set p x)[p]? = some x := fun x => List.getElem?_set_self hl
  refine runF_wp ?_
  show (c__law_reading [some (.ref p), some (.bl sh)] μ).wp (NQ μ Q) (RQ μ Q)
  unfold c__law_reading
  repeat walk_at "rv1"
  refine draw_wp hp (by omega) (by omega) wf fun v1 a1 b1 c1 v10 v11 => ?_
  repeat walk_at "rv1"
  have num : ∀ N : Env' → Store → Prop, (F__law_number [.ref p] (μ.set p (P3 a1 b1 c1))).wp (RQ μ Q) := fun _ => by
    refine number_wp (hs _) (WF_set wf rfl) fun i a2 b2 c2 i1 i2 => ?_
    rw [List.set_set]
    exact RQ_int wf rfl (fun _ => rfl) (hQ (some i) _ _ _ (RdOk.num i1 i2))
  by_cases h5 : v1 = 0
  · rw [if_pos (decide_eq_true h5)]
    repeat walk_at "rv1"
    cases sh with
    | true =>
      rw [if_neg (by decide)]
      repeat walk_at "rv1"
      exact num fun _ _ => True
    | false =>
      rw [if_pos (by decide)]
      repeat walk_at "rv1"
      exact RQ_int wf rfl (fun _ => rfl) (hQ none _ _ _ RdOk.no)
  · rw [if_neg (by simpa using h5)]
    repeat walk_at "rv1"
    exact num fun _ _ => True
end G
set_option Elab.async false
set_option linter.all false
set_option maxRecDepth 100000
set_option maxHeartbeats 2000000
-- nolc
/-! names, pipes, meters, lines -/
local macro_rules | `(tactic| walk_at "rv1n") => `(tactic| (first | with_reducible refine Rv.s_aC ?_ | with_reducible refine Rv.s_C ?_ | with_reducible refine Rv.s_aN ?_ | with_reducible refine Rv.s_m2 ?_ | with_reducible refine Rv.s_seq ?_ | with_reducible refine Rv.s_nil ?_ | with_reducible refine Rv.s_ret ?_ | with_reducible refine Rv.s_retN ?_ | with_reducible refine Rv.s_expr ?_ | with_reducible refine Rv.s_if ?_ | with_reducible refine Rv.s_ifT ?_ | with_reducible refine Rv.s_ifF ?_ | with_reducible refine Rv.s_set ?_ | with_reducible refine Rv.s_for ?_ | with_reducible refine Rv.s_try ?_ | with_reducible refine Rv.s_asg ?_ | with_reducible refine Rv.s_par ?_ | with_reducible refine Rv.s_par3 ?_ | with_reducible refine Rv.s_m1 ?_ | with_reducible refine Rv.s_T ?_ | with_reducible refine Rv.s_B ?_ | with_reducible refine Rv.s_andM ?_ | with_reducible refine Rv.s_orM ?_ | with_reducible refine Rv.s_notM ?_ | with_reducible refine Rv.s_and ?_ | with_reducible refine Rv.s_or ?_ | with_reducible refine Rv.s_ite ?_ | with_reducible refine Rv.s_pT ?_ | with_reducible refine Rv.s_pF ?_ | with_reducible refine Rv.s_aS ?_ | with_reducible refine Rv.s_tup ?_ | with_reducible refine Rv.s_fz ?_ | with_reducible refine Rv.s_nw ?_ | with_reducible refine Rv.s_len ?_ | with_reducible refine Rv.s_slN ?_ | with_reducible refine Rv.s_slS ?_ | with_reducible refine Rv.s_sl ?_ | with_reducible refine Rv.s_call ?_ | with_reducible refine Rv.s_callB ?_ | with_reducible refine Rv.s_callK ?_ | with_reducible refine Rv.s_cmeth ?_ | with_reducible refine Rv.s_meth ?_ | with_reducible refine Rv.s_app ?_ | with_reducible refine Rv.s_M1 ?_ | with_reducible refine Rv.s_It ?_ | with_reducible refine Rv.s_I ?_ | with_reducible refine Rv.s_fmt ?_ | with_reducible refine Rv.s_jN ?_ | with_reducible refine Rv.s_jC ?_ | with_reducible refine Rv.s_tgN ?_ | with_reducible refine Rv.s_tgSub ?_ | with_reducible refine Rv.s_fld ?_ | with_reducible refine Rv.s_tgC ?_ | with_reducible refine Rv.s_tgE ?_ | with_reducible refine Rv.s_add ?_ | with_reducible refine Rv.s_sub ?_ | with_reducible refine Rv.s_int ?_ | with_reducible refine Rv.s_lt ?_ | with_reducible refine Rv.s_le ?_ | with_reducible refine Rv.s_gt ?_ | with_reducible refine Rv.s_ge ?_ | with_reducible refine Rv.s_eqI ?_ | with_reducible refine Rv.s_neI ?_ | with_reducible refine Rv.s_eqS ?_ | with_reducible refine Rv.s_neS ?_ | with_reducible refine Rv.s_not ?_ | with_reducible refine Rv.s_lenL ?_ | with_reducible refine Rv.s_lenT ?_ | ((with_reducible apply Rv.s_var); exact rfl) | ((with_reducible apply Rv.s_callL); exact rfl) | ((with_reducible apply Rv.s_ar); exact rfl) | ((with_reducible apply Rv.s_ar1); exact rfl) | ((with_reducible apply Rv.s_tgT); exact rfl) | ((with_reducible apply Rv.s_ar1K); exact ⟨rfl, rfl, rfl⟩) | ((with_reducible apply Rv.s_mul); (first | omega | (right; omega) | (left; omega))) | ((with_reducible apply Rv.s_div); omega) | ((with_reducible apply Rv.s_mod); omega) | ((with_reducible apply Rv.s_divmod); omega) | ((with_reducible apply Rv.s_lenS); (first | exact Nat.le_of_ble_eq_true rfl | (show _ ≤ 16777216; omega) | (show _ ≤ 16777216; simp only [List.length_append, List.length_cons, List.length_nil, List.length_take, List.length_drop]; omega))) | ((with_reducible apply Rv.s_addS); (first | exact Nat.le_of_ble_eq_true rfl | (show _ ≤ 16777216; omega) | (show _ ≤ 16777216; simp only [List.length_append, List.length_cons, List.length_nil, List.length_take, List.length_drop]; omega))) | ((with_reducible apply Rv.s_pow); decide) | with_reducible refine Rv.s_neg ?_ | with_reducible refine Rv.s_chain ?_ | with_reducible refine Rv.s_inC ?_ | with_reducible refine Rv.s_ninC ?_ | with_reducible refine Rv.s_enuT ?_ | with_reducible refine Rv.s_eqBl ?_ | with_reducible refine Rv.s_neBl ?_ | refine ⟨_, _, rfl, ?_⟩ | refine ⟨_, rfl, ?_⟩ | refine ⟨Nat.le_of_ble_eq_true rfl, ?_⟩ | refine And.intro (show _ ≤ 16777216 by (first | omega | (simp only [List.length_append, List.length_cons, List.length_nil, List.length_map, List.length_take, List.length_drop]; omega))) ?_ | refine Rv.s_ifT ?_ | refine Rv.s_ifF ?_ | refine Rv.s_pT ?_ | refine Rv.s_pF ?_))
namespace G
open PySem PySem.Spec L2 Rv
open PyProof.Rows hiding St
theorem Wd.mono {n m : Nat} {w : List Nat} (h : Wd n w) (l : n ≤ m) : Wd m w := ⟨h.1, h.2.1, Nat.le_trans h.2.2 l⟩
theorem Wd.sign {n c : Nat} {w : List Nat} (h : Wd n w) (hc : c ∈ w) : 48 ≤ c ∧ c ≤ 122 := by
  rcases h.1.1 c hc with q | q
  · simp [Alpha] at q; omega
  · simp [Digs] at q; omega
theorem Wd.no {n c : Nat} {w : List Nat} (h : Wd n w) (hc : c < 48) : c ∉ w := fun q => by
  have := h.sign q
  omega
theorem is_name_eq {μ : Store} {w : List Nat} (h : Wd 8 w) : F_is_name [.str w] μ = .ok (.bl true) μ := by
  obtain ⟨hp, h1, h8⟩ := h
  obtain ⟨c, w, rfl⟩ : ∃ c v, w = c :: v := by
    cases w with
    | nil => simp at h1
    | cons c v => exact ⟨c, v, rfl⟩
  refine Out.eq_of (runF_wp ?_)
  show (c_is_name [some (.str (c :: w)), none] μ).wp (NQ μ _) (RQ μ _)
  unfold c_is_name
  repeat walk_at "rv1n"
  try (refine s_isi (t := (.b "str")) (u := (.b "str")) (b := true) rfl rfl (by kernel_rfl) (by kernel_rfl) ?_)
  repeat walk_at "rv1n"
  refine iD_pos (by omega) ?_
  repeat walk_at "rv1n"
  refine iN_neg (by omega) ?_
  repeat walk_at "rv1n"
  refine s_ok (dIx_str (by show _ ≤ 16777216; omega) atI_zero) ?_
  repeat walk_at "rv1n"
  refine oN_neg (hp.2 c rfl) ?_
  repeat walk_at "rv1n"
  refine s_lcM (c :: w) (fun c => .str [c]) (fun _ => .bl true) (by show _ ≤ 16777216; omega) ?_ ?_ ?_
  · repeat walk_at "rv1n"
    exact ⟨rfl, rfl⟩
  · intro x hx
    refine ⟨_, rfl, ?_⟩
    repeat walk_at "rv1n"
    by_cases ha : x ∈ Alpha
    · refine iD_pos ha ⟨rfl, rfl⟩
    · refine iD_neg ha ?_
      repeat walk_at "rv1n"
      have : x ∈ Digs := (hp.1 x hx).resolve_left ha
      exact ⟨by rw [decide_eq_true this], rfl⟩
  · repeat walk_at "rv1n"
    refine s_ok fAll_true ?_
    exact RQ.pure0 rfl rfl ⟨rfl, rfl⟩
theorem check_name_eq {μ : Store} {w : List Nat} (h : Wd 8 w) : F_check_name [.str w] μ = .ok .non μ := by
  refine Out.eq_of (runF_wp ?_)
  show (c_check_name [some (.str w)] μ).wp (NQ μ _) (RQ μ _)
  unfold c_check_name
  repeat walk_at "rv1n"
  refine s_ok (is_name_eq h) ?_
  repeat walk_at "rv1n"
  exact NQ.pure0 _ ⟨rfl, rfl⟩
def pipeD (l : LineV) : D := .obj "Pipe" ["kept"] [lineD l]
def meterD (m : DialV) : D := .obj "Meter" ["kept"] [dialD m]
def sP : List Nat := [112, 105, 112, 101]
def sM : List Nat := [109, 101, 116, 101, 114]
def sS : List Nat := [115, 101, 97, 108, 101, 100]
def lineT (l : LineV) : List Nat := TL.joinL [32] [sP, l.1, l.2.1, l.2.2]
def dialT (m : DialV) : List Nat := TL.joinL [32] (if m.2.2 then [sM, m.1, m.2.1, sS] else [sM, m.1, m.2.1])
theorem pipe_new {μ : Store} {l : LineV} (wf : WF μ) (h : LineOk l) : newF "Pipe" false F_Pipe___init__ [.str l.1, .str l.2.1, .str l.2.2] μ = .ok (pipeD l) μ := by
  obtain ⟨n, s, e⟩ := l
  obtain ⟨h1, h2, h3, h4⟩ := h
  refine new_eq (ns := ["kept"]) (ds := [lineD (n, s, e)]) (Out.eq_of (runF_wp ?_)) rfl
  show (c_Pipe___init__ [some (.ref μ.length), some (.str n), some (.str s), some (.str e)] (μ ++ [MO.ins "Pipe" [] []])).wp (NQ _ _) (RQ _ _)
  unfold c_Pipe___init__
  repeat walk_at "rv1n"
  refine s_ok (check_name_eq (h1.mono (by omega))) ?_
  repeat walk_at "rv1n"
  refine s_ok (check_name_eq (h2.mono (by omega))) ?_
  repeat walk_at "rv1n"
  refine s_ok (check_name_eq (h3.mono (by omega))) ?_
  repeat walk_at "rv1n"
  refine oD_neg (fun q => h4 q.symm) ?_
  repeat walk_at "rv1n"
  refine ⟨_, dSetF_ref (new_at (L := [])) (by decide), ?_⟩
  rw [new_set]
  exact NQ_new wf rfl ⟨rfl, rfl⟩
theorem meter_new {μ : Store} {n a : List Nat} {b : Bool} (wf : WF μ) (h1 : Wd 7 n) (h2 : Wd 7 a) : newF "Meter" false F_Meter___init__ [.str n, .str a, .bl b] μ = .ok (meterD (n, a, b)) μ := by
  refine new_eq (ns := ["kept"]) (ds := [dialD (n, a, b)]) (Out.eq_of (runF_wp ?_)) rfl
  show (c_Meter___init__ [some (.ref μ.length), some (.str n), some (.str a), some (.bl b)] (μ ++ [MO.ins "Meter" [] []])).wp (NQ _ _) (RQ _ _)
  unfold c_Meter___init__
  repeat walk_at "rv1n"
  refine s_ok (check_name_eq (h1.mono (by omega))) ?_
  repeat walk_at "rv1n"
  refine s_ok (check_name_eq (h2.mono (by omega))) ?_
  repeat walk_at "rv1n"
  try (refine s_isi (t := (.b "bool")) (u := (.b "bool")) (b := true) rfl rfl (by kernel_rfl) (by kernel_rfl) ?_)
  repeat walk_at "rv1n"
  refine ⟨_, dSetF_ref (new_at (L := [])) (by decide), ?_⟩
  rw [new_set]
  exact NQ_new wf rfl ⟨rfl, rfl⟩
theorem lineT_len {l : LineV} (h : LineOk l) : (lineT l).length ≤ 60 := by
  obtain ⟨h1, h2, h3, _⟩ := h
  have := h1.2.2
  have := h2.2.2
  have := h3.2.2
  simp only [lineT, TL.joinL, sP, List.length_append, List.length_cons, List.length_nil]
  omega
theorem dialT_len {m : DialV} (h1 : Wd 7 m.1) (h2 : Wd 7 m.2.1) : (dialT m).length ≤ 60 := by
  have := h1.2.2
  have := h2.2.2
  unfold dialT
  split <;> simp only [TL.joinL, sM, sS, List.length_append, List.length_cons, List.length_nil] <;> omega
theorem item_pipe {μ : Store} {l : LineV} (wf : WF μ) (h : LineOk l) : F_item_of [.str (lineT l)] μ = .ok (pipeD l) μ := by
  have hl := lineT_len h
  refine Out.eq_of (runF_wp ?_)
  show (c_item_of [some (.str (lineT l)), none] μ).wp (NQ μ _) (RQ μ _)
  unfold c_item_of
  repeat walk_at "rv1n"
  refine s_split (ws := [sP, l.1, l.2.1, l.2.2]) (TL.spl_join (by simp) fun p hp => ?_) (by decide) (by show _ ≤ 16777216; omega) ?_
  · simp only [List.mem_cons, List.not_mem_nil, or_false] at hp
    rcases hp with rfl | rfl | rfl | rfl
    · decide
    · exact h.1.no (by decide)
    · exact h.2.1.no (by decide)
    · exact h.2.2.1.no (by decide)
  repeat walk_at "rv1n"
  try refine s_ok (dIx_lst (x := D.str sP) rfl) ?_
  repeat walk_at "rv1n"
  try refine oD_pos rfl ?_
  repeat walk_at "rv1n"
  try refine s_ok (dIx_lst (x := D.str l.1) rfl) ?_
  repeat walk_at "rv1n"
  try refine s_ok (dIx_lst (x := D.str l.2.1) rfl) ?_
  repeat walk_at "rv1n"
  try refine s_ok (dIx_lst (x := D.str l.2.2) rfl) ?_
  repeat walk_at "rv1n"
  refine s_ok (pipe_new wf h) ?_
  exact RQ.pure0 rfl rfl ⟨rfl, rfl⟩
theorem item_meter {μ : Store} {m : DialV} (wf : WF μ) (h1 : Wd 7 m.1) (h2 : Wd 7 m.2.1) : F_item_of [.str (dialT m)] μ = .ok (meterD m) μ := by
  have hl := dialT_len h1 h2
  obtain ⟨n, a, b⟩ := m
  refine Out.eq_of (runF_wp ?_)
  show (c_item_of [some (.str (dialT (n, a, b))), none] μ).wp (NQ μ _) (RQ μ _)
  unfold c_item_of
  repeat walk_at "rv1n"
  cases b with
  | true =>
    refine s_split (ws := [sM, n, a, sS]) (TL.spl_join (by simp) fun p hp => ?_) (by decide) (by show _ ≤ 16777216; omega) ?_
    · have hp : p ∈ [sM, n, a, sS] := hp
      simp only [List.mem_cons, List.not_mem_nil, or_false] at hp
      rcases hp with rfl | rfl | rfl | rfl
      · decide
      · exact h1.no (by decide)
      · exact h2.no (by decide)
      · decide
    repeat walk_at "rv1n"
    try refine s_ok (dIx_lst (x := D.str sM) rfl) ?_
    repeat walk_at "rv1n"
    try refine oD_neg (by decide) ?_
    repeat walk_at "rv1n"
    try refine s_inI [3, 4] rfl ?_
    repeat walk_at "rv1n"
    try refine s_ok (dIx_lst (x := D.str sM) rfl) ?_
    repeat walk_at "rv1n"
    try refine oD_pos rfl ?_
    repeat walk_at "rv1n"
    try refine s_ok (dIx_lst (x := D.str n) rfl) ?_
    repeat walk_at "rv1n"
    try refine s_ok (dIx_lst (x := D.str a) rfl) ?_
    repeat walk_at "rv1n"
    refine s_ok (meter_new wf h1 h2) ?_
    exact RQ.pure0 rfl rfl ⟨by simp [meterD, dialD], rfl⟩
  | false =>
    refine s_split (ws := [sM, n, a]) (TL.spl_join (by simp) fun p hp => ?_) (by decide) (by show _ ≤ 16777216; omega) ?_
    · have hp : p ∈ [sM, n, a] := hp
      simp only [List.mem_cons, List.not_mem_nil, or_false] at hp
      rcases hp with rfl | rfl | rfl
      · decide
      · exact h1.no (by decide)
      · exact h2.no (by decide)
    repeat walk_at "rv1n"
    try refine s_inI [3, 4] rfl ?_
    repeat walk_at "rv1n"
    try refine s_ok (dIx_lst (x := D.str sM) rfl) ?_
    repeat walk_at "rv1n"
    try refine oD_pos rfl ?_
    repeat walk_at "rv1n"
    try refine s_ok (dIx_lst (x := D.str n) rfl) ?_
    repeat walk_at "rv1n"
    try refine s_ok (dIx_lst (x := D.str a) rfl) ?_
    repeat walk_at "rv1n"
    refine s_ok (meter_new wf h1 h2) ?_
    exact RQ.pure0 rfl rfl ⟨by simp [meterD, dialD], rfl⟩
/-! getters -/
theorem pipe_name_eq {μ : Store} {l : LineV} : F_Pipe_name [pipeD l] μ = .ok (.str l.1) μ := by
  refine Out.eq_of (runF_wp ?_)
  show (c_Pipe_name [some (pipeD l)] μ).wp (NQ μ _) (RQ μ _)
  unfold c_Pipe_name
  repeat walk_at "rv1n"
  refine s_get rfl (x := lineD l) rfl ?_
  repeat walk_at "rv1n"
  refine s_ok (dIx_tup (x := D.str l.1) rfl) ?_
  exact RQ.pure0 rfl rfl ⟨rfl, rfl⟩
theorem pipe_start_eq {μ : Store} {l : LineV} : F_Pipe_start [pipeD l] μ = .ok (.str l.2.1) μ := by
  refine Out.eq_of (runF_wp ?_)
  show (c_Pipe_start [some (pipeD l)] μ).wp (NQ μ _) (RQ μ _)
  unfold c_Pipe_start
  repeat walk_at "rv1n"
  refine s_get rfl (x := lineD l) rfl ?_
  repeat walk_at "rv1n"
  refine s_ok (dIx_tup (x := D.str l.2.1) rfl) ?_
  exact RQ.pure0 rfl rfl ⟨rfl, rfl⟩
theorem pipe_end_eq {μ : Store} {l : LineV} : F_Pipe_end [pipeD l] μ = .ok (.str l.2.2) μ := by
  refine Out.eq_of (runF_wp ?_)
  show (c_Pipe_end [some (pipeD l)] μ).wp (NQ μ _) (RQ μ _)
  unfold c_Pipe_end
  repeat walk_at "rv1n"
  refine s_get rfl (x := lineD l) rfl ?_
  repeat walk_at "rv1n"
  refine s_ok (dIx_tup (x := D.str l.2.2) rfl) ?_
  exact RQ.pure0 rfl rfl ⟨rfl, rfl⟩
theorem meter_name_eq {μ : Store} {l : DialV} : F_Meter_name [meterD l] μ = .ok (.str l.1) μ := by
  refine Out.eq_of (runF_wp ?_)
  show (c_Meter_name [some (meterD l)] μ).wp (NQ μ _) (RQ μ _)
  unfold c_Meter_name
  repeat walk_at "rv1n"
  refine s_get rfl (x := dialD l) rfl ?_
  repeat walk_at "rv1n"
  refine s_ok (dIx_tup (x := D.str l.1) rfl) ?_
  exact RQ.pure0 rfl rfl ⟨rfl, rfl⟩
theorem meter_at_eq {μ : Store} {l : DialV} : F_Meter_at [meterD l] μ = .ok (.str l.2.1) μ := by
  refine Out.eq_of (runF_wp ?_)
  show (c_Meter_at [some (meterD l)] μ).wp (NQ μ _) (RQ μ _)
  unfold c_Meter_at
  repeat walk_at "rv1n"
  refine s_get rfl (x := dialD l) rfl ?_
  repeat walk_at "rv1n"
  refine s_ok (dIx_tup (x := D.str l.2.1) rfl) ?_
  exact RQ.pure0 rfl rfl ⟨rfl, rfl⟩
theorem meter_sealed_eq {μ : Store} {l : DialV} : F_Meter_sealed [meterD l] μ = .ok (.bl l.2.2) μ := by
  refine Out.eq_of (runF_wp ?_)
  show (c_Meter_sealed [some (meterD l)] μ).wp (NQ μ _) (RQ μ _)
  unfold c_Meter_sealed
  repeat walk_at "rv1n"
  refine s_get rfl (x := dialD l) rfl ?_
  repeat walk_at "rv1n"
  refine s_ok (dIx_tup (x := D.bl l.2.2) rfl) ?_
  exact RQ.pure0 rfl rfl ⟨rfl, rfl⟩
end G
set_option Elab.async false
set_option linter.all false
set_option maxRecDepth 100000
set_option maxHeartbeats 2000000
-- nolc
/-! nets and their texts -/
namespace G
open PySem PySem.Spec L2 Rv
open PyProof.Rows hiding St
theorem low_pipes {n : Nat} : ∀ {ls : List LineV}, D.lowL n (ls.map pipeD) = true
  | [] => rfl
  | l :: ls => low_pipes (ls := ls)
theorem low_meters {n : Nat} : ∀ {ls : List DialV}, D.lowL n (ls.map meterD) = true
  | [] => rfl
  | l :: ls => low_meters (ls := ls)
theorem take_mem {α : Type} [DecidableEq α] {xs : List α} {i : Nat} {x : α} (nd : xs.Nodup) (h : xs[i]? = some x) : x ∉ xs.take i := by
  obtain ⟨hl, e⟩ := List.getElem?_eq_some_iff.mp h
  intro q
  obtain ⟨j, hj, e2⟩ := List.getElem_of_mem q
  rw [List.length_take] at hj
  rw [List.getElem_take] at e2
  have := (List.getElem_inj nd).mp (e2.trans e.symm)
  omega
theorem check_pipes_eq {μ : Store} {ls : List LineV} (h0 : 0 < ls.length) (h1 : ls.length ≤ 12) (nd : (ls.map (·.1)).Nodup) : F_check_pipes [.tup (ls.map pipeD)] μ = .ok .non μ := by
  refine Out.eq_of (runF_wp ?_)
  show (c_check_pipes [some (.tup (ls.map pipeD)), none, none, none] μ).wp (NQ μ _) (RQ μ _)
  unfold c_check_pipes
  repeat walk_at "rv1n"
  try (refine s_isi (t := (.b "tuple")) (u := (.b "tuple")) (b := true) rfl rfl (by kernel_rfl) (by kernel_rfl) ?_)
  repeat walk_at "rv1n"
  rw [List.length_map]
  refine oD_neg (by omega) ?_
  repeat walk_at "rv1n"
  refine forGo_wp (k := 0) (I := fun k ρ ν => ∃ o2 o3, ρ = [some (.tup (ls.map pipeD)), some (.ref μ.length), o2, o3] ∧ ν = μ ++ [.lst (strD ((ls.map (·.1)).take k))])
    ⟨none, none, rfl, rfl⟩ ?_ ?_
  · intro i d ρ ν hd hI
    obtain ⟨o2, o3, rfl, rfl⟩ := hI
    rw [Nat.zero_add]
    obtain ⟨x, hx, rfl⟩ := enumD_get hd
    obtain ⟨l, hl, rfl⟩ := map_at hx
    obtain ⟨hi, he⟩ := List.getElem?_eq_some_iff.mp hl
    have hn : (ls.map (·.1))[i]? = some l.1 := by rw [List.getElem?_map, hl]; rfl
    refine ⟨_, rfl, OutS.wpL_of ?_⟩
    repeat walk_at "rv1n"
    try (refine s_isi (t := (.c "Pipe")) (u := (.c "Pipe")) (b := true) rfl rfl (by kernel_rfl) (by kernel_rfl) ?_)
    repeat walk_at "rv1n"
    refine s_prop rfl (s_ok pipe_name_eq ?_)
    repeat walk_at "rv1n"
    refine s_inS _ (asL_ref new_at) ?_
    repeat walk_at "rv1n"
    refine iD_neg (take_mem nd hn) ?_
    repeat walk_at "rv1n"
    refine oD_neg (by omega) ?_
    repeat walk_at "rv1n"
    refine ⟨_, asL_ref new_at, ?_⟩
    refine s_prop rfl (s_ok pipe_name_eq ?_)
    refine s_fApp new_at (by show _ < 16777216; rw [List.length_map, List.length_take]; omega) ?_
    rw [new_set]
    refine ⟨_, _, rfl, ?_⟩
    rw [List.take_succ, hn]
    simp [strD]
  · intro ρ ν hI
    obtain ⟨o2, o3, rfl, rfl⟩ := hI
    exact NQ.pure _ _ ⟨rfl, rfl⟩
theorem check_meters_eq {μ : Store} {ls : List LineV} {ms : List DialV} (h1 : ms.length ≤ 12) (h2 : ls.length ≤ 12) (nd : (ms.map (·.1)).Nodup) (hm : ∀ m ∈ ms, m.2.1 ∈ ls.map (·.1)) : F_check_meters [.tup (ms.map meterD), .tup (ls.map pipeD)] μ = .ok .non μ := by
  refine Out.eq_of (runF_wp ?_)
  show (c_check_meters [some (.tup (ms.map meterD)), some (.tup (ls.map pipeD)), none, none, none, none, none] μ).wp (NQ μ _) (RQ μ _)
  unfold c_check_meters
  repeat walk_at "rv1n"
  try (refine s_isi (t := (.b "tuple")) (u := (.b "tuple")) (b := true) rfl rfl (by kernel_rfl) (by kernel_rfl) ?_)
  repeat walk_at "rv1n"
  refine s_lcM ls pipeD (fun l => .str l.1) (by show _ ≤ 16777216; omega) ?_ ?_ ?_
  · repeat walk_at "rv1n"
    exact ⟨rfl, rfl⟩
  · intro x hx
    refine ⟨_, rfl, ?_⟩
    repeat walk_at "rv1n"
    exact s_prop rfl (s_ok pipe_name_eq ⟨rfl, rfl⟩)
  have ep : (ls.map fun l => D.str l.1) = strD (ls.map (·.1)) := by simp [strD]
  rw [ep]
  repeat walk_at "rv1n"
  refine forGo_wp (k := 0) (I := fun k ρ ν => ∃ o3 o5 o6, ρ = [some (.tup (ms.map meterD)), some (.tup (ls.map pipeD)), some (.lst (strD (ls.map (·.1)))), o3, some (.ref μ.length), o5, o6] ∧ ν = μ ++ [.lst (strD ((ms.map (·.1)).take k))])
    ⟨none, none, none, rfl, rfl⟩ ?_ ?_
  · intro i d ρ ν hd hI
    obtain ⟨o3, o5, o6, rfl, rfl⟩ := hI
    rw [Nat.zero_add]
    obtain ⟨x, hx, rfl⟩ := enumD_get hd
    obtain ⟨l, hl, rfl⟩ := map_at hx
    obtain ⟨hi, he⟩ := List.getElem?_eq_some_iff.mp hl
    have hn : (ms.map (·.1))[i]? = some l.1 := by rw [List.getElem?_map, hl]; rfl
    refine ⟨_, rfl, OutS.wpL_of ?_⟩
    repeat walk_at "rv1n"
    try (refine s_isi (t := (.c "Meter")) (u := (.c "Meter")) (b := true) rfl rfl (by kernel_rfl) (by kernel_rfl) ?_)
    repeat walk_at "rv1n"
    refine s_prop rfl (s_ok meter_name_eq ?_)
    repeat walk_at "rv1n"
    refine s_inS _ (asL_ref new_at) ?_
    repeat walk_at "rv1n"
    refine iD_neg (take_mem nd hn) ?_
    repeat walk_at "rv1n"
    refine s_prop rfl (s_ok meter_at_eq ?_)
    repeat walk_at "rv1n"
    refine s_ninS _ rfl ?_
    repeat walk_at "rv1n"
    refine iN_neg (hm l (he ▸ List.getElem_mem hi)) ?_
    repeat walk_at "rv1n"
    refine oD_neg (by omega) ?_
    repeat walk_at "rv1n"
    refine ⟨_, asL_ref new_at, ?_⟩
    refine s_prop rfl (s_ok meter_name_eq ?_)
    refine s_fApp new_at (by show _ < 16777216; rw [List.length_map, List.length_take]; omega) ?_
    rw [new_set]
    refine ⟨_, _, _, rfl, ?_⟩
    rw [List.take_succ, hn]
    simp [strD]
  · intro ρ ν hI
    obtain ⟨o3, o5, o6, rfl, rfl⟩ := hI
    exact NQ.pure _ _ ⟨rfl, rfl⟩
def netD (ls : List LineV) (ms : List DialV) : D := .obj "Net" ["joined", "fitted"] [.tup (ls.map pipeD), .tup (ms.map meterD)]
/-- what a net is made of -/
structure NetOk (ls : List LineV) (ms : List DialV) : Prop where
  l0 : 0 < ls.length
  l1 : ls.length ≤ 12
  m1 : ms.length ≤ 12
  lnd : (ls.map (·.1)).Nodup
  mnd : (ms.map (·.1)).Nodup
  lok : ∀ l ∈ ls, LineOk l
  mok : ∀ m ∈ ms, DialOk ls m
theorem NetOk.mat {ls : List LineV} {ms : List DialV} (h : NetOk ls ms) {m : DialV} (hm : m ∈ ms) : Wd 7 m.2.1 := by
  obtain ⟨l, hl, e⟩ := List.mem_map.mp (h.mok m hm).2
  rw [← e]
  exact (h.lok l hl).1
theorem low_net {n : Nat} {ls : List LineV} {ms : List DialV} : D.low n (netD ls ms) = true := by
  show (D.lowL n (ls.map pipeD) && (D.lowL n (ms.map meterD) && true)) = true
  rw [low_pipes, low_meters]
  rfl
theorem net_new {μ : Store} {ls : List LineV} {ms : List DialV} (wf : WF μ) (h : NetOk ls ms) : newF "Net" false F_Net___init__ [.tup (ls.map pipeD), .tup (ms.map meterD)] μ = .ok (netD ls ms) μ := by
  refine new_eq (ns := ["joined", "fitted"]) (ds := [.tup (ls.map pipeD), .tup (ms.map meterD)]) (Out.eq_of (runF_wp ?_)) ?_
  · show (c_Net___init__ [some (.ref μ.length), some (.tup (ls.map pipeD)), some (.tup (ms.map meterD))] (μ ++ [MO.ins "Net" [] []])).wp (NQ _ _) (RQ _ _)
    unfold c_Net___init__
    repeat walk_at "rv1n"
    refine s_ok (check_pipes_eq h.l0 h.l1 h.lnd) ?_
    repeat walk_at "rv1n"
    refine s_ok (check_meters_eq h.m1 h.l1 h.mnd fun m hm => (h.mok m hm).2) ?_
    repeat walk_at "rv1n"
    refine ⟨_, dSetF_ref (new_at (L := [])) (by decide), ?_⟩
    rw [new_set]
    repeat walk_at "rv1n"
    refine ⟨_, dSetF_ref (new_at (L := [])) (by show 1 < 1000; decide), ?_⟩
    rw [new_set]
    refine NQ_new wf ?_ ⟨rfl, rfl⟩
    show (D.lowL _ (ls.map pipeD) && (D.lowL _ (ms.map meterD) && true)) = true
    rw [low_pipes, low_meters]
    rfl
  · show (D.lowL _ (ls.map pipeD) && (D.lowL _ (ms.map meterD) && true)) = true
    rw [low_pipes, low_meters]
    rfl
/-! lines -/
theorem line_pipe {μ : Store} {l : LineV} (h : LineOk l) : F_line_of [pipeD l] μ = .ok (.str (lineT l)) μ := by
  have a1 := h.1.2.2
  have a2 := h.2.1.2.2
  have a3 := h.2.2.1.2.2
  refine Out.eq_of (runF_wp ?_)
  show (c_line_of [some (pipeD l)] μ).wp (NQ μ _) (RQ μ _)
  unfold c_line_of
  repeat walk_at "rv1n"
  try (refine s_isi (t := (.c "Pipe")) (u := (.c "Pipe")) (b := true) rfl rfl (by kernel_rfl) (by kernel_rfl) ?_)
  repeat walk_at "rv1n"
  refine s_prop rfl (s_ok pipe_name_eq ?_)
  repeat walk_at "rv1n"
  refine s_prop rfl (s_ok pipe_start_eq ?_)
  repeat walk_at "rv1n"
  refine s_prop rfl (s_ok pipe_end_eq ?_)
  repeat walk_at "rv1n"
  exact RQ.pure0 rfl rfl ⟨by simp [lineT, TL.joinL, sP], rfl⟩
theorem line_meter {μ : Store} {m : DialV} (h1 : Wd 7 m.1) (h2 : Wd 7 m.2.1) : F_line_of [meterD m] μ = .ok (.str (dialT m)) μ := by
  obtain ⟨n, a, b⟩ := m
  have a1 : n.length ≤ 7 := h1.2.2
  have a2 : a.length ≤ 7 := h2.2.2
  refine Out.eq_of (runF_wp ?_)
  show (c_line_of [some (meterD (n, a, b))] μ).wp (NQ μ _) (RQ μ _)
  unfold c_line_of
  repeat walk_at "rv1n"
  try (refine s_isi (t := (.c "Meter")) (u := (.c "Pipe")) (b := false) rfl rfl (by kernel_rfl) (by kernel_rfl) ?_)
  repeat walk_at "rv1n"
  refine s_prop rfl (s_ok meter_sealed_eq ?_)
  repeat walk_at "rv1n"
  cases b with
  | true =>
    refine iB_pos rfl ?_
    repeat walk_at "rv1n"
    refine s_prop rfl (s_ok meter_name_eq ?_)
    repeat walk_at "rv1n"
    refine s_prop rfl (s_ok meter_at_eq ?_)
    repeat walk_at "rv1n"
    exact RQ.pure0 rfl rfl ⟨by simp [dialT, TL.joinL, sM, sS], rfl⟩
  | false =>
    refine iB_neg rfl ?_
    repeat walk_at "rv1n"
    refine s_prop rfl (s_ok meter_name_eq ?_)
    repeat walk_at "rv1n"
    refine s_prop rfl (s_ok meter_at_eq ?_)
    repeat walk_at "rv1n"
    exact RQ.pure0 rfl rfl ⟨by simp [dialT, TL.joinL, sM], rfl⟩
/-! a net's text -/
abbrev ItemV := LineV ⊕ DialV
def itemD : ItemV → D
  | .inl l => pipeD l
  | .inr m => meterD m
def itemT : ItemV → List Nat
  | .inl l => lineT l
  | .inr m => dialT m
def itemsOf (ls : List LineV) (ms : List DialV) : List ItemV := ls.map Sum.inl ++ ms.map Sum.inr
def textL (ls : List LineV) (ms : List DialV) : List Nat := TL.joinL [10] ((itemsOf ls ms).map itemT)
def ItemOk : ItemV → Prop
  | .inl l => LineOk l
  | .inr m => Wd 7 m.1 ∧ Wd 7 m.2.1
theorem NetOk.items {ls : List LineV} {ms : List DialV} (h : NetOk ls ms) : ∀ x ∈ itemsOf ls ms, ItemOk x := by
  intro x hx
  rcases List.mem_append.mp hx with q | q
  · obtain ⟨l, hl, rfl⟩ := List.mem_map.mp q
    exact h.lok l hl
  · obtain ⟨m, hm, rfl⟩ := List.mem_map.mp q
    exact ⟨(h.mok m hm).1, h.mat hm⟩
theorem itemT_len {x : ItemV} (h : ItemOk x) : (itemT x).length ≤ 60 := by
  cases x with
  | inl l => exact lineT_len h
  | inr m => exact dialT_len h.1 h.2
theorem line_item {μ : Store} {x : ItemV} (h : ItemOk x) : F_line_of [itemD x] μ = .ok (.str (itemT x)) μ := by
  cases x with
  | inl l => exact line_pipe h
  | inr m => exact line_meter h.1 h.2
theorem item_line {μ : Store} {x : ItemV} (wf : WF μ) (h : ItemOk x) : F_item_of [.str (itemT x)] μ = .ok (itemD x) μ := by
  cases x with
  | inl l => exact item_pipe wf h
  | inr m => exact item_meter wf h.1 h.2
theorem items_len {ls : List LineV} {ms : List DialV} (h : NetOk ls ms) : (itemsOf ls ms).length ≤ 24 := by
  have := h.l1
  have := h.m1
  simp [itemsOf]
  omega
theorem texts_len {ls : List LineV} {ms : List DialV} (h : NetOk ls ms) : (((itemsOf ls ms).map itemT).map List.length).sum ≤ 1440 := by
  have h1 : (((itemsOf ls ms).map itemT).map List.length).sum ≤ 60 * ((itemsOf ls ms).map itemT).length := sum_len fun y hy => by
    obtain ⟨x, hx, rfl⟩ := List.mem_map.mp hy
    exact itemT_len (h.items x hx)
  have h2 := items_len h
  rw [List.length_map] at h1
  omega
theorem textL_len {ls : List LineV} {ms : List DialV} (h : NetOk ls ms) : (textL ls ms).length ≤ 1500 := by
  have h1 := texts_len h
  have h2 := joinL_len (s := [10]) (ys := (itemsOf ls ms).map itemT)
  have h3 := items_len h
  rw [List.length_map] at h2
  simp only [List.length_cons, List.length_nil] at h2
  unfold textL
  omega
theorem net_str {μ : Store} {ls : List LineV} {ms : List DialV} (h : NetOk ls ms) : F_Net___str__ [netD ls ms] μ = .ok (.str (textL ls ms)) μ := by
  refine Out.eq_of (runF_wp ?_)
  show (c_Net___str__ [some (netD ls ms), none] μ).wp (NQ μ _) (RQ μ _)
  unfold c_Net___str__
  have h3 := items_len h
  repeat walk_at "rv1n"
  refine s_lcM (itemsOf ls ms) itemD (fun x => .str (itemT x)) (by show _ ≤ 16777216; omega) ?_ ?_ ?_
  · repeat walk_at "rv1n"
    try refine s_get rfl (x := .tup (ls.map pipeD)) rfl ?_
    repeat walk_at "rv1n"
    try refine s_get rfl (x := .tup (ms.map meterD)) rfl ?_
    repeat walk_at "rv1n"
    have e : ls.map pipeD ++ (ms.map meterD ++ []) = (itemsOf ls ms).map itemD := by simp [itemsOf, itemD, Function.comp_def]
    rw [e]
    refine ⟨by rw [List.length_map]; show _ ≤ 16777216; omega, ?_⟩
    exact ⟨_, rfl, rfl, rfl⟩
  · intro x hx
    refine ⟨_, rfl, ?_⟩
    repeat walk_at "rv1n"
    exact s_ok (line_item (h.items x hx)) ⟨rfl, rfl⟩
  · have e : (itemsOf ls ms).map (fun x => D.str (itemT x)) = strD ((itemsOf ls ms).map itemT) := by simp [strD]
    rw [e]
    have h1 := texts_len h
    refine s_join rfl (by rw [List.length_map]; simp only [List.length_cons, List.length_nil]; show _ ≤ 16777216; omega) ?_
    exact RQ.pure0 rfl rfl ⟨rfl, rfl⟩
theorem filt_pipes {ls : List LineV} {ms : List DialV} : (itemsOf ls ms).filter (fun x => x.isLeft) = ls.map Sum.inl := by
  unfold itemsOf
  rw [List.filter_append, List.filter_eq_self.mpr, List.filter_eq_nil_iff.mpr, List.append_nil]
  · intro x hx
    obtain ⟨m, hm, rfl⟩ := List.mem_map.mp hx
    simp
  · intro x hx
    obtain ⟨m, hm, rfl⟩ := List.mem_map.mp hx
    rfl
theorem filt_meters {ls : List LineV} {ms : List DialV} : (itemsOf ls ms).filter (fun x => x.isRight) = ms.map Sum.inr := by
  unfold itemsOf
  rw [List.filter_append, List.filter_eq_nil_iff.mpr, List.filter_eq_self.mpr, List.nil_append]
  · intro x hx
    obtain ⟨m, hm, rfl⟩ := List.mem_map.mp hx
    rfl
  · intro x hx
    obtain ⟨m, hm, rfl⟩ := List.mem_map.mp hx
    simp
theorem s_fTup {μ : Store} {d : D} {ds : List D} {Q : D → Store → Prop} (h : asQ μ d = some ds) (q : Q (.tup ds) μ) : (fTuple [d] μ).wp Q := by
  show (match asQ μ d with
    | some xs => Out.ok (D.tup xs) μ
    | none => .stuck).wp Q
  rw [h]
  exact q
theorem s_strK {μ : Store} {cl : Str} {F : Fn} {d : D} {s : List Nat} {Q : D → Store → Prop} (h : isC μ cl d = true) (e : F [d] μ = .ok (.str s) μ) (q : Q (.str s) μ) : (fStrK cl F [d] μ).wp Q := by
  show (if isC μ cl d = true then (F [d] μ).only.bind fun r μ1 => (match r with
    | .str n => Out.ok (D.str n) μ1
    | _ => .stuck) else .stuck).wp Q
  rw [if_pos h, e]
  exact q
theorem isC_obj {μ : Store} {cl : Str} {ns : List Str} {ds : List D} : isC μ cl (.obj cl ns ds) = true := decide_eq_true rfl
theorem net_read {μ : Store} {ls : List LineV} {ms : List DialV} (wf : WF μ) (h : NetOk ls ms) : F_Net_read [.cls "Net", .str (textL ls ms)] μ = .ok (netD ls ms) μ := by
  have h3 := items_len h
  have h4 := textL_len h
  have h0 := h.l0
  refine Out.eq_of (runF_wp ?_)
  show (c_Net_read [some (.cls "Net"), some (.str (textL ls ms)), none, none, none, none, none, none] μ).wp (NQ μ _) (RQ μ _)
  unfold c_Net_read
  repeat walk_at "rv1n"
  try (refine s_isi (t := (.b "str")) (u := (.b "str")) (b := true) rfl rfl (by kernel_rfl) (by kernel_rfl) ?_)
  repeat walk_at "rv1n"
  refine s_lcM (itemsOf ls ms) (fun x => .str (itemT x)) itemD (by show _ ≤ 16777216; omega) ?_ ?_ ?_
  · repeat walk_at "rv1n"
    refine s_split (ws := (itemsOf ls ms).map itemT) (TL.spl_join ?_ fun p hp => ?_) (by decide) (by show _ ≤ 16777216; omega) ?_
    · intro e
      have := congrArg List.length e
      simp [itemsOf] at this
      rw [this.1] at h0
      simp at h0
    · obtain ⟨x, hx, rfl⟩ := List.mem_map.mp hp
      have ok := h.items x hx
      cases x with
      | inl l =>
        show 10 ∉ lineT l
        have b1 := ok.1.no (c := 10) (by decide)
        have b2 := ok.2.1.no (c := 10) (by decide)
        have b3 := ok.2.2.1.no (c := 10) (by decide)
        simp [lineT, TL.joinL, sP, b1, b2, b3]
      | inr m =>
        show 10 ∉ dialT m
        have b1 := ok.1.no (c := 10) (by decide)
        have b2 := ok.2.no (c := 10) (by decide)
        unfold dialT
        split <;> simp [TL.joinL, sM, sS, b1, b2]
    · refine ⟨_, rfl, ?_, rfl⟩
      simp [strD]
  · intro x hx
    refine ⟨_, rfl, ?_⟩
    repeat walk_at "rv1n"
    exact s_ok (item_line wf (h.items x hx)) ⟨rfl, rfl⟩
  repeat walk_at "rv1n"
  refine s_lcF (itemsOf ls ms) itemD (fun x => x.isLeft) itemD (by show _ ≤ 16777216; omega) ?_ ?_ ?_
  · repeat walk_at "rv1n"
    exact ⟨rfl, rfl⟩
  · intro x hx
    refine ⟨_, rfl, ?_, fun _ => ⟨rfl, rfl⟩⟩
    repeat walk_at "rv1n"
    cases x with
    | inl l =>
      try (refine s_isi (t := (.c "Pipe")) (u := (.c "Pipe")) (b := true) rfl rfl (by kernel_rfl) (by kernel_rfl) ?_)
      exact ⟨_, rfl, rfl, rfl⟩
    | inr m =>
      try (refine s_isi (t := (.c "Meter")) (u := (.c "Pipe")) (b := false) rfl rfl (by kernel_rfl) (by kernel_rfl) ?_)
      exact ⟨_, rfl, rfl, rfl⟩
  rw [filt_pipes, List.map_map]
  repeat walk_at "rv1n"
  refine s_fTup rfl ?_
  repeat walk_at "rv1n"
  refine s_lcF (itemsOf ls ms) itemD (fun x => x.isRight) itemD (by show _ ≤ 16777216; omega) ?_ ?_ ?_
  · repeat walk_at "rv1n"
    exact ⟨rfl, rfl⟩
  · intro x hx
    refine ⟨_, rfl, ?_, fun _ => ⟨rfl, rfl⟩⟩
    repeat walk_at "rv1n"
    cases x with
    | inl l =>
      try (refine s_isi (t := (.c "Pipe")) (u := (.c "Meter")) (b := false) rfl rfl (by kernel_rfl) (by kernel_rfl) ?_)
      exact ⟨_, rfl, rfl, rfl⟩
    | inr m =>
      try (refine s_isi (t := (.c "Meter")) (u := (.c "Meter")) (b := true) rfl rfl (by kernel_rfl) (by kernel_rfl) ?_)
      exact ⟨_, rfl, rfl, rfl⟩
  rw [filt_meters, List.map_map]
  repeat walk_at "rv1n"
  refine s_fTup rfl ?_
  repeat walk_at "rv1n"
  refine s_ok (net_new wf h) ?_
  repeat walk_at "rv1n"
  refine s_strK isC_obj (net_str h) ?_
  repeat walk_at "rv1n"
  refine oN_neg rfl ?_
  repeat walk_at "rv1n"
  exact RQ.pure0 low_net rfl ⟨rfl, rfl⟩
/-! the law's own text -/
theorem law_text {μ : Store} {ls : List LineV} {ms : List DialV} (h : NetOk ls ms) : F__law_text [.lst (ls.map lineD), .lst (ms.map dialD)] μ = .ok (.str (textL ls ms)) μ := by
  have h1 := h.l1
  have h2 := h.m1
  refine Out.eq_of (runF_wp ?_)
  show (c__law_text [some (.lst (ls.map lineD)), some (.lst (ms.map dialD)), none, none, none, none] μ).wp (NQ μ _) (RQ μ _)
  unfold c__law_text
  repeat walk_at "rv1n"
  refine s_lcM ls lineD (fun l => .str (lineT l)) (by show _ ≤ 16777216; omega) ?_ ?_ ?_
  · repeat walk_at "rv1n"
    exact ⟨rfl, rfl⟩
  · intro l hl
    have ok := h.lok l hl
    have a1 := ok.1.2.2
    have a2 := ok.2.1.2.2
    have a3 := ok.2.2.1.2.2
    refine ⟨_, rfl, ?_⟩
    repeat walk_at "rv1n"
    refine s_join (ys := [l.1, l.2.1, l.2.2]) rfl (by simp; show _ ≤ 16777216; omega) ?_
    refine s_addS (by simp [TL.joinL]; show _ ≤ 16777216; omega) ⟨?_, rfl⟩
    simp [lineT, TL.joinL, sP]
  have e0 : ls.map (fun l => D.str (lineT l)) = strD (ls.map lineT) := by simp [strD]
  rw [e0]
  repeat walk_at "rv1n"
  refine forGo_wp (k := 0) (I := fun k ρ ν => ∃ o3 o4 o5, ρ = [some (.lst (ls.map lineD)), some (.lst (ms.map dialD)), some (.ref μ.length), o3, o4, o5] ∧ ν = μ ++ [.lst (strD (ls.map lineT ++ (ms.take k).map dialT))])
    ⟨none, none, none, rfl, by simp⟩ ?_ ?_
  · intro i d ρ ν hd hI
    obtain ⟨o3, o4, o5, rfl, rfl⟩ := hI
    rw [Nat.zero_add]
    obtain ⟨m, hm, rfl⟩ := map_at hd
    obtain ⟨hi, he⟩ := List.getElem?_eq_some_iff.mp hm
    have a1 := (h.mok m (he ▸ List.getElem_mem hi)).1.2.2
    have a2 := (h.mat (he ▸ List.getElem_mem hi)).2.2
    obtain ⟨n, a, b⟩ := m
    have a1 : n.length ≤ 7 := a1
    have a2 : a.length ≤ 7 := a2
    refine ⟨_, rfl, OutS.wpL_of ?_⟩
    repeat walk_at "rv1n"
    refine ⟨_, asL_ref new_at, ?_⟩
    repeat walk_at "rv1n"
    cases b with
    | true =>
      refine iB_pos rfl ?_
      repeat walk_at "rv1n"
      refine s_fApp new_at (by show _ < 16777216; rw [List.length_map, List.length_append, List.length_map, List.length_map, List.length_take]; omega) ?_
      rw [new_set]
      refine ⟨_, _, _, rfl, ?_⟩
      rw [List.take_succ, hm]
      simp [strD, dialT, TL.joinL, sM, sS]
    | false =>
      refine iB_neg rfl ?_
      repeat walk_at "rv1n"
      refine s_fApp new_at (by show _ < 16777216; rw [List.length_map, List.length_append, List.length_map, List.length_map, List.length_take]; omega) ?_
      rw [new_set]
      refine ⟨_, _, _, rfl, ?_⟩
      rw [List.take_succ, hm]
      simp [strD, dialT, TL.joinL, sM]
  · intro ρ ν hI
    obtain ⟨o3, o4, o5, rfl, rfl⟩ := hI
    rw [List.length_map, Nat.zero_add, List.take_of_length_le (Nat.le_refl _)]
    have e : ls.map lineT ++ ms.map dialT = (itemsOf ls ms).map itemT := by simp [itemsOf, itemT, Function.comp_def]
    rw [e]
    have t1 := texts_len h
    have t2 := items_len h
    repeat walk_at "rv1n"
    refine s_join (ys := (itemsOf ls ms).map itemT) (asL_ref new_at) (by rw [List.length_map]; simp only [List.length_cons, List.length_nil]; show _ ≤ 16777216; omega) ?_
    exact RQ.pure _ rfl rfl ⟨rfl, rfl⟩
end G
set_option Elab.async false
set_option linter.all false
set_option maxRecDepth 100000
set_option maxHeartbeats 2000000
-- nolc
/-! desks -/
namespace G
open PySem PySem.Spec L2 Rv
open PyProof.Rows hiding St
abbrev Nw := List (Option Int)
def rdT (now : Nw) : D := .tup (now.map rdD)
def deskM (ls : List LineV) (ms : List DialV) (now : Nw) (past : List Nw) : MO := .ins "Desk" ["board", "now", "past"] [netD ls ms, rdT now, .tup (past.map rdT)]
theorem low_rd {n : Nat} : ∀ {now : Nw}, D.lowL n (now.map rdD) = true
  | [] => rfl
  | none :: now => low_rd (now := now)
  | some _ :: now => low_rd (now := now)
theorem low_past {n : Nat} : ∀ {past : List Nw}, D.lowL n (past.map rdT) = true
  | [] => rfl
  | now :: past => by
    show (D.lowL n (now.map rdD) && D.lowL n (past.map rdT)) = true
    rw [low_rd, low_past]
    rfl
theorem low_desk {n : Nat} {ls : List LineV} {ms : List DialV} {now : Nw} {past : List Nw} : MO.low n (deskM ls ms now past) = true := by
  show (D.low n (netD ls ms) && (D.lowL n (now.map rdD) && (D.lowL n (past.map rdT) && true))) = true
  rw [low_net, low_rd, low_past]
  rfl
theorem frz_rd {n : Nat} {μ : Store} {r : Option Int} : frz n μ (rdD r) = rdD r := by cases r <;> rfl
theorem low_rd1 {n : Nat} {r : Option Int} : D.low n (rdD r) = true := by cases r <;> rfl
section
variable {μ : Store} {ls : List LineV} {ms : List DialV} {now : Nw} {past : List Nw} {d : Nat}
theorem check_net_eq : F_check_net [netD ls ms] μ = .ok .non μ := by
  refine Out.eq_of (runF_wp ?_)
  show (c_check_net [some (netD ls ms)] μ).wp (NQ μ _) (RQ μ _)
  unfold c_check_net
  repeat walk_at "rv1n"
  try (refine s_isi (t := (.c "Net")) (u := (.c "Net")) (b := true) rfl rfl (by kernel_rfl) (by kernel_rfl) ?_)
  repeat walk_at "rv1n"
  exact NQ.pure0 _ ⟨rfl, rfl⟩
theorem net_meters_eq : F_Net_meters [netD ls ms] μ = .ok (.tup (ms.map meterD)) μ := by
  refine Out.eq_of (runF_wp ?_)
  show (c_Net_meters [some (netD ls ms)] μ).wp (NQ μ _) (RQ μ _)
  unfold c_Net_meters
  repeat walk_at "rv1n"
  refine s_get rfl (x := .tup (ms.map meterD)) rfl ?_
  exact RQ.pure0 low_meters rfl ⟨rfl, rfl⟩
def now0 (ms : List DialV) : Nw := ms.map fun m => if m.2.2 then some 0 else none
theorem desk_new (wf : WF μ) (hm : ms.length ≤ 12) : newF "Desk" true F_Desk___init__ [netD ls ms] μ = .ok (.ref μ.length) (μ ++ [deskM ls ms (now0 ms) []]) := by
  refine newK_eq (ns := ["board", "now", "past"]) (ds := [netD ls ms, rdT (now0 ms), .tup []]) (Out.eq_of (runF_wp ?_)) ?_
  · show (c_Desk___init__ [some (.ref μ.length), some (netD ls ms), none] (μ ++ [MO.ins "Desk" [] []])).wp (NQ _ _) (RQ _ _)
    unfold c_Desk___init__
    repeat walk_at "rv1n"
    refine s_ok check_net_eq ?_
    repeat walk_at "rv1n"
    refine ⟨_, dSetF_ref (new_at (L := [])) (by decide), ?_⟩
    rw [new_set]
    repeat walk_at "rv1n"
    refine s_lcM ms meterD (fun m => rdD (if m.2.2 then some 0 else none)) (by show _ ≤ 16777216; omega) ?_ ?_ ?_
    · repeat walk_at "rv1n"
      refine s_prop rfl (s_ok net_meters_eq ?_)
      repeat walk_at "rv1n"
      exact ⟨rfl, rfl⟩
    · intro m hm
      refine ⟨_, rfl, ?_⟩
      repeat walk_at "rv1n"
      refine s_prop rfl (s_ok meter_sealed_eq ?_)
      repeat walk_at "rv1n"
      obtain ⟨n, a, b⟩ := m
      cases b with
      | true => exact s_pT ⟨rfl, rfl⟩
      | false => exact s_pF ⟨rfl, rfl⟩
    have e : ms.map (fun m => rdD (if m.2.2 then some 0 else none)) = (now0 ms).map rdD := by simp [now0]
    rw [e]
    repeat walk_at "rv1n"
    refine s_fTup rfl ?_
    repeat walk_at "rv1n"
    refine ⟨_, dSetF_ref (new_at (L := [])) (by show 1 < 1000; decide), ?_⟩
    rw [new_set]
    repeat walk_at "rv1n"
    refine ⟨_, dSetF_ref (new_at (L := [])) (by show 2 < 1000; decide), ?_⟩
    rw [new_set]
    exact NQ_new wf (low_desk (ls := ls) (ms := ms) (now := now0 ms) (past := [])) ⟨rfl, rfl⟩
  · exact low_desk (ls := ls) (ms := ms) (now := now0 ms) (past := [])
theorem readings_eq (hd : μ[d]? = some (deskM ls ms now past)) : F_Desk_readings [.ref d] μ = .ok (rdT now) μ := by
  refine Out.eq_of (runF_wp ?_)
  show (c_Desk_readings [some (.ref d)] μ).wp (NQ μ _) (RQ μ _)
  unfold c_Desk_readings
  repeat walk_at "rv1n"
  refine s_get (asI_ref hd) (x := rdT now) rfl ?_
  exact RQ.pure0 low_rd rfl ⟨rfl, rfl⟩
theorem changes_eq (hd : μ[d]? = some (deskM ls ms now past)) : F_Desk_changes [.ref d] μ = .ok (.int past.length) μ := by
  refine Out.eq_of (runF_wp ?_)
  show (c_Desk_changes [some (.ref d)] μ).wp (NQ μ _) (RQ μ _)
  unfold c_Desk_changes
  repeat walk_at "rv1n"
  refine s_get (asI_ref hd) (x := .tup (past.map rdT)) rfl ?_
  repeat walk_at "rv1n"
  rw [List.length_map]
  exact RQ.pure0 rfl rfl ⟨rfl, rfl⟩
theorem desk_net_eq (hd : μ[d]? = some (deskM ls ms now past)) : F_Desk_net [.ref d] μ = .ok (netD ls ms) μ := by
  refine Out.eq_of (runF_wp ?_)
  show (c_Desk_net [some (.ref d)] μ).wp (NQ μ _) (RQ μ _)
  unfold c_Desk_net
  repeat walk_at "rv1n"
  refine s_get (asI_ref hd) (x := netD ls ms) rfl ?_
  exact RQ.pure0 low_net rfl ⟨rfl, rfl⟩
theorem desk_bool_eq : F_Desk___bool__ [.ref d] μ = .ok (.bl true) μ := by
  refine Out.eq_of (runF_wp ?_)
  show (c_Desk___bool__ [some (.ref d)] μ).wp (NQ μ _) (RQ μ _)
  unfold c_Desk___bool__
  repeat walk_at "rv1n"
  exact RQ.pure0 rfl rfl ⟨rfl, rfl⟩
theorem rdD_not {r : Option Int} : (match rdD r with | .non => false | _ => true) = r.isSome := by cases r <;> rfl
theorem rdD_is {r : Option Int} : (match rdD r with | .non => true | _ => false) = r.isNone := by cases r <;> rfl
theorem desk_len_eq (hd : μ[d]? = some (deskM ls ms now past)) (hn : now.length ≤ 12) : F_Desk___len__ [.ref d] μ = .ok (.int (now.filter Option.isSome).length) μ := by
  refine Out.eq_of (runF_wp ?_)
  show (c_Desk___len__ [some (.ref d), none] μ).wp (NQ μ _) (RQ μ _)
  unfold c_Desk___len__
  repeat walk_at "rv1n"
  refine s_lcF now rdD Option.isSome rdD (by show _ ≤ 16777216; omega) ?_ ?_ ?_
  · repeat walk_at "rv1n"
    refine s_get (asI_ref hd) (x := rdT now) rfl ?_
    exact ⟨_, rfl, rfl, rfl⟩
  · intro r hr
    refine ⟨_, rfl, ?_, fun _ => ⟨rfl, rfl⟩⟩
    repeat walk_at "rv1n"
    exact ⟨rdD_not, rfl⟩
  repeat walk_at "rv1n"
  rw [List.length_map]
  exact RQ.pure0 rfl rfl ⟨rfl, rfl⟩
theorem seat_eq {t : List Nat} {i : Nat} (nd : (ms.map (·.1)).Nodup) (hm : ms.length ≤ 12) (hi : (ms.map (·.1))[i]? = some t) : F_seat_of [.tup (ms.map meterD), .str t] μ = .ok (.int i) μ := by
  have hil : i < ms.length := by
    have := (List.getElem?_eq_some_iff.mp hi).1
    rwa [List.length_map] at this
  refine Out.eq_of (runF_wp ?_)
  show (c_seat_of [some (.tup (ms.map meterD)), some (.str t), none, none] μ).wp (NQ μ _) (RQ μ _)
  unfold c_seat_of
  repeat walk_at "rv1n"
  refine forGo_wp (k := 0) (I := fun k ρ ν => k ≤ i ∧ ∃ o2 o3, ρ = [some (.tup (ms.map meterD)), some (.str t), o2, o3] ∧ ν = μ) ⟨Nat.zero_le _, none, none, rfl, rfl⟩ ?_ ?_
  · intro j e ρ ν hj hI
    obtain ⟨hji, o2, o3, rfl, rfl⟩ := hI
    rw [Nat.zero_add] at hji ⊢
    obtain ⟨x, hx, rfl⟩ := enumD_get hj
    obtain ⟨m, hm, rfl⟩ := map_at hx
    have hn : (ms.map (·.1))[j]? = some m.1 := by rw [List.getElem?_map, hm]; rfl
    refine ⟨_, rfl, OutS.wpL_of ?_⟩
    repeat walk_at "rv1n"
    try try (refine s_isi (t := (.b "str")) (u := (.b "str")) (b := true) rfl rfl (by kernel_rfl) (by kernel_rfl) ?_)
    repeat walk_at "rv1n"
    refine s_prop rfl (s_ok meter_name_eq ?_)
    repeat walk_at "rv1n"
    by_cases e : j = i
    · subst e
      rw [hi] at hn
      cases hn
      refine oD_pos rfl ?_
      repeat walk_at "rv1n"
      exact RQ.pure0 rfl rfl ⟨rfl, rfl⟩
    · refine oD_neg (fun q => e ?_) ?_
      · obtain ⟨l1, e1⟩ := List.getElem?_eq_some_iff.mp hn
        obtain ⟨l2, e2⟩ := List.getElem?_eq_some_iff.mp hi
        exact (List.getElem_inj nd).mp (e1.trans (q.trans e2.symm))
      repeat walk_at "rv1n"
      exact ⟨by omega, _, _, rfl, rfl⟩
  · intro ρ ν hI
    obtain ⟨hji, _⟩ := hI
    rw [enumD_len, List.length_map] at hji
    omega
theorem getitem_eq {t : List Nat} {i : Nat} {r : Option Int} (hd : μ[d]? = some (deskM ls ms now past)) (nd : (ms.map (·.1)).Nodup) (hm : ms.length ≤ 12) (hi : (ms.map (·.1))[i]? = some t) (hr : now[i]? = some r) : F_Desk___getitem__ [.ref d, .str t] μ = .ok (rdD r) μ := by
  refine Out.eq_of (runF_wp ?_)
  show (c_Desk___getitem__ [some (.ref d), some (.str t)] μ).wp (NQ μ _) (RQ μ _)
  unfold c_Desk___getitem__
  repeat walk_at "rv1n"
  refine s_get (asI_ref hd) (x := rdT now) rfl ?_
  repeat walk_at "rv1n"
  refine s_get (asI_ref hd) (x := netD ls ms) rfl ?_
  repeat walk_at "rv1n"
  refine s_prop rfl (s_ok net_meters_eq ?_)
  repeat walk_at "rv1n"
  refine s_ok (seat_eq nd hm hi) ?_
  refine s_ok (dIx_tup (x := rdD r) ?_) ?_
  · rw [atI_nat (by rw [List.length_map]; exact (List.getElem?_eq_some_iff.mp hr).1), List.getElem?_map, hr]
    rfl
  exact RQ.pure0 low_rd1 frz_rd ⟨rfl, rfl⟩
def speaking (ms : List DialV) (now : Nw) : List (List Nat) := ((ms.zip now).filter fun p => p.2.isSome).map fun p => p.1.1
theorem zipD_eq : zipD (ms.map meterD) (now.map rdD) = (ms.zip now).map fun p => D.tup [meterD p.1, rdD p.2] := by
  unfold zipD
  rw [List.zip_map, List.map_map]
  rfl
theorem contains_wp {v : D} (hd : μ[d]? = some (deskM ls ms now past)) (hm : ms.length ≤ 12) (k : Bool)
    (hv : ∀ (ρ : Env'), ρ[1]? = some (some v) → ρ[2]? = some (some (.lst (strD (speaking ms now)))) → (mAnd (mCallB (fIsi isiT) (maCons (mVar 1) (maCons (mC (.ty "str")) (maNil)))) (m2 (dIn) (mVar 1) (mVar 2)) ρ μ).wp fun x ν => x = .bl k ∧ ν = μ) : F_Desk___contains__ [.ref d, v] μ = .ok (.bl k) μ := by
  refine Out.eq_of (runF_wp ?_)
  show (c_Desk___contains__ [some (.ref d), some v, none, none, none] μ).wp (NQ μ _) (RQ μ _)
  unfold c_Desk___contains__
  repeat walk_at "rv1n"
  refine s_lcF (ms.zip now) (fun p => D.tup [meterD p.1, rdD p.2]) (fun p => p.2.isSome) (fun p => .str p.1.1) (by rw [List.length_zip]; show _ ≤ 16777216; omega) ?_ ?_ ?_
  · repeat walk_at "rv1n"
    refine s_get (asI_ref hd) (x := netD ls ms) rfl ?_
    repeat walk_at "rv1n"
    refine s_prop rfl (s_ok net_meters_eq ?_)
    repeat walk_at "rv1n"
    refine s_get (asI_ref hd) (x := rdT now) rfl ?_
    repeat walk_at "rv1n"
    refine s_zipT ?_
    exact ⟨by rw [zipD_eq], rfl⟩
  · intro p hp
    refine ⟨_, rfl, ?_, fun _ => ?_⟩
    · repeat walk_at "rv1n"
      exact ⟨rdD_not, rfl⟩
    · repeat walk_at "rv1n"
      exact s_prop rfl (s_ok meter_name_eq ⟨rfl, rfl⟩)
  have e : ((ms.zip now).filter fun p => p.2.isSome).map (fun p => D.str p.1.1) = strD (speaking ms now) := by simp [strD, speaking]
  rw [e]
  refine s_ret (Out.wp_mono (hv _ rfl rfl) fun x ν q => ?_)
  obtain ⟨rfl, rfl⟩ := q
  exact RQ.pure0 rfl rfl ⟨rfl, rfl⟩
theorem contains_str {t : List Nat} (hd : μ[d]? = some (deskM ls ms now past)) (hm : ms.length ≤ 12) : F_Desk___contains__ [.ref d, .str t] μ = .ok (.bl (decide (t ∈ speaking ms now))) μ := by
  refine contains_wp hd hm _ fun ρ e1 e2 => ?_
  refine s_and (s_callB (s_aC (s_var e1 (s_aC (s_C (s_aN ?_))))))
  refine s_isi (t := .b "str") (u := .b "str") (b := true) rfl rfl (by kernel_rfl) (by kernel_rfl) ?_
  refine ⟨_, rfl, s_pT (s_m2 (s_var e1 (s_var e2 (s_inS (speaking ms now) rfl ⟨rfl, rfl⟩))))⟩
theorem contains_non {v : D} {t : Tg} (hd : μ[d]? = some (deskM ls ms now past)) (hm : ms.length ≤ 12) (h1 : tgOf μ v = some t) (h2 : isiT.own t = true) (h3 : isiT.get t (.b "str") = some false) : F_Desk___contains__ [.ref d, v] μ = .ok (.bl false) μ := by
  refine contains_wp hd hm _ fun ρ e1 e2 => ?_
  refine s_and (s_callB (s_aC (s_var e1 (s_aC (s_C (s_aN ?_))))))
  refine s_isi h1 rfl h2 h3 ?_
  exact ⟨_, rfl, s_pF ⟨rfl, rfl⟩⟩
theorem net_eq_eq (h : NetOk ls ms) : F_Net___eq__ [netD ls ms, netD ls ms] μ = .ok (.bl true) μ := by
  refine Out.eq_of (runF_wp ?_)
  show (c_Net___eq__ [some (netD ls ms), some (netD ls ms)] μ).wp (NQ μ _) (RQ μ _)
  unfold c_Net___eq__
  repeat walk_at "rv1n"
  try (refine s_isi (t := (.c "Net")) (u := (.c "Net")) (b := true) rfl rfl (by kernel_rfl) (by kernel_rfl) ?_)
  repeat walk_at "rv1n"
  refine s_strK isC_obj (net_str h) ?_
  repeat walk_at "rv1n"
  refine s_strK isC_obj (net_str h) ?_
  repeat walk_at "rv1n"
  rw [decide_eq_true rfl]
  exact RQ.pure0 rfl rfl ⟨rfl, rfl⟩
theorem net_eq_desk (hd : μ[d]? = some (deskM ls ms now past)) : F_Net___eq__ [netD ls ms, .ref d] μ = .ok (.bl false) μ := by
  refine Out.eq_of (runF_wp ?_)
  show (c_Net___eq__ [some (netD ls ms), some (.ref d)] μ).wp (NQ μ _) (RQ μ _)
  unfold c_Net___eq__
  repeat walk_at "rv1n"
  refine s_isi (t := .c "Desk") (u := .c "Net") (b := false) ?_ rfl (by kernel_rfl) (by kernel_rfl) ?_
  · show (match μ[d]? with
      | some (.lst _) => some (Tg.b "list")
      | some (.dct _ _) => some (.b "dict")
      | some (.ins c _ _) => some (.c c)
      | none => none) = _
    rw [hd]
    rfl
  repeat walk_at "rv1n"
  exact RQ.pure0 rfl rfl ⟨rfl, rfl⟩
theorem is_integer_eq {i : Int} : F_is_integer [.int i] μ = .ok (.bl true) μ := by
  refine Out.eq_of (runF_wp ?_)
  show (c_is_integer [some (.int i)] μ).wp (NQ μ _) (RQ μ _)
  unfold c_is_integer
  repeat walk_at "rv1n"
  try (refine s_isi (t := (.b "int")) (u := (.b "int")) (b := true) rfl rfl (by kernel_rfl) (by kernel_rfl) ?_)
  repeat walk_at "rv1n"
  try (refine s_isi (t := (.b "int")) (u := (.b "bool")) (b := false) rfl rfl (by kernel_rfl) (by kernel_rfl) ?_)
  repeat walk_at "rv1n"
  exact RQ.pure0 rfl rfl ⟨rfl, rfl⟩
theorem check_reading_eq {m : DialV} {r : Option Int} (h : RdOk m.2.2 r) : F_check_reading [meterD m, rdD r] μ = .ok .non μ := by
  refine Out.eq_of (runF_wp ?_)
  show (c_check_reading [some (meterD m), some (rdD r)] μ).wp (NQ μ _) (RQ μ _)
  unfold c_check_reading
  cases r with
  | none =>
    have h := h.1 rfl
    repeat walk_at "rv1n"
    refine s_prop rfl (s_ok meter_sealed_eq ?_)
    rw [h]
    repeat walk_at "rv1n"
    exact RQ.pure0 rfl rfl ⟨rfl, rfl⟩
  | some i =>
    repeat walk_at "rv1n"
    refine s_ok is_integer_eq ?_
    repeat walk_at "rv1n"
    exact NQ.pure0 _ ⟨rfl, rfl⟩
theorem set_take_drop {α : Type} {xs : List α} {i : Nat} {x : α} (h : i < xs.length) : xs.take i ++ [x] ++ xs.drop (i + 1) = xs.set i x := by
  rw [List.set_eq_take_append_cons_drop, if_pos h]
  simp
theorem setitem_eq {t : List Nat} {i : Nat} {m : DialV} {r : Option Int} (wf : WF μ) (hd : μ[d]? = some (deskM ls ms now past)) (nd : (ms.map (·.1)).Nodup) (hm : ms.length ≤ 12) (hl : now.length = ms.length) (hp : past.length ≤ 1000)
    (hi : ms[i]? = some m) (ht : m.1 = t) (hr : RdOk m.2.2 r) : F_Desk___setitem__ [.ref d, .str t, rdD r] μ = .ok .non (μ.set d (deskM ls ms (now.set i r) (past ++ [now]))) := by
  have hil := (List.getElem?_eq_some_iff.mp hi).1
  have hdl := (List.getElem?_eq_some_iff.mp hd).1
  refine Out.eq_of (runF_wp ?_)
  show (c_Desk___setitem__ [some (.ref d), some (.str t), some (rdD r), none] μ).wp (NQ μ _) (RQ μ _)
  unfold c_Desk___setitem__
  repeat walk_at "rv1n"
  refine s_get (asI_ref hd) (x := netD ls ms) rfl ?_
  repeat walk_at "rv1n"
  refine s_prop rfl (s_ok net_meters_eq ?_)
  repeat walk_at "rv1n"
  refine s_ok (seat_eq nd hm (i := i) (by rw [List.getElem?_map, hi, ← ht]; rfl)) ?_
  repeat walk_at "rv1n"
  refine s_get (asI_ref hd) (x := netD ls ms) rfl ?_
  repeat walk_at "rv1n"
  refine s_prop rfl (s_ok net_meters_eq ?_)
  repeat walk_at "rv1n"
  refine s_ok (dIx_tup (x := meterD m) (by rw [atI_nat (by rw [List.length_map]; exact hil), List.getElem?_map, hi]; rfl)) ?_
  repeat walk_at "rv1n"
  refine s_ok (check_reading_eq hr) ?_
  repeat walk_at "rv1n"
  refine s_get (asI_ref hd) (x := .tup (past.map rdT)) rfl ?_
  repeat walk_at "rv1n"
  refine s_get (asI_ref hd) (x := rdT now) rfl ?_
  repeat walk_at "rv1n"
  refine s_addT (by rw [List.length_map]; simp only [List.length_cons, List.length_nil]; show _ ≤ 16777216; omega) ?_
  repeat walk_at "rv1n"
  refine ⟨_, dSetF_ref hd (by decide), ?_⟩
  have hs : ∀ x, (μ.set d x)[d]? = some x := fun x => List.getElem?_set_self hdl
  have e1 : dPutF "past" (.tup (past.map rdT ++ [rdT now])) ["board", "now", "past"] [netD ls ms, rdT now, .tup (past.map rdT)] = ((["board", "now", "past"] : List Str), [netD ls ms, rdT now, .tup (past.map rdT ++ [rdT now])]) := rfl
  rw [e1]
  repeat walk_at "rv1n"
  refine s_get (asI_ref (hs _)) (x := rdT now) rfl ?_
  repeat walk_at "rv1n"
  refine s_ok (show dSl (rdT now) none (some (i : Int)) _ = .ok (.tup (cutD (now.map rdD) none (some (i : Int)))) _ from rfl) ?_
  repeat walk_at "rv1n"
  rw [cutD_take (by omega), Int.toNat_natCast]
  refine s_addT (by rw [List.length_take, List.length_map]; simp only [List.length_cons, List.length_nil]; show _ ≤ 16777216; omega) ?_
  repeat walk_at "rv1n"
  refine s_get (asI_ref (hs _)) (x := rdT now) rfl ?_
  repeat walk_at "rv1n"
  refine s_ok (show dSl (rdT now) (some ((i : Int) + 1)) none _ = .ok (.tup (cutD (now.map rdD) (some ((i : Int) + 1)) none)) _ from rfl) ?_
  rw [cutD_drop (by omega), show ((i : Int) + 1).toNat = i + 1 by omega]
  refine s_addT (by rw [List.length_append, List.length_take, List.length_drop, List.length_map]; simp only [List.length_cons, List.length_nil]; show _ ≤ 16777216; omega) ?_
  repeat walk_at "rv1n"
  rw [set_take_drop (by rw [List.length_map]; omega), ← List.map_set]
  refine ⟨_, dSetF_ref (hs _) (by show 3 < 1000; decide), ?_⟩
  rw [List.set_set]
  have e2 : MO.ins "Desk" (dPutF "now" (.tup ((now.set i r).map rdD)) ["board", "now", "past"] [netD ls ms, rdT now, .tup (past.map rdT ++ [rdT now])]).1 (dPutF "now" (.tup ((now.set i r).map rdD)) ["board", "now", "past"] [netD ls ms, rdT now, .tup (past.map rdT ++ [rdT now])]).2 = deskM ls ms (now.set i r) (past ++ [now]) := by
    show MO.ins "Desk" ["board", "now", "past"] [netD ls ms, .tup ((now.set i r).map rdD), .tup (past.map rdT ++ [rdT now])] = _
    simp [deskM, rdT]
  rw [e2]
  refine ⟨kept_set wf low_desk, ?_⟩
  rw [List.take_of_length_le (by rw [List.length_set]; exact Nat.le_refl _)]
  exact ⟨rfl, rfl⟩
end
end G
set_option Elab.async false
set_option linter.all false
set_option maxRecDepth 100000
set_option maxHeartbeats 4000000
-- nolc -- v2
/-! what is seen of a desk -/
local macro_rules | `(tactic| walk_at "rv2") => `(tactic| (first | with_reducible refine Rv.s_aC ?_ | with_reducible refine Rv.s_C ?_ | with_reducible refine Rv.s_aN ?_ | with_reducible refine Rv.s_m2 ?_ | with_reducible refine Rv.s_seq ?_ | with_reducible refine Rv.s_nil ?_ | with_reducible refine Rv.s_ret ?_ | with_reducible refine Rv.s_retN ?_ | with_reducible refine Rv.s_expr ?_ | with_reducible refine Rv.s_if ?_ | with_reducible refine Rv.s_set ?_ | with_reducible refine Rv.s_for ?_ | with_reducible refine Rv.s_try ?_ | with_reducible refine Rv.s_asg ?_ | with_reducible refine Rv.s_par ?_ | with_reducible refine Rv.s_par3 ?_ | with_reducible refine Rv.s_m1 ?_ | with_reducible refine Rv.s_T ?_ | with_reducible refine Rv.s_B ?_ | with_reducible refine Rv.s_andM ?_ | with_reducible refine Rv.s_orM ?_ | with_reducible refine Rv.s_notM ?_ | with_reducible refine Rv.s_and ?_ | with_reducible refine Rv.s_or ?_ | with_reducible refine Rv.s_ite ?_ | with_reducible refine Rv.s_aS ?_ | with_reducible refine Rv.s_tup ?_ | with_reducible refine Rv.s_fz ?_ | with_reducible refine Rv.s_nw ?_ | with_reducible refine Rv.s_len ?_ | with_reducible refine Rv.s_slN ?_ | with_reducible refine Rv.s_slS ?_ | with_reducible refine Rv.s_sl ?_ | with_reducible refine Rv.s_call ?_ | with_reducible refine Rv.s_callB ?_ | with_reducible refine Rv.s_callK ?_ | with_reducible refine Rv.s_cmeth ?_ | with_reducible refine Rv.s_meth ?_ | with_reducible refine Rv.s_app ?_ | with_reducible refine Rv.s_M1 ?_ | with_reducible refine Rv.s_It ?_ | with_reducible refine Rv.s_I ?_ | with_reducible refine Rv.s_fmt ?_ | with_reducible refine Rv.s_jN ?_ | with_reducible refine Rv.s_jC ?_ | with_reducible refine Rv.s_tgN ?_ | with_reducible refine Rv.s_tgSub ?_ | with_reducible refine Rv.s_fld ?_ | with_reducible refine Rv.s_tgC ?_ | with_reducible refine Rv.s_tgE ?_ | with_reducible refine Rv.s_add ?_ | with_reducible refine Rv.s_sub ?_ | with_reducible refine Rv.s_int ?_ | with_reducible refine Rv.s_lt ?_ | with_reducible refine Rv.s_le ?_ | with_reducible refine Rv.s_gt ?_ | with_reducible refine Rv.s_ge ?_ | with_reducible refine Rv.s_eqI ?_ | with_reducible refine Rv.s_neI ?_ | with_reducible refine Rv.s_eqS ?_ | with_reducible refine Rv.s_neS ?_ | with_reducible refine Rv.s_not ?_ | with_reducible refine Rv.s_lenL ?_ | with_reducible refine Rv.s_lenT ?_ | with_reducible refine Rv.s_var (by with_unfolding_all exact rfl) ?_ | with_reducible refine Rv.s_callL (by with_unfolding_all exact rfl) ?_ | with_reducible refine Rv.s_ar (by with_unfolding_all exact rfl) ?_ | with_reducible refine Rv.s_ar1 (by with_unfolding_all exact rfl) ?_ | with_reducible refine Rv.s_tgT (by with_unfolding_all exact rfl) ?_ | with_reducible refine Rv.s_ar1K (by with_unfolding_all exact ⟨rfl, rfl, rfl⟩) ?_ | with_reducible refine Rv.s_mul (by first | omega | (right; omega) | (left; omega)) ?_ | with_reducible refine Rv.s_div (by omega) ?_ | with_reducible refine Rv.s_mod (by omega) ?_ | with_reducible refine Rv.s_divmod (by omega) ?_ | with_reducible refine Rv.s_lenS (by (first | exact Nat.le_of_ble_eq_true rfl | (refine Rv.le_maxL ?_; first | omega | (simp only [List.length_append, List.length_cons, List.length_nil, List.length_map, List.length_take, List.length_drop, List.length_range, List.length_zip]; omega)))) ?_ | with_reducible refine Rv.s_addS (by (first | exact Nat.le_of_ble_eq_true rfl | (refine Rv.le_maxL ?_; first | omega | (simp only [List.length_append, List.length_cons, List.length_nil, List.length_map, List.length_take, List.length_drop, List.length_range, List.length_zip]; omega)))) ?_ | with_reducible refine Rv.s_pow (by decide) ?_ | with_reducible refine Rv.s_neg ?_ | with_reducible refine Rv.s_chain ?_ | with_reducible refine Rv.s_inC ?_ | with_reducible refine Rv.s_ninC ?_ | with_reducible refine Rv.s_enuT ?_ | with_reducible refine Rv.s_eqBl ?_ | with_reducible refine Rv.s_neBl ?_ | with_reducible refine Rv.s_min2 ?_ | with_reducible refine Rv.s_max2 ?_ | with_reducible refine Rv.s_abs ?_ | with_reducible refine Rv.s_lenC ?_ | with_reducible refine Rv.s_slC ?_ | with_reducible refine Rv.s_zipT ?_ | with_reducible refine Rv.oB_pos (by with_unfolding_all exact rfl) ?_ | with_reducible refine Rv.oB_neg (by with_unfolding_all exact rfl) ?_ | with_reducible refine Rv.iB_pos (by with_unfolding_all exact rfl) ?_ | with_reducible refine Rv.iB_neg (by with_unfolding_all exact rfl) ?_ | with_reducible refine Rv.v_ix (by with_unfolding_all exact rfl) ?_ | with_reducible refine Rv.v_isi (by with_unfolding_all exact rfl) ?_ | with_reducible refine Rv.v_in (by with_unfolding_all exact rfl) ?_ | with_reducible refine Rv.v_nin (by with_unfolding_all exact rfl) ?_ | with_reducible refine Rv.v_isN (by with_unfolding_all exact rfl) ?_ | with_reducible refine Rv.v_notN (by with_unfolding_all exact rfl) ?_ | with_reducible refine Rv.v_tup (by with_unfolding_all exact rfl) ?_ | with_reducible refine Rv.v_fld (by with_unfolding_all exact rfl) ?_ | with_reducible refine Rv.v_len (by with_unfolding_all exact rfl) ?_ | with_reducible refine ⟨_, (by with_unfolding_all exact rfl), ?_⟩ | with_reducible refine ⟨_, _, (by with_unfolding_all exact rfl), ?_⟩ | with_reducible refine ⟨_, _, _, (by with_unfolding_all exact rfl), ?_⟩ | with_reducible refine And.intro (a := _ ≤ Rv.maxL) (by (first | exact Nat.le_of_ble_eq_true rfl | (refine Rv.le_maxL ?_; first | omega | (simp only [List.length_append, List.length_cons, List.length_nil, List.length_map, List.length_take, List.length_drop, List.length_range, List.length_zip]; omega)))) ?_))
local macro_rules | `(tactic| walk_at "rvlen") => `(tactic| (first | exact Nat.le_of_ble_eq_true rfl | (refine Rv.le_maxL ?_; first | omega | (simp only [List.length_append, List.length_cons, List.length_nil, List.length_map, List.length_take, List.length_drop, List.length_range, List.length_zip]; omega))))
namespace G
open PySem PySem.Spec L2 Rv
open PyProof.Rows hiding St
structure NwOk (ms : List DialV) (now : Nw) : Prop where
  len : now.length = ms.length
  bd : ∀ r ∈ now, ∀ i, r = some i → -(10 ^ 40) < i ∧ i < 10 ^ 40
def rdP : Option Int → PyData
  | none => .none
  | some i => .int i
theorem pyd_rd {μ : Store} : ∀ {now : Nw}, pydL μ (now.map rdD) = some (now.map rdP)
  | [] => rfl
  | none :: now => by
    show (match some PyData.none, pydL μ (now.map rdD) with
    | some p, some ps => some (p :: ps)
    | _, _ => none) = _
    rw [pyd_rd]
    rfl
  | some i :: now => by
    show (match some (PyData.int i), pydL μ (now.map rdD) with
    | some p, some ps => some (p :: ps)
    | _, _ => none) = _
    rw [pyd_rd]
    rfl
theorem pyd0_rd : ∀ {now : Nw}, pyd0L (now.map rdD) = some (now.map rdP)
  | [] => rfl
  | none :: now => by
    show (match some PyData.none, pyd0L (now.map rdD) with
    | some p, some ps => some (p :: ps)
    | _, _ => none) = _
    rw [pyd0_rd]
    rfl
  | some i :: now => by
    show (match some (PyData.int i), pyd0L (now.map rdD) with
    | some p, some ps => some (p :: ps)
    | _, _ => none) = _
    rw [pyd0_rd]
    rfl
theorem rOk_rd {ms : List DialV} {now : Nw} (h : NwOk ms now) : rOkL (now.map rdP) = true := rOkL_all fun p hp => by
  obtain ⟨r, hr, rfl⟩ := List.mem_map.mp hp
  cases r with
  | none => rfl
  | some i => exact decide_eq_true (log_of (h.bd _ hr i rfl))
theorem rb_rd {now : Nw} (h : now.length ≤ 12) : rbL (now.map rdP) ≤ 30000 := by
  have h1 : rbL (now.map rdP) ≤ (1921 + 2) * (now.map rdP).length := rbL_le fun p hp => by
    obtain ⟨r, hr, rfl⟩ := List.mem_map.mp hp
    cases r with
    | none => show 4 ≤ 1921; omega
    | some i => exact Nat.le_refl _
  rw [List.length_map] at h1
  omega
theorem dep_rd {now : Nw} : PyData.depthAll (now.map rdP) = 0 := by
  have : PyData.depthAll (now.map rdP) ≤ 0 := depthL_le fun p hp => by
    obtain ⟨r, hr, rfl⟩ := List.mem_map.mp hp
    cases r <;> exact Nat.le_refl _
  omega
theorem rOk_bl {bs : List Bool} : rOkL (bs.map PyData.bool) = true := rOkL_all fun p hp => by
  obtain ⟨r, hr, rfl⟩ := List.mem_map.mp hp
  rfl
theorem rb_bl {bs : List Bool} : rbL (bs.map PyData.bool) ≤ 7 * bs.length := by
  have h1 : rbL (bs.map PyData.bool) ≤ (5 + 2) * (bs.map PyData.bool).length := rbL_le fun p hp => by
    obtain ⟨r, hr, rfl⟩ := List.mem_map.mp hp
    exact Nat.le_refl _
  rw [List.length_map] at h1
  omega
theorem dep_bl {bs : List Bool} : PyData.depthAll (bs.map PyData.bool) = 0 := by
  have : PyData.depthAll (bs.map PyData.bool) ≤ 0 := depthL_le fun p hp => by
    obtain ⟨r, hr, rfl⟩ := List.mem_map.mp hp
    exact Nat.le_refl _
  omega
theorem speaking_wd {ls : List LineV} {ms : List DialV} {now : Nw} (h : NetOk ls ms) {t : List Nat} (ht : t ∈ speaking ms now) : Wd 7 t := by
  obtain ⟨p, hp, rfl⟩ := List.mem_map.mp ht
  have := List.mem_filter.mp hp
  exact (h.mok _ (List.of_mem_zip this.1).1).1
theorem speaking_len {ms : List DialV} {now : Nw} (h : now.length = ms.length) : (speaking ms now).length = (now.filter Option.isSome).length := by
  unfold speaking
  rw [List.length_map, filt_zip_len h.symm]
/-- all that is told of a desk, as data -/
def toldP (ms : List DialV) (now : Nw) (n : Nat) : List PyData := [.tuple (now.map rdP), .int n, .int (now.filter Option.isSome).length, .list (now.map rdP), .list (((ms.map (·.1)).map fun t => decide (t ∈ speaking ms now)).map PyData.bool)]
theorem told_ok {ms : List DialV} {now : Nw} {n : Nat} (h : NwOk ms now) (hm : ms.length ≤ 12) (hn : n ≤ 1000) : rOkL (toldP ms now n) = true ∧ rbL (toldP ms now n) + 2 ≤ maxL ∧ PyData.depthAll (toldP ms now n) ≤ 59 := by
  have hl := h.len
  have hf : (now.filter Option.isSome).length ≤ now.length := List.length_filter_le ..
  refine ⟨?_, ?_, ?_⟩
  · show (rOkL (now.map rdP) && (decide (((n : Nat) : Int).natAbs.log2 < 1920) && (decide ((((now.filter Option.isSome).length : Nat) : Int).natAbs.log2 < 1920) && (rOkL (now.map rdP) && (rOkL (((ms.map (·.1)).map fun t => decide (t ∈ speaking ms now)).map PyData.bool) && true))))) = true
    rw [rOk_rd h, rOk_bl, decide_eq_true (log_of (by omega)), decide_eq_true (log_of (by omega))]
    rfl
  · have h1 := rb_rd (now := now) (by omega)
    have h2 := rb_bl (bs := (ms.map (·.1)).map fun t => decide (t ∈ speaking ms now))
    rw [List.length_map, List.length_map] at h2
    show (rbL (now.map rdP) + 3) + 2 + (1921 + 2 + (1921 + 2 + ((rbL (now.map rdP) + 2) + 2 + ((rbL (((ms.map (·.1)).map fun t => decide (t ∈ speaking ms now)).map PyData.bool) + 2) + 2 + 0)))) + 2 ≤ 16777216
    omega
  · show max (PyData.depthAll (now.map rdP) + 1) (max 0 (max 0 (max (PyData.depthAll (now.map rdP) + 1) (max (PyData.depthAll (((ms.map (·.1)).map fun t => decide (t ∈ speaking ms now)).map PyData.bool) + 1) 0)))) ≤ 59
    rw [dep_rd, dep_bl]
    decide
def dial0 : DialV := ([], [], false)
theorem desk_right_eq {μ : Store} {ls : List LineV} {ms : List DialV} {now : Nw} {past : List Nw} {d q : Nat} (h : NetOk ls ms) (hd : μ[d]? = some (deskM ls ms now past)) (hq : μ[q]? = some (.lst (now.map rdD))) (ok : NwOk ms now) (hp : past.length ≤ 1000) :
    F__law_desk_right [.ref d, netD ls ms, .lst (ls.map lineD), .lst (ms.map dialD), .ref q, .int past.length] μ = .ok (.bl true) μ := by
  have hl := ok.len
  have h1 := h.l1
  have h2 := h.m1
  have hf : (now.filter Option.isSome).length ≤ now.length := List.length_filter_le ..
  have hsl := speaking_len hl
  have hic : isC μ "Desk" (.ref d) = true := isC_of (asI_ref hd)
  obtain ⟨t1, t2, t3⟩ := told_ok (n := past.length) ok h2 hp
  refine Out.eq_of (runF_wp ?_)
  show (c__law_desk_right [some (.ref d), some (netD ls ms), some (.lst (ls.map lineD)), some (.lst (ms.map dialD)), some (.ref q), some (.int past.length), none, none, none, none, none, none, none, none, none] μ).wp (NQ μ _) (RQ μ _)
  unfold c__law_desk_right
  generalize hR : RQ μ (fun b ν => b = D.bl true ∧ ν = μ) = RR
  generalize hN : NQ μ (fun b ν => b = D.bl true ∧ ν = μ) = NN
  repeat walk_at "rv2"
  with_reducible refine s_lcM ms dialD (fun m => .str m.1) (by walk_at "rvlen") ?_ ?_ ?_
  · repeat walk_at "rv2"
    exact ⟨rfl, rfl⟩
  · intro m hm
    refine ⟨_, rfl, ?_⟩
    repeat walk_at "rv2"
    exact ⟨rfl, rfl⟩
  rw [show ms.map (fun m => D.str m.1) = strD (ms.map (·.1)) by simp [strD]]
  repeat walk_at "rv2"
  with_reducible refine s_lcF (List.range ms.length) (fun (i : Nat) => D.int (i : Nat)) (fun i => (now.getD i none).isSome) (fun i => .str (ms.getD i dial0).1) (by walk_at "rvlen") ?_ ?_ ?_
  · repeat walk_at "rv2"
    rw [List.length_map, List.length_map]
    with_reducible refine s_rng1' (by omega) ?_
    exact ⟨by rw [Int.toNat_natCast], rfl⟩
  · intro i hi
    have hi : i < ms.length := List.mem_range.mp hi
    refine ⟨_, rfl, ?_, fun _ => ?_⟩
    · repeat walk_at "rv2"
      refine s_ok (dIx_ref hq (x := rdD (now.getD i none)) ?_) ?_
      · rw [atI_nat (by rw [List.length_map]; omega), List.getElem?_map, List.getD_eq_getElem?_getD, List.getElem?_eq_getElem (by omega)]
        rfl
      repeat walk_at "rv2"
      exact ⟨rdD_not, rfl⟩
    · repeat walk_at "rv2"
      refine s_ok (dIx_lst (x := D.str (ms.getD i dial0).1) ?_) ⟨rfl, rfl⟩
      rw [atI_nat (by rw [List.length_map, List.length_map]; omega), List.getElem?_map, List.getElem?_map, List.getD_eq_getElem?_getD, List.getElem?_eq_getElem (by omega)]
      rfl
  rw [filt_range dial0 none hl.symm Option.isSome (fun m => D.str m.1), show ((ms.zip now).filter fun q => q.2.isSome).map (fun q => D.str q.1.1) = strD (speaking ms now) by simp [strD, speaking]]
  repeat walk_at "rv2"
  refine s_prop (asI_ref hd) (s_ok (readings_eq hd) ?_)
  repeat walk_at "rv2"
  refine s_prop (asI_ref hd) (s_ok (changes_eq hd) ?_)
  repeat walk_at "rv2"
  with_reducible refine s_lenK hic (desk_len_eq hd (by omega)) (by omega) ?_
  repeat walk_at "rv2"
  with_reducible refine s_lcM (ms.zip now) (fun p => .str p.1.1) (fun p => rdD p.2) (by walk_at "rvlen") ?_ ?_ ?_
  · repeat walk_at "rv2"
    exact ⟨by rw [zip_fst (fun m => D.str m.1) hl.symm]; simp [strD], rfl⟩
  · intro p hp
    obtain ⟨i, hi, e⟩ := List.getElem_of_mem hp
    rw [List.length_zip] at hi
    rw [List.getElem_zip] at e
    refine ⟨_, rfl, ?_⟩
    repeat walk_at "rv2"
    with_reducible refine s_itemK hic (s_ok (getitem_eq hd h.mnd h.m1 (i := i) ?_ ?_) ⟨rfl, rfl⟩)
    · rw [List.getElem?_map, List.getElem?_eq_getElem (by omega), ← e]
      rfl
    · rw [List.getElem?_eq_getElem (by omega), ← e]
  rw [zip_snd rdD hl.symm]
  repeat walk_at "rv2"
  with_reducible refine s_lcM (ms.map (·.1)) D.str (fun t => .bl (decide (t ∈ speaking ms now))) (by walk_at "rvlen") ?_ ?_ ?_
  · repeat walk_at "rv2"
    exact ⟨rfl, rfl⟩
  · intro t ht
    refine ⟨_, rfl, ?_⟩
    repeat walk_at "rv2"
    exact s_inK hic (contains_str hd h2) ⟨by rw [Bool.false_xor], rfl⟩
  repeat walk_at "rv2"
  refine s_fTup (asL_ref hq) ?_
  repeat walk_at "rv2"
  with_reducible refine s_lcM (ms.map (·.1)) D.str (fun t => .bl (decide (t ∈ speaking ms now))) (by walk_at "rvlen") ?_ ?_ ?_
  · repeat walk_at "rv2"
    exact ⟨rfl, rfl⟩
  · intro t ht
    refine ⟨_, rfl, ?_⟩
    repeat walk_at "rv2"
    exact s_inS _ rfl ⟨rfl, rfl⟩
  repeat walk_at "rv2"
  rw [show (ms.map (·.1)).map (fun t => D.bl (decide (t ∈ speaking ms now))) = blD ((ms.map (·.1)).map fun t => decide (t ∈ speaking ms now)) by simp [blD]]
  with_reducible refine s_repr (ps := toldP ms now past.length) ?_ t1 t2 t3 ?_
  · show (match (pydL μ (now.map rdD)).map PyData.tuple, (match some (PyData.int past.length), (match some (PyData.int ((now.filter Option.isSome).length : Nat)), (match (pydL μ (now.map rdD)).map PyData.list, (match (pydL μ (blD ((ms.map (·.1)).map fun t => decide (t ∈ speaking ms now)))).map PyData.list, some [] with
        | some p, some ps => some (p :: ps)
        | _, _ => none) with
        | some p, some ps => some (p :: ps)
        | _, _ => none) with
        | some p, some ps => some (p :: ps)
        | _, _ => none) with
        | some p, some ps => some (p :: ps)
        | _, _ => none) with
        | some p, some ps => some (p :: ps)
        | _, _ => none) = _
    rw [pyd_rd, pydL_bl]
    rfl
  repeat walk_at "rv2"
  with_reducible refine s_repr (ps := toldP ms now past.length) ?_ t1 t2 t3 ?_
  · show (match (pydL μ (now.map rdD)).map PyData.tuple, (match some (PyData.int past.length), (match some (PyData.int ((strD (speaking ms now)).length : Nat)), (match pyd μ (.ref q), (match (pydL μ (blD ((ms.map (·.1)).map fun t => decide (t ∈ speaking ms now)))).map PyData.list, some [] with
        | some p, some ps => some (p :: ps)
        | _, _ => none) with
        | some p, some ps => some (p :: ps)
        | _, _ => none) with
        | some p, some ps => some (p :: ps)
        | _, _ => none) with
        | some p, some ps => some (p :: ps)
        | _, _ => none) with
        | some p, some ps => some (p :: ps)
        | _, _ => none) = _
    have e : pyd μ (.ref q) = some (.list (now.map rdP)) := by
      show (match μ[q]? with
        | some (.lst ds) => (pyd0L ds).map PyData.list
        | _ => none) = _
      rw [hq]
      show (pyd0L (now.map rdD)).map PyData.list = _
      rw [pyd0_rd]
      rfl
    rw [pyd_rd, pydL_bl, e, List.length_map, hsl]
    rfl
  repeat walk_at "rv2"
  refine iN_neg rfl ?_
  repeat walk_at "rv2"
  refine s_prop (asI_ref hd) (s_ok (desk_net_eq hd) ?_)
  repeat walk_at "rv2"
  with_reducible refine s_eqK isC_obj ?_ (net_eq_eq h) ?_
  · exact tgIn_of (t := .c "Net") rfl (.inl rfl)
  repeat walk_at "rv2"
  with_reducible refine s_TK ?_
  repeat walk_at "rv2"
  refine ⟨hic, true, desk_bool_eq, ?_⟩
  repeat walk_at "rv2"
  with_reducible refine s_lcM ls lineD (fun l => .bl (decide (l.1 ∈ speaking ms now))) (by walk_at "rvlen") ?_ ?_ ?_
  · repeat walk_at "rv2"
    exact ⟨rfl, rfl⟩
  · intro l hl
    refine ⟨_, rfl, ?_⟩
    repeat walk_at "rv2"
    exact s_inK hic (contains_str hd h2) ⟨by rw [Bool.false_xor], rfl⟩
  repeat walk_at "rv2"
  with_reducible refine s_lcM ls lineD (fun l => .bl (decide (l.1 ∈ speaking ms now))) (by walk_at "rvlen") ?_ ?_ ?_
  · repeat walk_at "rv2"
    exact ⟨rfl, rfl⟩
  · intro l hl
    refine ⟨_, rfl, ?_⟩
    repeat walk_at "rv2"
    exact s_inS _ rfl ⟨rfl, rfl⟩
  rw [show ls.map (fun l => D.bl (decide (l.1 ∈ speaking ms now))) = blD (ls.map fun l => decide (l.1 ∈ speaking ms now)) by simp [blD]]
  repeat walk_at "rv2"
  refine oN_neg rfl ?_
  repeat walk_at "rv2"
  with_reducible refine s_lcM [.non, .int 0, .bl true, .str [], .str [77], .tup [], .lst (strD (ms.map (·.1))), .dct [] [], netD ls ms, .ref d] id (fun _ => .bl false) (by walk_at "rvlen") ?_ ?_ ?_
  · repeat walk_at "rv2"
    exact ⟨rfl, rfl⟩
  · intro x hx
    refine ⟨_, rfl, ?_⟩
    repeat walk_at "rv2"
    with_reducible refine s_inK hic (k := false) ?_ (by with_unfolding_all exact ⟨rfl, rfl⟩)
    have n1 : F_Desk___contains__ [.ref d, .str []] μ = .ok (.bl false) μ := by
      rw [contains_str hd h2, decide_eq_false fun q => ?_]
      have := (speaking_wd h q).2.1
      simp at this
    have n2 : F_Desk___contains__ [.ref d, .str [77]] μ = .ok (.bl false) μ := by
      rw [contains_str hd h2, decide_eq_false fun q => ?_]
      have := (speaking_wd h q).1.2 77 rfl
      simp [Alpha] at this
    have n3 : tgOf μ (.ref d) = some (.c "Desk") := by
      show (match μ[d]? with
        | some (.lst _) => some (Tg.b "list")
        | some (.dct _ _) => some (.b "dict")
        | some (.ins c _ _) => some (.c c)
        | none => none) = _
      rw [hd]
      rfl
    simp only [List.mem_cons, List.not_mem_nil, or_false] at hx
    rcases hx with rfl | rfl | rfl | rfl | rfl | rfl | rfl | rfl | rfl | rfl
    · exact contains_non (t := .b "NoneType") hd h2 rfl (by kernel_rfl) (by kernel_rfl)
    · exact contains_non (t := .b "int") hd h2 rfl (by kernel_rfl) (by kernel_rfl)
    · exact contains_non (t := .b "bool") hd h2 rfl (by kernel_rfl) (by kernel_rfl)
    · exact n1
    · exact n2
    · exact contains_non (t := .b "tuple") hd h2 rfl (by kernel_rfl) (by kernel_rfl)
    · exact contains_non (t := .b "list") hd h2 rfl (by kernel_rfl) (by kernel_rfl)
    · exact contains_non (t := .b "dict") hd h2 rfl (by kernel_rfl) (by kernel_rfl)
    · exact contains_non (t := .c "Net") hd h2 rfl (by kernel_rfl) (by kernel_rfl)
    · exact contains_non (t := .c "Desk") hd h2 n3 (by kernel_rfl) (by kernel_rfl)
  repeat walk_at "rv2"
  with_reducible refine s_timesB 10 rfl (by decide) ?_
  show (dEq (.lst (blD (List.replicate 10 false))) (.lst (blD (List.replicate 10 false))) μ).wp _
  repeat walk_at "rv2"
  rw [decide_eq_true rfl, ← hR]
  exact RQ.pure0 rfl rfl ⟨rfl, rfl⟩
theorem both_right_eq {μ : Store} {ls : List LineV} {ms : List DialV} {n1 n2 : Nw} {p1 p2 : List Nw} {d1 d2 q1 q2 mn : Nat} (h : NetOk ls ms) (hd1 : μ[d1]? = some (deskM ls ms n1 p1)) (hd2 : μ[d2]? = some (deskM ls ms n2 p2)) (hq1 : μ[q1]? = some (.lst (n1.map rdD))) (hq2 : μ[q2]? = some (.lst (n2.map rdD)))
    (hm : μ[mn]? = some (.lst [.int p1.length, .int p2.length])) (ok1 : NwOk ms n1) (ok2 : NwOk ms n2) (hp1 : p1.length ≤ 1000) (hp2 : p2.length ≤ 1000) :
    F__law_both_right [.lst [.ref d1, .ref d2], netD ls ms, .lst (ls.map lineD), .lst (ms.map dialD), .lst [.ref q1, .ref q2], .ref mn] μ = .ok (.bl true) μ := by
  refine Out.eq_of (runF_wp ?_)
  show (c__law_both_right [some (.lst [.ref d1, .ref d2]), some (netD ls ms), some (.lst (ls.map lineD)), some (.lst (ms.map dialD)), some (.lst [.ref q1, .ref q2]), some (.ref mn), none] μ).wp (NQ μ _) (RQ μ _)
  unfold c__law_both_right
  generalize hR : RQ μ (fun b ν => b = D.bl true ∧ ν = μ) = RR
  generalize hN : NQ μ (fun b ν => b = D.bl true ∧ ν = μ) = NN
  repeat walk_at "rv2"
  with_reducible refine s_rngI (by omega) ?_
  show (forGo none _ _ [.int 0, .int 1] _ μ).wp _ _
  refine s_forC rfl (OutS.wpL_of ?_)
  repeat walk_at "rv2"
  refine s_ok (dIx_ref hm (x := .int p1.length) rfl) ?_
  repeat walk_at "rv2"
  refine s_ok (desk_right_eq h hd1 hq1 ok1 hp1) ?_
  repeat walk_at "rv2"
  refine s_forC rfl (OutS.wpL_of ?_)
  repeat walk_at "rv2"
  refine s_ok (dIx_ref hm (x := .int p2.length) rfl) ?_
  repeat walk_at "rv2"
  refine s_ok (desk_right_eq h hd2 hq2 ok2 hp2) ?_
  repeat walk_at "rv2"
  refine s_forN ?_
  repeat walk_at "rv2"
  rw [← hR]
  exact RQ.pure0 rfl rfl ⟨rfl, rfl⟩
theorem law_set_eq {μ : Store} {ls : List LineV} {ms : List DialV} {now : Nw} {past : List Nw} {d i : Nat} {m : DialV} {r : Option Int} (wf : WF μ) (h : NetOk ls ms) (hd : μ[d]? = some (deskM ls ms now past)) (hl : now.length = ms.length) (hp : past.length ≤ 1000)
    (hi : ms[i]? = some m) (hr : RdOk m.2.2 r) : F__law_set [.ref d, .str m.1, rdD r] μ = .ok .non (μ.set d (deskM ls ms (now.set i r) (past ++ [now]))) := by
  refine Out.eq_of (runF_wp ?_)
  show (c__law_set [some (.ref d), some (.str m.1), some (rdD r)] μ).wp (NQ μ _) (RQ μ _)
  unfold c__law_set
  repeat walk_at "rv2"
  refine s_tgSubK ?_
  repeat walk_at "rv2"
  refine ⟨isC_of (asI_ref hd), s_ok (setitem_eq wf hd h.mnd h.m1 hl hp hi rfl hr) ?_⟩
  refine ⟨kept_set wf low_desk, ?_⟩
  rw [List.take_of_length_le (by rw [List.length_set]; exact Nat.le_refl _)]
  exact ⟨rfl, rfl⟩
end G
set_option Elab.async false
set_option linter.all false
set_option maxRecDepth 100000
set_option maxHeartbeats 8000000
-- nolc -- v2 -- nonw
/-! the law -/
local macro_rules | `(tactic| walk_at "rv2n") => `(tactic| (first | with_reducible refine Rv.s_aC ?_ | with_reducible refine Rv.s_C ?_ | with_reducible refine Rv.s_aN ?_ | with_reducible refine Rv.s_m2 ?_ | with_reducible refine Rv.s_seq ?_ | with_reducible refine Rv.s_nil ?_ | with_reducible refine Rv.s_ret ?_ | with_reducible refine Rv.s_retN ?_ | with_reducible refine Rv.s_expr ?_ | with_reducible refine Rv.s_if ?_ | with_reducible refine Rv.s_set ?_ | with_reducible refine Rv.s_for ?_ | with_reducible refine Rv.s_try ?_ | with_reducible refine Rv.s_asg ?_ | with_reducible refine Rv.s_par ?_ | with_reducible refine Rv.s_par3 ?_ | with_reducible refine Rv.s_m1 ?_ | with_reducible refine Rv.s_T ?_ | with_reducible refine Rv.s_B ?_ | with_reducible refine Rv.s_andM ?_ | with_reducible refine Rv.s_orM ?_ | with_reducible refine Rv.s_notM ?_ | with_reducible refine Rv.s_and ?_ | with_reducible refine Rv.s_or ?_ | with_reducible refine Rv.s_ite ?_ | with_reducible refine Rv.s_aS ?_ | with_reducible refine Rv.s_tup ?_ | with_reducible refine Rv.s_fz ?_ | with_reducible refine Rv.s_len ?_ | with_reducible refine Rv.s_slN ?_ | with_reducible refine Rv.s_slS ?_ | with_reducible refine Rv.s_sl ?_ | with_reducible refine Rv.s_call ?_ | with_reducible refine Rv.s_callB ?_ | with_reducible refine Rv.s_callK ?_ | with_reducible refine Rv.s_cmeth ?_ | with_reducible refine Rv.s_meth ?_ | with_reducible refine Rv.s_app ?_ | with_reducible refine Rv.s_M1 ?_ | with_reducible refine Rv.s_It ?_ | with_reducible refine Rv.s_I ?_ | with_reducible refine Rv.s_fmt ?_ | with_reducible refine Rv.s_jN ?_ | with_reducible refine Rv.s_jC ?_ | with_reducible refine Rv.s_tgN ?_ | with_reducible refine Rv.s_tgSub ?_ | with_reducible refine Rv.s_fld ?_ | with_reducible refine Rv.s_tgC ?_ | with_reducible refine Rv.s_tgE ?_ | with_reducible refine Rv.s_add ?_ | with_reducible refine Rv.s_sub ?_ | with_reducible refine Rv.s_int ?_ | with_reducible refine Rv.s_lt ?_ | with_reducible refine Rv.s_le ?_ | with_reducible refine Rv.s_gt ?_ | with_reducible refine Rv.s_ge ?_ | with_reducible refine Rv.s_eqI ?_ | with_reducible refine Rv.s_neI ?_ | with_reducible refine Rv.s_eqS ?_ | with_reducible refine Rv.s_neS ?_ | with_reducible refine Rv.s_not ?_ | with_reducible refine Rv.s_lenL ?_ | with_reducible refine Rv.s_lenT ?_ | with_reducible refine Rv.s_var (by with_unfolding_all exact rfl) ?_ | with_reducible refine Rv.s_callL (by with_unfolding_all exact rfl) ?_ | with_reducible refine Rv.s_ar (by with_unfolding_all exact rfl) ?_ | with_reducible refine Rv.s_ar1 (by with_unfolding_all exact rfl) ?_ | with_reducible refine Rv.s_tgT (by with_unfolding_all exact rfl) ?_ | with_reducible refine Rv.s_ar1K (by with_unfolding_all exact ⟨rfl, rfl, rfl⟩) ?_ | with_reducible refine Rv.s_mul (by first | omega | (right; omega) | (left; omega)) ?_ | with_reducible refine Rv.s_div (by omega) ?_ | with_reducible refine Rv.s_mod (by omega) ?_ | with_reducible refine Rv.s_divmod (by omega) ?_ | with_reducible refine Rv.s_lenS (by (first | exact Nat.le_of_ble_eq_true rfl | (refine Rv.le_maxL ?_; first | omega | (simp only [List.length_append, List.length_cons, List.length_nil, List.length_map, List.length_take, List.length_drop, List.length_range, List.length_zip]; omega)))) ?_ | with_reducible refine Rv.s_addS (by (first | exact Nat.le_of_ble_eq_true rfl | (refine Rv.le_maxL ?_; first | omega | (simp only [List.length_append, List.length_cons, List.length_nil, List.length_map, List.length_take, List.length_drop, List.length_range, List.length_zip]; omega)))) ?_ | with_reducible refine Rv.s_pow (by decide) ?_ | with_reducible refine Rv.s_neg ?_ | with_reducible refine Rv.s_chain ?_ | with_reducible refine Rv.s_inC ?_ | with_reducible refine Rv.s_ninC ?_ | with_reducible refine Rv.s_enuT ?_ | with_reducible refine Rv.s_eqBl ?_ | with_reducible refine Rv.s_neBl ?_ | with_reducible refine Rv.s_min2 ?_ | with_reducible refine Rv.s_max2 ?_ | with_reducible refine Rv.s_abs ?_ | with_reducible refine Rv.s_lenC ?_ | with_reducible refine Rv.s_slC ?_ | with_reducible refine Rv.s_zipT ?_ | with_reducible refine Rv.oB_pos (by with_unfolding_all exact rfl) ?_ | with_reducible refine Rv.oB_neg (by with_unfolding_all exact rfl) ?_ | with_reducible refine Rv.iB_pos (by with_unfolding_all exact rfl) ?_ | with_reducible refine Rv.iB_neg (by with_unfolding_all exact rfl) ?_ | with_reducible refine Rv.v_ix (by with_unfolding_all exact rfl) ?_ | with_reducible refine Rv.v_isi (by with_unfolding_all exact rfl) ?_ | with_reducible refine Rv.v_in (by with_unfolding_all exact rfl) ?_ | with_reducible refine Rv.v_nin (by with_unfolding_all exact rfl) ?_ | with_reducible refine Rv.v_isN (by with_unfolding_all exact rfl) ?_ | with_reducible refine Rv.v_notN (by with_unfolding_all exact rfl) ?_ | with_reducible refine Rv.v_tup (by with_unfolding_all exact rfl) ?_ | with_reducible refine Rv.v_fld (by with_unfolding_all exact rfl) ?_ | with_reducible refine Rv.v_len (by with_unfolding_all exact rfl) ?_ | with_reducible refine ⟨_, (by with_unfolding_all exact rfl), ?_⟩ | with_reducible refine ⟨_, _, (by with_unfolding_all exact rfl), ?_⟩ | with_reducible refine ⟨_, _, _, (by with_unfolding_all exact rfl), ?_⟩ | with_reducible refine And.intro (a := _ ≤ Rv.maxL) (by (first | exact Nat.le_of_ble_eq_true rfl | (refine Rv.le_maxL ?_; first | omega | (simp only [List.length_append, List.length_cons, List.length_nil, List.length_map, List.length_take, List.length_drop, List.length_range, List.length_zip]; omega)))) ?_))
namespace G
open PySem PySem.Spec L2 Rv
open PyProof.Rows hiding St
section
variable {μ L : Store} {p : Nat} {a b c : Int} {Q : D → Store → Prop}
theorem linesL {n k : Int} (hl : p < μ.length) (wf : WF (μ ++ L)) (hn0 : 0 ≤ n) (hn : n ≤ 30) (hk0 : 2 ≤ k) (hk : k ≤ 30)
    (hQ : ∀ (ls : List LineV) (a' b' c' : Int), ls.length = n.toNat → (ls.map (·.1)).Nodup → (∀ l ∈ ls, LineOk l) → Q (.lst (ls.map lineD)) (μ.set p (P3 a' b' c') ++ L)) : (F__law_lines [.ref p, .int n, .int k] (μ.set p (P3 a b c) ++ L)).wp Q := by
  refine lines_wp (S_at hl) (S_wf hl wf) hn0 hn hk0 hk fun ls a' b' c' h1 h2 h3 => ?_
  rw [List.set_append_left _ _ (by rw [List.length_set]; exact hl), List.set_set]
  exact hQ ls a' b' c' h1 h2 h3
theorem dialsL {n r : Int} {ls : List LineV} (hl : p < μ.length) (wf : WF (μ ++ L)) (hn0 : 0 ≤ n) (hn : n ≤ 30) (hr0 : 0 < r) (hr1 : r < 1073741824) (hls : 0 < ls.length) (hls1 : ls.length ≤ 30)
    (hQ : ∀ (ds : List DialV) (a' b' c' : Int), ds.length = n.toNat → (ds.map (·.1)).Nodup → (∀ l ∈ ds, DialOk ls l) → Q (.lst (ds.map dialD)) (μ.set p (P3 a' b' c') ++ L)) : (F__law_dials [.ref p, .lst (ls.map lineD), .int n, .int r] (μ.set p (P3 a b c) ++ L)).wp Q := by
  refine dials_wp (S_at hl) (S_wf hl wf) hn0 hn hr0 hr1 hls hls1 fun ls a' b' c' h1 h2 h3 => ?_
  rw [List.set_append_left _ _ (by rw [List.length_set]; exact hl), List.set_set]
  exact hQ ls a' b' c' h1 h2 h3
theorem readingL {sh : Bool} (hl : p < μ.length) (wf : WF (μ ++ L))
    (hQ : ∀ (o : Option Int) (a' b' c' : Int), RdOk sh o → Q (rdD o) (μ.set p (P3 a' b' c') ++ L)) : (F__law_reading [.ref p, .bl sh] (μ.set p (P3 a b c) ++ L)).wp Q := by
  refine reading_wp (S_at hl) (S_wf hl wf) fun o a' b' c' h => ?_
  rw [List.set_append_left _ _ (by rw [List.length_set]; exact hl), List.set_set]
  exact hQ o a' b' c' h
theorem RQ_tail {d : D} (wf : WF μ) (h1 : D.low μ.length d = true) (h2 : ∀ ν, frz μ.length ν d = d) (q : Q d (μ.set p (P3 a b c))) : RQ μ Q d (μ.set p (P3 a b c) ++ L) := by
  have hlen2 : (μ.set p (P3 a b c) ++ L).take μ.length = μ.set p (P3 a b c) := by
    rw [List.take_append_of_le_length (by rw [List.length_set]; exact Nat.le_refl _), List.take_of_length_le (by rw [List.length_set]; exact Nat.le_refl _)]
  refine ⟨kept_low fun m hm => ?_, ?_, ?_⟩
  · rw [hlen2] at hm
    have := WF_set (p := p) (m := P3 a b c) wf rfl m hm
    rw [List.length_set] at this
    exact this
  · rw [h2]; exact h1
  · rw [h2, hlen2]
    exact q
end
theorem desk_newL {A L L' : Store} {n k : Nat} {ls : List LineV} {ms : List DialV} (hA : A.length = n) (wf : WF (A ++ L)) (hm : ms.length ≤ 12) (e1 : L ++ [deskM ls ms (now0 ms) []] = L') (e2 : n + L.length = k) : newF "Desk" true F_Desk___init__ [netD ls ms] (A ++ L) = .ok (.ref k) (A ++ L') := by
  rw [desk_new wf hm, List.append_assoc, e1, List.length_append, hA, e2]
theorem s_nwL {A L L' : Store} {n k : Nat} {ms : M (List D)} {ρ : Env'} {ds : List D} {Q : D → Store → Prop} (hA : A.length = n) (h : (ms ρ (A ++ L)).wp fun es ν => es = ds ∧ ν = A ++ L) (e1 : L ++ [MO.lst ds] = L') (e2 : n + L.length = k) (q : Q (.ref k) (A ++ L')) : (mNw ms ρ (A ++ L)).wp Q := by
  refine s_nw (Out.wp_mono h fun es ν z => ?_)
  obtain ⟨rfl, rfl⟩ := z
  rw [List.append_assoc, e1, List.length_append, hA, e2]
  exact q
/-! the list of the meters, empty or not -/
def dialP (m : DialV) : PyData := .tuple [.str (toS m.1), .str (toS m.2.1), .bool m.2.2]
theorem pyd_dial {μ : Store} : ∀ {ms : List DialV}, pydL μ (ms.map dialD) = some (ms.map dialP)
  | [] => rfl
  | m :: ms => by
    show (match some (dialP m), pydL μ (ms.map dialD) with
    | some p, some ps => some (p :: ps)
    | _, _ => none) = _
    rw [pyd_dial]
    rfl
theorem strOk_wd {n : Nat} {w : List Nat} (h : Wd n w) : PyData.strOk (toS w) = true := by
  unfold PyData.strOk toS
  rw [List.all_toArray]
  refine List.all_eq_true.mpr fun c hc => decide_eq_true ?_
  have := h.sign hc
  omega
theorem canLay_all : ∀ {ps : List PyData}, (∀ p ∈ ps, p.canLay0 = true) → PyData.canLayAll0 ps = true
  | [], _ => rfl
  | p :: ps, h => by
    show (p.canLay0 && PyData.canLayAll0 ps) = true
    rw [h p (List.mem_cons_self ..), canLay_all (ps := ps) fun q hq => h q (List.mem_cons_of_mem _ hq)]
    rfl
theorem shaped_dial {ls : List LineV} {ms : List DialV} (h : NetOk ls ms) : SeqAt.shaped (.list (ms.map dialP)) = true := by
  have h1 : PyData.canLayAll0 (ms.map dialP) = true := canLay_all fun p hp => by
    obtain ⟨m, hm, rfl⟩ := List.mem_map.mp hp
    show (PyData.strOk (toS m.1) && (PyData.strOk (toS m.2.1) && true)) = true
    rw [strOk_wd (h.mok m hm).1, strOk_wd (h.mat hm)]
    rfl
  have h2 : PyData.depthAll (ms.map dialP) ≤ 1 := depthL_le fun p hp => by
    obtain ⟨m, hm, rfl⟩ := List.mem_map.mp hp
    exact Nat.le_refl _
  unfold SeqAt.shaped
  rw [show PyData.canLay0 (.list (ms.map dialP)) = true from h1, Bool.true_and]
  refine decide_eq_true ?_
  have : PyData.depth (.list (ms.map dialP)) ≤ 2 := by
    show PyData.depthAll _ + 1 ≤ 2
    omega
  exact Nat.le_trans this (by decide)
theorem s_neNil {μ : Store} {ls : List LineV} {ms : List DialV} {Q : D → Store → Prop} (h : NetOk ls ms) (q : Q (.bl (!decide (ms = []))) μ) : (dNe (.lst (ms.map dialD)) (.lst []) μ).wp Q := by
  have e1 : pyd μ (.lst (ms.map dialD)) = some (.list (ms.map dialP)) := by
    show (pydL μ (ms.map dialD)).map PyData.list = _
    rw [pyd_dial]
    rfl
  have e2 : eqB μ (.lst (ms.map dialD)) (.lst []) = some (decide (ms = [])) := by
    show (match pyd μ (.lst (ms.map dialD)), some (PyData.list []) with
      | some p, some q => if SeqAt.shaped p && SeqAt.shaped q then some (PyData.eqv p q) else none
      | _, _ => none) = _
    rw [e1]
    dsimp only
    rw [shaped_dial h]
    cases ms with
    | nil => rfl
    | cons m ms => rfl
  show (dB ((eqB μ (.lst (ms.map dialD)) (.lst [])).map not) μ).wp Q
  rw [e2]
  exact q
def tailS (ls : List LineV) (ms : List DialV) (n1 n2 : Nw) (p1 p2 : List Nw) : Store := [deskM ls ms n1 p1, deskM ls ms n2 p2, .lst [.int p1.length, .int p2.length], .lst (n1.map rdD), .lst (n2.map rdD)]
theorem tail_wf {μ : Store} {ls : List LineV} {ms : List DialV} {n1 n2 : Nw} {p1 p2 : List Nw} (wf : WF μ) : WF (μ ++ tailS ls ms n1 n2 p1 p2) := WF_app wf fun m hm => by
  simp only [tailS, List.mem_cons, List.not_mem_nil, or_false] at hm
  rcases hm with rfl | rfl | rfl | rfl | rfl
  · exact low_desk
  · exact low_desk
  · rfl
  · exact low_rd
  · exact low_rd
theorem NwOk.set {ms : List DialV} {now : Nw} {i : Nat} {o : Option Int} {sh : Bool} (h : NwOk ms now) (ho : RdOk sh o) : NwOk ms (now.set i o) := by
  refine ⟨by rw [List.length_set]; exact h.len, fun r hr j hj => ?_⟩
  rcases List.mem_or_eq_of_mem_set hr with q | q
  · exact h.bd r q j hj
  · have := ho.2 j (q ▸ hj)
    omega
theorem now0_ok {ms : List DialV} : NwOk ms (now0 ms) := by
  refine ⟨by simp [now0], fun r hr j hj => ?_⟩
  obtain ⟨m, hm, e⟩ := List.mem_map.mp hr
  rw [hj] at e
  split at e
  · cases e; decide
  · cases e
theorem right_wp {μ : Store} {p : Nat} {a b c : Int} {Q : D → Store → Prop} (hp : μ[p]? = some (P3 a b c)) (wf : WF μ) (hQ : ∀ a' b' c', Q (.bl true) (μ.set p (P3 a' b' c'))) : (F__law_right [.ref p] μ).wp Q := by
  have hl : p < μ.length := (List.getElem?_eq_some_iff.mp hp).1
  have wf0 : WF (μ ++ []) := by rw [List.append_nil]; exact wf
  have hA : ∀ a b c, (μ.set p (P3 a b c)).length = μ.length := fun a b c => List.length_set
  refine runF_wp ?_
  show (c__law_right [some (.ref p), none, none, none, none, none, none, none, none, none, none, none, none, none, none, none] μ).wp (NQ μ Q) (RQ μ Q)
  unfold c__law_right
  generalize hR : RQ μ Q = RR
  generalize hN : NQ μ Q = NN
  rw [self_set hp, ← List.append_nil (μ.set p _)]
  repeat walk_at "rv2n"
  refine drawL hl wf0 (by omega) (by omega) fun v1 a1 b1 c1 v10 v11 => ?_
  repeat walk_at "rv2n"
  refine drawL hl wf0 (by omega) (by omega) fun v2 a2 b2 c2 v20 v21 => ?_
  repeat walk_at "rv2n"
  refine linesL hl wf0 (by omega) (by omega) (by omega) (by omega) fun ls a3 b3 c3 l1 l2 l3 => ?_
  repeat walk_at "rv2n"
  refine drawL hl wf0 (by omega) (by omega) fun v4 a4 b4 c4 v40 v41 => ?_
  repeat walk_at "rv2n"
  refine dialsL hl wf0 (by omega) (by omega) (by omega) (by omega) (by omega) (by omega) fun ms a5 b5 c5 m1 m2 m3 => ?_
  have ok : NetOk ls ms := ⟨by omega, by omega, by omega, l2, m2, l3, m3⟩
  have hml : ms.length ≤ 12 := ok.m1
  repeat walk_at "rv2n"
  refine s_ok (law_text ok) ?_
  repeat walk_at "rv2n"
  refine s_ok (net_read (S_wf hl wf0) ok) ?_
  repeat walk_at "rv2n"
  refine s_ok (desk_newL (L' := [deskM ls ms (now0 ms) []]) (k := μ.length) (hA _ _ _) (S_wf hl wf0) hml rfl rfl) ?_
  repeat walk_at "rv2n"
  have wf1 : WF (μ ++ [deskM ls ms (now0 ms) []]) := WF_app wf fun m hm => by rw [List.mem_singleton.mp hm]; exact low_desk
  refine s_ok (law_text ok) ?_
  repeat walk_at "rv2n"
  refine s_ok (net_read (S_wf hl wf1) ok) ?_
  repeat walk_at "rv2n"
  refine s_ok (desk_newL (L' := [deskM ls ms (now0 ms) [], deskM ls ms (now0 ms) []]) (k := μ.length + 1) (hA _ _ _) (S_wf hl wf1) hml rfl rfl) ?_
  repeat walk_at "rv2n"
  refine s_nwL (L' := [deskM ls ms (now0 ms) [], deskM ls ms (now0 ms) [], .lst [.int 0, .int 0]]) (k := μ.length + 2) (ds := [.int 0, .int 0]) (hA _ _ _) ?_ rfl rfl ?_
  · repeat walk_at "rv2n"
    exact ⟨rfl, rfl⟩
  repeat walk_at "rv2n"
  with_reducible refine s_lc ?_
  repeat walk_at "rv2n"
  with_reducible refine s_rngI (by omega) ⟨by decide, ?_⟩
  show (lcGo none _ _ _ _ [.int 0, .int 1] _).wp _
  refine s_lcC1 rfl ?_
  have e0 : ms.map (fun m => rdD (if m.2.2 then some 0 else none)) = (now0 ms).map rdD := by simp [now0]
  refine s_nwL (L' := [deskM ls ms (now0 ms) [], deskM ls ms (now0 ms) [], .lst [.int 0, .int 0], .lst ((now0 ms).map rdD)]) (k := μ.length + 3) (ds := (now0 ms).map rdD) (hA _ _ _) ?_ rfl rfl ?_
  · with_reducible refine s_lcM ms dialD (fun m => rdD (if m.2.2 then some 0 else none)) (by walk_at "rvlen") ?_ ?_ ?_
    · repeat walk_at "rv2n"
      exact ⟨rfl, rfl⟩
    · intro m hm
      refine ⟨_, rfl, ?_⟩
      repeat walk_at "rv2n"
      obtain ⟨n, a, b⟩ := m
      cases b with
      | true => exact s_pT ⟨rfl, rfl⟩
      | false => exact s_pF ⟨rfl, rfl⟩
    · rw [e0]
      exact ⟨rfl, rfl⟩
  refine s_lcC1 rfl ?_
  refine s_nwL (L' := tailS ls ms (now0 ms) (now0 ms) [] []) (k := μ.length + 4) (ds := (now0 ms).map rdD) (hA _ _ _) ?_ rfl rfl ?_
  · with_reducible refine s_lcM ms dialD (fun m => rdD (if m.2.2 then some 0 else none)) (by walk_at "rvlen") ?_ ?_ ?_
    · repeat walk_at "rv2n"
      exact ⟨rfl, rfl⟩
    · intro m hm
      refine ⟨_, rfl, ?_⟩
      repeat walk_at "rv2n"
      obtain ⟨n, a, b⟩ := m
      cases b with
      | true => exact s_pT ⟨rfl, rfl⟩
      | false => exact s_pF ⟨rfl, rfl⟩
    · rw [e0]
      exact ⟨rfl, rfl⟩
  refine s_lcN ?_
  repeat walk_at "rv2n"
  refine drawL hl (tail_wf wf) (by omega) (by omega) fun v6 a6 b6 c6 v60 v61 => ?_
  repeat walk_at "rv2n"
  with_reducible refine s_rngI (by omega) ?_
  have look : ∀ {n1 n2 : Nw} {p1 p2 : List Nw} (a b c : Int) (j : Nat), (μ.set p (P3 a b c) ++ tailS ls ms n1 n2 p1 p2)[μ.length + j]? = (tailS ls ms n1 n2 p1 p2)[j]? := fun a b c j => T_at (hA a b c)
  have both : ∀ {n1 n2 : Nw} {p1 p2 : List Nw} (a b c : Int), NwOk ms n1 → NwOk ms n2 → p1.length ≤ 1000 → p2.length ≤ 1000 → F__law_both_right [.lst [.ref μ.length, .ref (μ.length + 1)], netD ls ms, .lst (ls.map lineD), .lst (ms.map dialD), .lst [.ref (μ.length + 3), .ref (μ.length + 4)], .ref (μ.length + 2)] (μ.set p (P3 a b c) ++ tailS ls ms n1 n2 p1 p2) = .ok (.bl true) (μ.set p (P3 a b c) ++ tailS ls ms n1 n2 p1 p2) := fun a b c k1 k2 k3 k4 =>
    both_right_eq ok (look a b c 0) (look a b c 1) (look a b c 3) (look a b c 4) (look a b c 2) k1 k2 k3 k4
  refine forGo_wp (k := 0) (I := fun i ρ ν => ∃ (n1 n2 : Nw) (p1 p2 : List Nw) (a b c : Int) (o7 o8 o9 o10 o11 o12 o13 : Option D), ρ = [some (.ref p), some (.lst (ls.map lineD)), some (.lst (ms.map dialD)), some (netD ls ms), some (.lst [.ref μ.length, .ref (μ.length + 1)]), some (.ref (μ.length + 2)), some (.lst [.ref (μ.length + 3), .ref (μ.length + 4)]), o7, o8, o9, o10, o11, o12, o13, none, none] ∧
      ν = μ.set p (P3 a b c) ++ tailS ls ms n1 n2 p1 p2 ∧ NwOk ms n1 ∧ NwOk ms n2 ∧ p1.length ≤ i ∧ p2.length ≤ i)
    ⟨now0 ms, now0 ms, [], [], a6, b6, c6, none, none, none, none, none, none, none, rfl, rfl, now0_ok, now0_ok, Nat.le_refl _, Nat.le_refl _⟩ ?_ ?_
  · intro i d ρ ν hd hI
    obtain ⟨n1, n2, p1, p2, a7, b7, c7, o7, o8, o9, o10, o11, o12, o13, rfl, rfl, k1, k2, k3, k4⟩ := hI
    obtain ⟨rfl, hi⟩ := rngD_at hd
    rw [Nat.zero_add] at k3 k4 ⊢
    refine ⟨_, rfl, OutS.wpL_of ?_⟩
    refine s_seq (s_par (Out.wp_mono (Q := fun ds ν' => ∃ (w : Int) (k : Bool) (a b c : Int), ds = [D.int w, D.bl k] ∧ (w = 0 ∨ w = 1) ∧ ν' = μ.set p (P3 a b c) ++ tailS ls ms n1 n2 p1 p2) ?_ ?_))
    · repeat walk_at "rv2n"
      refine drawL hl (tail_wf wf) (by omega) (by omega) fun w1 a8 b8 c8 w10 w11 => ?_
      repeat walk_at "rv2n"
      refine drawL hl (tail_wf wf) (by omega) (by omega) fun w2 a9 b9 c9 w20 w21 => ?_
      repeat walk_at "rv2n"
      by_cases h : 0 < w2
      · refine iD_pos h ?_
        repeat walk_at "rv2n"
        exact ⟨w1, true, _, _, _, rfl, by omega, rfl⟩
      · refine iD_neg h ?_
        repeat walk_at "rv2n"
        exact ⟨w1, _, _, _, _, rfl, by omega, rfl⟩
    · rintro ds ν' ⟨w, k, a8, b8, c8, rfl, hw, rfl⟩
      refine ⟨_, _, rfl, ?_⟩
      cases k with
      | true =>
        repeat walk_at "rv2n"
        refine s_ok (both _ _ _ k1 k2 (by omega) (by omega)) ?_
        repeat walk_at "rv2n"
        refine s_neNil ok ?_
        repeat walk_at "rv2n"
        by_cases hms : ms = []
        · refine oN_neg hms ?_
          repeat walk_at "rv2n"
          exact ⟨n1, n2, p1, p2, _, _, _, _, _, _, _, _, _, _, rfl, rfl, k1, k2, by omega, by omega⟩
        · refine oN_pos hms ?_
          have hm0 : 0 < ms.length := List.length_pos_iff.mpr hms
          repeat walk_at "rv2n"
          rw [List.length_map]
          refine drawL hl (tail_wf wf) (by omega) (by omega) fun at_ a9 b9 c9 k50 k51 => ?_
          obtain ⟨m, hati⟩ : ∃ m, ms[at_.toNat]? = some m := ⟨_, List.getElem?_eq_getElem (by omega)⟩
          have hat : atI (ms.map dialD) at_ = some (dialD m) := by
            rw [atI_int k50 (by rw [List.length_map]; omega), List.getElem?_map, hati]
            rfl
          repeat walk_at "rv2n"
          refine s_ok (dIx_lst (x := dialD m) hat) ?_
          repeat walk_at "rv2n"
          refine readingL hl (tail_wf wf) fun o a10 b10 c10 ho => ?_
          rcases hw with rfl | rfl
          ·
            repeat walk_at "rv2n"
            refine s_setAt (ds := n1.map rdD) ((look _ _ _ 3).trans rfl) k50 (by rw [List.length_map]; have := k1.len; omega) ?_
            rw [T_set (hA _ _ _)]
            have wfa : WF (μ.set p (P3 a10 b10 c10) ++ (tailS ls ms n1 n2 p1 p2).set 3 (.lst ((n1.map rdD).set at_.toNat (rdD o)))) := by
              have := WF_set (p := μ.length + 3) (m := .lst ((n1.map rdD).set at_.toNat (rdD o))) (S_wf (a := a10) (b := b10) (c := c10) hl (tail_wf (ls := ls) (ms := ms) (n1 := n1) (n2 := n2) (p1 := p1) (p2 := p2) wf)) (by rw [← List.map_set]; exact low_rd)
              rw [T_set (hA _ _ _)] at this
              exact this
            repeat walk_at "rv2n"
            refine s_ok (dIx_ref (ds := [.int p1.length, .int p2.length]) ((T_at (hA _ _ _)).trans rfl) (x := .int p1.length) rfl) ?_
            repeat walk_at "rv2n"
            refine s_setAt (ds := [.int p1.length, .int p2.length]) ((T_at (hA _ _ _)).trans rfl) (by omega) (by simp) ?_
            rw [T_set (hA _ _ _)]
            have wfb := WF_set (p := μ.length + 2) (m := .lst ([D.int p1.length, D.int p2.length].set (0 : Int).toNat (.int (p1.length + 1)))) wfa rfl
            rw [T_set (hA _ _ _)] at wfb
            repeat walk_at "rv2n"
            refine s_ok (dIx_lst (x := dialD m) hat) ?_
            repeat walk_at "rv2n"
            refine s_ok (law_set_eq (ls := ls) (ms := ms) (now := n1) (past := p1) (i := at_.toNat) wfb ok (T_at (j := 0) (hA _ _ _)) k1.len (by omega) hati ho) ?_
            have e1 := T_set (A := μ.set p (P3 a10 b10 c10)) (L := ((tailS ls ms n1 n2 p1 p2).set 3 (.lst ((n1.map rdD).set at_.toNat (rdD o)))).set 2 (.lst ([D.int p1.length, D.int p2.length].set (0 : Int).toNat (.int (p1.length + 1))))) (j := 0) (m := deskM ls ms (n1.set at_.toNat o) (p1 ++ [n1])) (hA _ _ _)
            try rw [Nat.add_zero] at e1
            rw [e1]
            exact ⟨n1.set at_.toNat o, n2, p1 ++ [n1], p2, a10, b10, c10, _, _, _, _, _, _, _, rfl, by simp [tailS, List.map_set], k1.set ho, k2, by simp; omega, by omega⟩
          ·
            repeat walk_at "rv2n"
            refine s_setAt (ds := n2.map rdD) ((look _ _ _ 4).trans rfl) k50 (by rw [List.length_map]; have := k2.len; omega) ?_
            rw [T_set (hA _ _ _)]
            have wfa : WF (μ.set p (P3 a10 b10 c10) ++ (tailS ls ms n1 n2 p1 p2).set 4 (.lst ((n2.map rdD).set at_.toNat (rdD o)))) := by
              have := WF_set (p := μ.length + 4) (m := .lst ((n2.map rdD).set at_.toNat (rdD o))) (S_wf (a := a10) (b := b10) (c := c10) hl (tail_wf (ls := ls) (ms := ms) (n1 := n1) (n2 := n2) (p1 := p1) (p2 := p2) wf)) (by rw [← List.map_set]; exact low_rd)
              rw [T_set (hA _ _ _)] at this
              exact this
            repeat walk_at "rv2n"
            refine s_ok (dIx_ref (ds := [.int p1.length, .int p2.length]) ((T_at (hA _ _ _)).trans rfl) (x := .int p2.length) rfl) ?_
            repeat walk_at "rv2n"
            refine s_setAt (ds := [.int p1.length, .int p2.length]) ((T_at (hA _ _ _)).trans rfl) (by omega) (by simp) ?_
            rw [T_set (hA _ _ _)]
            have wfb := WF_set (p := μ.length + 2) (m := .lst ([D.int p1.length, D.int p2.length].set (1 : Int).toNat (.int (p2.length + 1)))) wfa rfl
            rw [T_set (hA _ _ _)] at wfb
            repeat walk_at "rv2n"
            refine s_ok (dIx_lst (x := dialD m) hat) ?_
            repeat walk_at "rv2n"
            refine s_ok (law_set_eq (ls := ls) (ms := ms) (now := n2) (past := p2) (i := at_.toNat) wfb ok (T_at (j := 1) (hA _ _ _)) k2.len (by omega) hati ho) ?_
            have e1 := T_set (A := μ.set p (P3 a10 b10 c10)) (L := ((tailS ls ms n1 n2 p1 p2).set 4 (.lst ((n2.map rdD).set at_.toNat (rdD o)))).set 2 (.lst ([D.int p1.length, D.int p2.length].set (1 : Int).toNat (.int (p2.length + 1))))) (j := 1) (m := deskM ls ms (n2.set at_.toNat o) (p2 ++ [n2])) (hA _ _ _)
            try rw [Nat.add_zero] at e1
            rw [e1]
            exact ⟨n1, n2.set at_.toNat o, p1, p2 ++ [n2], a10, b10, c10, _, _, _, _, _, _, _, rfl, by simp [tailS, List.map_set], k1, k2.set ho, by omega, by simp; omega⟩
      | false =>
        repeat walk_at "rv2n"
        refine s_neNil ok ?_
        repeat walk_at "rv2n"
        by_cases hms : ms = []
        · refine oN_neg hms ?_
          repeat walk_at "rv2n"
          exact ⟨n1, n2, p1, p2, _, _, _, _, _, _, _, _, _, _, rfl, rfl, k1, k2, by omega, by omega⟩
        · refine oN_pos hms ?_
          have hm0 : 0 < ms.length := List.length_pos_iff.mpr hms
          repeat walk_at "rv2n"
          rw [List.length_map]
          refine drawL hl (tail_wf wf) (by omega) (by omega) fun at_ a9 b9 c9 k50 k51 => ?_
          obtain ⟨m, hati⟩ : ∃ m, ms[at_.toNat]? = some m := ⟨_, List.getElem?_eq_getElem (by omega)⟩
          have hat : atI (ms.map dialD) at_ = some (dialD m) := by
            rw [atI_int k50 (by rw [List.length_map]; omega), List.getElem?_map, hati]
            rfl
          repeat walk_at "rv2n"
          refine s_ok (dIx_lst (x := dialD m) hat) ?_
          repeat walk_at "rv2n"
          refine readingL hl (tail_wf wf) fun o a10 b10 c10 ho => ?_
          rcases hw with rfl | rfl
          ·
            repeat walk_at "rv2n"
            refine s_setAt (ds := n1.map rdD) ((look _ _ _ 3).trans rfl) k50 (by rw [List.length_map]; have := k1.len; omega) ?_
            rw [T_set (hA _ _ _)]
            have wfa : WF (μ.set p (P3 a10 b10 c10) ++ (tailS ls ms n1 n2 p1 p2).set 3 (.lst ((n1.map rdD).set at_.toNat (rdD o)))) := by
              have := WF_set (p := μ.length + 3) (m := .lst ((n1.map rdD).set at_.toNat (rdD o))) (S_wf (a := a10) (b := b10) (c := c10) hl (tail_wf (ls := ls) (ms := ms) (n1 := n1) (n2 := n2) (p1 := p1) (p2 := p2) wf)) (by rw [← List.map_set]; exact low_rd)
              rw [T_set (hA _ _ _)] at this
              exact this
            repeat walk_at "rv2n"
            refine s_ok (dIx_ref (ds := [.int p1.length, .int p2.length]) ((T_at (hA _ _ _)).trans rfl) (x := .int p1.length) rfl) ?_
            repeat walk_at "rv2n"
            refine s_setAt (ds := [.int p1.length, .int p2.length]) ((T_at (hA _ _ _)).trans rfl) (by omega) (by simp) ?_
            rw [T_set (hA _ _ _)]
            have wfb := WF_set (p := μ.length + 2) (m := .lst ([D.int p1.length, D.int p2.length].set (0 : Int).toNat (.int (p1.length + 1)))) wfa rfl
            rw [T_set (hA _ _ _)] at wfb
            repeat walk_at "rv2n"
            refine s_ok (dIx_lst (x := dialD m) hat) ?_
            repeat walk_at "rv2n"
            refine s_ok (law_set_eq (ls := ls) (ms := ms) (now := n1) (past := p1) (i := at_.toNat) wfb ok (T_at (j := 0) (hA _ _ _)) k1.len (by omega) hati ho) ?_
            have e1 := T_set (A := μ.set p (P3 a10 b10 c10)) (L := ((tailS ls ms n1 n2 p1 p2).set 3 (.lst ((n1.map rdD).set at_.toNat (rdD o)))).set 2 (.lst ([D.int p1.length, D.int p2.length].set (0 : Int).toNat (.int (p1.length + 1))))) (j := 0) (m := deskM ls ms (n1.set at_.toNat o) (p1 ++ [n1])) (hA _ _ _)
            try rw [Nat.add_zero] at e1
            rw [e1]
            exact ⟨n1.set at_.toNat o, n2, p1 ++ [n1], p2, a10, b10, c10, _, _, _, _, _, _, _, rfl, by simp [tailS, List.map_set], k1.set ho, k2, by simp; omega, by omega⟩
          ·
            repeat walk_at "rv2n"
            refine s_setAt (ds := n2.map rdD) ((look _ _ _ 4).trans rfl) k50 (by rw [List.length_map]; have := k2.len; omega) ?_
            rw [T_set (hA _ _ _)]
            have wfa : WF (μ.set p (P3 a10 b10 c10) ++ (tailS ls ms n1 n2 p1 p2).set 4 (.lst ((n2.map rdD).set at_.toNat (rdD o)))) := by
              have := WF_set (p := μ.length + 4) (m := .lst ((n2.map rdD).set at_.toNat (rdD o))) (S_wf (a := a10) (b := b10) (c := c10) hl (tail_wf (ls := ls) (ms := ms) (n1 := n1) (n2 := n2) (p1 := p1) (p2 := p2) wf)) (by rw [← List.map_set]; exact low_rd)
              rw [T_set (hA _ _ _)] at this
              exact this
            repeat walk_at "rv2n"
            refine s_ok (dIx_ref (ds := [.int p1.length, .int p2.length]) ((T_at (hA _ _ _)).trans rfl) (x := .int p2.length) rfl) ?_
            repeat walk_at "rv2n"
            refine s_setAt (ds := [.int p1.length, .int p2.length]) ((T_at (hA _ _ _)).trans rfl) (by omega) (by simp) ?_
            rw [T_set (hA _ _ _)]
            have wfb := WF_set (p := μ.length + 2) (m := .lst ([D.int p1.length, D.int p2.length].set (1 : Int).toNat (.int (p2.length + 1)))) wfa rfl
            rw [T_set (hA _ _ _)] at wfb
            repeat walk_at "rv2n"
            refine s_ok (dIx_lst (x := dialD m) hat) ?_
            repeat walk_at "rv2n"
            refine s_ok (law_set_eq (ls := ls) (ms := ms) (now := n2) (past := p2) (i := at_.toNat) wfb ok (T_at (j := 1) (hA _ _ _)) k2.len (by omega) hati ho) ?_
            have e1 := T_set (A := μ.set p (P3 a10 b10 c10)) (L := ((tailS ls ms n1 n2 p1 p2).set 4 (.lst ((n2.map rdD).set at_.toNat (rdD o)))).set 2 (.lst ([D.int p1.length, D.int p2.length].set (1 : Int).toNat (.int (p2.length + 1))))) (j := 1) (m := deskM ls ms (n2.set at_.toNat o) (p2 ++ [n2])) (hA _ _ _)
            try rw [Nat.add_zero] at e1
            rw [e1]
            exact ⟨n1, n2.set at_.toNat o, p1, p2 ++ [n2], a10, b10, c10, _, _, _, _, _, _, _, rfl, by simp [tailS, List.map_set], k1, k2.set ho, by omega, by simp; omega⟩
  · intro ρ ν hI
    obtain ⟨n1, n2, p1, p2, a7, b7, c7, o7, o8, o9, o10, o11, o12, o13, rfl, rfl, k1, k2, k3, k4⟩ := hI
    rw [rngD_len, Nat.zero_add] at k3 k4
    repeat walk_at "rv2n"
    refine s_ok (both _ _ _ k1 k2 (by omega) (by omega)) ?_
    repeat walk_at "rv2n"
    refine s_fTup (asL_ref ((look _ _ _ 3).trans rfl)) ?_
    repeat walk_at "rv2n"
    refine s_prop (asI_ref (look _ _ _ 0)) (s_ok (readings_eq (look _ _ _ 0)) ?_)
    repeat walk_at "rv2n"
    have hd1 : (μ.set p (P3 a7 b7 c7) ++ tailS ls ms n1 n2 p1 p2)[μ.length]? = some (deskM ls ms n1 p1) := look a7 b7 c7 0
    have hd2 : (μ.set p (P3 a7 b7 c7) ++ tailS ls ms n1 n2 p1 p2)[μ.length + 1]? = some (deskM ls ms n2 p2) := look a7 b7 c7 1
    have tg2 : tgOf (μ.set p (P3 a7 b7 c7) ++ tailS ls ms n1 n2 p1 p2) (.ref (μ.length + 1)) = some (.c "Desk") := by
      unfold tgOf
      dsimp only
      rw [hd2]
      rfl
    have nn2 : isC (μ.set p (P3 a7 b7 c7) ++ tailS ls ms n1 n2 p1 p2) "Net" (.ref (μ.length + 1)) = false := by
      unfold isC
      rw [asI_ref hd2]
      exact decide_eq_false (by decide)
    with_reducible refine s_lcM [.ref (μ.length + 1), netD ls ms, .tup (n1.map rdD), .non, rdT n1] id (fun _ => .bl false) (by walk_at "rvlen") ?_ ?_ ?_
    · repeat walk_at "rv2n"
      exact ⟨rfl, rfl⟩
    · intro x hx
      refine ⟨_, rfl, ?_⟩
      repeat walk_at "rv2n"
      simp only [List.mem_cons, List.not_mem_nil, or_false] at hx
      rcases hx with rfl | rfl | rfl | rfl | rfl
      · exact s_ok (eqU_ref (isC_of (asI_ref hd1)) (tgIn_of tg2 (.inl rfl)) nn2 (by omega) (isC_of (asI_ref hd2))) ⟨rfl, rfl⟩
      · exact s_ok (eqU_obj (k := false) (isC_of (asI_ref hd1)) (tgIn_of (t := .c "Net") rfl (.inr (by decide))) (net_eq_desk hd1)) ⟨rfl, rfl⟩
      · exact s_ok (eqU_tup (isC_of (asI_ref hd1)) (tgIn_of (t := .b "tuple") rfl (.inr (by decide)))) ⟨rfl, rfl⟩
      · exact s_ok (eqU_non (isC_of (asI_ref hd1)) (tgIn_of (t := .b "NoneType") rfl (.inr (by decide)))) ⟨rfl, rfl⟩
      · exact s_ok (eqU_tup (isC_of (asI_ref hd1)) (tgIn_of (t := .b "tuple") rfl (.inr (by decide)))) ⟨rfl, rfl⟩
    repeat walk_at "rv2n"
    with_reducible refine s_timesB 5 rfl (by decide) ?_
    show (dNe (.lst (blD (List.replicate 5 false))) (.lst (blD (List.replicate 5 false))) _).wp _
    repeat walk_at "rv2n"
    try refine oN_neg rfl ?_
    repeat walk_at "rv2n"
    with_reducible refine s_lcM [.ref (μ.length + 1), netD ls ms, .tup (n1.map rdD), .non, rdT n1] id (fun _ => .bl true) (by walk_at "rvlen") ?_ ?_ ?_
    · repeat walk_at "rv2n"
      exact ⟨rfl, rfl⟩
    · intro x hx
      refine ⟨_, rfl, ?_⟩
      repeat walk_at "rv2n"
      simp only [List.mem_cons, List.not_mem_nil, or_false] at hx
      rcases hx with rfl | rfl | rfl | rfl | rfl
      · exact s_ok (eqU_ref (isC_of (asI_ref hd1)) (tgIn_of tg2 (.inl rfl)) nn2 (by omega) (isC_of (asI_ref hd2))) ⟨rfl, rfl⟩
      · exact s_ok (eqU_obj (k := false) (isC_of (asI_ref hd1)) (tgIn_of (t := .c "Net") rfl (.inr (by decide))) (net_eq_desk hd1)) ⟨rfl, rfl⟩
      · exact s_ok (eqU_tup (isC_of (asI_ref hd1)) (tgIn_of (t := .b "tuple") rfl (.inr (by decide)))) ⟨rfl, rfl⟩
      · exact s_ok (eqU_non (isC_of (asI_ref hd1)) (tgIn_of (t := .b "NoneType") rfl (.inr (by decide)))) ⟨rfl, rfl⟩
      · exact s_ok (eqU_tup (isC_of (asI_ref hd1)) (tgIn_of (t := .b "tuple") rfl (.inr (by decide)))) ⟨rfl, rfl⟩
    repeat walk_at "rv2n"
    with_reducible refine s_timesB 5 rfl (by decide) ?_
    show (dEq (.lst (blD (List.replicate 5 true))) (.lst (blD (List.replicate 5 true))) _).wp _
    repeat walk_at "rv2n"
    rw [decide_eq_true (rfl : List.replicate 5 true = List.replicate 5 true), ← hR]
    exact RQ_tail wf rfl (fun _ => rfl) (hQ _ _ _)
end G
set_option Elab.async false
set_option linter.all false
set_option maxRecDepth 100000
set_option maxHeartbeats 4000000
-- nolc -- v2 -- nonw
/-! the top -/
namespace G
open PySem PySem.Spec L2 Rv
open PyProof.Rows hiding St
theorem pool_wp {μ : Store} {x : Int} {Q : D → Store → Prop} (hQ : ∀ a b c, Q (.ref μ.length) (μ ++ [P3 a b c])) : (F__law_pool [.int x] μ).wp Q := by
  refine runF1_wp ?_
  show (c__law_pool [some (.int x), none] μ).wp _ _
  unfold c__law_pool
  refine s_seq (s_set (Out.wp_mono (Q := fun d ν => ∃ y : Int, d = .int y ∧ ν = μ) ?_ ?_))
  · repeat walk_at "rv2n"
    by_cases h : x < 0
    · refine iD_pos h ?_
      repeat walk_at "rv2n"
      exact rfl
    · refine iD_neg h ?_
      repeat walk_at "rv2n"
      by_cases h2 : (10 : Int) ^ (18 : Int).toNat ≤ x
      · refine iD_pos h2 ?_
        repeat walk_at "rv2n"
        exact rfl
      · refine iD_neg h2 ?_
        repeat walk_at "rv2n"
        exact rfl
  · rintro d ν ⟨y, rfl, rfl⟩
    repeat walk_at "rv2n"
    refine s_nw ?_
    repeat walk_at "rv2n"
    refine ⟨_, _, rfl, new_at, Nat.le_refl _, kept_self rfl _, rfl, ?_⟩
    rw [List.take_left]
    exact hQ _ _ _
theorem start_wp {μ : Store} {ns : List Int} {k : Nat} {Q : D → Store → Prop} (hn : ns.length ≤ 63) (hk : k ≤ 100) (hQ : ∀ i, Q (.int i) μ) : (F__law_start [.scr ns, .int k] μ).wp Q := by
  refine runF_wp ?_
  show (c__law_start [some (.scr ns), some (.int k), none, none] μ).wp (NQ μ Q) (RQ μ Q)
  unfold c__law_start
  repeat walk_at "rv2n"
  by_cases h : (k : Int) < (ns.length : Nat)
  · refine oD_pos h ?_
    repeat walk_at "rv2n"
    have hk' : k < ns.length := by omega
    refine s_ixC (k := ns[k]) (by rw [atI_nat hk', List.getElem?_eq_getElem hk']) ?_
    exact RQ.pure0 rfl rfl (hQ _)
  · refine oD_neg h ?_
    repeat walk_at "rv2n"
    refine forGo_wp (k := 0) (I := fun _ ρ ν => ∃ (x : Int) (o3 : Option D), ρ = [some (.scr ns), some (.int k), some (.int x), o3] ∧ ν = μ) ⟨_, none, rfl, rfl⟩ ?_ ?_
    · intro i d ρ ν hd hI
      obtain ⟨x, o3, rfl, rfl⟩ := hI
      obtain ⟨y, hy, rfl⟩ := map_at hd
      refine ⟨_, rfl, OutS.wpL_of ?_⟩
      repeat walk_at "rv2n"
      exact rfl
    · intro ρ ν hI
      obtain ⟨x, o3, rfl, rfl⟩ := hI
      repeat walk_at "rv2n"
      exact RQ.pure0 rfl rfl (hQ _)
theorem P3_low {n : Nat} {a b c : Int} : MO.low n (P3 a b c) = true := rfl
theorem law_wp {ns : List Int} (hn : ns.length ≤ 63) : (F_law [.scr ns] []).wp fun d _ => d = .bl true := by
  refine runF_wp ?_
  show (c_law [some (.scr ns), none] []).wp (NQ [] _) (RQ [] _)
  unfold c_law
  repeat walk_at "rv2n"
  with_reducible refine s_rngI ?_ ?_
  · constructor <;> (repeat' split) <;> omega
  refine forGo_wp (k := 0) (I := fun _ ρ ν => WF ν ∧ ∃ o1 : Option D, ρ = [some (.scr ns), o1]) ⟨fun m hm => (List.not_mem_nil hm).elim, none, rfl⟩ ?_ ?_
  · intro i d ρ ν hd hI
    obtain ⟨wf, o1, rfl⟩ := hI
    obtain ⟨rfl, hi⟩ := rngD_at hd
    have hi2 : i ≤ 100 := by
      refine Nat.le_trans (Nat.le_of_lt hi) ?_
      (repeat' split) <;> omega
    rw [Int.zero_add]
    refine ⟨_, rfl, OutS.wpL_of ?_⟩
    repeat walk_at "rv2n"
    refine start_wp hn hi2 fun x => ?_
    repeat walk_at "rv2n"
    refine pool_wp fun a b c => ?_
    repeat walk_at "rv2n"
    have wf1 : WF (ν ++ [P3 a b c]) := WF_app wf fun m hm => by rw [List.mem_singleton.mp hm]; exact P3_low
    refine right_wp new_at wf1 fun a' b' c' => ?_
    repeat walk_at "rv2n"
    exact ⟨WF_set wf1 P3_low, _, rfl⟩
  · intro ρ ν hI
    obtain ⟨wf, o1, rfl⟩ := hI
    repeat walk_at "rv2n"
    have e : ([] : Store) ++ ν = ν := rfl
    exact ⟨kept_self rfl ν, rfl, rfl⟩
theorem pure : ∀ ns : List Int, ns.length ≤ 63 → ∃ μ', F_law [.scr ns] [] = .ok (.bl true) μ' := by
  intro ns hn
  obtain ⟨d, μ', e, h⟩ := Out.ex_of (law_wp hn)
  exact ⟨μ', h ▸ e⟩
end G
set_option Elab.async false
set_option linter.all false
set_option maxRecDepth 100000
set_option maxHeartbeats 0
/-! printed by genhead.py: the head's run. -/
namespace G
open PySem PySem.Spec PyProof.Rows L2 Rv
abbrev R : PySem.W.OpenRow := PySem.W.OpenLaw.row PySem.Challenge.rw_ringvotes_k65_desks_set_one_by_one
abbrev hk : PySem.W.Hook := hookA fs dfs
def ob (s : PySem.W.SharedT) : AlA := obsAG s.n fs dfs (HandSHeadRun.getT s)
theorem ob_eq (s : PySem.W.SharedT) : ob s = hk.obs s.abs := obsAG_eq (HandSHeadRun.getT_eq s) (PySem.W.absHeap_size s.tree s.n s.life).symm
def lo0 : List Str := ["_wall", "__name__", "BadValue", "BadName", "InvalidName", "InvalidEnd", "InvalidFlag", "InvalidText", "InvalidReading", "NotAMeter", "NotANet", "InvalidPipes", "InvalidMeters", "UnknownName", "MOST_PIPES", "MOST_METERS", "LETTERS", "DIGITS", "LONGEST_NAME", "is_integer", "is_name", "check_name", "Pipe", "Meter", "check_pipes", "check_meters", "line_of", "item_of", "Net", "check_net"]
def lo1 : List Str := ["seat_of", "check_reading", "Desk", "_law_start", "_law_pool", "_law_draw", "_law_word", "_law_words", "_law_lines", "_law_dials", "_law_text", "_law_number", "_law_reading", "_law_desk_right", "_law_both_right", "_law_set", "_law_right"]
def loose : List Str := lo0 ++ lo1
theorem run (w : World) : HandSHeadRun.RunEq R (PySem.W.view R.prog [51]) hk ob 40000 loose w := by
  intro os
  kernel_rfl
theorem walkE (w : World) (mg : Str → Option Value) (fa : Addr) (h : Heap) (Y : hk.says w h) (G : h.Ns mainGlobals mg) (hm : mg ("law" : Str) = some (.ref fa)) (hG : ∀ ns : List Int, ns.length ≤ 63 → ∃ μ', F_law [.scr ns] [] = .ok (.bl true) μ') :
    ∃ (K : PySem.W.Frag) (fd : FuncData) (F : Fn), K.In h ∧ (∀ (s : Shared) (u : Value), BindsTo s fd ⟨[u], []⟩ [("_law_script", u)]) ∧ (∀ ns : List Int, ns.length ≤ 63 → ∃ μ', F [.scr ns] [] = .ok (.bl true) μ') ∧ ∀ base : Heap, K.In base → base.Ns mainGlobals mg → FnQ R.prog w K mg base 13 fa fd ["_law_script"] F := by
  obtain ⟨K, KX, c⟩ := Y
  have fx := fx_of KX G c
  have e := hm.symm.trans fx.g_law
  cases e
  obtain ⟨fd, FD⟩ := fx.d_law
  have b := FunD.fullA (ps := ["_law_script"]) FD fun _ _ _ _ _ _ us hl => match us, hl with | [_], _ => rfl
  exact ⟨K, fd, F_law, KX, fun s v => b s [v] rfl, hG, fun base _ _ => q_law fx FD⟩
end G
set_option maxHeartbeats 0

open PySem PySem.W PySem.Calls PyProof.Rows in
theorem PySem.Challenge.cw_ringvotes_k65_desks_set_one_by_one_holds : PySem.Challenge.rw_ringvotes_k65_desks_set_one_by_one.Holds := by
  w_on; o_law
  refine HandSHeadRun.head_any (r := OpenLaw.row PySem.Challenge.rw_ringvotes_k65_desks_set_one_by_one) (q := view (OpenLaw.row PySem.Challenge.rw_ringvotes_k65_desks_set_one_by_one).prog [51]) (H := G.hk) (ob := G.ob) (M := 40000) (loose := G.loose) (d := HandSHeadRun.topDef (OpenLaw.row PySem.Challenge.rw_ringvotes_k65_desks_set_one_by_one).prog 51) (kwd := []) G.ob_eq
    (by kernel_rfl) (fun s => by kernel_rfl) G.run (by kernel_rfl) (by kernel_rfl) (by kernel_rfl) (by rfl) (by first | assumption | decide +kernel) (by decide +kernel) ⟨rfl, rfl, rfl, rfl, rfl, by decide +kernel⟩ ?hw ?hc
  case hw => w_witness2
  case hc =>
    refine Rv.walk_q (l := PySem.Challenge.rw_ringvotes_k65_desks_set_one_by_one) (n := 63) (k := 13) (x := "_law_script") rfl (by decide) (by kernel_rfl) ⟨⟨rfl, by decide, by decide⟩, rfl⟩ ?F
    intro w mg fa h Y hmg hm0
    have hm : mg ("law" : PySem.Str) = some (.ref fa) := by
      have e : (HandSHeadRun.topDef (OpenLaw.row PySem.Challenge.rw_ringvotes_k65_desks_set_one_by_one).prog 51).name = ("law" : PySem.Str) := by kernel_rfl
      rw [← e]
      exact hm0
    exact G.walkE w mg fa h Y hmg hm G.pure
