import PyProof.Rows.All
import HandS.ForMost
import HandS.ForExc
import HandS.Walk
import HandS.HeadHook2
import HandS.ExcInit
import HandS.TupAny
import HandS.TupMul
import HandS.IsInst
import HandS.FStr
import HandS.Star
import HandS.Property
import HandS.ClsMeth
import HandS.Text
import HandS.More
import HandS.RaiseMore
import HandS.Dict
import HandS.Zip
import PyProof.Draws
import PyProof.EnumMake
import HandS.Comp
import HandS.Exc
import PyProof.CallStr
import PyProof.MeetsIn
import PyProof.NeKinds
import HandS.Ends
import HandS.HeadEnd
import HandS.Words
import HandS.Head2
import KE.KExcInit
import KE.KExcIs
import HandS.ExcIs
import HandS.ExcField
import PyProof.StrBlock2
import HandS.Wide
import HandS.WideBits
import PySem.Challenge.RW_ringvotes_k01_constants_and_errors
set_option Elab.async false
set_option linter.all false
set_option maxRecDepth 100000
set_option maxHeartbeats 4000000
/-! Rv1: plain data, stores, what stands for what, and the judgement that a mirror is right. -/
namespace Rv
open PySem PySem.Spec L2

/-! ### data -/
/-- a dict's key, plain -/
inductive Dk where
  | int (i : Int) | str (s : List Nat)
  deriving DecidableEq, Inhabited
inductive D where
  | non | bl (b : Bool) | int (i : Int) | str (s : List Nat)
  | tup (ds : List D) | lst (ds : List D) | dct (ks : List Dk) (ds : List D)
  | obj (c : Str) (ns : List Str) (ds : List D)
  | ref (n : Nat) | cls (c : Str) | ty (n : String)
  /-- the law's script: read, never written -/
  | scr (ns : List Int)
  /-- an exception as a value -/
  | exn (c : Str) (ns : List Str) (ds : List D)
  deriving Inhabited
/-- a thing that may be changed -/
inductive MO where
  | lst (ds : List D) | dct (ks : List Dk) (ds : List D) | ins (c : Str) (ns : List Str) (ds : List D)
  deriving Inhabited
abbrev Store := List MO
abbrev Env' := List (Option D)
inductive Out (α : Type) where
  | ok (a : α) (μ : Store) | exc (c : Str) (ns : List Str) (ds : List D) (μ : Store) | stuck
/-- expressions' mirrors -/
abbrev M (α : Type) := Env' → Store → Out α
def Out.bind {α β : Type} : Out α → (α → Store → Out β) → Out β
  | .ok a μ, f => f a μ
  | .exc c ns ds μ, _ => .exc c ns ds μ
  | .stuck, _ => .stuck
@[simp] theorem Out.bind_ok {α β : Type} (a : α) (μ : Store) (f : α → Store → Out β) : (Out.ok a μ).bind f = f a μ := rfl
@[simp] theorem Out.bind_exc {α β : Type} (c ns ds μ) (f : α → Store → Out β) : (Out.exc c ns ds μ : Out α).bind f = .exc c ns ds μ := rfl
@[simp] theorem Out.bind_stuck {α β : Type} (f : α → Store → Out β) : (Out.stuck : Out α).bind f = .stuck := rfl

def toS (s : List Nat) : Str := ⟨s.toArray⟩
def ofS (s : Str) : List Nat := s.cps.toList
@[simp] theorem ofS_toS (s : List Nat) : ofS (toS s) = s := rfl
@[simp] theorem toS_ofS (s : Str) : toS (ofS s) = s := by cases s; simp [toS, ofS]
theorem toS_inj {a b : List Nat} : toS a = toS b ↔ a = b := ⟨fun h => by have := congrArg ofS h; simpa using this, fun h => h ▸ rfl⟩
def dk : Dk → Key
  | .int i => .inl i
  | .str s => .inr (toS s)

/-! ### what stands for what: H is the part of the heap that stays as it is -/
/-- the script stands at a: one of the module's own lists, or a list whose object is known -/
def ScrAt (K : PySem.W.Frag) (H : Hp) (a : Addr) (ns : List Int) : Prop :=
  (∃ (o : Obj) (its : Array Value) (n : Nat), K.lookup a = some o ∧ o.cls = .type "list" ∧ o.dict = none ∧ o.data = .seq its n ∧ its.size ≤ sizeLine ∧ Vals (ns.map V.int) its.toList) ∨
    ∃ us : List Value, H a = some (.ext fun h => h.get? a = some { cls := .type "list", data := .seq us.toArray }) ∧ Vals (ns.map V.int) us ∧ ns.length ≤ sizeLine
section
variable (K : PySem.W.Frag) (H : Hp) (π : List Addr)
mutual
def Rep : D → V → Prop
  | .non, v => v = .non
  | .bl b, v => v = .bl b
  | .int i, v => v = .int i
  | .str s, v => v = .str (toS s)
  | .tup ds, v => ∃ a vs, v = .ref a ∧ SqT K H a vs ∧ RepL ds vs
  | .lst ds, v => ∃ a vs, v = .ref a ∧ H a = some (.lst vs) ∧ RepL ds vs
  | .dct ks ds, v => ∃ a kvs, v = .ref a ∧ H a = some (.dK kvs) ∧ kvs.map (·.1) = ks.map dk ∧ RepL ds (kvs.map (·.2))
  | .obj c ns ds, v => ∃ a dx fs, v = .ref a ∧ H a = some (.ins (He.ga K c) dx fs) ∧ fs.map (·.1) = ns ∧ RepL ds (fs.map (·.2))
  | .ref n, v => ∃ a, π[n]? = some a ∧ v = .ref a
  | .cls c, v => v = .ref (He.ga K c)
  | .ty n, v => v = .ty n
  | .scr ns, v => ∃ a, v = .ref a ∧ ScrAt K H a ns
  | .exn c ns ds, v => ∃ a d fs, v = .ref a ∧ H a = some (exo a (He.ga K c) d) ∧ (∀ dx, d = some dx → H dx = some (exd dx fs)) ∧ (d = none → fs = []) ∧ fs.map (·.1) = ns ∧ RepL ds (fs.map (·.2))
def RepL : List D → List V → Prop
  | [], vs => vs = []
  | d :: ds, vs => ∃ v r, vs = v :: r ∧ Rep d v ∧ RepL ds r
end
end
def off (π : List Addr) (H : Hp) : Hp := fun a => if a ∈ π then none else H a
theorem off_ne {π : List Addr} {H : Hp} {a : Addr} (h : a ∉ π) : off π H a = H a := if_neg h
theorem off_some {π : List Addr} {H : Hp} {a : Addr} {o : HO} (h : off π H a = some o) : a ∉ π ∧ H a = some o := by
  unfold off at h
  by_cases q : a ∈ π
  · rw [if_pos q] at h; cases h
  · rw [if_neg q] at h; exact ⟨q, h⟩
theorem off_none {π : List Addr} {H : Hp} {a : Addr} (h : H a = none) : off π H a = none := by
  unfold off
  split
  · rfl
  · exact h
abbrev Rp (K : PySem.W.Frag) (π : List Addr) (H : Hp) : D → V → Prop := Rep K (off π H) π
abbrev RpL (K : PySem.W.Frag) (π : List Addr) (H : Hp) : List D → List V → Prop := RepL K (off π H) π
def RepO (K : PySem.W.Frag) (H : Hp) (π : List Addr) : MO → Option HO → Prop
  | .lst ds, o => ∃ vs, o = some (.lst vs) ∧ RepL K H π ds vs
  | .dct ks ds, o => ∃ kvs, o = some (.dK kvs) ∧ kvs.map (·.1) = ks.map dk ∧ RepL K H π ds (kvs.map (·.2))
  | .ins c ns ds, o => ∃ dx fs, o = some (.ins (He.ga K c) dx fs) ∧ fs.map (·.1) = ns ∧ RepL K H π ds (fs.map (·.2))
/-- an exception's class and dict -/
def RepX (K : PySem.W.Frag) (H : Hp) (π : List Addr) (ns : List Str) (ds : List D) (d : Option Addr) : Prop :=
  (ns = [] ∧ ds = [] ∧ d = none) ∨ ∃ dx fs, d = some dx ∧ H dx = some (.xd fs) ∧ fs.map (·.1) = ns ∧ RepL K H π ds (fs.map (·.2))
structure SimM (K : PySem.W.Frag) (π : List Addr) (μ : Store) (H : Hp) : Prop where
  nd : π.Nodup
  len : π.length = μ.length
  obj : ∀ (n : Nat) (a : Addr) (m : MO), π[n]? = some a → μ[n]? = some m → RepO K (off π H) π m (H a)
structure SimL (K : PySem.W.Frag) (π : List Addr) (H : Hp) (ρ : Env') (σ : L2.St) : Prop where
  len : σ.length = ρ.length
  loc : ∀ (i : Nat) (d : D), ρ[i]? = some (some d) → ∃ v, σ[i]? = some (some v) ∧ Rp K π H d v
/-- the heap has grown; what may be changed is as it stood or new -/
structure Gr (π : List Addr) (H : Hp) (π' : List Addr) (H' : Hp) : Prop where
  pre : ∃ t, π' = π ++ t
  keep : ∀ b o, off π H b = some o → off π' H' b = some o
section
variable {K : PySem.W.Frag} {π π1 π2 : List Addr} {H H1 H2 : Hp}
theorem Gr.refl : Gr π H π H := ⟨⟨[], by simp⟩, fun _ _ h => h⟩
theorem Gr.trans (a : Gr π H π1 H1) (b : Gr π1 H1 π2 H2) : Gr π H π2 H2 := by
  obtain ⟨t, e⟩ := a.pre
  obtain ⟨u, f⟩ := b.pre
  exact ⟨⟨t ++ u, by rw [f, e, List.append_assoc]⟩, fun x o h => b.keep x o (a.keep x o h)⟩
theorem Gr.get (a : Gr π H π1 H1) {n : Nat} {p : Addr} (h : π[n]? = some p) : π1[n]? = some p := by
  obtain ⟨t, e⟩ := a.pre
  rw [e, List.getElem?_append_left (List.getElem?_eq_some_iff.mp h).1]
  exact h
/-- a new thing that stays -/
theorem Gr.new {p : Addr} {o : HO} (h : H p = none) : Gr π H π (upd H p o) := ⟨⟨[], by simp⟩, fun b u q => by
  obtain ⟨q1, q2⟩ := off_some q
  rw [off_ne q1, upd_ne (ne_of_none q2 h)]
  exact q2⟩
theorem ext_rd {a : Addr} {u : HO} (e : ∀ b o, H b = some o → H1 b = some o) (h : Rd H a u) : Rd H1 a u := by
  rcases h with h | ⟨o, h⟩
  · exact .inl (e _ _ h)
  · exact .inr ⟨o, e _ _ h⟩
theorem ext_l {a : Addr} {xs : List V} (e : ∀ b o, H b = some o → H1 b = some o) (h : SqL K H a xs) : SqL K H1 a xs :=
  h.elim (fun h => .inl (ext_rd e h)) .inr
theorem ext_t {a : Addr} {xs : List V} (e : ∀ b o, H b = some o → H1 b = some o) (h : SqT K H a xs) : SqT K H1 a xs :=
  h.elim (fun h => .inl (ext_rd e h)) .inr
mutual
theorem Rep.mono (e : ∀ b o, H b = some o → H1 b = some o) (p : ∀ (n : Nat) a, π[n]? = some a → π1[n]? = some a) : ∀ {d : D} {v : V}, Rep K H π d v → Rep K H1 π1 d v
  | .non, _, h => h
  | .bl _, _, h => h
  | .int _, _, h => h
  | .str _, _, h => h
  | .tup ds, _, h => by
    unfold Rep at h ⊢
    obtain ⟨a, vs, h1, h2, h3⟩ := h
    exact ⟨a, vs, h1, ext_t e h2, RepL.mono e p h3⟩
  | .lst ds, _, h => by
    unfold Rep at h ⊢
    obtain ⟨a, vs, h1, h2, h3⟩ := h
    exact ⟨a, vs, h1, e _ _ h2, RepL.mono e p h3⟩
  | .dct ks ds, _, h => by
    unfold Rep at h ⊢
    obtain ⟨a, vs, h1, h2, h3, h4⟩ := h
    exact ⟨a, vs, h1, e _ _ h2, h3, RepL.mono e p h4⟩
  | .obj c ns ds, _, h => by
    unfold Rep at h ⊢
    obtain ⟨a, dx, fs, h1, h2, h3, h4⟩ := h
    exact ⟨a, dx, fs, h1, e _ _ h2, h3, RepL.mono e p h4⟩
  | .ref n, _, h => by
    unfold Rep at h ⊢
    obtain ⟨a, h1, h2⟩ := h
    exact ⟨a, p _ _ h1, h2⟩
  | .cls _, _, h => h
  | .ty _, _, h => h
  | .scr ns, _, h => by
    unfold Rep at h ⊢
    obtain ⟨a, h1, h2⟩ := h
    refine ⟨a, h1, ?_⟩
    rcases h2 with h2 | ⟨us, h2, h3⟩
    · exact .inl h2
    · exact .inr ⟨us, e _ _ h2, h3⟩
  | .exn c ns ds, _, h => by
    unfold Rep at h ⊢
    obtain ⟨a, d, fs, h1, h2, h3, h4, h5, h6⟩ := h
    exact ⟨a, d, fs, h1, e _ _ h2, fun dx z => e _ _ (h3 dx z), h4, h5, RepL.mono e p h6⟩
theorem RepL.mono (e : ∀ b o, H b = some o → H1 b = some o) (p : ∀ (n : Nat) a, π[n]? = some a → π1[n]? = some a) : ∀ {ds : List D} {vs : List V}, RepL K H π ds vs → RepL K H1 π1 ds vs
  | [], _, h => h
  | d :: ds, _, h => by
    unfold RepL at h ⊢
    obtain ⟨v, r, h1, h2, h3⟩ := h
    exact ⟨v, r, h1, Rep.mono e p h2, RepL.mono e p h3⟩
end
theorem Gr.rep (g : Gr π H π1 H1) {d : D} {v : V} (h : Rp K π H d v) : Rp K π1 H1 d v := Rep.mono g.keep (fun _ _ => g.get) h
theorem Gr.repL (g : Gr π H π1 H1) {ds : List D} {vs : List V} (h : RpL K π H ds vs) : RpL K π1 H1 ds vs := RepL.mono g.keep (fun _ _ => g.get) h
theorem Gr.loc (g : Gr π H π1 H1) {ρ : Env'} {σ : L2.St} (h : SimL K π H ρ σ) : SimL K π1 H1 ρ σ :=
  ⟨h.len, fun i d e => let ⟨v, a, b⟩ := h.loc i d e; ⟨v, a, g.rep b⟩⟩
theorem RepL.length : ∀ {ds : List D} {vs : List V}, RepL K H π ds vs → vs.length = ds.length
  | [], _, h => by unfold RepL at h; rw [h]; rfl
  | d :: ds, _, h => by
    unfold RepL at h
    obtain ⟨v, r, h1, h2, h3⟩ := h
    rw [h1, List.length_cons, List.length_cons, RepL.length h3]
theorem RepL.get : ∀ {ds : List D} {vs : List V} {i : Nat} {d : D}, RepL K H π ds vs → ds[i]? = some d → ∃ v, vs[i]? = some v ∧ Rep K H π d v
  | [], _, _, _, _, e => by simp at e
  | d :: ds, _, 0, _, h, e => by
    unfold RepL at h
    obtain ⟨v, r, h1, h2, h3⟩ := h
    simp at e; subst e
    exact ⟨v, by rw [h1]; rfl, h2⟩
  | d :: ds, _, i + 1, _, h, e => by
    unfold RepL at h
    obtain ⟨v, r, h1, h2, h3⟩ := h
    obtain ⟨u, a, b⟩ := RepL.get (i := i) h3 (by simpa using e)
    exact ⟨u, by rw [h1]; simpa using a, b⟩
theorem RepL.append : ∀ {ds es : List D} {vs us : List V}, RepL K H π ds vs → RepL K H π es us → RepL K H π (ds ++ es) (vs ++ us)
  | [], _, _, _, h, q => by unfold RepL at h; rw [h]; exact q
  | d :: ds, _, _, _, h, q => by
    unfold RepL at h
    obtain ⟨v, r, h1, h2, h3⟩ := h
    rw [h1, List.cons_append, List.cons_append]
    unfold RepL
    exact ⟨v, _, rfl, h2, RepL.append h3 q⟩
theorem RepL.one {d : D} {v : V} (h : Rep K H π d v) : RepL K H π [d] [v] := by
  unfold RepL
  exact ⟨v, [], rfl, h, by unfold RepL; rfl⟩
theorem RepL.nil : RepL K H π [] [] := by unfold RepL; rfl
theorem RepL.cons {d : D} {v : V} {ds : List D} {vs : List V} (h : Rep K H π d v) (t : RepL K H π ds vs) : RepL K H π (d :: ds) (v :: vs) := by
  unfold RepL
  exact ⟨v, vs, rfl, h, t⟩
theorem RepL.uncons {d : D} {ds : List D} {vs : List V} (h : RepL K H π (d :: ds) vs) : ∃ v r, vs = v :: r ∧ Rep K H π d v ∧ RepL K H π ds r := by
  unfold RepL at h
  exact h
theorem RepL.take : ∀ (n : Nat) {ds : List D} {vs : List V}, RepL K H π ds vs → RepL K H π (ds.take n) (vs.take n)
  | 0, _, _, _ => by simp [RepL]
  | n + 1, [], _, h => by unfold RepL at h; rw [h]; simp [RepL]
  | n + 1, d :: ds, _, h => by
    obtain ⟨v, r, h1, h2, h3⟩ := h.uncons
    rw [h1, List.take_succ_cons, List.take_succ_cons]
    exact .cons h2 (RepL.take n h3)
theorem RepL.drop : ∀ (n : Nat) {ds : List D} {vs : List V}, RepL K H π ds vs → RepL K H π (ds.drop n) (vs.drop n)
  | 0, _, _, h => h
  | n + 1, [], _, h => by unfold RepL at h; rw [h]; simp [RepL]
  | n + 1, d :: ds, _, h => by
    obtain ⟨v, r, h1, h2, h3⟩ := h.uncons
    rw [h1, List.drop_succ_cons, List.drop_succ_cons]
    exact RepL.drop n h3
theorem RepL.set : ∀ {ds : List D} {vs : List V} {d : D} {v : V} (i : Nat), Rep K H π d v → RepL K H π ds vs → RepL K H π (ds.set i d) (vs.set i v)
  | [], _, _, _, _, _, h => by unfold RepL at h; rw [h]; simp [RepL]
  | _ :: _, _, _, _, 0, q, h => by
    obtain ⟨v, r, h1, h2, h3⟩ := h.uncons
    rw [h1]
    exact .cons q h3
  | _ :: _, _, _, _, i + 1, q, h => by
    obtain ⟨v, r, h1, h2, h3⟩ := h.uncons
    rw [h1]
    exact .cons h2 (RepL.set i q h3)
theorem RepL.getV : ∀ {ds : List D} {vs : List V} {i : Nat} {v : V}, RepL K H π ds vs → vs[i]? = some v → ∃ d, ds[i]? = some d ∧ Rep K H π d v := fun {ds vs i v} h e => by
  have h1 := h.length
  have h2 := (List.getElem?_eq_some_iff.mp e).1
  have h3 : i < ds.length := by omega
  obtain ⟨u, a, b⟩ := h.get (List.getElem?_eq_getElem h3)
  rw [e] at a
  cases a
  exact ⟨_, List.getElem?_eq_getElem h3, b⟩
theorem RepO.mono {m : MO} {o : Option HO} (e : ∀ b o, H b = some o → H1 b = some o) (p : ∀ (n : Nat) a, π[n]? = some a → π1[n]? = some a) (h : RepO K H π m o) : RepO K H1 π1 m o := by
  cases m with
  | lst ds => obtain ⟨vs, a, b⟩ := h; exact ⟨vs, a, b.mono e p⟩
  | dct ks ds => obtain ⟨vs, a, b, c⟩ := h; exact ⟨vs, a, b, c.mono e p⟩
  | ins c ns ds => obtain ⟨dx, fs, a, b, c⟩ := h; exact ⟨dx, fs, a, b, c.mono e p⟩
theorem RepX.mono {ns : List Str} {ds : List D} {d : Option Addr} (e : ∀ b o, H b = some o → H1 b = some o) (p : ∀ (n : Nat) a, π[n]? = some a → π1[n]? = some a) (h : RepX K H π ns ds d) : RepX K H1 π1 ns ds d := by
  rcases h with h | ⟨dx, fs, h1, h2, h3, h4⟩
  · exact .inl h
  · exact .inr ⟨dx, fs, h1, e _ _ h2, h3, h4.mono e p⟩
/-- nothing that may be changed has changed -/
theorem SimM.grow {μ : Store} (s : SimM K π μ H) (k : ∀ b o, H b = some o → H1 b = some o) : SimM K π μ H1 ∧ Gr π H π H1 := by
  have g : ∀ b o, off π H b = some o → off π H1 b = some o := fun b o e => by
    obtain ⟨q1, q2⟩ := off_some e
    rw [off_ne q1]
    exact k _ _ q2
  refine ⟨⟨s.nd, s.len, fun n a m h1 h2 => ?_⟩, ⟨⟨[], by simp⟩, g⟩⟩
  have q := (s.obj n a m h1 h2).mono g fun _ _ h => h
  have : H1 a = H a := by
    have : ∃ o, H a = some o := by
      cases m with
      | lst ds => obtain ⟨vs, e, _⟩ := q; exact ⟨_, e⟩
      | dct ks ds => obtain ⟨vs, e, _⟩ := q; exact ⟨_, e⟩
      | ins c ns ds => obtain ⟨dx, fs, e, _⟩ := q; exact ⟨_, e⟩
    obtain ⟨o, e⟩ := this
    rw [k _ _ e, e]
  rw [this]
  exact q
theorem SimM.new {μ : Store} (s : SimM K π μ H) {p : Addr} {o : HO} (h : H p = none) : SimM K π μ (upd H p o) :=
  (s.grow fun b u e => by rw [upd_ne (ne_of_none e h)]; exact e).1
theorem SimM.in_ {μ : Store} (s : SimM K π μ H) {a : Addr} (h : H a = none) : a ∉ π := fun q => by
  obtain ⟨n, hn, e⟩ := List.getElem_of_mem q
  have hm : n < μ.length := by rw [← s.len]; exact hn
  have z := s.obj n a μ[n] (by rw [List.getElem?_eq_getElem hn, e]) (List.getElem?_eq_getElem hm)
  rw [h] at z
  cases hq : μ[n] with
  | lst ds => rw [hq] at z; obtain ⟨vs, e, _⟩ := z; cases e
  | dct ks ds => rw [hq] at z; obtain ⟨vs, e, _⟩ := z; cases e
  | ins c ns ds => rw [hq] at z; obtain ⟨dx, fs, e, _⟩ := z; cases e
/-- a new thing that may be changed -/
theorem SimM.push {μ : Store} (s : SimM K π μ H) {p : Addr} {o : HO} {m : MO} (h : H p = none) (r : RepO K (off π H) π m (some o)) :
    SimM K (π ++ [p]) (μ ++ [m]) (upd H p o) ∧ Gr π H (π ++ [p]) (upd H p o) := by
  have hp := s.in_ h
  have g : ∀ b u, off π H b = some u → off (π ++ [p]) (upd H p o) b = some u := fun b u e => by
    obtain ⟨q1, q2⟩ := off_some e
    have nb : b ≠ p := ne_of_none q2 h
    rw [off_ne (by simp [q1, nb]), upd_ne nb]
    exact q2
  have gp : ∀ (n : Nat) a, π[n]? = some a → (π ++ [p])[n]? = some a := fun n a e => by
    rw [List.getElem?_append_left (List.getElem?_eq_some_iff.mp e).1]
    exact e
  refine ⟨⟨?_, by simp [s.len], fun n a m' h1 h2 => ?_⟩, ⟨⟨[p], rfl⟩, g⟩⟩
  · rw [List.nodup_append]
    refine ⟨s.nd, by simp, fun x hx y hy => ?_⟩
    simp at hy
    subst hy
    exact fun e => hp (e ▸ hx)
  · by_cases hn : n < π.length
    · rw [List.getElem?_append_left hn] at h1
      rw [List.getElem?_append_left (by rw [← s.len]; exact hn)] at h2
      have q := (s.obj n a m' h1 h2).mono g gp
      have na : a ≠ p := fun e => hp (e ▸ List.mem_of_getElem? h1)
      rw [upd_ne na]
      exact q
    · have hl := (List.getElem?_eq_some_iff.mp h1).1
      have hn' : n = π.length := by
        rw [List.length_append, List.length_singleton] at hl
        omega
      subst hn'
      have e1 : a = p := by simpa using h1.symm
      have e2 : m' = m := by
        rw [s.len] at h2
        simpa using h2.symm
      subst e1 e2
      rw [upd_same]
      exact r.mono g gp
end

/-! ### the judgement -/
def WE (X : Cx) (e : Expr) : TE := fun σ H Q => ∀ (pins : List (Addr × Obj)) (s : Shared), Inv X pins σ H s → wpAny (model X.prog X.w) X.A (eval e X.env) (EP X pins σ Q) X.xe s
theorem pe_we {X : Cx} {e : Expr} : PE X e (WE X e) := ⟨fun pins s σ H Q I h => h pins s I⟩
theorem WE.of {X : Cx} {e : Expr} {t : TE} {σ : L2.St} {H : Hp} {Q : VK} (h : PE X e t) (q : t σ H Q) : WE X e σ H Q := fun pins s I => h.run pins s σ H Q I q
/-- an outcome is good: where it is a value, all that may come is wanted -/
def GE {α β : Type} (X : Cx) (W : WX) (R : List Addr → Hp → α → β → Prop) (π : List Addr) (σ : L2.St) (H : Hp) (Q : β → Hp → Prop) : Out α → Prop
  | .ok d μ' => ∀ v H' π', Gr π H π' H' → SimM X.K π' μ' H' → R π' H' d v → Q v H'
  | .exc c ns ds μ' => ∀ d H' π', Gr π H π' H' → SimM X.K π' μ' H' → RepX X.K (off π' H') π' ns ds d → W (.ref (He.ga X.K c)) d σ H'
  | .stuck => False
section
variable {α α' β β' : Type} {X : Cx} {W : WX} {R : List Addr → Hp → α → β → Prop} {R' : List Addr → Hp → α' → β' → Prop} {π π1 : List Addr} {σ : L2.St} {H H1 : Hp} {Q : β → Hp → Prop} {o : Out α}
theorem GE.mono (g : Gr π H π1 H1) (h : GE X W R π σ H Q o) : GE X W R π1 σ H1 Q o := by
  cases o with
  | ok d μ => exact fun v H' π' g' s r => h v H' π' (g.trans g') s r
  | exc c ns ds μ => exact fun d H' π' g' s r => h d H' π' (g.trans g') s r
  | stuck => exact h
/-- one thing behind another -/
theorem GE.bind {f : α → Store → Out α'} {Q' : β' → Hp → Prop} (h : GE X W R' π σ H Q' (o.bind f))
    (k : ∀ d μ1 v H1 π1, o = .ok d μ1 → Gr π H π1 H1 → SimM X.K π1 μ1 H1 → R π1 H1 d v → GE X W R' π1 σ H1 Q' (f d μ1) → Q v H1) : GE X W R π σ H Q o := by
  cases o with
  | ok d μ => exact fun v H' π' g s r => k d μ v H' π' rfl g s r (GE.mono g h)
  | exc c ns ds μ => exact h
  | stuck => exact h
theorem GE.imp {Q' : β → Hp → Prop} (h : GE X W R π σ H Q o) (k : ∀ v H', Q v H' → Q' v H') : GE X W R π σ H Q' o := by
  cases o with
  | ok d μ => exact fun v H' π' g s r => k _ _ (h v H' π' g s r)
  | exc c ns ds μ => exact h
  | stuck => exact h
end
/-- the mirror m of an expression is right; W: what is wanted of an exception -/
def SE (X : Cx) (W : WX) (e : Expr) (m : M D) : Prop := ∀ (π : List Addr) (ρ : Env') (μ : Store) (σ : L2.St) (H : Hp) (Q : VK), SimM X.K π μ H → SimL X.K π H ρ σ → GE X W (Rp X.K) π σ H Q (m ρ μ) → WE X e σ H Q
/-- the mirror of a test -/
def WT (X : Cx) (e : Expr) : TT := fun σ H Q => ∀ (pins : List (Addr × Obj)) (s : Shared), Inv X pins σ H s → wpAny (model X.prog X.w) X.A (isTrue e X.env (eval e X.env)) (TP X pins σ Q) X.xe s
theorem pt_wt {X : Cx} {e : Expr} : PT X e (WT X e) := ⟨fun pins s σ H Q I h => h pins s I⟩
theorem WT.of {X : Cx} {e : Expr} {t : TT} {σ : L2.St} {H : Hp} {Q : Bool → Hp → Prop} (h : PT X e t) (q : t σ H Q) : WT X e σ H Q := fun pins s I => h.run pins s σ H Q I q
abbrev RB : List Addr → Hp → Bool → Bool → Prop := fun _ _ b c => b = c
def ST (X : Cx) (W : WX) (e : Expr) (m : M Bool) : Prop := ∀ (π : List Addr) (ρ : Env') (μ : Store) (σ : L2.St) (H : Hp) (Q : Bool → Hp → Prop), SimM X.K π μ H → SimL X.K π H ρ σ → GE X W RB π σ H Q (m ρ μ) → WT X e σ H Q
/-- .. of arguments -/
def WA (X : Cx) (es : List Expr) : TA := fun σ H Q => ∀ (pos : Pos) (pins : List (Addr × Obj)) (s : Shared), Inv X pins σ H s → wpAny (model X.prog X.w) X.A (spliced (backTo pos (starEach es X.env))) (AP X pins σ Q) X.xe s
theorem pa_wa {X : Cx} {es : List Expr} : PA X es (WA X es) := ⟨fun pos pins s σ H Q I h => h pos pins s I⟩
theorem WA.of {X : Cx} {es : List Expr} {t : TA} {σ : L2.St} {H : Hp} {Q : List V → Hp → Prop} (h : PA X es t) (q : t σ H Q) : WA X es σ H Q := fun pos pins s I => h.run pos pins s σ H Q I q
def SA (X : Cx) (W : WX) (es : List Expr) (m : M (List D)) : Prop := ∀ (π : List Addr) (ρ : Env') (μ : Store) (σ : L2.St) (H : Hp) (Q : List V → Hp → Prop), SimM X.K π μ H → SimL X.K π H ρ σ → GE X W (RpL X.K) π σ H Q (m ρ μ) → WA X es σ H Q

/-! ### statements -/
inductive OutS where
  | nx (ρ : Env') (μ : Store) | ret (d : D) (μ : Store) | brk (ρ : Env') (μ : Store) | ct (ρ : Env') (μ : Store)
  | exc (c : Str) (ns : List Str) (ds : List D) (ρ : Env') (μ : Store) | stuck
abbrev C := Env' → Store → OutS
def OutS.bind : OutS → C → OutS
  | .nx ρ μ, f => f ρ μ
  | o, _ => o
/-- an expression's outcome, then a statement's -/
def Out.bindS {α : Type} : Out α → Env' → (α → Store → OutS) → OutS
  | .ok a μ, _, f => f a μ
  | .exc c ns ds μ, ρ, _ => .exc c ns ds ρ μ
  | .stuck, _, _ => .stuck
def WSs (X : Cx) (st : List Stmt) : TS := fun D σ H => ∀ (pins : List (Addr × Obj)) (s : Shared), Inv X pins σ H s → wpAny (model X.prog X.w) X.A (execs st X.env) (SP X pins D) X.xe s
def WS (X : Cx) (st : Stmt) : TS := fun D σ H => ∀ (pins : List (Addr × Obj)) (s : Shared), Inv X pins σ H s → wpAny (model X.prog X.w) X.A (exec st X.env) (SP X pins D) X.xe s
theorem ps_ws {X : Cx} {st : Stmt} : PS X st (WS X st) := ⟨fun pins s σ H D I h => h pins s I⟩
theorem pss_wss {X : Cx} {st : List Stmt} : PSs X st (WSs X st) := ⟨fun pins s σ H D I h => h pins s I⟩
theorem WS.of {X : Cx} {st : Stmt} {t : TS} {σ : L2.St} {H : Hp} {D : Ends} (h : PS X st t) (q : t D σ H) : WS X st D σ H := fun pins s I => h.run pins s σ H D I q
theorem WSs.of {X : Cx} {st : List Stmt} {t : TS} {σ : L2.St} {H : Hp} {D : Ends} (h : PSs X st t) (q : t D σ H) : WSs X st D σ H := fun pins s I => h.run pins s σ H D I q
/-- what is wanted behind an outcome -/
def GS (X : Cx) (W : WX) (π : List Addr) (H : Hp) (D : Ends) : OutS → Prop
  | .nx ρ' μ' => ∀ σ' H' π', Gr π H π' H' → SimM X.K π' μ' H' → SimL X.K π' H' ρ' σ' → D.nx σ' H'
  | .ret d μ' => ∀ v H' π', Gr π H π' H' → SimM X.K π' μ' H' → Rp X.K π' H' d v → D.rt v H'
  | .brk ρ' μ' => ∀ σ' H' π', Gr π H π' H' → SimM X.K π' μ' H' → SimL X.K π' H' ρ' σ' → D.bk σ' H'
  | .ct ρ' μ' => ∀ σ' H' π', Gr π H π' H' → SimM X.K π' μ' H' → SimL X.K π' H' ρ' σ' → D.ct σ' H'
  | .exc c ns ds ρ' μ' => ∀ d σ' H' π', Gr π H π' H' → SimM X.K π' μ' H' → SimL X.K π' H' ρ' σ' → RepX X.K (off π' H') π' ns ds d → W (.ref (He.ga X.K c)) d σ' H'
  | .stuck => False
def SS (X : Cx) (W : WX) (st : Stmt) (c : C) : Prop := ∀ (π : List Addr) (ρ : Env') (μ : Store) (σ : L2.St) (H : Hp) (D : Ends), SimM X.K π μ H → SimL X.K π H ρ σ → GS X W π H D (c ρ μ) → WS X st D σ H
def SSs (X : Cx) (W : WX) (st : List Stmt) (c : C) : Prop := ∀ (π : List Addr) (ρ : Env') (μ : Store) (σ : L2.St) (H : Hp) (D : Ends), SimM X.K π μ H → SimL X.K π H ρ σ → GS X W π H D (c ρ μ) → WSs X st D σ H
section
variable {X : Cx} {W : WX} {π π1 : List Addr} {σ : L2.St} {ρ : Env'} {μ : Store} {H H1 : Hp} {Dn D' : Ends} {o : OutS}
theorem GS.mono (g : Gr π H π1 H1) (h : GS X W π H Dn o) : GS X W π1 H1 Dn o := by
  cases o with
  | nx ρ μ => exact fun σ' H' π' g' => h σ' H' π' (g.trans g')
  | ret d μ => exact fun v H' π' g' => h v H' π' (g.trans g')
  | brk ρ μ => exact fun σ' H' π' g' => h σ' H' π' (g.trans g')
  | ct ρ μ => exact fun σ' H' π' g' => h σ' H' π' (g.trans g')
  | exc c ns ds ρ μ => exact fun d σ' H' π' g' => h d σ' H' π' (g.trans g')
  | stuck => exact h
/-- an expression, then the rest of the statement -/
theorem GE.bindS {α β : Type} {R : List Addr → Hp → α → β → Prop} {o : Out α} {f : α → Store → OutS} {Q : β → Hp → Prop} (sl : SimL X.K π H ρ σ) (h : GS X W π H Dn (o.bindS ρ f))
    (k : ∀ d μ1 v H1 π1, o = .ok d μ1 → Gr π H π1 H1 → SimM X.K π1 μ1 H1 → R π1 H1 d v → GS X W π1 H1 Dn (f d μ1) → Q v H1) : GE X W R π σ H Q o := by
  cases o with
  | ok d μ => exact fun v H' π' g s r => k d μ v H' π' rfl g s r (GS.mono g h)
  | exc c ns ds μ => exact fun d H' π' g s r => h d σ H' π' g s (g.loc sl) r
  | stuck => exact h
theorem GS.bind {f : C} (h : GS X W π H Dn (o.bind f))
    (k : ∀ ρ1 μ1 σ1 H1 π1, o = .nx ρ1 μ1 → Gr π H π1 H1 → SimM X.K π1 μ1 H1 → SimL X.K π1 H1 ρ1 σ1 → GS X W π1 H1 Dn (f ρ1 μ1) → D'.nx σ1 H1) (h1 : D'.rt = Dn.rt) (h2 : D'.bk = Dn.bk) (h3 : D'.ct = Dn.ct) : GS X W π H D' o := by
  cases o with
  | nx ρ μ => exact fun σ' H' π' g s l => k ρ μ σ' H' π' rfl g s l (GS.mono g h)
  | ret d μ => unfold GS; rw [h1]; exact h
  | brk ρ μ => unfold GS; rw [h2]; exact h
  | ct ρ μ => unfold GS; rw [h3]; exact h
  | exc c ns ds ρ μ => exact h
  | stuck => exact h
end
end Rv
set_option Elab.async false
set_option linter.all false
set_option maxRecDepth 100000
set_option maxHeartbeats 4000000
/-! Rv2: equality of data, regions, a def's promise, a def from its body. -/
namespace Rv
open PySem PySem.Spec L2
open PyProof.Rows hiding St

/-! ### equality of data -/
mutual
def D.beq : D → D → Bool
  | .non, .non => true
  | .bl a, .bl b => a == b
  | .int a, .int b => a == b
  | .str a, .str b => a == b
  | .tup a, .tup b => D.beqL a b
  | .lst a, .lst b => D.beqL a b
  | .dct k a, .dct l b => k == l && D.beqL a b
  | .obj c n a, .obj d m b => c == d && (n == m && D.beqL a b)
  | .ref a, .ref b => a == b
  | .cls a, .cls b => a == b
  | .ty a, .ty b => a == b
  | .scr a, .scr b => a == b
  | .exn c n a, .exn d m b => c == d && (n == m && D.beqL a b)
  | _, _ => false
def D.beqL : List D → List D → Bool
  | [], [] => true
  | a :: l, b :: r => D.beq a b && D.beqL l r
  | _, _ => false
end
mutual
theorem D.beq_eq : ∀ {a b : D}, D.beq a b = true → a = b := fun {a b} h => by
  cases a <;> cases b <;> simp only [D.beq, Bool.and_eq_true, beq_iff_eq] at h <;> first | rfl | (cases h; done) | (rw [h]; done) | skip
  · rw [D.beqL_eq h]
  · rw [D.beqL_eq h]
  · rw [h.1, D.beqL_eq h.2]
  · rw [h.1, h.2.1, D.beqL_eq h.2.2]
  · rw [h.1, h.2.1, D.beqL_eq h.2.2]
theorem D.beqL_eq : ∀ {a b : List D}, D.beqL a b = true → a = b
  | [], [], _ => rfl
  | a :: l, b :: r, h => by
    simp only [D.beqL, Bool.and_eq_true] at h
    rw [D.beq_eq h.1, D.beqL_eq h.2]
  | [], _ :: _, h => by simp [D.beqL] at h
  | _ :: _, [], h => by simp [D.beqL] at h
end
mutual
theorem D.beq_refl : ∀ a : D, D.beq a a = true
  | .non => rfl
  | .bl a => by simp [D.beq]
  | .int a => by simp [D.beq]
  | .str a => by simp [D.beq]
  | .tup a => by simp only [D.beq]; exact D.beqL_refl a
  | .lst a => by simp only [D.beq]; exact D.beqL_refl a
  | .dct k a => by simp only [D.beq, beq_self_eq_true, Bool.true_and]; exact D.beqL_refl a
  | .obj c n a => by simp only [D.beq, beq_self_eq_true, Bool.true_and]; exact D.beqL_refl a
  | .ref a => by simp [D.beq]
  | .cls a => by simp [D.beq]
  | .ty a => by simp [D.beq]
  | .scr a => by simp [D.beq]
  | .exn c n a => by simp only [D.beq, beq_self_eq_true, Bool.true_and]; exact D.beqL_refl a
theorem D.beqL_refl : ∀ a : List D, D.beqL a a = true
  | [] => rfl
  | a :: l => by simp only [D.beqL, D.beq_refl a, D.beqL_refl l, Bool.and_self]
end
instance : DecidableEq D := fun a b => if h : D.beq a b = true then isTrue (D.beq_eq h) else isFalse fun e => h (e ▸ D.beq_refl a)
def MO.beq : MO → MO → Bool
  | .lst a, .lst b => D.beqL a b
  | .dct k a, .dct l b => k == l && D.beqL a b
  | .ins c n a, .ins d m b => c == d && (n == m && D.beqL a b)
  | _, _ => false
theorem MO.beq_eq {a b : MO} (h : MO.beq a b = true) : a = b := by
  cases a <;> cases b <;> simp only [MO.beq, Bool.and_eq_true, beq_iff_eq] at h <;> first | (cases h; done) | skip
  · rw [D.beqL_eq h]
  · rw [h.1, D.beqL_eq h.2]
  · rw [h.1, h.2.1, D.beqL_eq h.2.2]
theorem MO.beq_refl (a : MO) : MO.beq a a = true := by
  cases a <;> simp [MO.beq, D.beqL_refl]
instance : DecidableEq MO := fun a b => if h : MO.beq a b = true then isTrue (MO.beq_eq h) else isFalse fun e => h (e ▸ MO.beq_refl a)

/-! ### references below a bound -/
mutual
def D.low (n : Nat) : D → Bool
  | .ref k => decide (k < n)
  | .tup ds => D.lowL n ds
  | .lst ds => D.lowL n ds
  | .dct _ ds => D.lowL n ds
  | .obj _ _ ds => D.lowL n ds
  | .exn _ _ ds => D.lowL n ds
  | _ => true
def D.lowL (n : Nat) : List D → Bool
  | [] => true
  | d :: ds => D.low n d && D.lowL n ds
end
theorem D.lowL_all (n : Nat) : ∀ ds : List D, D.lowL n ds = ds.all (D.low n)
  | [] => rfl
  | d :: ds => by simp only [D.lowL, List.all_cons, D.lowL_all n ds]
def MO.low (n : Nat) : MO → Bool
  | .lst ds => D.lowL n ds
  | .dct _ ds => D.lowL n ds
  | .ins _ _ ds => D.lowL n ds
section
variable {K : PySem.W.Frag} {H : Hp} {π : List Addr} {n : Nat}
mutual
theorem Rep.take : ∀ {d : D} {v : V}, D.low n d = true → Rep K H π d v → Rep K H (π.take n) d v
  | .non, _, _, h => h
  | .bl _, _, _, h => h
  | .int _, _, _, h => h
  | .str _, _, _, h => h
  | .tup ds, _, b, h => by
    unfold Rep at h ⊢
    obtain ⟨a, vs, h1, h2, h3⟩ := h
    exact ⟨a, vs, h1, h2, RepL.takeP b h3⟩
  | .lst ds, _, b, h => by
    unfold Rep at h ⊢
    obtain ⟨a, vs, h1, h2, h3⟩ := h
    exact ⟨a, vs, h1, h2, RepL.takeP b h3⟩
  | .dct ks ds, _, b, h => by
    unfold Rep at h ⊢
    obtain ⟨a, vs, h1, h2, h3, h4⟩ := h
    exact ⟨a, vs, h1, h2, h3, RepL.takeP b h4⟩
  | .obj c ns ds, _, b, h => by
    unfold Rep at h ⊢
    obtain ⟨a, dx, fs, h1, h2, h3, h4⟩ := h
    exact ⟨a, dx, fs, h1, h2, h3, RepL.takeP b h4⟩
  | .ref k, _, b, h => by
    unfold Rep at h ⊢
    obtain ⟨a, h1, h2⟩ := h
    have b' : k < n := by simpa [D.low] using b
    exact ⟨a, by rw [List.getElem?_take_of_lt b']; exact h1, h2⟩
  | .cls _, _, _, h => h
  | .ty _, _, _, h => h
  | .scr _, _, _, h => h
  | .exn c ns ds, _, b, h => by
    unfold Rep at h ⊢
    obtain ⟨a, d, fs, h1, h2, h3, h4, h5, h6⟩ := h
    exact ⟨a, d, fs, h1, h2, h3, h4, h5, RepL.takeP b h6⟩
theorem RepL.takeP : ∀ {ds : List D} {vs : List V}, D.lowL n ds = true → RepL K H π ds vs → RepL K H (π.take n) ds vs
  | [], _, _, h => h
  | d :: ds, _, b, h => by
    obtain ⟨v, r, h1, h2, h3⟩ := h.uncons
    rw [h1]
    simp only [D.lowL, Bool.and_eq_true] at b
    exact .cons (Rep.take b.1 h2) (RepL.takeP b.2 h3)
end
theorem RepO.take {m : MO} {o : Option HO} (b : MO.low n m = true) (h : RepO K H π m o) : RepO K H (π.take n) m o := by
  cases m with
  | lst ds => obtain ⟨vs, h1, h2⟩ := h; exact ⟨vs, h1, h2.takeP b⟩
  | dct ks ds => obtain ⟨vs, h1, h2, h3⟩ := h; exact ⟨vs, h1, h2, h3.takeP b⟩
  | ins c ns ds => obtain ⟨dx, fs, h1, h2, h3⟩ := h; exact ⟨dx, fs, h1, h2, h3.takeP b⟩
mutual
/-- what is told by n places names none behind them -/
theorem Rep.low (hn : π.length ≤ n) : ∀ {d : D} {v : V}, Rep K H π d v → D.low n d = true
  | .non, _, _ => rfl
  | .bl _, _, _ => rfl
  | .int _, _, _ => rfl
  | .str _, _, _ => rfl
  | .tup ds, _, h => by
    unfold Rep at h
    obtain ⟨a, vs, h1, h2, h3⟩ := h
    exact RepL.low hn h3
  | .lst ds, _, h => by
    unfold Rep at h
    obtain ⟨a, vs, h1, h2, h3⟩ := h
    exact RepL.low hn h3
  | .dct ks ds, _, h => by
    unfold Rep at h
    obtain ⟨a, vs, h1, h2, h3, h4⟩ := h
    exact RepL.low hn h4
  | .obj c ns ds, _, h => by
    unfold Rep at h
    obtain ⟨a, dx, fs, h1, h2, h3, h4⟩ := h
    exact RepL.low hn h4
  | .ref k, _, h => by
    unfold Rep at h
    obtain ⟨a, h1, h2⟩ := h
    have := (List.getElem?_eq_some_iff.mp h1).1
    simp only [D.low, decide_eq_true_eq]
    omega
  | .cls _, _, _ => rfl
  | .ty _, _, _ => rfl
  | .scr _, _, _ => rfl
  | .exn c ns ds, _, h => by
    unfold Rep at h
    obtain ⟨a, d, fs, h1, h2, h3, h4, h5, h6⟩ := h
    exact RepL.low hn h6
theorem RepL.low (hn : π.length ≤ n) : ∀ {ds : List D} {vs : List V}, RepL K H π ds vs → D.lowL n ds = true
  | [], _, _ => rfl
  | d :: ds, _, h => by
    obtain ⟨v, r, h1, h2, h3⟩ := h.uncons
    simp only [D.lowL, Rep.low hn h2, RepL.low hn h3, Bool.and_self]
end
theorem RepO.low {m : MO} {o : Option HO} (hn : π.length ≤ n) (h : RepO K H π m o) : MO.low n m = true := by
  cases m with
  | lst ds => obtain ⟨vs, h1, h2⟩ := h; exact h2.low hn
  | dct ks ds => obtain ⟨vs, h1, h2, h3⟩ := h; exact h3.low hn
  | ins c ns ds => obtain ⟨dx, fs, h1, h2, h3⟩ := h; exact h3.low hn
end

/-! ### regions: what a def makes for itself is let go at its end -/
/-- a list, a dict, an instance that is let go stays as it is from then on -/
def frz (n : Nat) (μ : Store) : D → D
  | .ref k => if k < n then .ref k else match μ[k]? with
    | some (.lst ds) => .lst ds
    | some (.dct ks ds) => .dct ks ds
    | some (.ins c ns ds) => .obj c ns ds
    | none => .ref k
  | d => d
def kept (n : Nat) (μ μ' : Store) : Bool := decide (μ'.take n = μ) || (μ'.take n).all (MO.low n)
theorem kept_same (μ : Store) : kept μ.length μ μ = true := by simp [kept]
theorem kept_app (μ ν : Store) : kept μ.length μ (μ ++ ν) = true := by simp [kept]
/-- the end of a body: the value handed back, all that was made let go -/
def region (μ : Store) : OutS → Out D
  | .ret d μ' => if kept μ.length μ μ' && D.low μ.length (frz μ.length μ' d) then .ok (frz μ.length μ' d) (μ'.take μ.length) else .stuck
  | .nx _ μ' => if kept μ.length μ μ' then .ok .non (μ'.take μ.length) else .stuck
  | .exc c ns ds _ μ' => if kept μ.length μ μ' && D.lowL μ.length (ds.map (frz μ.length μ')) then .exc c ns (ds.map (frz μ.length μ')) (μ'.take μ.length) else .stuck
  | _ => .stuck
/-- .. where the value is one new thing that goes on being changed -/
def region1 (μ : Store) : OutS → Out D
  | .ret (.ref k) μ' => match μ'[k]? with
    | some m => if decide (μ.length ≤ k) && (kept μ.length μ μ' && MO.low μ.length m) then .ok (.ref μ.length) (μ'.take μ.length ++ [m]) else .stuck
    | none => .stuck
  | _ => .stuck
section
variable {K : PySem.W.Frag} {H H0 : Hp} {π π0 : List Addr} {μ μ0 : Store}
/-- the part of the store that stood before -/
theorem SimM.take (s : SimM K π μ H) (s0 : SimM K π0 μ0 H0) (g : Gr π0 H0 π H) (k : kept μ0.length μ0 μ = true) :
    SimM K π0 (μ.take μ0.length) H ∧ Gr π0 H0 π0 H ∧ π.take μ0.length = π0 ∧ (∀ b o, off π H b = some o → off π0 H b = some o) := by
  obtain ⟨t, ht⟩ := g.pre
  have hp : π.take μ0.length = π0 := by rw [ht, ← s0.len, List.take_left]
  have ho : ∀ b o, off π H b = some o → off π0 H b = some o := fun b o e => by
    obtain ⟨q1, q2⟩ := off_some e
    rw [off_ne fun z => q1 (by rw [ht]; exact List.mem_append_left _ z)]
    exact q2
  have hl : μ0.length ≤ μ.length := by rw [← s.len, ← s0.len, ht]; simp
  refine ⟨⟨s0.nd, ?_, fun n a m h1 h2 => ?_⟩, ⟨⟨[], by simp⟩, fun b o e => ho b o (g.keep b o e)⟩, hp, ho⟩
  · rw [List.length_take, s0.len]; omega
  · have hn : n < μ0.length := by rw [← s0.len]; exact (List.getElem?_eq_some_iff.mp h1).1
    rw [List.getElem?_take_of_lt hn] at h2
    have h1' : π[n]? = some a := g.get h1
    have q := s.obj n a m h1' h2
    have hb : MO.low μ0.length m = true := by
      unfold kept at k
      rw [Bool.or_eq_true] at k
      rcases k with k | k
      · have e : μ.take μ0.length = μ0 := of_decide_eq_true k
        have h3 : μ0[n]? = some m := by rw [← e, List.getElem?_take_of_lt hn]; exact h2
        exact (s0.obj n a m h1 h3).low (Nat.le_of_eq s0.len)
      · exact List.all_eq_true.mp k m (List.mem_of_getElem? (by rw [List.getElem?_take_of_lt hn]; exact h2))
    have q2 := q.take hb
    rw [hp] at q2
    exact q2.mono ho fun _ _ h => h
theorem Rep.frz (s : SimM K π μ H) (s0 : SimM K π0 μ0 H0) (hp : π.take μ0.length = π0) (ho : ∀ b o, off π H b = some o → off π0 H b = some o) {d : D} {v : V} (h : Rep K (off π H) π d v)
    (b : D.low μ0.length (Rv.frz μ0.length μ d) = true) : Rep K (off π0 H) π0 (Rv.frz μ0.length μ d) v := by
  have fin : ∀ {d : D}, D.low μ0.length d = true → Rep K (off π H) π d v → Rep K (off π0 H) π0 d v := fun {d} b h => by
    have q := Rep.take b h
    rw [hp] at q
    exact q.mono ho fun _ _ h => h
  cases d with
  | ref k =>
    unfold Rv.frz at b ⊢
    dsimp only at b ⊢
    by_cases hk : k < μ0.length
    · rw [if_pos hk] at b ⊢
      exact fin b h
    · rw [if_neg hk] at b ⊢
      unfold Rep at h
      obtain ⟨a, h1, h2⟩ := h
      have hkl : k < μ.length := by rw [← s.len]; exact (List.getElem?_eq_some_iff.mp h1).1
      have na : a ∉ π0 := fun z => by
        rw [← hp] at z
        obtain ⟨j, hj, e⟩ := List.getElem_of_mem z
        rw [List.length_take] at hj
        rw [List.getElem_take] at e
        have h3 : π[j]? = some a := by rw [List.getElem?_eq_getElem (by omega), e]
        have : j = k := by
          obtain ⟨l1, e1⟩ := List.getElem?_eq_some_iff.mp h3
          obtain ⟨l2, e2⟩ := List.getElem?_eq_some_iff.mp h1
          exact (List.getElem_inj s.nd).mp (e1.trans e2.symm)
        omega
      have q := s.obj k a μ[k] h1 (List.getElem?_eq_getElem hkl)
      rw [List.getElem?_eq_getElem hkl] at b ⊢
      cases hm : μ[k] with
      | lst ds =>
        rw [hm] at q b
        obtain ⟨vs, q1, q2⟩ := q
        unfold Rep
        refine ⟨a, vs, h2, by rw [off_ne na]; exact q1, ?_⟩
        have z := q2.takeP (n := μ0.length) b
        rw [hp] at z
        exact z.mono ho fun _ _ h => h
      | dct ks ds =>
        rw [hm] at q b
        obtain ⟨vs, q1, q2, q3⟩ := q
        unfold Rep
        refine ⟨a, vs, h2, by rw [off_ne na]; exact q1, q2, ?_⟩
        have z := q3.takeP (n := μ0.length) b
        rw [hp] at z
        exact z.mono ho fun _ _ h => h
      | ins c ns ds =>
        rw [hm] at q b
        obtain ⟨dx, fs, q1, q2, q3⟩ := q
        unfold Rep
        refine ⟨a, dx, fs, h2, by rw [off_ne na]; exact q1, q2, ?_⟩
        have z := q3.takeP (n := μ0.length) b
        rw [hp] at z
        exact z.mono ho fun _ _ h => h
  | _ => exact fin b h
theorem RepL.frz (s : SimM K π μ H) (s0 : SimM K π0 μ0 H0) (hp : π.take μ0.length = π0) (ho : ∀ b o, off π H b = some o → off π0 H b = some o) : ∀ {ds : List D} {vs : List V}, RepL K (off π H) π ds vs →
    D.lowL μ0.length (ds.map (Rv.frz μ0.length μ)) = true → RepL K (off π0 H) π0 (ds.map (Rv.frz μ0.length μ)) vs
  | [], _, h, _ => h
  | d :: ds, _, h, b => by
    obtain ⟨v, r, h1, h2, h3⟩ := h.uncons
    rw [h1]
    simp only [List.map_cons, D.lowL, Bool.and_eq_true] at b ⊢
    exact .cons (Rep.frz s s0 hp ho h2 b.1) (RepL.frz s s0 hp ho h3 b.2)
end

/-! ### a def's promise by its mirror -/
abbrev Fn := List D → Store → Out D
/-- called with what stands for ds, the def does what F says -/
def spG (K : PySem.W.Frag) (n : Nat) (F : Fn) : Sp := fun vs H Q E => ∃ (π : List Addr) (μ : Store) (ds : List D), ds.length = n ∧ SimM K π μ H ∧ RpL K π H ds vs ∧ match F ds μ with
  | .ok d μ' => ∀ v H' π', Gr π H π' H' → SimM K π' μ' H' → Rp K π' H' d v → Q v H'
  | .exc c ns ds' μ' => ∀ d H' π', Gr π H π' H' → SimM K π' μ' H' → RepX K (off π' H') π' ns ds' d → E (.ref (He.ga K c)) d H'
  | .stuck => False
/-- a caller's use of the promise -/
theorem spG_of {X : Cx} {W : WX} {n : Nat} {F : Fn} {π : List Addr} {μ : Store} {σ : L2.St} {H : Hp} {Q : VK} {ds : List D} {vs : List V} (s : SimM X.K π μ H) (r : RpL X.K π H ds vs) (hn : ds.length = n) (h : GE X W (Rp X.K) π σ H Q (F ds μ)) :
    spG X.K n F vs H Q (fun c d H' => W c d σ H') := by
  refine ⟨π, μ, ds, hn, s, r, ?_⟩
  cases e : F ds μ with
  | ok d μ' => rw [e] at h; exact h
  | exc c ns ds' μ' => rw [e] at h; exact h
  | stuck => rw [e] at h; exact h
/-- how a body begins: the arguments, the other slots empty -/
def begin (n : Nat) (ds : List D) : Env' := ds.map some ++ List.replicate (n - ds.length) none
/-- the mirror of a def from its body's -/
def runF (n : Nat) (c : C) : Fn := fun ds μ => region μ (c (begin n ds) μ)
def runF1 (n : Nat) (c : C) : Fn := fun ds μ => region1 μ (c (begin n ds) μ)
theorem sim_begin {K : PySem.W.Frag} {π : List Addr} {H : Hp} {ds : List D} {vs : List V} {N : List Str} (r : RpL K π H ds vs) (hl : ds.length ≤ N.length) : SimL K π H (begin N.length ds) (L2.start N vs) := by
  have e := r.length
  refine ⟨?_, fun i d h => ?_⟩
  · unfold L2.start begin
    simp only [List.length_append, List.length_map, List.length_replicate]
    omega
  · unfold begin at h
    by_cases hi : i < ds.length
    · rw [List.getElem?_append_left (by simpa using hi), List.getElem?_map] at h
      rw [List.getElem?_eq_getElem hi] at h
      have h' : ds[i] = d := by simpa using h
      obtain ⟨v, h1, h2⟩ := r.get (List.getElem?_eq_getElem hi)
      refine ⟨v, ?_, h' ▸ h2⟩
      unfold L2.start
      rw [List.getElem?_append_left (by rw [List.length_map]; omega), List.getElem?_map, h1]
      rfl
    · rw [List.getElem?_append_right (by simpa using hi), List.getElem?_replicate] at h
      split at h <;> cases h
/-- what a body must do -/
theorem body_ok {X : Cx} {body : List Stmt} {c : C} {n : Nat} {H : Hp} {Q : VK} {E : XK} {vs : List V} {ps : List Str} (hb : SSs X (fun cls d _ H' => E cls d H') body c) (hn : n ≤ X.N.length)
    (h : spG X.K n (runF X.N.length c) vs H Q E) : WSs X body { nx := fun _ H' => Q .non H', rt := Q } (L2.start X.N vs) H := by
  obtain ⟨π, μ, ds, hd, s, r, h⟩ := h
  refine hb π (begin X.N.length ds) μ _ H _ s (sim_begin r (by omega)) ?_
  unfold runF at h
  cases e : c (begin X.N.length ds) μ with
  | nx ρ μ' =>
    rw [e] at h
    simp only [region] at h
    by_cases hk : kept μ.length μ μ' = true
    · rw [if_pos hk] at h
      intro σ' H' π' g s' l'
      obtain ⟨s1, g1, hp, ho⟩ := s'.take s g hk
      exact h .non H' π g1 s1 rfl
    · rw [if_neg hk] at h
      exact h.elim
  | ret d μ' =>
    rw [e] at h
    simp only [region] at h
    by_cases hk : (kept μ.length μ μ' && D.low μ.length (frz μ.length μ' d)) = true
    · rw [if_pos hk] at h
      rw [Bool.and_eq_true] at hk
      intro v H' π' g s' l'
      obtain ⟨s1, g1, hp, ho⟩ := s'.take s g hk.1
      exact h v H' π g1 s1 (Rep.frz s' s hp ho l' hk.2)
    · rw [if_neg hk] at h
      exact h.elim
  | exc cc ns ds' ρ μ' =>
    rw [e] at h
    simp only [region] at h
    by_cases hk : (kept μ.length μ μ' && D.lowL μ.length (ds'.map (frz μ.length μ'))) = true
    · rw [if_pos hk] at h
      rw [Bool.and_eq_true] at hk
      intro d σ' H' π' g s' l' x
      obtain ⟨s1, g1, hp, ho⟩ := s'.take s g hk.1
      refine h d H' π g1 s1 ?_
      rcases x with ⟨x1, x2, x3⟩ | ⟨dx, fs, x1, x2, x3, x4⟩
      · exact .inl ⟨x1, by rw [x2]; rfl, x3⟩
      · exact .inr ⟨dx, fs, x1, ho _ _ x2, x3, RepL.frz s' s hp ho x4 hk.2⟩
    · rw [if_neg hk] at h
      exact h.elim
  | brk ρ μ' => rw [e] at h; exact h.elim
  | ct ρ μ' => rw [e] at h; exact h.elim
  | stuck => rw [e] at h; exact h.elim
theorem body_ok1 {X : Cx} {body : List Stmt} {c : C} {n : Nat} {H : Hp} {Q : VK} {E : XK} {vs : List V} (hb : SSs X (fun cls d _ H' => E cls d H') body c) (hn : n ≤ X.N.length)
    (h : spG X.K n (runF1 X.N.length c) vs H Q E) : WSs X body { nx := fun _ H' => Q .non H', rt := Q } (L2.start X.N vs) H := by
  obtain ⟨π, μ, ds, hd, s, r, h⟩ := h
  refine hb π (begin X.N.length ds) μ _ H _ s (sim_begin r (by omega)) ?_
  unfold runF1 at h
  cases e : c (begin X.N.length ds) μ with
  | ret d μ' =>
    rw [e] at h
    cases d with
    | ref k =>
      simp only [region1] at h
      cases em : μ'[k]? with
      | none => rw [em] at h; exact h.elim
      | some m =>
        rw [em] at h
        simp only at h
        by_cases hk : (decide (μ.length ≤ k) && (kept μ.length μ μ' && MO.low μ.length m)) = true
        · rw [if_pos hk] at h
          simp only [Bool.and_eq_true, decide_eq_true_eq] at hk
          obtain ⟨hk1, hk2, hk3⟩ := hk
          intro v H' π' g s' l'
          obtain ⟨s1, g1, hp, ho⟩ := s'.take s g hk2
          unfold Rp Rep at l'
          obtain ⟨a, l1, l2⟩ := l'
          have ha : a ∉ π := fun z => by
            rw [← hp] at z
            obtain ⟨j, hj, e⟩ := List.getElem_of_mem z
            rw [List.length_take] at hj
            rw [List.getElem_take] at e
            have h3 : π'[j]? = some a := by rw [List.getElem?_eq_getElem (by omega), e]
            have : j = k := by
              obtain ⟨k1, e1⟩ := List.getElem?_eq_some_iff.mp h3
              obtain ⟨k2, e2⟩ := List.getElem?_eq_some_iff.mp l1
              exact (List.getElem_inj s'.nd).mp (e1.trans e2.symm)
            omega
          have ob := s'.obj k a m l1 em
          have ob2 := ob.take hk3
          rw [hp] at ob2
          have hap : a ∈ π' := List.mem_of_getElem? l1
          have sub : ∀ b o, off π' H' b = some o → off (π ++ [a]) H' b = some o := fun b o q => by
            obtain ⟨q1, q2⟩ := off_some q
            obtain ⟨z1, z2⟩ := off_some (ho b o q)
            rw [off_ne]
            · exact q2
            · simp only [List.mem_append, List.mem_singleton, not_or]
              exact ⟨z1, fun e => q1 (e ▸ hap)⟩
          have gp : ∀ (n : Nat) b, π[n]? = some b → (π ++ [a])[n]? = some b := fun n b e => by
            rw [List.getElem?_append_left (List.getElem?_eq_some_iff.mp e).1]
            exact e
          have lt : (μ'.take μ.length).length = π.length := s1.len.symm
          refine h v H' (π ++ [a]) ⟨⟨[a], rfl⟩, fun b o q => sub b o (g.keep b o q)⟩ ⟨?_, by simp [s1.len], fun j b m' j1 j2 => ?_⟩ ?_
          · rw [List.nodup_append]
            refine ⟨s.nd, by simp, fun x hx y hy => ?_⟩
            simp at hy
            subst hy
            exact fun e => ha (e ▸ hx)
          · by_cases hj : j < π.length
            · rw [List.getElem?_append_left hj] at j1
              rw [List.getElem?_append_left (by omega)] at j2
              have hjm : j < μ.length := by rw [← s.len]; exact hj
              have j2' := j2
              rw [List.getElem?_take_of_lt hjm] at j2'
              have q := s'.obj j b m' (g.get j1) j2'
              have hb : MO.low μ.length m' = true := (s1.obj j b m' j1 j2).low (Nat.le_of_eq s.len)
              have q2 := q.take hb
              rw [hp] at q2
              exact q2.mono sub gp
            · have hl := (List.getElem?_eq_some_iff.mp j1).1
              rw [List.length_append, List.length_singleton] at hl
              have hj' : j = π.length := by omega
              subst hj'
              have e1 : b = a := by simpa using j1.symm
              have e2 : m' = m := by
                rw [← lt] at j2
                simpa using j2.symm
              subst e1 e2
              exact ob2.mono sub gp
          · unfold Rp Rep
            exact ⟨a, by rw [← s.len]; simp, l2⟩
        · rw [if_neg hk] at h
          exact h.elim
    | _ => exact h.elim
  | nx ρ μ' => rw [e] at h; exact h.elim
  | exc cc ns ds' ρ μ' => rw [e] at h; exact h.elim
  | brk ρ μ' => rw [e] at h; exact h.elim
  | ct ρ μ' => rw [e] at h; exact h.elim
  | stuck => rw [e] at h; exact h.elim
/-! ### a def from its body; no repr is under way -/
structure RoomQ (k : Nat) (A : Around) : Prop where
  rm : Room k A
  gd : A.guards = some []
theorem RoomQ.mono {j k : Nat} {A : Around} (r : RoomQ k A) (h : j ≤ k) : RoomQ j A := ⟨r.rm.mono h, r.gd⟩
theorem RoomQ.deeper {k : Nat} {A : Around} (r : RoomQ (k + 1) A) (env : Env) : RoomQ k (A.deeper env) := ⟨r.rm.deeper env, r.gd⟩
theorem RoomQ.in1 {k : Nat} {A : Around} (r : RoomQ (k + 1) A) : RoomQ k A.in1 := ⟨r.rm.in1, r.gd⟩
theorem make_guards {A : Around} {C : Addr} {us : List Value} {kw : List (Str × Value)} : (A.under (.builtin "type.__call__" ⟨.ref C :: us, kw⟩)).guards = A.guards := by
  first | rfl | simp [Around.under, Code.guards, Code.isGuard, guardIds, pushGuards]
theorem RoomQ.make {k : Nat} {A : Around} (r : RoomQ (k + 1) A) (C : Addr) (us : List Value) (kw : List (Str × Value)) : RoomQ k (A.under (.builtin "type.__call__" ⟨.ref C :: us, kw⟩)) :=
  ⟨r.rm.make C us kw, make_guards.trans r.gd⟩
theorem spG_len {K : PySem.W.Frag} {n : Nat} {F : Fn} {vs : List V} {H : Hp} {Q : VK} {E : XK} (h : spG K n F vs H Q E) : vs.length = n := by
  obtain ⟨π, μ, ds, hn, s, r, _⟩ := h
  rw [r.length, hn]
/-- the def at f does what F says -/
structure FnQ (P : Program) (w : World) (K : PySem.W.Frag) (mg : Str → Option Value) (base : Heap) (k : Nat) (f : Addr) (fd : FuncData) (ps : List Str) (F : Fn) : Prop where
  run : ∀ (A : Around) (outer : List Env) (s : Shared) (H : Hp) (args : Args) (us : List Value) (vs : List V) (Q : VK) (E : XK), RoomQ k A → Env0 P w K mg base A outer s H → BindsTo s fd args (ps.zip us) → Vals vs us → spG K ps.length F vs H Q E →
    codeAny (model P w) A (.call (.ref f) args) (CR (L2.CX P w) outer P w H s Q E) s
theorem FnQ.mono {P : Program} {w : World} {K : PySem.W.Frag} {mg : Str → Option Value} {base : Heap} {j k : Nat} {f : Addr} {fd : FuncData} {ps : List Str} {F : Fn} (h : FnQ P w K mg base j f fd ps F) (l : j ≤ k) : FnQ P w K mg base k f fd ps F :=
  ⟨fun A outer s H args us vs Q E r => h.run A outer s H args us vs Q E (r.mono l)⟩
section
variable {P : Program} {w : World} {K : PySem.W.Frag} {mg : Str → Option Value} {base : Heap} {x qual : Str} {params : Arguments} {body : List Stmt} {scope : Scope} {dvs : List V} {kws : List (Str × V)} {f : Addr} {fd : FuncData} {N ps : List Str} {k : Nat} {G : Fn}
theorem fnQ_gen (F : FunD K x qual params body scope dvs kws f fd) (S : FnScope N ps scope)
    (hb : ∀ (cdv : Value) (A : Around) (outer : List Env) (s : Shared) (H : Hp) (vs : List V) (Q : VK) (E : XK), RoomQ k (A.deeper (envOfC qual scope s.heap.objs.size f cdv)) → spG K ps.length G vs H Q E →
      WSs (cxOf (L2.CX P w) P w K mg base N qual scope f cdv A outer s H E) body { nx := fun _ H' => Q .non H', rt := Q } (L2.start N vs) H) : FnQ P w K mg base (k + 1) f fd ps G := by
  obtain ⟨oc, od, dV, kV, doc, pm, an, cdv, ct, osl, rfl, look, code, _, _⟩ := F.ex
  constructor
  intro A outer s H args us vs Q E room e0 bound rel want
  have vl := spG_len want
  have kin : K.In s.heap := e0.mod.kin.keeps fun b o e => (e0.bs b o e).1
  have nolim : s.heap.NoLimit := e0.mod.nolimit.keeps fun b o e => (e0.bs b o e).1
  have kinds : ∀ y ∈ ps.zip us, scope.names.lookup y.1 = some .local ∨ (scope.names.lookup y.1 = some .cell ∧ ((cellsFrom (s.heap.objs.size + 1) scope.names []).lookup y.1).isSome = true) := by
    rintro ⟨m, u⟩ hm
    exact (S.par m (List.of_mem_zip hm).1).elim .inl fun z => .inr ⟨z, PySem.W.cellsFrom_some _ _ _ (.inl z)⟩
  refine codeAny_call_function room.rm.depth (kin _ _ look) rfl S.co S.gen rfl (PySem.W.codeRec_of kin code) (bound _ _ _ _ (wpAny_newFunctionEnv_cells S.kind kinds ?_))
  rintro env rfl s1 inn
  refine ⟨nolim.keeps inn.toInCall.keep, codeAny_func ?_⟩
  have J : Inv (cxOf (L2.CX P w) P w K mg base N qual scope f cdv A outer s H E) [] (L2.start N vs) H s1 := inv_start S room.rm.hd e0 vl rel inn
  refine wpAny_mono (hb cdv A outer s H vs Q E (room.deeper _) want [] s1 J) ?_ fun _ _ z => z
  intro fl s' out
  have fin : ∀ {σ' : L2.St} {H' : Hp} {v : V} {u : Value}, Inv (cxOf (L2.CX P w) P w K mg base N qual scope f cdv A outer s H E) [] σ' H' s' → RelV v u → Q v H' → CE outer P w H s Q u s' := by
    intro σ' H' v u J rv q
    exact ⟨v, H', J.os, J.bare, J.base, J.hok, rv, q⟩
  cases fl with
  | ret u =>
    obtain ⟨v, σ', H', J, rv, q⟩ := out
    exact fin J rv q
  | next =>
    obtain ⟨σ', H', J, q⟩ := out
    exact fin (v := .non) (u := .none) J rfl q
  | brk => exact out.elim fun _ z => z.elim fun _ z => z.2.elim
  | cont => exact out.elim fun _ z => z.elim fun _ z => z.2.elim
/-- a def by its body's mirror -/
theorem fnQ (F : FunD K x qual params body scope dvs kws f fd) (S : FnScope N ps scope) {c : C} (hl : ps.length ≤ N.length)
    (hb : ∀ (cdv : Value) (A : Around) (outer : List Env) (s : Shared) (H : Hp) (E : XK), RoomQ k (A.deeper (envOfC qual scope s.heap.objs.size f cdv)) →
      SSs (cxOf (L2.CX P w) P w K mg base N qual scope f cdv A outer s H E) (fun cls d _ H' => E cls d H') body c) : FnQ P w K mg base (k + 1) f fd ps (runF N.length c) :=
  fnQ_gen F S fun cdv A outer s H vs Q E hr h => body_ok (X := cxOf (L2.CX P w) P w K mg base N qual scope f cdv A outer s H E) (n := ps.length) (ps := ps) (hb cdv A outer s H E hr) hl h
theorem fnQ1 (F : FunD K x qual params body scope dvs kws f fd) (S : FnScope N ps scope) {c : C} (hl : ps.length ≤ N.length)
    (hb : ∀ (cdv : Value) (A : Around) (outer : List Env) (s : Shared) (H : Hp) (E : XK), RoomQ k (A.deeper (envOfC qual scope s.heap.objs.size f cdv)) →
      SSs (cxOf (L2.CX P w) P w K mg base N qual scope f cdv A outer s H E) (fun cls d _ H' => E cls d H') body c) : FnQ P w K mg base (k + 1) f fd ps (runF1 N.length c) :=
  fnQ_gen F S fun cdv A outer s H vs Q E hr h => body_ok1 (X := cxOf (L2.CX P w) P w K mg base N qual scope f cdv A outer s H E) (n := ps.length) (hb cdv A outer s H E hr) hl h
end
theorem FnQ.congr {P : Program} {w : World} {K : PySem.W.Frag} {mg : Str → Option Value} {base : Heap} {k : Nat} {f : Addr} {fd : FuncData} {ps : List Str} {F G : Fn} (h : FnQ P w K mg base k f fd ps F) (e : F = G) : FnQ P w K mg base k f fd ps G := e ▸ h

/-! ### the call, from a body -/
section
variable {X : Cx} {W : WX} {π : List Addr} {μ : Store} {σ : L2.St} {ρ : Env'} {H : Hp} {Q : VK} {k : Nat} {f : Addr} {fd : FuncData} {ps : List Str} {F : Fn} {ds : List D} {vs : List V}
/-- what is wanted of a call's end -/
def RP (X : Cx) (pins : List (Addr × Obj)) (σ : L2.St) (Q : VK) : Result → Shared → Prop := fun r s' => match r with
  | .ok (.ret u) => EP X pins σ Q u s'
  | .ok _ => False
  | .error e => X.xe e s'
/-- how an end of a call is taken -/
theorem back_q {pins : List (Addr × Obj)} {s s' : Shared} {r : Result} (tk : Takes X W) (I : Inv X pins σ H s) (hq : CR (L2.CX X.prog X.w) X.stack X.prog X.w H s Q (fun c d H' => W c d σ H') r s') : RP X pins σ Q r s' := by
  cases r with
  | error e => exact tk e s' (XE.of_call I (fun _ _ _ h => h) hq)
  | ok fl => cases fl with
    | ret u => exact I.after hq
    | _ => exact hq
theorem run_q {pins : List (Addr × Obj)} {s : Shared} {us : List Value} {kw : List (Str × Value)} {ws : List Value} (hF : FnQ X.prog X.w X.K X.mg X.base k f fd ps F) (hr : RoomQ k X.A) (tk : Takes X W) (I : Inv X pins σ H s)
    (bd : BindsTo s fd ⟨us, kw⟩ (ps.zip ws)) (rv : Vals vs ws) (sm : SimM X.K π μ H) (rl : RpL X.K π H ds vs) (hn : ds.length = ps.length) (h : GE X W (Rp X.K) π σ H Q (F ds μ)) :
    codeAny (model X.prog X.w) X.A (.call (.ref f) ⟨us, kw⟩) (RP X pins σ Q) s :=
  codeAny_mono (hF.run X.A X.stack s H _ ws vs Q _ hr I.env0 bd rv (spG_of sm rl hn h)) fun _ _ hq => back_q tk I hq
theorem run_ok {pins : List (Addr × Obj)} {s : Shared} {f : Value} {us : List Value} {kw : List (Str × Value)} (h : codeAny (model X.prog X.w) X.A (.call f ⟨us, kw⟩) (RP X pins σ Q) s) : wpAny (model X.prog X.w) X.A (PySem.call f us kw) (EP X pins σ Q) X.xe s :=
  wpAny_call h
end
end Rv
set_option Elab.async false
set_option linter.all false
set_option maxRecDepth 100000
set_option maxHeartbeats 4000000
/-! Rv3: expressions: names, constants, operators, comparisons, tests, displays, items, slices. -/
namespace Rv
open PySem PySem.Spec L2
open PyProof.Rows hiding St

section
variable {X : Cx} {W : WX} {e a b : Expr} {es : List Expr} {m n : M D} {pos : Pos}

/-! ### names, constants -/
def mVar (i : Nat) : M D := fun ρ μ => match ρ[i]? with
  | some (some d) => .ok d μ
  | _ => .stuck
def mC (d : D) : M D := fun _ μ => .ok d μ
theorem SE.var (i : Nat) {x : Str} {pos : Pos} (hN : X.N[i]? = some x := by rfl) (hv : Vis X.env.scope x := by first | exact Or.inl rfl | exact Or.inr (Or.inl rfl) | exact Or.inr (Or.inr rfl)) (hd : (x == ("__debug__" : Str)) = false := by decide)
    (hcd : (x == ("__classdict__" : Str)) = false := by decide) : SE X W (.Name x pos) (mVar i) := by
  intro π ρ μ σ H Q sm sl h
  unfold mVar at h
  split at h
  · rename_i d e
    obtain ⟨v, h1, h2⟩ := sl.loc i d e
    exact WE.of (pe_var hN hv hd hcd) ⟨v, h1, h v H π Gr.refl sm h2⟩
  · exact h.elim
theorem SE.int {i : Int} {j pos} : SE X W (.Constant (.int i) j pos) (mC (.int i)) := fun π ρ μ σ H Q sm sl h => WE.of pe_int (h (.int i) H π Gr.refl sm rfl)
theorem SE.bl {c : Bool} {j pos} : SE X W (.Constant (.bool c) j pos) (mC (.bl c)) := fun π ρ μ σ H Q sm sl h => WE.of pe_bl (h (.bl c) H π Gr.refl sm rfl)
theorem SE.non {j pos} : SE X W (.Constant .none j pos) (mC .non) := fun π ρ μ σ H Q sm sl h => WE.of pe_non (h .non H π Gr.refl sm rfl)
/-- a text: s its codes -/
theorem SE.str (s : List Nat) {x : Str} {j pos} (hs : toS s = x := by rfl) : SE X W (.Constant (.str x) j pos) (mC (.str s)) := fun π ρ μ σ H Q sm sl h => by
  subst hs
  exact WE.of pe_str (h _ H π Gr.refl sm rfl)
/-- a module's int, text -/
theorem SE.gint {x : Str} {i : Int} {pos : Pos} (hg : Gl X x) (hm : ∃ t, X.mg x = some (.int i t)) (hd : (x == ("__debug__" : Str)) = false := by decide) : SE X W (.Name x pos) (mC (.int i)) := fun π ρ μ σ H Q sm sl h => by
  obtain ⟨t, hm⟩ := hm
  exact WE.of (pe_glob (v := .int i) hg hm ⟨t, rfl⟩ hd) (h _ H π Gr.refl sm rfl)
theorem SE.gstr {x z : Str} {s : List Nat} {pos : Pos} (hg : Gl X x) (hm : ∃ t, X.mg x = some (.str z t)) (hs : toS s = z := by rfl) (hd : (x == ("__debug__" : Str)) = false := by decide) : SE X W (.Name x pos) (mC (.str s)) := fun π ρ μ σ H Q sm sl h => by
  obtain ⟨t, hm⟩ := hm
  subst hs
  exact WE.of (pe_glob (v := .str (toS s)) hg hm ⟨t, rfl⟩ hd) (h _ H π Gr.refl sm rfl)
theorem SE.gcls {x : Str} {pos : Pos} (hg : Gl X x) (hm : X.mg x = some (.ref (He.ga X.K x))) (hd : (x == ("__debug__" : Str)) = false := by decide) : SE X W (.Name x pos) (mC (.cls x)) := fun π ρ μ σ H Q sm sl h =>
  WE.of (pe_glob (v := .ref (He.ga X.K x)) hg hm rfl hd) (h _ H π Gr.refl sm rfl)

/-! ### one and two operands -/
def m1 (f : D → Store → Out D) (a : M D) : M D := fun ρ μ => (a ρ μ).bind f
def m2 (f : D → D → Store → Out D) (a b : M D) : M D := fun ρ μ => (a ρ μ).bind fun x μ1 => (b ρ μ1).bind fun y μ2 => f x y μ2
/-- what a value's operation comes to -/
def VU (X : Cx) (σ : L2.St) (H : Hp) (Q : VK) (g : Value → Sem Value) (x : V) : Prop := ∀ (pins : List (Addr × Obj)) (s : Shared) (v : Value), Inv X pins σ H s → RelV x v → wpAny (model X.prog X.w) X.A (g v) (EP X pins σ Q) X.xe s
def VB (X : Cx) (σ : L2.St) (H : Hp) (Q : VK) (g : Value → Value → Sem Value) (x y : V) : Prop := ∀ (pins : List (Addr × Obj)) (s : Shared) (v u : Value), Inv X pins σ H s → RelV x v → RelV y u → wpAny (model X.prog X.w) X.A (g v u) (EP X pins σ Q) X.xe s
def OpU (X : Cx) (W : WX) (g : Value → Sem Value) (f : D → Store → Out D) : Prop := ∀ (π : List Addr) (μ : Store) (σ : L2.St) (H : Hp) (Q : VK) (d : D) (x : V), SimM X.K π μ H → Rp X.K π H d x → GE X W (Rp X.K) π σ H Q (f d μ) → VU X σ H Q g x
def OpB (X : Cx) (W : WX) (g : Value → Value → Sem Value) (f : D → D → Store → Out D) : Prop := ∀ (π : List Addr) (μ : Store) (σ : L2.St) (H : Hp) (Q : VK) (d1 d2 : D) (x y : V), SimM X.K π μ H → Rp X.K π H d1 x → Rp X.K π H d2 y → GE X W (Rp X.K) π σ H Q (f d1 d2 μ) → VB X σ H Q g x y
theorem OpR.vb {g : Value → Value → Sem Value} {r : R2} (h : OpR X g r) {σ : L2.St} {H : Hp} {Q : VK} {x y : V} (q : r x y H Q) : VB X σ H Q g x y := fun pins s v u I rx ry => h pins s σ H x y v u Q I rx ry q
theorem UnR.vu {g : Value → Sem Value} {r : V → Hp → VK → Prop} (h : UnR X g r) {σ : L2.St} {H : Hp} {Q : VK} {x : V} (q : r x H Q) : VU X σ H Q g x := fun pins s v I rx => h pins s σ H x v Q I rx q
/-- two expressions, then what is done with them -/
theorem SE.two {R : List Addr → Hp → D → V → Prop} {f : D → D → Store → Out D} (ha : SE X W a m) (hb : SE X W b n) {π : List Addr} {ρ : Env'} {μ : Store} {σ : L2.St} {H : Hp} {Q : VK} {B : V → V → Hp → Prop} (sm : SimM X.K π μ H) (sl : SimL X.K π H ρ σ)
    (h : GE X W R π σ H Q (m2 f m n ρ μ)) (k : ∀ d1 d2 μ2 x y H2 π2, Gr π H π2 H2 → SimM X.K π2 μ2 H2 → SimL X.K π2 H2 ρ σ → Rp X.K π2 H2 d1 x → Rp X.K π2 H2 d2 y → GE X W R π2 σ H2 Q (f d1 d2 μ2) → B x y H2) :
    WE X a σ H fun x H1 => WE X b σ H1 fun y H2 => B x y H2 := by
  refine ha π ρ μ σ H _ sm sl (GE.bind h fun d1 μ1 x H1 π1 e1 g1 s1 r1 h1 => ?_)
  refine hb π1 ρ μ1 σ H1 _ s1 (g1.loc sl) (GE.bind h1 fun d2 μ2 y H2 π2 e2 g2 s2 r2 h2 => ?_)
  exact k d1 d2 μ2 x y H2 π2 (g1.trans g2) s2 ((g1.trans g2).loc sl) (g2.rep r1) r2 h2
theorem SE.op {op : Operator} {f : D → D → Store → Out D} (ho : OpB X W (binaryOp op) f) (ha : SE X W a m) (hb : SE X W b n) : SE X W (.BinOp a op b pos) (m2 f m n) := by
  intro π ρ μ σ H Q sm sl h pins s I
  exact wpAny_BinOp (binT pe_we pe_we I (R := fun x y H2 => VB X σ H2 Q (binaryOp op) x y) (SE.two ha hb sm sl h fun d1 d2 μ2 x y H2 π2 g s2 l2 r1 r2 h2 => ho π2 μ2 σ H2 Q d1 d2 x y s2 r1 r2 h2) fun v u s2 x y H2 I2 rx ry q => q pins s2 v u I2 rx ry)
theorem SE.un {op : UnaryOp} {f : D → Store → Out D} (ho : OpU X W (unaryOp op) f) (ha : SE X W a m) : SE X W (.UnaryOp op a pos) (m1 f m) := by
  intro π ρ μ σ H Q sm sl h pins s I
  refine UnaryOp_ (thn (ha π ρ μ σ H (fun x H1 => VU X σ H1 Q (unaryOp op) x) sm sl (GE.bind h fun d μ1 x H1 π1 e1 g1 s1 r1 h1 => ho π1 μ1 σ H1 Q d x s1 r1 h1) pins s I) fun v s1 z => ?_)
  obtain ⟨x, H1, I1, r1, q1⟩ := z
  exact q1 pins s1 v I1 r1

/-! ### views -/
def asL (μ : Store) : D → Option (List D)
  | .lst ds => some ds
  | .ref k => match μ[k]? with
    | some (.lst ds) => some ds
    | _ => none
  | _ => none
def asT : D → Option (List D)
  | .tup ds => some ds
  | _ => none
/-- a list or a tuple -/
def asQ (μ : Store) (d : D) : Option (List D) := match d with
  | .tup ds => some ds
  | d => asL μ d
end
section
variable {K : PySem.W.Frag} {π : List Addr} {H : Hp} {μ : Store} {d : D} {v : V} {ds : List D}
theorem off_sub : ∀ b o, off π H b = some o → H b = some o := fun _ _ h => (off_some h).2
theorem asL_own (s : SimM K π μ H) (r : Rp K π H d v) (h : asL μ d = some ds) : ∃ a vs, v = .ref a ∧ H a = some (.lst vs) ∧ RpL K π H ds vs := by
  unfold asL at h
  split at h
  · cases h
    unfold Rp Rep at r
    obtain ⟨a, vs, h1, h2, h3⟩ := r
    exact ⟨a, vs, h1, off_sub _ _ h2, h3⟩
  · rename_i k
    unfold Rp Rep at r
    obtain ⟨a, h1, h2⟩ := r
    split at h
    · rename_i ds' e
      cases h
      obtain ⟨vs, h3, h4⟩ := s.obj k a _ h1 e
      exact ⟨a, vs, h2, h3, h4⟩
    · cases h
  · cases h
theorem asL_view (s : SimM K π μ H) (r : Rp K π H d v) (h : asL μ d = some ds) : ∃ a vs, v = .ref a ∧ SqL K H a vs ∧ RpL K π H ds vs := by
  obtain ⟨a, vs, h1, h2, h3⟩ := asL_own s r h
  exact ⟨a, vs, h1, SqL.of h2, h3⟩
theorem asT_view (r : Rp K π H d v) (h : asT d = some ds) : ∃ a vs, v = .ref a ∧ SqT K H a vs ∧ RpL K π H ds vs := by
  unfold asT at h
  split at h
  · cases h
    unfold Rp Rep at r
    obtain ⟨a, vs, h1, h2, h3⟩ := r
    exact ⟨a, vs, h1, ext_t off_sub h2, h3⟩
  · cases h
theorem asQ_view (s : SimM K π μ H) (r : Rp K π H d v) (h : asQ μ d = some ds) : ∃ a vs, v = .ref a ∧ (SqL K H a vs ∨ SqT K H a vs) ∧ RpL K π H ds vs := by
  unfold asQ at h
  split at h
  · cases h
    obtain ⟨a, vs, h1, h2, h3⟩ := asT_view (ds := ds) r rfl
    exact ⟨a, vs, h1, .inr h2, h3⟩
  · obtain ⟨a, vs, h1, h2, h3⟩ := asL_view s r h
    exact ⟨a, vs, h1, .inl h2, h3⟩
/-- a new list, a new tuple, that stays -/
theorem rp_lst {p : Addr} {vs : List V} (s : SimM K π μ H) (hp : H p = none) (r : RpL K π H ds vs) : Rp K π (upd H p (.lst vs)) (.lst ds) (.ref p) := by
  unfold Rp Rep
  exact ⟨p, vs, rfl, by rw [off_ne (s.in_ hp), upd_same], (Gr.new hp).repL r⟩
theorem rp_tup {p : Addr} {vs : List V} (s : SimM K π μ H) (hp : H p = none) (r : RpL K π H ds vs) : Rp K π (upd H p (.tup vs)) (.tup ds) (.ref p) := by
  unfold Rp Rep
  exact ⟨p, vs, rfl, SqT.of (by rw [off_ne (s.in_ hp), upd_same]), (Gr.new hp).repL r⟩
end
section
variable {X : Cx} {W : WX} {e a b : Expr} {es : List Expr} {m n : M D} {pos : Pos}
theorem GE.newL {π : List Addr} {σ : L2.St} {H : Hp} {Q : VK} {ds : List D} {vs : List V} {μ : Store} {p : Addr} (h : GE X W (Rp X.K) π σ H Q (.ok (.lst ds) μ)) (s : SimM X.K π μ H) (r : RpL X.K π H ds vs) (hp : H p = none) : Q (.ref p) (upd H p (.lst vs)) :=
  h _ _ π (Gr.new hp) (s.new hp) (rp_lst s hp r)
theorem GE.newT {π : List Addr} {σ : L2.St} {H : Hp} {Q : VK} {ds : List D} {vs : List V} {μ : Store} {p : Addr} (h : GE X W (Rp X.K) π σ H Q (.ok (.tup ds) μ)) (s : SimM X.K π μ H) (r : RpL X.K π H ds vs) (hp : H p = none) : Q (.ref p) (upd H p (.tup vs)) :=
  h _ _ π (Gr.new hp) (s.new hp) (rp_tup s hp r)

/-! ### numbers, texts, + - * // % ** -/
abbrev maxL : Nat := 16777216
def dAdd : D → D → Store → Out D
  | .int i, .int j, μ => .ok (.int (i + j)) μ
  | .str s, .str t, μ => if s.length + t.length ≤ maxL then .ok (.str (s ++ t)) μ else .stuck
  | .tup s, .tup t, μ => if s.length + t.length ≤ maxL then .ok (.tup (s ++ t)) μ else .stuck
  | _, _, _ => .stuck
def dSub : D → D → Store → Out D
  | .int i, .int j, μ => .ok (.int (i - j)) μ
  | _, _, _ => .stuck
def dMul : D → D → Store → Out D
  | .int i, .int j, μ => if (-(2 ^ 64) < i ∧ i < 2 ^ 64) ∨ (-(2 ^ 64) < j ∧ j < 2 ^ 64) then .ok (.int (i * j)) μ else .stuck
  | _, _, _ => .stuck
def dDiv : D → D → Store → Out D
  | .int i, .int j, μ => if 0 < j ∧ j < 1073741824 then .ok (.int (i / j)) μ else .stuck
  | _, _, _ => .stuck
def dMod : D → D → Store → Out D
  | .int i, .int j, μ => if 0 < j then .ok (.int (i % j)) μ else .stuck
  | _, _, _ => .stuck
def dPow : D → D → Store → Out D
  | .int i, .int j, μ => if 0 ≤ j ∧ j ≤ 1000000 ∧ i.natAbs < 2 ^ 64 then .ok (.int (i ^ j.toNat)) μ else .stuck
  | _, _, _ => .stuck
def dNeg : D → Store → Out D
  | .int i, μ => .ok (.int (-i)) μ
  | _, _ => .stuck
theorem toS_append (s t : List Nat) : toS s ++ toS t = toS (s ++ t) := by
  show (⟨(toS s).cps ++ (toS t).cps⟩ : Str) = toS (s ++ t)
  unfold toS
  simp
theorem toS_length (s : List Nat) : (toS s).length = s.length := by
  show (toS s).cps.size = s.length
  unfold toS
  simp
theorem rep_int {K : PySem.W.Frag} {H : Hp} {π : List Addr} {i : Int} {v : V} (h : Rep K H π (.int i) v) : v = .int i := by unfold Rep at h; exact h
theorem rep_str {K : PySem.W.Frag} {H : Hp} {π : List Addr} {s : List Nat} {v : V} (h : Rep K H π (.str s) v) : v = .str (toS s) := by unfold Rep at h; exact h
theorem rep_bl {K : PySem.W.Frag} {H : Hp} {π : List Addr} {c : Bool} {v : V} (h : Rep K H π (.bl c) v) : v = .bl c := by unfold Rep at h; exact h
theorem rep_non {K : PySem.W.Frag} {H : Hp} {π : List Addr} {v : V} (h : Rep K H π .non v) : v = .non := by unfold Rep at h; exact h
theorem opb_add : OpB X W (binaryOp .Add) dAdd := by
  intro π μ σ H Q d1 d2 x y s r1 r2 h
  unfold dAdd at h
  split at h
  · cases rep_int r1; cases rep_int r2
    exact OpR.vb op_add ⟨_, _, rfl, rfl, h _ H π Gr.refl s rfl⟩
  · rename_i s1 s2
    cases rep_str r1; cases rep_str r2
    by_cases hl : s1.length + s2.length ≤ maxL
    · rw [if_pos hl] at h
      refine OpR.vb op_add_str ⟨_, _, rfl, rfl, by rw [toS_length, toS_length, sizeLine_eq]; exact hl, ?_⟩
      rw [toS_append]
      exact h _ H π Gr.refl s rfl
    · rw [if_neg hl] at h
      exact h.elim
  · rename_i s1 s2
    by_cases hl : s1.length + s2.length ≤ maxL
    · rw [if_pos hl] at h
      obtain ⟨p, vs, rfl, hp, rp⟩ := asT_view (ds := s1) r1 rfl
      obtain ⟨q, us, rfl, hq, rq⟩ := asT_view (ds := s2) r2 rfl
      have l1 := rp.length
      have l2 := rq.length
      refine OpR.vb op_catA ⟨p, q, vs, us, rfl, rfl, hp, hq, by rw [l1, l2, sizeLine_eq]; exact hl, fun e => ?_, fun _ e => ?_, fun _ _ t ht => GE.newT h s (rp.append rq) ht⟩
      · have : s1 = [] := by rw [e] at l1; exact List.length_eq_zero_iff.mp l1.symm
        subst this
        exact h _ H π Gr.refl s r2
      · have : s2 = [] := by rw [e] at l2; exact List.length_eq_zero_iff.mp l2.symm
        subst this
        refine h _ H π Gr.refl s ?_
        rw [List.append_nil]
        exact r1
    · rw [if_neg hl] at h
      exact h.elim
  · exact h.elim
theorem opb_int {op : Operator} {f : D → D → Store → Out D} {g : Int → Int → V} {C : Int → Int → Prop} {g' : Int → Int → D} (ho : OpR X (binaryOp op) (rI C g)) (hf : ∀ d1 d2 μ, f d1 d2 μ = .stuck ∨ ∃ i j, d1 = .int i ∧ d2 = .int j ∧ C i j ∧ f d1 d2 μ = .ok (g' i j) μ)
    (hg : ∀ i j π H, Rp X.K π H (g' i j) (g i j)) : OpB X W (binaryOp op) f := by
  intro π μ σ H Q d1 d2 x y s r1 r2 h
  rcases hf d1 d2 μ with e | ⟨i, j, rfl, rfl, c, e⟩
  · rw [e] at h; exact h.elim
  · rw [e] at h
    cases rep_int r1; cases rep_int r2
    exact OpR.vb ho ⟨i, j, rfl, rfl, c, h _ H π Gr.refl s (hg i j π H)⟩
theorem opb_sub : OpB X W (binaryOp .Sub) dSub := by
  intro π μ σ H Q d1 d2 x y s r1 r2 h
  unfold dSub at h
  split at h
  · cases rep_int r1; cases rep_int r2
    exact OpR.vb op_sub ⟨_, _, rfl, rfl, h _ H π Gr.refl s rfl⟩
  · exact h.elim
theorem opb_mul : OpB X W (binaryOp .Mult) dMul := opb_int (g' := fun i j => .int (i * j)) op_mul (fun d1 d2 μ => by
  unfold dMul
  split
  · rename_i i j
    by_cases c : (-(2 ^ 64) < i ∧ i < 2 ^ 64) ∨ (-(2 ^ 64) < j ∧ j < 2 ^ 64)
    · rw [if_pos c]; exact .inr ⟨i, j, rfl, rfl, c, rfl⟩
    · rw [if_neg c]; exact .inl rfl
  · exact .inl rfl) fun _ _ _ _ => rfl
theorem opb_div : OpB X W (binaryOp .FloorDiv) dDiv := opb_int (g' := fun i j => .int (i / j)) op_fdiv (fun d1 d2 μ => by
  unfold dDiv
  split
  · rename_i i j
    by_cases c : 0 < j ∧ j < 1073741824
    · rw [if_pos c]; exact .inr ⟨i, j, rfl, rfl, c, rfl⟩
    · rw [if_neg c]; exact .inl rfl
  · exact .inl rfl) fun _ _ _ _ => rfl
theorem opb_mod : OpB X W (binaryOp .Mod) dMod := opb_int (g' := fun i j => .int (i % j)) op_mod (fun d1 d2 μ => by
  unfold dMod
  split
  · rename_i i j
    by_cases c : 0 < j
    · rw [if_pos c]; exact .inr ⟨i, j, rfl, rfl, c, rfl⟩
    · rw [if_neg c]; exact .inl rfl
  · exact .inl rfl) fun _ _ _ _ => rfl
theorem opb_pow : OpB X W (binaryOp .Pow) dPow := opb_int (g' := fun i j => .int (i ^ j.toNat)) op_pow (fun d1 d2 μ => by
  unfold dPow
  split
  · rename_i i j
    by_cases c : 0 ≤ j ∧ j ≤ 1000000 ∧ i.natAbs < 2 ^ 64
    · rw [if_pos c]; exact .inr ⟨i, j, rfl, rfl, c, rfl⟩
    · rw [if_neg c]; exact .inl rfl
  · exact .inl rfl) fun _ _ _ _ => rfl
theorem opu_neg : OpU X W (unaryOp .USub) dNeg := by
  intro π μ σ H Q d x s r h
  unfold dNeg at h
  split at h
  · cases rep_int r
    exact UnR.vu un_neg ⟨_, rfl, h _ H π Gr.refl s rfl⟩
  · exact h.elim
/-- list + list: a new list -/
def dCat : D → D → Store → Out D := fun d1 d2 μ => match asL μ d1, asL μ d2 with
  | some s, some t => if s.length + t.length ≤ maxL then .ok (.lst (s ++ t)) μ else .stuck
  | _, _ => .stuck

/-! ### comparisons -/
mutual
def pyd0 : D → Option PyData
  | .non => some .none
  | .bl b => some (.bool b)
  | .int i => some (.int i)
  | .str s => some (.str (toS s))
  | .tup ds => (pyd0L ds).map .tuple
  | .lst ds => (pyd0L ds).map .list
  | _ => none
def pyd0L : List D → Option (List PyData)
  | [] => some []
  | d :: ds => match pyd0 d, pyd0L ds with
    | some p, some ps => some (p :: ps)
    | _, _ => none
end
mutual
/-- plain data; a reference to a list of plain data counts -/
def pyd (μ : Store) : D → Option PyData
  | .non => some .none
  | .bl b => some (.bool b)
  | .int i => some (.int i)
  | .str s => some (.str (toS s))
  | .tup ds => (pydL μ ds).map .tuple
  | .lst ds => (pydL μ ds).map .list
  | .ref k => match μ[k]? with
    | some (.lst ds) => (pyd0L ds).map .list
    | _ => none
  | _ => none
def pydL (μ : Store) : List D → Option (List PyData)
  | [] => some []
  | d :: ds => match pyd μ d, pydL μ ds with
    | some p, some ps => some (p :: ps)
    | _, _ => none
end
end
section
variable {K : PySem.W.Frag} {π : List Addr} {H : Hp} {μ : Store}
mutual
theorem dp_of0 : ∀ {d : D} {v : V} {p : PyData}, Rp K π H d v → pyd0 d = some p → Dp K H v p
  | .non, _, _, r, h => by cases rep_non r; cases h; exact .non
  | .bl b, _, _, r, h => by cases rep_bl r; cases h; exact .bl b
  | .int i, _, _, r, h => by cases rep_int r; cases h; exact .int i
  | .str s, _, _, r, h => by cases rep_str r; cases h; exact .str _
  | .tup ds, _, _, r, h => by
    unfold pyd0 at h
    obtain ⟨ps, h1, h2⟩ := Option.map_eq_some_iff.mp h
    cases h2
    obtain ⟨a, vs, rfl, h3, h4⟩ := asT_view (ds := ds) r rfl
    exact .tup h3 (dp_of0L h4 h1)
  | .lst ds, _, _, r, h => by
    unfold pyd0 at h
    obtain ⟨ps, h1, h2⟩ := Option.map_eq_some_iff.mp h
    cases h2
    unfold Rp Rep at r
    obtain ⟨a, vs, rfl, h3, h4⟩ := r
    exact .lst (SqL.of (off_sub _ _ h3)) (dp_of0L h4 h1)
  | .dct _ _, _, _, _, h => by unfold pyd0 at h; cases h
  | .obj _ _ _, _, _, _, h => by unfold pyd0 at h; cases h
  | .ref _, _, _, _, h => by unfold pyd0 at h; cases h
  | .cls _, _, _, _, h => by unfold pyd0 at h; cases h
  | .ty _, _, _, _, h => by unfold pyd0 at h; cases h
  | .scr _, _, _, _, h => by unfold pyd0 at h; cases h
  | .exn _ _ _, _, _, _, h => by unfold pyd0 at h; cases h
theorem dp_of0L : ∀ {ds : List D} {vs : List V} {ps : List PyData}, RpL K π H ds vs → pyd0L ds = some ps → DpAll K H vs ps
  | [], _, _, r, h => by
    unfold RpL RepL at r
    unfold pyd0L at h
    subst r
    cases h
    exact .nil
  | d :: ds, _, _, r, h => by
    obtain ⟨v, t, rfl, h2, h3⟩ := RepL.uncons r
    unfold pyd0L at h
    split at h
    · rename_i p ps e1 e2
      cases h
      exact .cons (dp_of0 h2 e1) (dp_of0L h3 e2)
    · cases h
end
mutual
theorem dp_of (s : SimM K π μ H) : ∀ {d : D} {v : V} {p : PyData}, Rp K π H d v → pyd μ d = some p → Dp K H v p
  | .non, _, _, r, h => by cases rep_non r; cases h; exact .non
  | .bl b, _, _, r, h => by cases rep_bl r; cases h; exact .bl b
  | .int i, _, _, r, h => by cases rep_int r; cases h; exact .int i
  | .str s, _, _, r, h => by cases rep_str r; cases h; exact .str _
  | .tup ds, _, _, r, h => by
    unfold pyd at h
    obtain ⟨ps, h1, h2⟩ := Option.map_eq_some_iff.mp h
    cases h2
    obtain ⟨a, vs, rfl, h3, h4⟩ := asT_view (ds := ds) r rfl
    exact .tup h3 (dp_ofL s h4 h1)
  | .lst ds, _, _, r, h => by
    unfold pyd at h
    obtain ⟨ps, h1, h2⟩ := Option.map_eq_some_iff.mp h
    cases h2
    unfold Rp Rep at r
    obtain ⟨a, vs, rfl, h3, h4⟩ := r
    exact .lst (SqL.of (off_sub _ _ h3)) (dp_ofL s h4 h1)
  | .ref k, _, _, r, h => by
    unfold pyd at h
    split at h
    · rename_i ds e
      obtain ⟨ps, h1, h2⟩ := Option.map_eq_some_iff.mp h
      cases h2
      obtain ⟨a, vs, rfl, h3, h4⟩ := asL_view (ds := ds) s r (by unfold asL; simp only [e])
      exact .lst h3 (dp_of0L h4 h1)
    · cases h
  | .dct _ _, _, _, _, h => by unfold pyd at h; cases h
  | .obj _ _ _, _, _, _, h => by unfold pyd at h; cases h
  | .cls _, _, _, _, h => by unfold pyd at h; cases h
  | .ty _, _, _, _, h => by unfold pyd at h; cases h
  | .scr _, _, _, _, h => by unfold pyd at h; cases h
  | .exn _ _ _, _, _, _, h => by unfold pyd at h; cases h
theorem dp_ofL (s : SimM K π μ H) : ∀ {ds : List D} {vs : List V} {ps : List PyData}, RpL K π H ds vs → pydL μ ds = some ps → DpAll K H vs ps
  | [], _, _, r, h => by
    unfold RpL RepL at r
    unfold pydL at h
    subst r
    cases h
    exact .nil
  | d :: ds, _, _, r, h => by
    obtain ⟨v, t, rfl, h2, h3⟩ := RepL.uncons r
    unfold pydL at h
    split at h
    · rename_i p ps e1 e2
      cases h
      exact .cons (dp_of s h2 e1) (dp_ofL s h3 e2)
    · cases h
end
end
section
variable {X : Cx} {W : WX} {e a b : Expr} {es : List Expr} {m n : M D} {pos : Pos}
/-- == -/
def eqB (μ : Store) : D → D → Option Bool
  | .str s, .str t => some (decide (s = t))
  | .int i, .int j => some (decide (i = j))
  | .bl c, .bl d => some (c == d)
  | d1, d2 => match pyd μ d1, pyd μ d2 with
    | some p, some q => if SeqAt.shaped p && SeqAt.shaped q then some (PyData.eqv p q) else none
    | _, _ => none
def dB (o : Option Bool) (μ : Store) : Out D := match o with
  | some c => .ok (.bl c) μ
  | none => .stuck
def dEq : D → D → Store → Out D := fun d1 d2 μ => dB (eqB μ d1 d2) μ
def dNe : D → D → Store → Out D := fun d1 d2 μ => dB ((eqB μ d1 d2).map not) μ
theorem dec_toS {s t : List Nat} : decide (V.str (toS s) = V.str (toS t)) = decide (s = t) := by
  by_cases h : s = t
  · subst h; simp
  · rw [decide_eq_false h, decide_eq_false]
    intro e
    exact h (toS_inj.mp (V.str.inj e))
theorem dec_int' {i j : Int} : decide (V.int i = V.int j) = decide (i = j) := by
  by_cases h : i = j
  · subst h; simp
  · rw [decide_eq_false h, decide_eq_false]
    intro e
    exact h (V.int.inj e)
theorem dec_bl' {i j : Bool} : decide (V.bl i = V.bl j) = (i == j) := by cases i <;> cases j <;> rfl
theorem opb_eq (hr : X.A.units + 64 < cLine) : OpB X W (compareOp .Eq) dEq := by
  intro π μ σ H Q d1 d2 x y s r1 r2 h
  unfold dEq at h
  cases q : eqB μ d1 d2 with
  | none => rw [q] at h; exact h.elim
  | some c =>
    rw [q] at h
    have fin : Q (.bl c) H := h _ H π Gr.refl s rfl
    unfold eqB at q
    split at q
    · cases rep_str r1; cases rep_str r2; cases q
      exact OpR.vb op_eq ⟨rfl, by rw [dec_toS]; exact fin⟩
    · cases rep_int r1; cases rep_int r2; cases q
      exact OpR.vb op_eq ⟨rfl, by rw [dec_int']; exact fin⟩
    · cases rep_bl r1; cases rep_bl r2; cases q
      exact OpR.vb op_eq ⟨rfl, by rw [dec_bl']; exact fin⟩
    · split at q
      · rename_i p1 p2 e1 e2
        by_cases hs : (SeqAt.shaped p1 && SeqAt.shaped p2) = true
        · rw [if_pos hs] at q
          rw [Bool.and_eq_true] at hs
          cases q
          exact OpR.vb (op_eqD hr) ⟨p1, p2, dp_of s r1 e1, dp_of s r2 e2, hs.1, hs.2, fin⟩
        · rw [if_neg hs] at q; cases q
      · cases q
theorem opb_ne (hr : X.A.units + 64 < cLine) : OpB X W (compareOp .NotEq) dNe := by
  intro π μ σ H Q d1 d2 x y s r1 r2 h
  unfold dNe at h
  cases q : eqB μ d1 d2 with
  | none => rw [q] at h; exact h.elim
  | some c =>
    rw [q] at h
    have fin : Q (.bl (!c)) H := h _ H π Gr.refl s rfl
    unfold eqB at q
    split at q
    · cases rep_str r1; cases rep_str r2; cases q
      exact OpR.vb op_ne ⟨rfl, by rw [dec_toS]; exact fin⟩
    · cases rep_int r1; cases rep_int r2; cases q
      exact OpR.vb op_ne ⟨rfl, by rw [dec_int']; exact fin⟩
    · cases rep_bl r1; cases rep_bl r2; cases q
      exact OpR.vb op_ne ⟨rfl, by rw [dec_bl']; exact fin⟩
    · split at q
      · rename_i p1 p2 e1 e2
        by_cases hs : (SeqAt.shaped p1 && SeqAt.shaped p2) = true
        · rw [if_pos hs] at q
          rw [Bool.and_eq_true] at hs
          cases q
          exact OpR.vb (op_neD hr) ⟨p1, p2, dp_of s r1 e1, dp_of s r2 e2, hs.1, hs.2, fin⟩
        · rw [if_neg hs] at q; cases q
      · cases q
def dLt : D → D → Store → Out D
  | .int i, .int j, μ => .ok (.bl (decide (i < j))) μ
  | .str s, .str t, μ => .ok (.bl (decide (s < t))) μ
  | _, _, _ => .stuck
def dLe : D → D → Store → Out D
  | .int i, .int j, μ => .ok (.bl (decide (i ≤ j))) μ
  | _, _, _ => .stuck
def dGt : D → D → Store → Out D
  | .int i, .int j, μ => .ok (.bl (decide (j < i))) μ
  | _, _, _ => .stuck
def dGe : D → D → Store → Out D
  | .int i, .int j, μ => .ok (.bl (decide (j ≤ i))) μ
  | _, _, _ => .stuck
theorem opb_lt : OpB X W (compareOp .Lt) dLt := by
  intro π μ σ H Q d1 d2 x y s r1 r2 h
  unfold dLt at h
  split at h
  · cases rep_int r1; cases rep_int r2
    exact OpR.vb op_lt ⟨_, _, rfl, rfl, h _ H π Gr.refl s rfl⟩
  · cases rep_str r1; cases rep_str r2
    exact OpR.vb op_lt_str ⟨_, _, rfl, rfl, h _ H π Gr.refl s rfl⟩
  · exact h.elim
theorem opb_le : OpB X W (compareOp .LtE) dLe := by
  intro π μ σ H Q d1 d2 x y s r1 r2 h
  unfold dLe at h
  split at h
  · cases rep_int r1; cases rep_int r2
    exact OpR.vb op_le ⟨_, _, rfl, rfl, h _ H π Gr.refl s rfl⟩
  · exact h.elim
theorem opb_gt : OpB X W (compareOp .Gt) dGt := by
  intro π μ σ H Q d1 d2 x y s r1 r2 h
  unfold dGt at h
  split at h
  · cases rep_int r1; cases rep_int r2
    exact OpR.vb op_gt ⟨_, _, rfl, rfl, h _ H π Gr.refl s rfl⟩
  · exact h.elim
theorem opb_ge : OpB X W (compareOp .GtE) dGe := by
  intro π μ σ H Q d1 d2 x y s r1 r2 h
  unfold dGe at h
  split at h
  · cases rep_int r1; cases rep_int r2
    exact OpR.vb op_ge ⟨_, _, rfl, rfl, h _ H π Gr.refl s rfl⟩
  · exact h.elim
def dIsN : D → D → Store → Out D
  | d, .non, μ => .ok (.bl (match d with | .non => true | _ => false)) μ
  | _, _, _ => .stuck
def dNotN : D → D → Store → Out D
  | d, .non, μ => .ok (.bl (match d with | .non => false | _ => true)) μ
  | _, _, _ => .stuck
theorem rep_isnon {K : PySem.W.Frag} {H : Hp} {π : List Addr} {d : D} {v : V} (h : Rep K H π d v) : decide (v = .non) = (match d with | .non => true | _ => false) := by
  cases d <;> unfold Rep at h
  case non => subst h; rfl
  case bl => subst h; rfl
  case int => subst h; rfl
  case str => subst h; rfl
  case tup => obtain ⟨a, vs, rfl, _⟩ := h; rfl
  case lst => obtain ⟨a, vs, rfl, _⟩ := h; rfl
  case dct => obtain ⟨a, vs, rfl, _⟩ := h; rfl
  case obj => obtain ⟨a, _, vs, rfl, _⟩ := h; rfl
  case ref => obtain ⟨a, _, rfl⟩ := h; rfl
  case cls => subst h; rfl
  case ty => subst h; rfl
  case scr => obtain ⟨a, rfl, _⟩ := h; rfl
  case exn => obtain ⟨a, _, _, rfl, _⟩ := h; rfl
theorem opb_is : OpB X W (compareOp .Is) dIsN := by
  intro π μ σ H Q d1 d2 x y s r1 r2 h
  unfold dIsN at h
  split at h
  · cases rep_non r2
    refine OpR.vb op_isN ⟨rfl, ?_⟩
    rw [rep_isnon r1]
    refine h _ H π Gr.refl s ?_
    unfold Rp Rep
    cases d1 <;> rfl
  · exact h.elim
theorem opb_isnot : OpB X W (compareOp .IsNot) dNotN := by
  intro π μ σ H Q d1 d2 x y s r1 r2 h
  unfold dNotN at h
  split at h
  · cases rep_non r2
    refine OpR.vb op_notN ⟨rfl, ?_⟩
    rw [rep_isnon r1]
    refine h _ H π Gr.refl s ?_
    unfold Rp Rep
    cases d1 <;> rfl
  · exact h.elim
theorem SE.cmp {op : CmpOp} {f : D → D → Store → Out D} (ho : OpB X W (compareOp op) f) (ha : SE X W a m) (hb : SE X W b n) (hm : behindInMarks op b = false := by first | exact nomark _ | rfl) : SE X W (.Compare a [op] [b] pos) (m2 f m n) := by
  intro π ρ μ σ H Q sm sl h pins s I
  exact wpAny_Compare1 (binT pe_we pe_we I (R := fun x y H2 => VB X σ H2 Q (compareOp op) x y) (SE.two ha hb sm sl h fun d1 d2 μ2 x y H2 π2 g s2 l2 r1 r2 h2 => ho π2 μ2 σ H2 Q d1 d2 x y s2 r1 r2 h2) fun v u s2 x y H2 I2 rx ry q => q pins s2 v u I2 rx ry) hm
end

/-! ### the script -/
section
variable {X : Cx} {pins : List (Addr × Obj)} {σ : L2.St} {H : Hp} {s : Shared} {a : Addr} {ns : List Int}
/-- a thing told otherwise for a while -/
theorem inv_swap {u u' : HO} (I : Inv X pins σ H s) (h : H a = some u) (h1 : ∀ xs, X.H_0 a ≠ some (.tup xs)) (h2 : ∀ ob v, X.H_0 a ≠ some (.frz ob v)) (h3 : ∀ ps, X.H_0 a ≠ some (.tbl ps)) (k1 : ∀ y, u ≠ .own y) (k2 : ∀ xs, u ≠ .tup xs)
    (new : ObjOk X.prog X.w (upd H a u') s.heap a u') : Inv X pins σ (upd H a u') s := by
  have neN : ∀ b, H b = none → b ≠ a := fun b e z => by rw [z, h] at e; cases e
  have neO : ∀ b y, H b = some (.own y) → b ≠ a := fun b y e z => by rw [z, h] at e; cases e; exact k1 _ rfl
  have neT : ∀ b xs, H b = some (.tup xs) → b ≠ a := fun b xs e z => by rw [z, h] at e; cases e; exact k2 _ rfl
  refine ⟨I.ok, I.os, I.bare, ⟨I.base.keep, I.base.slot, fun b o e n hx => ?_, I.base.there, fun b xs e => ?_, fun b o x e => ?_, fun b ps e => ?_⟩, I.loc, I.cell, ?_, fun x c e => ?_, fun p hp => ?_, fun b o e => ?_, I.len⟩
  · have q := I.base.free b o e n hx
    rw [upd_ne (neN b q)]; exact q
  · rw [upd_ne (fun z : b = a => h1 xs (by rw [← z]; exact e))]; exact I.base.tups b xs e
  · rw [upd_ne (fun z : b = a => h2 o x (by rw [← z]; exact e))]; exact I.base.frzs b o x e
  · obtain ⟨m, q⟩ := I.base.tbls b ps e
    exact ⟨m, by rw [upd_ne (fun z : b = a => h3 ps (by rw [← z]; exact e))]; exact q⟩
  · rw [upd_ne (neN _ I.free)]; exact I.free
  · rw [upd_ne (neN c (I.freeC x c e))]; exact I.freeC x c e
  · obtain ⟨e, n, r⟩ := I.pin p hp
    exact ⟨e, by rw [upd_ne (neN _ n)]; exact n, r⟩
  · by_cases hb : b = a
    · rw [hb, upd_same] at e
      cases e
      rw [hb]
      exact new
    · rw [upd_ne hb] at e
      exact (I.hok b o e).stay (fun c v _ q => q) (fun c q => by rw [upd_ne (neO c _ q)]; exact q) fun c xs q => by rw [upd_ne (neT c xs q)]; exact q
/-- a rule over lists, for the script -/
theorem scr_ep {Q : VK} {A : Around} {t : Sem Value} {E : Value → Shared → Prop} (I : Inv X pins σ H s) (h : ScrAt X.K H a ns) (k0 : SqL X.K H a (ns.map V.int) → wpAny (model X.prog X.w) A t (EP X pins σ Q) E s) (k : ∀ H2, SqL X.K H2 a (ns.map V.int) → (∀ b, b ≠ a → H2 b = H b) → H2 a ≠ none → Inv X pins σ H2 s → wpAny (model X.prog X.w) A t (EP X pins σ fun v H' => H' a = H2 a ∧ Q v fun b => if b = a then H a else H' b) E s) :
    wpAny (model X.prog X.w) A t (EP X pins σ Q) E s := by
  rcases h with h | ⟨us, h1, h2, h3⟩
  · exact k0 (.inr (by obtain ⟨o, its, n, q⟩ := h; exact ⟨o, its, n, q⟩))
  · have n1 : ∀ xs, X.H_0 a ≠ some (.tup xs) := fun xs e => by have q := I.base.tups a xs e; rw [h1] at q; cases q
    have n2 : ∀ ob v, X.H_0 a ≠ some (.frz ob v) := fun ob v e => by have q := I.base.frzs a ob v e; rw [h1] at q; cases q
    have n3 : ∀ ps, X.H_0 a ≠ some (.tbl ps) := fun ps e => by obtain ⟨m, q⟩ := I.base.tbls a ps e; rw [h1] at q; cases q
    obtain ⟨e1, _, _⟩ := (show ObjOk X.prog X.w H s.heap a (.ext fun h => h.get? a = some { cls := .type "list", data := .seq us.toArray }) from I.hok a _ h1)
    have I2 : Inv X pins σ (upd H a (.frz { cls := .type "list", data := .seq us.toArray } (.lst (ns.map V.int)))) s :=
      inv_swap I h1 n1 n2 n3 (fun _ z => nomatch z) (fun _ z => nomatch z) ⟨e1, by rw [List.length_map]; exact h3, us, _, h2, e1⟩
    refine thn (k _ (.inl (.inr ⟨_, upd_same⟩)) (fun b hb => upd_ne hb) (by rw [upd_same]; exact fun z => nomatch z) I2) fun v s1 z => ?_
    obtain ⟨x, H', I', r, e, q⟩ := z
    rw [upd_same] at e
    have ok := I'.hok a _ e
    obtain ⟨e3, _⟩ := ok
    have I3 : Inv X pins σ (upd H' a (.ext fun h => h.get? a = some { cls := .type "list", data := .seq us.toArray })) s1 :=
      inv_swap I' e n1 n2 n3 (fun _ z => nomatch z) (fun _ z => nomatch z) ⟨e3, ⟨_, e3⟩, fun h1 h2 p q => q _ p⟩
    have ef : (fun b => if b = a then H a else H' b) = upd H' a (.ext fun h => h.get? a = some { cls := .type "list", data := .seq us.toArray }) := by
      funext b
      by_cases hb : b = a
      · rw [if_pos hb, hb, upd_same, h1]
      · rw [if_neg hb, upd_ne hb]
    rw [ef] at q
    exact ⟨x, _, I3, r, q⟩
theorem scr_inv (I : Inv X pins σ H s) (h : ScrAt X.K H a ns) : ∃ H2, SqL X.K H2 a (ns.map V.int) ∧ Inv X pins σ H2 s := by
  rcases h with h | ⟨us, h1, h2, h3⟩
  · exact ⟨H, .inr (by obtain ⟨o, its, n, q⟩ := h; exact ⟨o, its, n, q⟩), I⟩
  · have n1 : ∀ xs, X.H_0 a ≠ some (.tup xs) := fun xs e => by have q := I.base.tups a xs e; rw [h1] at q; cases q
    have n2 : ∀ ob v, X.H_0 a ≠ some (.frz ob v) := fun ob v e => by have q := I.base.frzs a ob v e; rw [h1] at q; cases q
    have n3 : ∀ ps, X.H_0 a ≠ some (.tbl ps) := fun ps e => by obtain ⟨m, q⟩ := I.base.tbls a ps e; rw [h1] at q; cases q
    obtain ⟨e1, _, _⟩ := (show ObjOk X.prog X.w H s.heap a (.ext fun h => h.get? a = some { cls := .type "list", data := .seq us.toArray }) from I.hok a _ h1)
    exact ⟨_, .inl (.inr ⟨_, upd_same⟩), inv_swap I h1 n1 n2 n3 (fun _ z => nomatch z) (fun _ z => nomatch z) (u' := .frz { cls := .type "list", data := .seq us.toArray } (.lst (ns.map V.int))) ⟨e1, by rw [List.length_map]; exact h3, us, _, h2, e1⟩⟩
/-- a new thing laid meanwhile -/
theorem scr_new {H2 : Hp} {p : Addr} {o : HO} (k : ∀ b, b ≠ a → H2 b = H b) (hp : p ≠ a) : (fun b => if b = a then H a else upd H2 p o b) = upd H p o := by
  funext b
  by_cases hb : b = a
  · rw [if_pos hb, hb, upd_ne (Ne.symm hp)]
  · rw [if_neg hb]
    by_cases e : b = p
    · rw [e, upd_same, upd_same]
    · rw [upd_ne e, upd_ne e, k b hb]
theorem scr_back {H2 : Hp} (k : ∀ b, b ≠ a → H2 b = H b) : (fun b => if b = a then H a else H2 b) = H := by
  funext b
  by_cases hb : b = a
  · rw [if_pos hb, hb]
  · rw [if_neg hb, k b hb]
theorem rep_scr {K : PySem.W.Frag} {π : List Addr} {v : V} (r : Rp K π H (.scr ns) v) : ∃ a, v = .ref a ∧ ScrAt K H a ns := by
  unfold Rp Rep at r
  obtain ⟨a, h1, h2⟩ := r
  refine ⟨a, h1, ?_⟩
  rcases h2 with h2 | ⟨us, h2, h3⟩
  · exact .inl h2
  · exact .inr ⟨us, off_sub _ _ h2, h3⟩
end
end Rv
set_option Elab.async false
set_option linter.all false
set_option maxRecDepth 100000
set_option maxHeartbeats 4000000
/-! Rv4: tests, displays, items, slices, fields, built-in calls. -/
namespace Rv
open PySem PySem.Spec L2
open PyProof.Rows hiding St

section
variable {X : Cx} {W : WX} {e a b c : Expr} {es rest : List Expr} {m n : M D} {ms : M (List D)} {pos : Pos} {t u : M Bool}

/-! ### tests -/
def truth (μ : Store) : D → Option Bool
  | .bl b => some b
  | .int i => some (i != 0)
  | .non => some false
  | .str s => if s.length ≤ maxL then some (!s.isEmpty) else none
  | .tup ds => some (!ds.isEmpty)
  | d => (asL μ d).map fun ds => !ds.isEmpty
def mT (m : M D) : M Bool := fun ρ μ => (m ρ μ).bind fun d μ' => match truth μ' d with
  | some b => .ok b μ'
  | none => .stuck
/-- a test that gives True or False -/
def outB (d : D) (μ : Store) : Out Bool := match d with
  | .bl b => .ok b μ
  | _ => .stuck
def mB (m : M D) : M Bool := fun ρ μ => (m ρ μ).bind outB
theorem truth_ok {π : List Addr} {μ : Store} {H : Hp} {d : D} {v : V} {k : Bool} (s : SimM X.K π μ H) (r : Rp X.K π H d v) (h : truth μ d = some k) : TruV X.K v H k := by
  unfold truth at h
  split at h
  · cases rep_bl r; cases h; rfl
  · cases rep_int r; cases h; rfl
  · cases rep_non r; cases h; rfl
  · rename_i s1
    cases rep_str r
    by_cases hl : s1.length ≤ maxL
    · rw [if_pos hl] at h
      cases h
      refine ⟨by rw [toS_length, sizeLine_eq]; exact hl, ?_⟩
      rw [toS_length]
      cases s1 with
      | nil => rfl
      | cons x l => simp; omega
    · rw [if_neg hl] at h; cases h
  · cases h
    obtain ⟨p, vs, rfl, h1, h2⟩ := asT_view r rfl
    refine .inr (.inl ⟨vs, h1, ?_⟩)
    have := h2.length
    rename_i ds
    cases ds <;> cases vs <;> simp_all
  · obtain ⟨ds, h1, h2⟩ := Option.map_eq_some_iff.mp h
    obtain ⟨p, vs, rfl, h3, h4⟩ := asL_view s r h1
    refine .inl ⟨vs, h3, ?_⟩
    have := h4.length
    cases ds <;> cases vs <;> simp_all
theorem ST.val (ha : SE X W a m) (he : ∀ whole, isTrue a X.env whole = (do let v ← whole; standAt a.pos; holding [v] (truthy v)) := by intro _; rfl) : ST X W a (mT m) := by
  intro π ρ μ σ H Q sm sl h
  refine WT.of (pt_truth pe_we he) (ha π ρ μ σ H _ sm sl (GE.bind h fun d μ1 x H1 π1 e1 g1 s1 r1 h1 => ?_))
  cases q : truth μ1 d with
  | none => rw [q] at h1; exact h1.elim
  | some k =>
    rw [q] at h1
    exact ⟨k, truth_ok s1 r1 q, h1 k H1 π1 Gr.refl s1 rfl⟩
theorem GE.mB {R : List Addr → Hp → Bool → Bool → Prop} {π : List Addr} {σ : L2.St} {H : Hp} {Q : Bool → Hp → Prop} {μ1 : Store} {d : D} {x : V} (r1 : Rp X.K π H d x) (s1 : SimM X.K π μ1 H) (h1 : GE X W RB π σ H Q (outB d μ1)) : ∃ k, x = .bl k ∧ Q k H := by
  cases d with
  | bl k =>
    cases rep_bl r1
    exact ⟨k, rfl, h1 k H π Gr.refl s1 rfl⟩
  | _ => exact h1.elim
theorem ST.cmp {op : CmpOp} {f : D → D → Store → Out D} (ho : OpB X W (compareOp op) f) (ha : SE X W a m) (hb : SE X W b n) (hm : behindInMarks op b = false := by first | exact nomark _ | rfl) : ST X W (.Compare a [op] [b] pos) (mB (m2 f m n)) := by
  intro π ρ μ σ H Q sm sl h pins s I
  refine wpAny_isTrue_Compare1 (thn (binT pe_we pe_we I (R := fun x y H2 => VB X σ H2 (fun z H3 => ∃ k, z = .bl k ∧ Q k H3) (compareOp op) x y) ?_ (Q := EP X pins σ fun z H3 => ∃ k, z = .bl k ∧ Q k H3) fun v u s2 x y H2 I2 rx ry q => q pins s2 v u I2 rx ry) fun v s1 h1 => thn h1 fun u s2 h2 => thn h2 fun z s3 q => ?_) hm
  · have h' : GE X W (Rp X.K) π σ H (fun z H3 => ∃ k, z = .bl k ∧ Q k H3) (m2 f m n ρ μ) := GE.bind h fun d μ1 x H1 π1 e1 g1 s1 r1 h1 => GE.mB (R := RB) r1 s1 h1
    exact SE.two ha hb sm sl h' fun d1 d2 μ2 x y H2 π2 g s2 l2 r1 r2 h2 => ho π2 μ2 σ H2 _ d1 d2 x y s2 r1 r2 h2
  · obtain ⟨x, H3, I3, r3, k, rfl, q⟩ := q
    cases r3
    exact wpAny_truthy_bool ⟨H3, I3, q⟩
/-- and, or as tests -/
def WW (X : Cx) (e : Expr) : TT := fun σ H Q => ∀ (whole : Sem Value) (pins : List (Addr × Obj)) (s : Shared), Inv X pins σ H s → wpAny (model X.prog X.w) X.A (isTrue e X.env whole) (TP X pins σ Q) X.xe s
theorem pw_ww {X : Cx} {e : Expr} : PW X e (WW X e) := ⟨fun wh pins s σ H Q I h => h wh pins s I⟩
def SW (X : Cx) (W : WX) (e : Expr) (m : M Bool) : Prop := ∀ (π : List Addr) (ρ : Env') (μ : Store) (σ : L2.St) (H : Hp) (Q : Bool → Hp → Prop), SimM X.K π μ H → SimL X.K π H ρ σ → GE X W RB π σ H Q (m ρ μ) → WW X e σ H Q
theorem WW.of {X : Cx} {e : Expr} {t : TT} {σ : L2.St} {H : Hp} {Q : Bool → Hp → Prop} (h : PW X e t) (q : t σ H Q) : WW X e σ H Q := fun wh pins s I => h.run wh pins s σ H Q I q
theorem SW.st (h : SW X W e t) : ST X W e t := fun π ρ μ σ H Q sm sl g => WT.of (PW.pt pw_ww) (h π ρ μ σ H Q sm sl g)
def tAndM (t u : M Bool) : M Bool := fun ρ μ => (t ρ μ).bind fun b μ' => if b = true then u ρ μ' else .ok false μ'
def tOrM (t u : M Bool) : M Bool := fun ρ μ => (t ρ μ).bind fun b μ' => if b = true then .ok true μ' else u ρ μ'
def tNotM (t : M Bool) : M Bool := fun ρ μ => (t ρ μ).bind fun b μ' => .ok (!b) μ'
theorem SW.and1 (h : ST X W a t) : SW X W (.BoolOp .And [a] pos) t := fun π ρ μ σ H Q sm sl g => WW.of (pw_and1 pt_wt) (h π ρ μ σ H Q sm sl g)
theorem SW.or1 (h : ST X W a t) : SW X W (.BoolOp .Or [a] pos) t := fun π ρ μ σ H Q sm sl g => WW.of (pw_or1 pt_wt) (h π ρ μ σ H Q sm sl g)
theorem SW.and (ha : ST X W a t) (hb : SW X W (.BoolOp .And (b :: rest) pos) u) : SW X W (.BoolOp .And (a :: b :: rest) pos) (tAndM t u) := fun π ρ μ σ H Q sm sl g => by
  refine WW.of (pw_and pt_wt pw_ww) (ha π ρ μ σ H _ sm sl (GE.bind g fun k μ1 k' H1 π1 e1 g1 s1 r1 h1 => ?_))
  cases r1
  cases k with
  | true => exact hb π1 ρ μ1 σ H1 Q s1 (g1.loc sl) h1
  | false => exact h1 false H1 π1 Gr.refl s1 rfl
theorem SW.or (ha : ST X W a t) (hb : SW X W (.BoolOp .Or (b :: rest) pos) u) : SW X W (.BoolOp .Or (a :: b :: rest) pos) (tOrM t u) := fun π ρ μ σ H Q sm sl g => by
  refine WW.of (pw_or pt_wt pw_ww) (ha π ρ μ σ H _ sm sl (GE.bind g fun k μ1 k' H1 π1 e1 g1 s1 r1 h1 => ?_))
  cases r1
  cases k with
  | true => exact h1 true H1 π1 Gr.refl s1 rfl
  | false => exact hb π1 ρ μ1 σ H1 Q s1 (g1.loc sl) h1
theorem ST.not (ha : ST X W a t) : ST X W (.UnaryOp .Not a pos) (tNotM t) := fun π ρ μ σ H Q sm sl g =>
  WT.of (pt_not pt_wt) (ha π ρ μ σ H _ sm sl (GE.bind g fun k μ1 k' H1 π1 e1 g1 s1 r1 h1 => by
    cases r1
    exact h1 (!k) H1 π1 Gr.refl s1 rfl))
/-- and, or, not as values -/
def mAnd (m n : M D) : M D := fun ρ μ => (m ρ μ).bind fun d μ' => match d with
  | .bl true => n ρ μ'
  | .bl false => .ok (.bl false) μ'
  | _ => .stuck
def mOr (m n : M D) : M D := fun ρ μ => (m ρ μ).bind fun d μ' => match d with
  | .bl true => .ok (.bl true) μ'
  | .bl false => n ρ μ'
  | _ => .stuck
def dNot : D → Store → Out D
  | .bl b, μ => .ok (.bl (!b)) μ
  | _, _ => .stuck
theorem SE.bone {op} (h : SE X W a m) : SE X W (.BoolOp op [a] pos) m := fun π ρ μ σ H Q sm sl g => WE.of (pe_one pe_we) (h π ρ μ σ H Q sm sl g)
theorem SE.and (ha : SE X W a m) (hb : SE X W (.BoolOp .And (b :: rest) pos) n) : SE X W (.BoolOp .And (a :: b :: rest) pos) (mAnd m n) := fun π ρ μ σ H Q sm sl g => by
  refine WE.of (pe_and pe_we pe_we) (ha π ρ μ σ H _ sm sl (GE.bind g fun d μ1 x H1 π1 e1 g1 s1 r1 h1 => ?_))
  cases d with
  | bl k =>
    cases rep_bl r1
    refine ⟨k, rfl, ?_⟩
    cases k with
    | true => exact hb π1 ρ μ1 σ H1 Q s1 (g1.loc sl) h1
    | false => exact h1 _ H1 π1 Gr.refl s1 rfl
  | _ => exact h1.elim
theorem SE.or (ha : SE X W a m) (hb : SE X W (.BoolOp .Or (b :: rest) pos) n) : SE X W (.BoolOp .Or (a :: b :: rest) pos) (mOr m n) := fun π ρ μ σ H Q sm sl g => by
  refine WE.of (pe_or pe_we pe_we) (ha π ρ μ σ H _ sm sl (GE.bind g fun d μ1 x H1 π1 e1 g1 s1 r1 h1 => ?_))
  cases d with
  | bl k =>
    cases rep_bl r1
    refine ⟨k, rfl, ?_⟩
    cases k with
    | true => exact h1 _ H1 π1 Gr.refl s1 rfl
    | false => exact hb π1 ρ μ1 σ H1 Q s1 (g1.loc sl) h1
  | _ => exact h1.elim
theorem SE.not (ha : SE X W a m) : SE X W (.UnaryOp .Not a pos) (m1 dNot m) := fun π ρ μ σ H Q sm sl g =>
  WE.of (pe_not pe_we) (ha π ρ μ σ H _ sm sl (GE.bind g fun d μ1 x H1 π1 e1 g1 s1 r1 h1 => by
    cases d with
    | bl k =>
      cases rep_bl r1
      exact ⟨k, rfl, h1 _ H1 π1 Gr.refl s1 rfl⟩
    | _ => exact h1.elim))
def mIf (t : M Bool) (m n : M D) : M D := fun ρ μ => (t ρ μ).bind fun b μ' => if b = true then m ρ μ' else n ρ μ'
theorem SE.ite (hc : ST X W c t) (ha : SE X W a m) (hb : SE X W b n) : SE X W (.IfExp c a b pos) (mIf t m n) := fun π ρ μ σ H Q sm sl g => by
  refine WE.of (pe_ifExp pt_wt pe_we pe_we) (hc π ρ μ σ H _ sm sl (GE.bind g fun k μ1 k' H1 π1 e1 g1 s1 r1 h1 => ?_))
  cases r1
  cases k with
  | true => exact ha π1 ρ μ1 σ H1 Q s1 (g1.loc sl) h1
  | false => exact hb π1 ρ μ1 σ H1 Q s1 (g1.loc sl) h1
/-- a <= b <= c -/
def Out.only {α : Type} : Out α → Out α
  | .ok a μ => .ok a μ
  | _ => .stuck
@[simp] theorem Out.only_ok {α : Type} (a : α) (μ : Store) : (Out.ok a μ).only = .ok a μ := rfl
def mChain (f g : D → D → Store → Out D) (m n o : M D) : M D := fun ρ μ => (m ρ μ).bind fun x μ1 => (n ρ μ1).bind fun y μ2 => (f x y μ2).only.bind fun z μ3 => match z with
  | .bl true => (o ρ μ3).bind fun w μ4 => (g y w μ4).only
  | .bl false => .ok (.bl false) μ3
  | _ => .stuck
/-- an operation's reading, whatever the slots -/
def rVB (X : Cx) (g : Value → Value → Sem Value) : R2 := fun x y H Q => ∀ σ, VB X σ H Q g x y
theorem opr_rVB {g : Value → Value → Sem Value} : OpR X g (rVB X g) := fun pins s σ H x y v u Q I rx ry q => q σ pins s v u I rx ry
theorem OpB.any {g : Value → Value → Sem Value} {f : D → D → Store → Out D} (ho : OpB X W g f) {π : List Addr} {μ : Store} {σ : L2.St} {H : Hp} {Q : VK} {d1 d2 : D} {x y : V} (s : SimM X.K π μ H) (r1 : Rp X.K π H d1 x) (r2 : Rp X.K π H d2 y) (h : GE X W (Rp X.K) π σ H Q (f d1 d2 μ).only) : rVB X g x y H Q := by
  intro σ'
  cases e : f d1 d2 μ with
  | ok d μ' =>
    rw [e] at h
    exact ho π μ σ' H Q d1 d2 x y s r1 r2 (by rw [e]; exact h)
  | exc c ns ds μ' => rw [e] at h; exact h.elim
  | stuck => rw [e] at h; exact h.elim
theorem chain_core {op op' : CmpOp} {f g : D → D → Store → Out D} {o : M D} (ho : OpB X W (compareOp op) f) (ho' : OpB X W (compareOp op') g) (ha : SE X W a m) (hb : SE X W b n) (hc : SE X W c o)
    {π : List Addr} {ρ : Env'} {μ : Store} {σ : L2.St} {H : Hp} {Q : VK} (sm : SimM X.K π μ H) (sl : SimL X.K π H ρ σ) (h : GE X W (Rp X.K) π σ H Q (mChain f g m n o ρ μ)) :
    tChain (rVB X (compareOp op)) (rVB X (compareOp op')) (WE X a) (WE X b) (WE X c) σ H Q := by
  refine ha π ρ μ σ H _ sm sl (GE.bind h fun d1 μ1 x H1 π1 e1 g1 s1 r1 h1 => ?_)
  refine hb π1 ρ μ1 σ H1 _ s1 (g1.loc sl) (GE.bind h1 fun d2 μ2 y H2 π2 e2 g2 s2 r2 h2 => ?_)
  refine OpB.any (σ := σ) ho s2 (g2.rep r1) r2 (GE.bind h2 fun d3 μ3 z H3 π3 e3 g3 s3 r3 h3 => ?_)
  cases d3 with
  | bl k =>
    cases rep_bl r3
    refine ⟨k, rfl, ?_⟩
    cases k with
    | true =>
      rw [if_pos rfl]
      refine hc π3 ρ μ3 σ H3 _ s3 (((g1.trans g2).trans g3).loc sl) (GE.bind h3 fun d4 μ4 w H4 π4 e4 g4 s4 r4 h4 => ?_)
      exact OpB.any (σ := σ) ho' s4 ((g3.trans g4).rep r2) r4 h4
    | false =>
      rw [if_neg (by decide)]
      exact h3 _ H3 π3 Gr.refl s3 rfl
  | _ => exact h3.elim
theorem SE.chain {op op' : CmpOp} {f g : D → D → Store → Out D} {o : M D} (ho : OpB X W (compareOp op) f) (ho' : OpB X W (compareOp op') g) (ha : SE X W a m) (hb : SE X W b n) (hc : SE X W c o)
    (hm : lastMarks [op, op'] [b, c] = false := by with_unfolding_all rfl) : SE X W (.Compare a [op, op'] [b, c] pos) (mChain f g m n o) := fun π ρ μ σ H Q sm sl h =>
  WE.of (pe_chain opr_rVB opr_rVB pe_we pe_we pe_we hm) (chain_core ho ho' ha hb hc sm sl h)
theorem ST.chain {op op' : CmpOp} {f g : D → D → Store → Out D} {o : M D} (ho : OpB X W (compareOp op) f) (ho' : OpB X W (compareOp op') g) (ha : SE X W a m) (hb : SE X W b n) (hc : SE X W c o)
    (hm : lastMarks [op, op'] [b, c] = false := by with_unfolding_all rfl) : ST X W (.Compare a [op, op'] [b, c] pos) (mB (mChain f g m n o)) := fun π ρ μ σ H Q sm sl h =>
  WT.of (pt_chain opr_rVB opr_rVB pe_we pe_we pe_we hm) (chain_core ho ho' ha hb hc sm sl (GE.bind h fun d μ1 x H1 π1 e1 g1 s1 r1 h1 => GE.mB (R := RB) r1 s1 h1))

/-! ### arguments, displays -/
def maNil : M (List D) := fun _ μ => .ok [] μ
def maCons (m : M D) (ms : M (List D)) : M (List D) := fun ρ μ => (m ρ μ).bind fun d μ1 => (ms ρ μ1).bind fun ds μ2 => .ok (d :: ds) μ2
def maStar (m : M D) (ms : M (List D)) : M (List D) := fun ρ μ => (m ρ μ).bind fun d μ1 => match asQ μ1 d with
  | some xs => (ms ρ μ1).bind fun ds μ2 => .ok (xs ++ ds) μ2
  | none => .stuck
theorem SA.nil : SA X W [] maNil := fun π ρ μ σ H Q sm sl h => WA.of pa_nil (h [] H π Gr.refl sm RepL.nil)
theorem SA.cons (ha : SE X W a m) (hr : SA X W es ms) (hs : starEach (a :: es) X.env = (false, eval a X.env) :: starEach es X.env := by rfl) : SA X W (a :: es) (maCons m ms) := fun π ρ μ σ H Q sm sl h => by
  refine WA.of (pa_cons pe_we pa_wa hs) (ha π ρ μ σ H _ sm sl (GE.bind h fun d μ1 x H1 π1 e1 g1 s1 r1 h1 => ?_))
  refine hr π1 ρ μ1 σ H1 _ s1 (g1.loc sl) (GE.bind h1 fun ds μ2 xs H2 π2 e2 g2 s2 r2 h2 => ?_)
  exact h2 _ H2 π2 Gr.refl s2 (.cons (g2.rep r1) r2)
theorem SA.star {p : Pos} (ha : SE X W a m) (hr : SA X W es ms) (hs : starEach (.Starred a p :: es) X.env = (true, eval a X.env) :: starEach es X.env := by rfl) : SA X W (.Starred a p :: es) (maStar m ms) := fun π ρ μ σ H Q sm sl h => by
  refine WA.of (StX.pa_star pe_we pa_wa hs) (ha π ρ μ σ H _ sm sl (GE.bind h fun d μ1 x H1 π1 e1 g1 s1 r1 h1 => ?_))
  cases q : asQ μ1 d with
  | none => rw [q] at h1; exact h1.elim
  | some xs =>
    rw [q] at h1
    obtain ⟨p, vs, rfl, hp, rp⟩ := asQ_view s1 r1 q
    refine ⟨p, vs, rfl, hp.elim .inr .inl, hr π1 ρ μ1 σ H1 _ s1 (g1.loc sl) (GE.bind h1 fun ds μ2 us H2 π2 e2 g2 s2 r2 h2 => ?_)⟩
    exact h2 _ H2 π2 Gr.refl s2 ((g2.repL rp).append r2)
def mTup (ms : M (List D)) : M D := fun ρ μ => (ms ρ μ).bind fun ds μ1 => if ds.length ≤ maxL then .ok (.tup ds) μ1 else .stuck
theorem SE.tup {x1} (h : SA X W es ms) : SE X W (.Tuple es x1 pos) (mTup ms) := fun π ρ μ σ H Q sm sl g => by
  refine WE.of (pe_tup pa_wa) (h π ρ μ σ H _ sm sl (GE.bind g fun ds μ1 vs H1 π1 e1 g1 s1 r1 h1 => ?_))
  by_cases hl : ds.length ≤ maxL
  · rw [if_pos hl] at h1
    exact ⟨by rw [r1.length, sizeLine_eq]; exact hl, fun p hp => GE.newT h1 s1 r1 hp⟩
  · rw [if_neg hl] at h1; exact h1.elim
/-- an expression that makes a new list: its items -/
def GF (X : Cx) (W : WX) (π : List Addr) (σ : L2.St) (H : Hp) (Q : VK) : Out (List D) → Prop
  | .ok ds μ' => ∀ p vs H1 π', H1 p = none → Gr π H π' H1 → SimM X.K π' μ' H1 → RpL X.K π' H1 ds vs → Q (.ref p) (upd H1 p (.lst vs))
  | .exc c ns ds μ' => ∀ d H' π', Gr π H π' H' → SimM X.K π' μ' H' → RepX X.K (off π' H') π' ns ds d → W (.ref (He.ga X.K c)) d σ H'
  | .stuck => False
def SF (X : Cx) (W : WX) (e : Expr) (m : M (List D)) : Prop := ∀ (π : List Addr) (ρ : Env') (μ : Store) (σ : L2.St) (H : Hp) (Q : VK), SimM X.K π μ H → SimL X.K π H ρ σ → GF X W π σ H Q (m ρ μ) → WE X e σ H Q
/-- .. that stays as it is -/
def mFz (m : M (List D)) : M D := fun ρ μ => (m ρ μ).bind fun ds μ1 => .ok (.lst ds) μ1
/-- .. that may be changed -/
def mNw (m : M (List D)) : M D := fun ρ μ => (m ρ μ).bind fun ds μ1 => .ok (.ref μ1.length) (μ1 ++ [.lst ds])
theorem SF.fz {ml : M (List D)} (h : SF X W e ml) : SE X W e (mFz ml) := fun π ρ μ σ H Q sm sl g => h π ρ μ σ H Q sm sl (by
  unfold mFz at g
  cases q : ml ρ μ with
  | ok ds μ1 =>
    rw [q] at g
    exact fun p vs H1 π' hp g1 s1 r1 => GE.newL (GE.mono g1 g) s1 r1 hp
  | exc c ns ds μ1 => rw [q] at g; exact g
  | stuck => rw [q] at g; exact g)
theorem SF.nw {ml : M (List D)} (h : SF X W e ml) : SE X W e (mNw ml) := fun π ρ μ σ H Q sm sl g => h π ρ μ σ H Q sm sl (by
  unfold mNw at g
  cases q : ml ρ μ with
  | ok ds μ1 =>
    rw [q] at g
    intro p vs H1 π' hp g1 s1 r1
    obtain ⟨s2, g2⟩ := s1.push (m := .lst ds) hp ⟨vs, rfl, r1⟩
    refine g (.ref p) _ (π' ++ [p]) (g1.trans g2) s2 ?_
    unfold Rp Rep
    exact ⟨p, by rw [← s1.len]; simp, rfl⟩
  | exc c ns ds μ1 => rw [q] at g; exact g
  | stuck => rw [q] at g; exact g)
def mLen (ms : M (List D)) : M (List D) := fun ρ μ => (ms ρ μ).bind fun ds μ1 => if ds.length ≤ maxL then .ok ds μ1 else .stuck
/-- from an outcome of arguments to what a new list wants -/
theorem GF.bindA {α β : Type} {R : List Addr → Hp → α → β → Prop} {π : List Addr} {σ : L2.St} {H : Hp} {Q : VK} {o : Out α} {f : α → Store → Out (List D)} {Q1 : β → Hp → Prop} (h : GF X W π σ H Q (o.bind f))
    (k : ∀ d μ1 v H1 π1, o = .ok d μ1 → Gr π H π1 H1 → SimM X.K π1 μ1 H1 → R π1 H1 d v → GF X W π1 σ H1 Q (f d μ1) → Q1 v H1) : GE X W R π σ H Q1 o := by
  cases o with
  | ok d μ1 =>
    intro v H' π' g s r
    refine k d μ1 v H' π' rfl g s r ?_
    have h' : GF X W π σ H Q (f d μ1) := h
    cases e : f d μ1 with
    | ok ds μ2 => rw [e] at h'; exact fun p vs H1 π2 hp g2 s2 r2 => h' p vs H1 π2 hp (g.trans g2) s2 r2
    | exc c ns ds μ2 => rw [e] at h'; exact fun d H2 π2 g2 s2 r2 => h' d H2 π2 (g.trans g2) s2 r2
    | stuck => rw [e] at h'; exact h'
  | exc c ns ds μ1 => exact h
  | stuck => exact h
theorem SF.lst (h : SA X W es ms) : SF X W (.List es pos) (mLen ms) := fun π ρ μ σ H Q sm sl g => by
  refine WE.of (pe_lst pa_wa) (h π ρ μ σ H _ sm sl (GF.bindA g fun ds μ1 vs H1 π1 e1 g1 s1 r1 h1 => ?_))
  by_cases hl : ds.length ≤ maxL
  · rw [if_pos hl] at h1
    exact ⟨by rw [r1.length, sizeLine_eq]; exact hl, fun p hp => h1 p vs H1 π1 hp Gr.refl s1 r1⟩
  · rw [if_neg hl] at h1; exact h1.elim
/-! ### items -/
theorem atI_rep {K : PySem.W.Frag} {H : Hp} {π : List Addr} {ds : List D} {vs : List V} {i : Int} {d : D} (r : RepL K H π ds vs) (h : atI ds i = some d) : ∃ v, atI vs i = some v ∧ Rep K H π d v := by
  unfold atI at h ⊢
  rw [r.length]
  cases q : ixN ds.length i with
  | none => rw [q] at h; cases h
  | some j =>
    rw [q] at h
    obtain ⟨v, h1, h2⟩ := r.get h
    exact ⟨v, h1, h2⟩
theorem atI_map {α β : Type} {f : α → β} {xs : List α} {i : Int} {k : α} (h : atI xs i = some k) : atI (xs.map f) i = some (f k) := by
  unfold atI at h ⊢
  rw [List.length_map]
  obtain ⟨j, h1, h2⟩ := Option.bind_eq_some_iff.mp h
  rw [h1]
  simp [h2]
def dIx : D → D → Store → Out D := fun d1 d2 μ => match d2 with
  | .int i => (match d1 with
    | .str s => if s.length ≤ maxL then (match atI s i with
      | some c => .ok (.str [c]) μ
      | none => .stuck) else .stuck
    | .scr ns => (match atI ns i with
      | some k => .ok (.int k) μ
      | none => .stuck)
    | d1 => match asQ μ d1 with
      | some ds => (match atI ds i with
        | some d => .ok d μ
        | none => .stuck)
      | none => .stuck)
  | _ => .stuck
def OpI (X : Cx) (W : WX) (f : D → D → Store → Out D) : Prop := ∀ (π : List Addr) (μ : Store) (σ : L2.St) (H : Hp) (Q : VK) (d1 d2 : D) (x y : V), SimM X.K π μ H → Rp X.K π H d1 x → Rp X.K π H d2 y → GE X W (Rp X.K) π σ H Q (f d1 d2 μ) →
  ∀ (value slice : Expr) (pins : List (Addr × Obj)) (s : Shared) (v u : Value), Inv X pins σ H s → RelV x v → RelV y u → subscripted slice false v u = operate [v, u] (getItem v u) → wpAny (model X.prog X.w) X.A (subscriptTail value slice v u) (EP X pins σ Q) X.xe s
theorem opi_ix : OpI X W dIx := by
  intro π μ σ H Q d1 d2 x y s r1 r2 h value slice pins st v u I rx ry hs
  unfold dIx at h
  split at h
  · cases rep_int r2
    split at h
    · rename_i s1
      cases rep_str r1
      by_cases hl : s1.length ≤ maxL
      · rw [if_pos hl] at h
        split at h
        · rename_i c ec
          exact ix_str value slice pins st σ H _ _ v u Q I rx ry ⟨_, _, c, rfl, rfl, by rw [toS_length, sizeLine_eq]; exact hl, ec, h _ H π Gr.refl s rfl⟩ hs
        · exact h.elim
      · rw [if_neg hl] at h; exact h.elim
    · rename_i ns
      obtain ⟨a, rfl, hsc⟩ := rep_scr r1
      split at h
      · rename_i k ek
        have fin : Q (.int k) H := h _ H π Gr.refl s rfl
        exact scr_ep I hsc (fun hq => ix_list value slice pins st σ H _ _ v u Q I rx ry ⟨a, _, _, .int k, rfl, rfl, hq, atI_map ek, fin⟩ hs) fun H2 hq kb _ I2 => ix_list value slice pins st σ H2 _ _ v u _ I2 rx ry ⟨a, _, _, .int k, rfl, rfl, hq, atI_map ek, rfl, by rw [scr_back kb]; exact fin⟩ hs
      · exact h.elim
    · split at h
      · rename_i ds e
        split at h
        · rename_i d ed
          obtain ⟨p, vs, rfl, hp, rp⟩ := asQ_view s r1 e
          obtain ⟨w, h1, h2⟩ := atI_rep rp ed
          have fin : Q w H := h w H π Gr.refl s h2
          rcases hp with hp | hp
          · exact ix_list value slice pins st σ H _ _ v u Q I rx ry ⟨p, vs, _, w, rfl, rfl, hp, h1, fin⟩ hs
          · exact ix_tup value slice pins st σ H _ _ v u Q I rx ry ⟨p, vs, _, w, rfl, rfl, hp, h1, fin⟩ hs
        · exact h.elim
      · exact h.elim
  · exact h.elim
theorem SE.ix {f : D → D → Store → Out D} (ho : OpI X W f) (ha : SE X W a m) (hb : SE X W b n) (hs : PlainIx b := by exact fun _ _ => rfl) : SE X W (.Subscript a b pos) (m2 f m n) := by
  intro π ρ μ σ H Q sm sl h pins s I
  exact Subscript_ (binT pe_we pe_we I (R := fun x y H2 => ∀ (value slice : Expr) (pins : List (Addr × Obj)) (s : Shared) (v u : Value), Inv X pins σ H2 s → RelV x v → RelV y u → subscripted slice false v u = operate [v, u] (getItem v u) → wpAny (model X.prog X.w) X.A (subscriptTail value slice v u) (EP X pins σ Q) X.xe s)
    (SE.two ha hb sm sl h fun d1 d2 μ2 x y H2 π2 g s2 l2 r1 r2 h2 => ho π2 μ2 σ H2 Q d1 d2 x y s2 r1 r2 h2) fun v u s2 x y H2 I2 rx ry q => q a b pins s2 v u I2 rx ry (hs _ _))

/-! ### slices -/
def moNone : M (Option Int) := fun _ μ => .ok none μ
def moSome (m : M D) : M (Option Int) := fun ρ μ => (m ρ μ).bind fun d μ1 => match d with
  | .int i => .ok (some i) μ1
  | _ => .stuck
abbrev RO : List Addr → Hp → Option Int → Option Int → Prop := fun _ _ a b => a = b
/-- the reading of an optional part -/
def SO (X : Cx) (W : WX) (e : Option Expr) (m : M (Option Int)) : Prop := ∃ t : TO, PO X e t ∧ ∀ (π : List Addr) (ρ : Env') (μ : Store) (σ : L2.St) (H : Hp) (Q : Option Int → Hp → Prop), SimM X.K π μ H → SimL X.K π H ρ σ → GE X W RO π σ H Q (m ρ μ) → t σ H Q
theorem SO.none_ : SO X W none moNone := ⟨_, po_none, fun π ρ μ σ H Q sm sl h => h none H π Gr.refl sm rfl⟩
theorem SO.some_ (ha : SE X W a m) : SO X W (some a) (moSome m) := ⟨_, po_some pe_we, fun π ρ μ σ H Q sm sl h => ha π ρ μ σ H _ sm sl (GE.bind h fun d μ1 x H1 π1 e1 g1 s1 r1 h1 => by
  cases d with
  | int i =>
    cases rep_int r1
    exact ⟨i, rfl, h1 _ H1 π1 Gr.refl s1 rfl⟩
  | _ => exact h1.elim)⟩
def cutD {α : Type} (xs : List α) (lo hi : Option Int) : List α := (xs.drop (HT.sIx xs.length 0 lo)).take (HT.sIx xs.length xs.length hi - HT.sIx xs.length 0 lo)
/-- a slice of a text or a tuple; a list's is new -/
def dSl (d : D) (lo hi : Option Int) (μ : Store) : Out D := match d with
  | .str s => if s.length ≤ maxL then .ok (.str (cutD s lo hi)) μ else .stuck
  | .tup ds => .ok (.tup (cutD ds lo hi)) μ
  | .scr ns => .ok (.lst ((cutD ns lo hi).map D.int)) μ
  | d => match asL μ d with
    | some ds => .ok (.lst (cutD ds lo hi)) μ
    | none => .stuck
def mSl (m : M D) (lo hi : M (Option Int)) : M D := fun ρ μ => (m ρ μ).bind fun d μ1 => (lo ρ μ1).bind fun l μ2 => (hi ρ μ2).bind fun h μ3 => dSl d l h μ3
theorem cut_rep {K : PySem.W.Frag} {H : Hp} {π : List Addr} {ds : List D} {vs : List V} (r : RepL K H π ds vs) (lo hi : Option Int) : RepL K H π (cutD ds lo hi) (cutV vs lo hi) := by
  unfold cutD cutV
  rw [r.length]
  exact (r.drop _).take _
theorem rep_ints {K : PySem.W.Frag} {H : Hp} {π : List Addr} : ∀ ns : List Int, RepL K H π (ns.map D.int) (ns.map V.int)
  | [] => .nil
  | n :: ns => by
    rw [List.map_cons, List.map_cons]
    exact .cons (by unfold Rep; rfl) (rep_ints ns)
theorem cut_map (ns : List Int) (lo hi : Option Int) : cutV (ns.map V.int) lo hi = (cutD ns lo hi).map V.int := by
  unfold cutV cutD
  rw [List.length_map, List.map_take, List.map_drop]
theorem cutD_whole {α : Type} {xs : List α} {lo hi : Option Int} (h : HT.sIx xs.length 0 lo = 0 ∧ HT.sIx xs.length xs.length hi = xs.length) : cutD xs lo hi = xs := by
  unfold cutD
  rw [h.1, h.2]
  simp
def rSlC (K : PySem.W.Frag) (x : V) (lo hi : Option Int) (H : Hp) (Q : VK) : Prop := ∃ a ns, x = .ref a ∧ ScrAt K H a ns ∧ ∀ q, H q = none → Q (.ref q) (upd H q (.lst (cutV (ns.map V.int) lo hi)))
theorem sl_scr : SlR X (rSlC X.K) := by
  intro pins s σ H x v vl vu lo hi sl Q I rx hs pl pu h
  obtain ⟨a, ns, rfl, hq, q⟩ := h
  obtain ⟨H3, h3, I3⟩ := scr_inv I hq
  obtain ⟨T, id, t1, t2, _⟩ := sl_list pins s σ H3 _ v vl vu lo hi sl (fun _ _ => True) I3 rx hs pl pu ⟨a, _, rfl, h3, fun _ _ => trivial⟩
  refine ⟨T, id, t1, t2, scr_ep I hq (fun h1 => ?_) fun H2 h1 kb kn I2 => ?_⟩
  · obtain ⟨_, _, _, _, wp⟩ := sl_list pins s σ H _ v vl vu lo hi sl Q I rx hs pl pu ⟨a, _, rfl, h1, q⟩
    exact wp
  · obtain ⟨_, _, _, _, wp⟩ := sl_list pins s σ H2 _ v vl vu lo hi sl (fun v H' => H' a = H2 a ∧ Q v fun b => if b = a then H a else H' b) I2 rx hs pl pu ⟨a, _, rfl, h1, fun p hp => by
      have ne : p ≠ a := fun z => kn (by rw [← z]; exact hp)
      exact ⟨upd_ne (Ne.symm ne), by rw [scr_new kb ne]; exact q p (by rw [← kb p ne]; exact hp)⟩⟩
    exact wp
def slR {X : Cx} (x : V) (lo hi : Option Int) (H : Hp) (Q : VK) : Prop := rSlS x lo hi H Q ∨ rSlA X.K x lo hi H Q ∨ rSlL X.K x lo hi H Q ∨ rSlC X.K x lo hi H Q
theorem sl_all : SlR X (slR (X := X)) := sl_str.or (sl_tupA.or (sl_list.or sl_scr))
theorem SE.slice {lo hi : Option Expr} {ml mh : M (Option Int)} {p2 : Pos} (ha : SE X W a m) (hl : SO X W lo ml) (hh : SO X W hi mh) : SE X W (.Subscript a (.Slice lo hi none p2) pos) (mSl m ml mh) := by
  obtain ⟨tl, pl, kl⟩ := hl
  obtain ⟨th, ph, kh⟩ := hh
  intro π ρ μ σ H Q sm sl h
  refine WE.of (pe_slice sl_all pe_we pl ph) (ha π ρ μ σ H _ sm sl (GE.bind h fun d μ1 x H1 π1 e1 g1 s1 r1 h1 => ?_))
  refine kl π1 ρ μ1 σ H1 _ s1 (g1.loc sl) (GE.bind h1 fun l μ2 l' H2 π2 e2 g2 s2 r2 h2 => ?_)
  cases r2
  refine kh π2 ρ μ2 σ H2 _ s2 ((g1.trans g2).loc sl) (GE.bind h2 fun u μ3 u' H3 π3 e3 g3 s3 r3 h3 => ?_)
  cases r3
  have rd := (g2.trans g3).rep r1
  unfold dSl at h3
  split at h3
  · rename_i s1
    cases rep_str rd
    by_cases hz : s1.length ≤ maxL
    · rw [if_pos hz] at h3
      exact .inl ⟨_, rfl, by rw [toS_length, sizeLine_eq]; exact hz, h3 _ H3 π3 Gr.refl s3 rfl⟩
    · rw [if_neg hz] at h3; exact h3.elim
  · rename_i ds
    obtain ⟨p, vs, rfl, hp, rp⟩ := asT_view (ds := ds) rd rfl
    refine .inr (.inl ⟨p, vs, rfl, hp, fun e => ?_, fun _ q hq => GE.newT h3 s3 (cut_rep rp l u) hq⟩)
    rw [rp.length] at e
    refine h3 _ H3 π3 Gr.refl s3 ?_
    rw [cutD_whole e]
    exact rd
  · rename_i ns
    obtain ⟨p, rfl, hp⟩ := rep_scr rd
    refine .inr (.inr (.inr ⟨p, ns, rfl, hp, fun q hq => GE.newL h3 s3 ?_ hq⟩))
    rw [cut_map]
    exact rep_ints _
  · split at h3
    · rename_i ds e
      obtain ⟨p, vs, rfl, hp, rp⟩ := asL_view s3 rd e
      exact .inr (.inr (.inl ⟨p, vs, rfl, hp, fun q hq => GE.newL h3 s3 (cut_rep rp l u) hq⟩))
    · exact h3.elim

/-! ### in, not in -/
def flD : D → Option V
  | .non => some .non
  | .bl b => some (.bl b)
  | .int i => some (.int i)
  | .str s => some (.str (toS s))
  | _ => none
def flDs : List D → Option (List V)
  | [] => some []
  | d :: ds => match flD d, flDs ds with
    | some v, some vs => some (v :: vs)
    | _, _ => none
theorem flD_rep {K : PySem.W.Frag} {H : Hp} {π : List Addr} {d : D} {v w : V} (r : Rep K H π d v) (h : flD d = some w) : v = w ∧ flatV v = true := by
  cases d <;> simp only [flD, Option.some.injEq] at h
  case non => subst h; exact ⟨rep_non r, by rw [rep_non r]; rfl⟩
  case bl => subst h; exact ⟨rep_bl r, by rw [rep_bl r]; rfl⟩
  case int => subst h; exact ⟨rep_int r, by rw [rep_int r]; rfl⟩
  case str => subst h; exact ⟨rep_str r, by rw [rep_str r]; rfl⟩
  all_goals cases h
theorem flDs_rep {K : PySem.W.Frag} {H : Hp} {π : List Addr} : ∀ {ds : List D} {vs ws : List V}, RepL K H π ds vs → flDs ds = some ws → vs = ws ∧ vs.all flatV = true
  | [], _, _, r, h => by
    unfold RepL at r
    unfold flDs at h
    subst r
    cases h
    exact ⟨rfl, rfl⟩
  | d :: ds, _, _, r, h => by
    obtain ⟨v, t, rfl, h1, h2⟩ := r.uncons
    unfold flDs at h
    split at h
    · rename_i w ws e1 e2
      cases h
      obtain ⟨rfl, f1⟩ := flD_rep h1 e1
      obtain ⟨rfl, f2⟩ := flDs_rep h2 e2
      exact ⟨rfl, by simp [f1, f2]⟩
    · cases h
/-- one sign in a text; a flat thing in a list or tuple of flat things -/
def inB (μ : Store) (d1 d2 : D) : Option Bool := match d1, d2 with
  | .str [c], .str s => some (decide (c ∈ s))
  | d1, d2 => match flD d1, (asQ μ d2).bind flDs with
    | some v, some vs => some (inV v vs)
    | _, _ => none
def dIn : D → D → Store → Out D := fun d1 d2 μ => dB (inB μ d1 d2) μ
def dNotIn : D → D → Store → Out D := fun d1 d2 μ => dB ((inB μ d1 d2).map not) μ
theorem op_in_sign' : OpR X (compareOp .In) (fun x y H Q => ∃ c z, x = .str ⟨#[c]⟩ ∧ y = .str z ∧ Q (.bl (decide (c ∈ z.cps.toList))) H) := op_in_sign
theorem opb_in : OpB X W (compareOp .In) dIn := by
  intro π μ σ H Q d1 d2 x y s r1 r2 h
  unfold dIn at h
  cases q : inB μ d1 d2 with
  | none => rw [q] at h; exact h.elim
  | some k =>
    rw [q] at h
    have fin : Q (.bl k) H := h _ H π Gr.refl s rfl
    unfold inB at q
    split at q
    · cases rep_str r1; cases rep_str r2; cases q
      exact OpR.vb op_in_sign ⟨_, _, rfl, rfl, fin⟩
    · split at q
      · rename_i v vs e1 e2
        cases q
        obtain ⟨ds, e3, e4⟩ := Option.bind_eq_some_iff.mp e2
        obtain ⟨p, us, rfl, hp, rp⟩ := asQ_view s r2 e3
        obtain ⟨rfl, f1⟩ := flD_rep r1 e1
        obtain ⟨rfl, f2⟩ := flDs_rep rp e4
        exact OpR.vb op_in_seq ⟨p, us, rfl, hp, f1, f2, fin⟩
      · cases q
theorem opb_notin : OpB X W (compareOp .NotIn) dNotIn := by
  intro π μ σ H Q d1 d2 x y s r1 r2 h
  unfold dNotIn at h
  cases q : inB μ d1 d2 with
  | none => rw [q] at h; exact h.elim
  | some k =>
    rw [q] at h
    have fin : Q (.bl (!k)) H := h _ H π Gr.refl s rfl
    unfold inB at q
    split at q
    · cases rep_str r1; cases rep_str r2; cases q
      refine OpR.vb op_notIn_sign ⟨_, _, rfl, rfl, ?_⟩
      first
        | exact fin
        | (simp only [decide_not]; exact fin)
    · split at q
      · rename_i v vs e1 e2
        cases q
        obtain ⟨ds, e3, e4⟩ := Option.bind_eq_some_iff.mp e2
        obtain ⟨p, us, rfl, hp, rp⟩ := asQ_view s r2 e3
        obtain ⟨rfl, f1⟩ := flD_rep r1 e1
        obtain ⟨rfl, f2⟩ := flDs_rep rp e4
        exact OpR.vb op_notIn_seq ⟨p, us, rfl, hp, f1, f2, fin⟩
      · cases q
end
end Rv
set_option Elab.async false
set_option linter.all false
set_option maxRecDepth 100000
set_option maxHeartbeats 4000000
/-! Rv5: calls of own defs, classes made, fields, properties, methods, isinstance. -/
namespace Rv
open PySem PySem.Spec L2
open PyProof.Rows hiding St

/-! ### regions, for callers -/
section
variable {K : PySem.W.Frag} {H H0 : Hp} {π π0 : List Addr} {μ μ0 μ2 : Store}
theorem region_ret {d d2 : D} {v : V} (s : SimM K π μ H) (s0 : SimM K π0 μ0 H0) (g : Gr π0 H0 π H) (r : Rp K π H d v) (e : region μ0 (.ret d μ) = .ok d2 μ2) : SimM K π0 μ2 H ∧ Gr π0 H0 π0 H ∧ Rp K π0 H d2 v := by
  simp only [region] at e
  by_cases hk : (kept μ0.length μ0 μ && D.low μ0.length (frz μ0.length μ d)) = true
  · rw [if_pos hk] at e
    rw [Bool.and_eq_true] at hk
    obtain ⟨s1, g1, hp, ho⟩ := s.take s0 g hk.1
    cases e
    exact ⟨s1, g1, Rep.frz s s0 hp ho r hk.2⟩
  · rw [if_neg hk] at e; cases e
theorem region_exc {c c2 : Str} {ns ns2 : List Str} {ds ds2 : List D} {ρ : Env'} {d : Option Addr} (s : SimM K π μ H) (s0 : SimM K π0 μ0 H0) (g : Gr π0 H0 π H) (x : RepX K (off π H) π ns ds d) (e : region μ0 (.exc c ns ds ρ μ) = .exc c2 ns2 ds2 μ2) :
    c2 = c ∧ SimM K π0 μ2 H ∧ Gr π0 H0 π0 H ∧ RepX K (off π0 H) π0 ns2 ds2 d := by
  simp only [region] at e
  by_cases hk : (kept μ0.length μ0 μ && D.lowL μ0.length (ds.map (frz μ0.length μ))) = true
  · rw [if_pos hk] at e
    rw [Bool.and_eq_true] at hk
    obtain ⟨s1, g1, hp, ho⟩ := s.take s0 g hk.1
    cases e
    refine ⟨rfl, s1, g1, ?_⟩
    rcases x with ⟨x1, x2, x3⟩ | ⟨dx, fs, x1, x2, x3, x4⟩
    · exact .inl ⟨x1, by rw [x2]; rfl, x3⟩
    · exact .inr ⟨dx, fs, x1, ho _ _ x2, x3, RepL.frz s s0 hp ho x4 hk.2⟩
  · rw [if_neg hk] at e; cases e
end

/-! ### what may be called -/
section
variable {X : Cx} {W : WX}
/-- called with what stands for ds, f does what F says -/
def Callee (X : Cx) (W : WX) (f : Value) (F : Fn) : Prop := ∀ (π : List Addr) (μ : Store) (σ : L2.St) (H : Hp) (Q : VK) (pins : List (Addr × Obj)) (s : Shared) (us : List Value) (vs : List V) (ds : List D),
  Inv X pins σ H s → Vals vs us → SimM X.K π μ H → RpL X.K π H ds vs → GE X W (Rp X.K) π σ H Q (F ds μ) → codeAny (model X.prog X.w) X.A (.call f ⟨us, []⟩) (RP X pins σ Q) s
/-- .. with keywords ks: positional values, then the keywords' -/
def CalleeK (X : Cx) (W : WX) (f : Value) (ks : List Str) (F : List D → List D → Store → Out D) : Prop := ∀ (π : List Addr) (μ : Store) (σ : L2.St) (H : Hp) (Q : VK) (pins : List (Addr × Obj)) (s : Shared) (us ws : List Value) (vs zs : List V) (ds es : List D),
  Inv X pins σ H s → Vals vs us → Vals zs ws → SimM X.K π μ H → RpL X.K π H ds vs → RpL X.K π H es zs → GE X W (Rp X.K) π σ H Q (F ds es μ) → codeAny (model X.prog X.w) X.A (.call f ⟨us, ks.zip ws⟩) (RP X pins σ Q) s
/-- constants -/
def Cst (K : PySem.W.Frag) (dds : List D) (ds : List Value) : Prop := ∃ dvs, Vals dvs ds ∧ ∀ π H, RpL K π H dds dvs
theorem Cst.nil {K : PySem.W.Frag} : Cst K [] [] := ⟨[], .nil, fun _ _ => RepL.nil⟩
def arity (n : Nat) (F : Fn) (dds : List D) : Fn := fun ds μ => if ds.length + dds.length = n then F (ds ++ dds) μ else .stuck
section
variable {k : Nat} {f : Addr} {fd : FuncData} {ps : List Str} {F : Fn} {dds : List D} {ds0 : List Value}
theorem callee_fn (hF : FnQ X.prog X.w X.K X.mg X.base k f fd ps F) (hr : RoomQ k X.A) (tk : Takes X W) (hb : Binds X.K fd ps ds0) (hc : Cst X.K dds ds0) : Callee X W (.ref f) (arity ps.length F dds) := by
  intro π μ σ H Q pins s us vs ds I rv sm rl h
  unfold arity at h
  obtain ⟨dvs, c1, c2⟩ := hc
  by_cases hn : ds.length + dds.length = ps.length
  · rw [if_pos hn] at h
    have e1 := rl.length
    have e2 := (c2 π H).length
    have e3 := rv.length
    have e4 := c1.length
    exact run_q (ws := us ++ ds0) (vs := vs ++ dvs) hF hr tk I (hb s us I.kIn (by rw [List.length_append]; omega)) (rv.append c1) sm (rl.append (c2 π H)) (by rw [List.length_append]; exact hn) h
  · rw [if_neg hn] at h; exact h.elim
/-- the keywords stand behind the positional values, in the parameters' order, the defaults behind them -/
def arityK (n j k : Nat) (F : Fn) (dds : List D) : List D → List D → Store → Out D := fun ds es μ => if ds.length = j ∧ es.length = k ∧ j + k + dds.length = n then F (ds ++ es ++ dds) μ else .stuck
def BindsK (K : PySem.W.Frag) (fd : FuncData) (ps : List Str) (j : Nat) (ks : List Str) (ds0 : List Value) : Prop := ∀ (s : Shared) (us ws : List Value), K.In s.heap → us.length = j → ws.length = ks.length → BindsTo s fd ⟨us, ks.zip ws⟩ (ps.zip (us ++ ws ++ ds0))
theorem callee_fnK {ks : List Str} {j : Nat} (hF : FnQ X.prog X.w X.K X.mg X.base k f fd ps F) (hr : RoomQ k X.A) (tk : Takes X W) (hb : BindsK X.K fd ps j ks ds0) (hc : Cst X.K dds ds0) : CalleeK X W (.ref f) ks (arityK ps.length j ks.length F dds) := by
  intro π μ σ H Q pins s us ws vs zs ds es I rv rz sm rl re h
  unfold arityK at h
  obtain ⟨dvs, c1, c2⟩ := hc
  by_cases hn : ds.length = j ∧ es.length = ks.length ∧ j + ks.length + dds.length = ps.length
  · rw [if_pos hn] at h
    have e1 := rl.length
    have e2 := re.length
    have e3 := rv.length
    have e4 := rz.length
    exact run_q (ws := us ++ ws ++ ds0) (vs := vs ++ zs ++ dvs) hF hr tk I (hb s us ws I.kIn (by omega) (by omega)) ((rv.append rz).append c1) sm ((rl.append re).append (c2 π H)) (by simp only [List.length_append]; omega) h
  · rw [if_neg hn] at h; exact h.elim
end

/-! ### an instance made -/
/-- __init__ has run on the new instance: it is let go (stays) | goes on being changed -/
def made (μ : Store) (keep : Bool) : Out D → Out D
  | .ok .non μ' => (if keep then region1 else region) μ (.ret (.ref μ.length) μ')
  | .exc c ns ds μ' => region μ (.exc c ns ds [] μ')
  | _ => .stuck
def newF (c : Str) (keep : Bool) (F : Fn) : Fn := fun ds μ => made μ keep (F (.ref μ.length :: ds) (μ ++ [.ins c [] []]))
theorem made_get {K : PySem.W.Frag} {π : List Addr} {μ : Store} {H : Hp} {c : Str} {x dx : Addr} (s : SimM K π μ H) (hx : H x = none) (hdx : H dx = none) (ne : dx ≠ x) :
    SimM K (π ++ [x]) (μ ++ [.ins c [] []]) (upd (upd H dx (.own x)) x (.ins (He.ga K c) dx [])) ∧ Gr π H (π ++ [x]) (upd (upd H dx (.own x)) x (.ins (He.ga K c) dx [])) := by
  have s1 : SimM K π μ (upd H dx (.own x)) := s.new hdx
  have g1 : Gr π H π (upd H dx (.own x)) := Gr.new hdx
  have hx1 : upd H dx (.own x) x = none := by rw [upd_ne (Ne.symm ne)]; exact hx
  obtain ⟨s2, g2⟩ := s1.push (m := .ins c [] []) (o := .ins (He.ga K c) dx []) hx1 ⟨dx, [], rfl, rfl, RepL.nil⟩
  exact ⟨s2, g1.trans g2⟩
section
variable {π : List Addr} {μ : Store} {σ : L2.St} {H H2 : Hp} {Q : VK} {c : Str} {x : Addr} {keep : Bool} {o : Out D}
/-- how such an end is taken: x is what was made -/
theorem made_ok (s : SimM X.K π μ H) (g : Gr π H (π ++ [x]) H2) (h : GE X W (Rp X.K) π σ H Q (made μ keep o)) : GE X W (Rp X.K) (π ++ [x]) σ H2 (fun v H' => v = .non ∧ Q (.ref x) H') o := by
  cases o with
  | ok d μ' =>
    cases d with
    | non =>
      intro v H' π' g' s' r
      refine ⟨rep_non r, ?_⟩
      have gg := g.trans g'
      have rx : Rp X.K π' H' (.ref μ.length) (.ref x) := by
        unfold Rp Rep
        exact ⟨x, g'.get (by rw [← s.len]; simp), rfl⟩
      cases keep with
      | false =>
        have h' : GE X W (Rp X.K) π σ H Q (region μ (.ret (.ref μ.length) μ')) := h
        cases e : region μ (.ret (.ref μ.length) μ') with
        | ok d2 μ2 =>
          rw [e] at h'
          obtain ⟨z1, z2, z3⟩ := region_ret s' s gg rx e
          exact h' _ H' π z2 z1 z3
        | exc c ns ds μ2 =>
          exfalso
          simp only [region] at e
          split at e <;> cases e
        | stuck => rw [e] at h'; exact h'.elim
      | true =>
        have h' : GE X W (Rp X.K) π σ H Q (region1 μ (.ret (.ref μ.length) μ')) := h
        simp only [region1] at h'
        cases em : μ'[μ.length]? with
        | none => rw [em] at h'; exact h'.elim
        | some m =>
          rw [em] at h'
          simp only at h'
          by_cases hk : (decide (μ.length ≤ μ.length) && (kept μ.length μ μ' && MO.low μ.length m)) = true
          · rw [if_pos hk] at h'
            simp only [Bool.and_eq_true, decide_eq_true_eq] at hk
            obtain ⟨_, hk2, hk3⟩ := hk
            obtain ⟨s1, g1, hp, ho⟩ := s'.take s gg hk2
            obtain ⟨t, ht⟩ := g'.pre
            have hx' : π'[μ.length]? = some x := g'.get (by rw [← s.len]; simp)
            have hxn : x ∉ π := by
              have nd := s'.nd
              rw [ht, List.nodup_append] at nd
              have nd1 := nd.1
              rw [List.nodup_append] at nd1
              exact fun z => nd1.2.2 x z x (by simp) rfl
            have sub : ∀ b o, off π' H' b = some o → off (π ++ [x]) H' b = some o := fun b o q => by
              obtain ⟨q1, q2⟩ := off_some q
              rw [off_ne]
              · exact q2
              · intro z
                exact q1 (by rw [ht]; exact List.mem_append_left _ z)
            have gp : ∀ (n : Nat) b, π[n]? = some b → (π ++ [x])[n]? = some b := fun n b e => by
              rw [List.getElem?_append_left (List.getElem?_eq_some_iff.mp e).1]
              exact e
            have lt : (μ'.take μ.length).length = π.length := s1.len.symm
            refine h' (.ref x) H' (π ++ [x]) ⟨⟨[x], rfl⟩, fun b o q => sub b o (gg.keep b o q)⟩ ⟨?_, by simp [s1.len], fun j b m' j1 j2 => ?_⟩ ?_
            · rw [List.nodup_append]
              refine ⟨s.nd, by simp, fun y hy z hz => ?_⟩
              simp at hz
              subst hz
              exact fun e => hxn (e ▸ hy)
            · by_cases hj : j < π.length
              · rw [List.getElem?_append_left hj] at j1
                rw [List.getElem?_append_left (by omega)] at j2
                have hjm : j < μ.length := by rw [← s.len]; exact hj
                have j2' := j2
                rw [List.getElem?_take_of_lt hjm] at j2'
                have q := s'.obj j b m' (gg.get j1) j2'
                have hb : MO.low μ.length m' = true := (s1.obj j b m' j1 j2).low (Nat.le_of_eq s.len)
                have q2 := q.take hb
                rw [hp] at q2
                exact q2.mono sub gp
              · have hl := (List.getElem?_eq_some_iff.mp j1).1
                rw [List.length_append, List.length_singleton] at hl
                have hj' : j = π.length := by omega
                subst hj'
                have e1 : b = x := by simpa using j1.symm
                have e2 : m' = m := by
                  rw [← lt] at j2
                  simpa using j2.symm
                subst e1 e2
                have q2 := (s'.obj μ.length b m' hx' em).take hk3
                rw [hp] at q2
                exact q2.mono sub gp
            · unfold Rp Rep
              exact ⟨x, by rw [← s.len]; simp, rfl⟩
          · rw [if_neg hk] at h'
            exact h'.elim
    | _ => exact h.elim
  | exc c ns ds μ' =>
    intro d H' π' g' s' r
    have h' : GE X W (Rp X.K) π σ H Q (region μ (.exc c ns ds [] μ')) := h
    cases e : region μ (.exc c ns ds [] μ') with
    | ok d2 μ2 =>
      exfalso
      simp only [region] at e
      split at e <;> cases e
    | exc c2 ns2 ds2 μ2 =>
      rw [e] at h'
      obtain ⟨z0, z1, z2, z3⟩ := region_exc s' s (g.trans g') r e
      subst z0
      exact h' d H' π z2 z1 z3
    | stuck => rw [e] at h'; exact h'.elim
  | stuck => exact h.elim
end
section
variable {k : Nat} {c : Str} {keep : Bool} {f : Addr} {fd : FuncData} {ps : List Str} {F : Fn} {dds : List D} {ds0 : List Value}
theorem make_q {pins : List (Addr × Obj)} {s : Shared} {us : List Value} {kw : List (Str × Value)} {ws : List Value} {vs : List V} {ds : List D} {π : List Addr} {μ : Store} {σ : L2.St} {H : Hp} {Q : VK} (M : Mk X.K (He.ga X.K c) f) (hF : FnQ X.prog X.w X.K X.mg X.base k f fd ps F) (hr : RoomQ (k + 1) X.A) (tk : Takes X W) (I : Inv X pins σ H s)
    (bd : ∀ (s : Shared) (a : Value), X.K.In s.heap → BindsTo s fd ⟨a :: us, kw⟩ (ps.zip (a :: ws))) (rv : Vals vs ws) (sm : SimM X.K π μ H) (rl : RpL X.K π H ds vs) (hn : ds.length + 1 = ps.length) (h : GE X W (Rp X.K) π σ H Q (newF c keep F ds μ)) :
    codeAny (model X.prog X.w) X.A (.call (.ref (He.ga X.K c)) ⟨us, kw⟩) (RP X pins σ Q) s := by
  obtain ⟨s2, g2⟩ := made_get (c := c) sm (I.hok.fresh (Nat.le_succ _)) (I.hok.fresh (Nat.le_refl _)) (Nat.ne_of_lt (Nat.lt_succ_self s.heap.objs.size))
  have I2 := Inv.made (C := He.ga X.K c) I
  have h2 := made_ok (x := s.heap.objs.size + 1) sm g2 h
  have rx : RpL X.K (π ++ [s.heap.objs.size + 1]) (upd (upd H s.heap.objs.size (.own (s.heap.objs.size + 1))) (s.heap.objs.size + 1) (.ins (He.ga X.K c) s.heap.objs.size [])) (.ref μ.length :: ds) (.ref (s.heap.objs.size + 1) :: vs) := by
    refine .cons ?_ (g2.repL rl)
    unfold Rep
    exact ⟨_, by rw [← sm.len]; simp, rfl⟩
  refine (make_map (f := f) I.kIn M.makes M.init (beq_iff_eq.mp M.fn) (codeAny_mono (hF.run _ X.stack _ _ ⟨Value.ref (s.heap.objs.size + 1) :: us, kw⟩ (Value.ref (s.heap.objs.size + 1) :: ws) _ _ (fun c d H' => W c d σ H') (hr.make _ us kw)
    (I2.env0.make _ us kw) (bd _ _ I2.kIn) (Paired.cons (a := V.ref (s.heap.objs.size + 1)) rfl rv) (spG_of s2 rx (by simpa using hn) h2)) fun r s' hq => ?_))
  have z := back_q (Q := fun v H' => v = .non ∧ Q (.ref (s.heap.objs.size + 1)) H') tk I2 hq
  cases r with
  | error e => exact z
  | ok fl => cases fl with
    | ret u =>
      obtain ⟨v, H', I3, rv', ev, q3⟩ := z
      subst ev
      exact ⟨rv', ⟨V.ref (s.heap.objs.size + 1), H', I3, rfl, q3⟩⟩
    | _ => exact z.elim
def arity1 (n : Nat) (F : Fn) (dds : List D) : Fn := fun ds μ => if ds.length + dds.length + 1 = n then F (ds ++ dds) μ else .stuck
theorem callee_cls (M : Mk X.K (He.ga X.K c) f) (hF : FnQ X.prog X.w X.K X.mg X.base k f fd ps F) (hr : RoomQ (k + 1) X.A) (tk : Takes X W) (hb : Binds X.K fd ps ds0) (hc : Cst X.K dds ds0) :
    Callee X W (.ref (He.ga X.K c)) (arity1 ps.length (newF c keep F) dds) := by
  intro π μ σ H Q pins s us vs ds I rv sm rl h
  unfold arity1 at h
  obtain ⟨dvs, c1, c2⟩ := hc
  by_cases hn : ds.length + dds.length + 1 = ps.length
  · rw [if_pos hn] at h
    have e1 := rl.length
    have e2 := (c2 π H).length
    have e3 := rv.length
    have e4 := c1.length
    refine make_q (ws := us ++ ds0) (vs := vs ++ dvs) M hF hr tk I (fun s a hK => ?_) (rv.append c1) sm (rl.append (c2 π H)) (by rw [List.length_append]; exact hn) h
    have z := hb s (a :: us) hK (by simp only [List.length_append, List.length_cons]; omega)
    simpa using z
  · rw [if_neg hn] at h; exact h.elim
def arity1K (n j k : Nat) (F : Fn) (dds : List D) : List D → List D → Store → Out D := fun ds es μ => if ds.length = j ∧ es.length = k ∧ j + k + dds.length + 1 = n then F (ds ++ es ++ dds) μ else .stuck
theorem callee_clsK {ks : List Str} {j : Nat} (M : Mk X.K (He.ga X.K c) f) (hF : FnQ X.prog X.w X.K X.mg X.base k f fd ps F) (hr : RoomQ (k + 1) X.A) (tk : Takes X W) (hb : BindsK X.K fd ps (j + 1) ks ds0) (hc : Cst X.K dds ds0) :
    CalleeK X W (.ref (He.ga X.K c)) ks (arity1K ps.length j ks.length (newF c keep F) dds) := by
  intro π μ σ H Q pins s us ws vs zs ds es I rv rz sm rl re h
  unfold arity1K at h
  obtain ⟨dvs, c1, c2⟩ := hc
  by_cases hn : ds.length = j ∧ es.length = ks.length ∧ j + ks.length + dds.length + 1 = ps.length
  · rw [if_pos hn] at h
    have e1 := rl.length
    have e2 := re.length
    have e3 := rv.length
    have e4 := rz.length
    refine make_q (ws := us ++ ws ++ ds0) (vs := vs ++ zs ++ dvs) M hF hr tk I (fun s a hK => ?_) ((rv.append rz).append c1) sm ((rl.append re).append (c2 π H)) (by simp only [List.length_append]; omega) h
    have z := hb s (a :: us) ws hK (by simp only [List.length_cons]; omega) (by omega)
    simpa using z
  · rw [if_neg hn] at h; exact h.elim
end

/-! ### calls as expressions -/
variable {e a b c : Expr} {es rest : List Expr} {kws : List Keyword} {m n : M D} {ms mk : M (List D)} {pos p p1 apos : Pos} {x : Str} {f : Value} {F : Fn}
def mCall (F : Fn) (ms : M (List D)) : M D := fun ρ μ => (ms ρ μ).bind F
/-- keywords' values -/
def WK (X : Cx) (kws : List Keyword) : TA := fun σ H Q => ∀ (pos : Pos) (pins : List (Addr × Obj)) (s : Shared), Inv X pins σ H s → wpAny (model X.prog X.w) X.A (evalAll ((backToKw pos (keywordEach kws X.env)).map (·.2))) (AP X pins σ Q) X.xe s
theorem pk_wk {X : Cx} {kws : List Keyword} : PK X kws (WK X kws) := ⟨fun pos pins s σ H Q I h => h pos pins s I⟩
def SK (X : Cx) (W : WX) (kws : List Keyword) (m : M (List D)) : Prop := ∀ (π : List Addr) (ρ : Env') (μ : Store) (σ : L2.St) (H : Hp) (Q : List V → Hp → Prop), SimM X.K π μ H → SimL X.K π H ρ σ → GE X W (RpL X.K) π σ H Q (m ρ μ) → WK X kws σ H Q
theorem SK.nil : SK X W [] maNil := fun π ρ μ σ H Q sm sl h pos pins s I => pk_nil.run pos pins s σ H Q I (h [] H π Gr.refl sm RepL.nil)
theorem SK.cons {nm : Option Str} {kpos : Pos} (ha : SE X W a m) (hr : SK X W kws ms) : SK X W (⟨nm, a, kpos⟩ :: kws) (maCons m ms) := fun π ρ μ σ H Q sm sl h pos pins s I => by
  refine (pk_cons pe_we pk_wk).run pos pins s σ H Q I (ha π ρ μ σ H _ sm sl (GE.bind h fun d μ1 x H1 π1 e1 g1 s1 r1 h1 => ?_))
  refine hr π1 ρ μ1 σ H1 _ s1 (g1.loc sl) (GE.bind h1 fun ds μ2 xs H2 π2 e2 g2 s2 r2 h2 => ?_)
  exact h2 _ H2 π2 Gr.refl s2 (.cons (g2.rep r1) r2)
theorem SE.call (hc : Callee X W f F) (hg : Gl X x) (hm : X.mg x = some f) (hk : PySem.W.keepIn X.K f = true) (ha : SA X W (a :: es) ms) (hdb : (x == ("__debug__" : Str)) = false := by decide)
    (he : starEach (a :: es) X.env = (false, eval a X.env) :: starEach es X.env := by rfl) (hpl : (backTo pos (starEach es X.env)).any (·.1) = false := by rfl) : SE X W (.Call (.Name x p) (a :: es) [] pos) (mCall F ms) := by
  intro π ρ μ σ H Q sm sl h pins s I
  refine wpAny_Call_Name_kw (ld_glob I hg hm ?_ hdb)
  refine PySem.W.callWith_K (h₀ := X.base) I.ok.mod.kin hk (thn (ha π ρ μ σ H (fun vs H1 => ∀ pins s us, Inv X pins σ H1 s → Vals vs us → wpAny (model X.prog X.w) X.A (PySem.call f us) (EP X pins σ Q) X.xe s) sm sl
    (GE.bind h fun ds μ1 vs H1 π1 e1 g1 s1 r1 h1 pins s us I1 rv => run_ok (hc π1 μ1 σ H1 Q pins s us vs ds I1 rv s1 r1 h1)) pos pins s I) fun us s1 z => ?_) he hpl
  obtain ⟨vs, H1, I1, rv, q⟩ := z
  exact ⟨I1.kIn, q pins s1 us I1 rv⟩
theorem SE.call0 (hc : Callee X W f F) (hg : Gl X x) (hm : X.mg x = some f) (hk : PySem.W.keepIn X.K f = true) (hdb : (x == ("__debug__" : Str)) = false := by decide) : SE X W (.Call (.Name x p) [] [] pos) (mCall F maNil) := by
  intro π ρ μ σ H Q sm sl h pins s I
  refine wpAny_Call_Name_kw (ld_glob I hg hm ?_ hdb)
  exact PySem.W.callWith_K0 I.kIn hk (run_ok (hc π μ σ H Q pins s [] [] [] I .nil sm RepL.nil h))
def mCallK (F : List D → List D → Store → Out D) (ms mk : M (List D)) : M D := fun ρ μ => (ms ρ μ).bind fun ds μ1 => (mk ρ μ1).bind fun es μ2 => F ds es μ2
theorem SE.callK {ks : List Str} {F : List D → List D → Store → Out D} (hc : CalleeK X W f ks F) (hg : Gl X x) (hm : X.mg x = some f) (hk : PySem.W.keepIn X.K f = true) (ha : SA X W (a :: es) ms) (hw : SK X W kws mk)
    (hall : (backToKw pos (keywordEach kws X.env)).all (·.1.isSome) = true := by rfl) (hks : (backToKw pos (keywordEach kws X.env)).filterMap (·.1) = ks := by rfl) (hdb : (x == ("__debug__" : Str)) = false := by decide)
    (he : starEach (a :: es) X.env = (false, eval a X.env) :: starEach es X.env := by rfl)
    (hpl : ((backTo pos (starEach (a :: es) X.env)).any (·.1) || (backToKw pos (keywordEach kws X.env)).any (·.1.isNone)) = false := by rfl) : SE X W (.Call (.Name x p) (a :: es) kws pos) (mCallK F ms mk) := by
  intro π ρ μ σ H Q sm sl h pins s I
  refine wpAny_Call_Name_kw (ld_glob I hg hm ?_ hdb)
  refine PySem.W.callWith_KW (h₀ := X.base) I.ok.mod.kin hk hall (thn (ha π ρ μ σ H (fun vs H1 => WK X kws σ H1 fun zs H2 => ∀ pins s us ws, Inv X pins σ H2 s → Vals vs us → Vals zs ws → wpAny (model X.prog X.w) X.A (PySem.call f us (ks.zip ws)) (EP X pins σ Q) X.xe s) sm sl
    (GE.bind h fun ds μ1 vs H1 π1 e1 g1 s1 r1 h1 => hw π1 ρ μ1 σ H1 _ s1 (g1.loc sl) (GE.bind h1 fun es μ2 zs H2 π2 e2 g2 s2 r2 h2 pins s us ws I1 rv rz => run_ok (hc π2 μ2 σ H2 Q pins s us ws vs zs ds es I1 rv rz s2 (g2.repL r1) r2 h2))) pos pins s I) fun us s1 z => ?_) hpl he
  obtain ⟨vs, H1, I1, rv, q⟩ := z
  refine thn (q pos pins s1 I1) fun ws s2 z => ?_
  obtain ⟨zs, H2, I2, rz, q2⟩ := z
  refine ⟨I2.kIn, ?_⟩
  rw [hks]
  exact q2 pins s2 us ws I2 rv rz
theorem SE.callK0 {ks : List Str} {F : List D → List D → Store → Out D} (hc : CalleeK X W f ks F) (hg : Gl X x) (hm : X.mg x = some f) (hk : PySem.W.keepIn X.K f = true) (hw : SK X W kws mk)
    (hall : (backToKw pos (keywordEach kws X.env)).all (·.1.isSome) = true := by rfl) (hks : (backToKw pos (keywordEach kws X.env)).filterMap (·.1) = ks := by rfl) (hdb : (x == ("__debug__" : Str)) = false := by decide)
    (hpl : ((backTo pos (starEach [] X.env)).any (·.1) || (backToKw pos (keywordEach kws X.env)).any (·.1.isNone)) = false := by rfl) : SE X W (.Call (.Name x p) [] kws pos) (mCallK F maNil mk) := by
  intro π ρ μ σ H Q sm sl h pins s I
  refine wpAny_Call_Name_kw (ld_glob I hg hm ?_ hdb)
  refine PySem.W.callWith_KW0 (h₀ := X.base) I.ok.mod.kin hk hall (thn (hw π ρ μ σ H (fun zs H2 => ∀ pins s ws, Inv X pins σ H2 s → Vals zs ws → wpAny (model X.prog X.w) X.A (PySem.call f [] (ks.zip ws)) (EP X pins σ Q) X.xe s) sm sl
    (GE.bind h fun es μ2 zs H2 π2 e2 g2 s2 r2 h2 pins s ws I1 rz => run_ok (hc π2 μ2 σ H2 Q pins s [] ws [] zs [] es I1 .nil rz s2 RepL.nil r2 h2)) pos pins s I) fun ws s1 z => ?_) hpl
  obtain ⟨zs, H1, I1, rz, q⟩ := z
  refine ⟨I1.kIn, ?_⟩
  rw [hks]
  exact q pins s1 ws I1 rz
/-- x(..), x a name of the def that holds a class -/
def mCallL (i : Nat) (c : Str) (F : Fn) (ms : M (List D)) : M D := fun ρ μ => match ρ[i]? with
  | some (some (.cls c')) => if c' = c then (ms ρ μ).bind F else .stuck
  | _ => .stuck
theorem SE.callL (i : Nat) (cl : Str) (hc : Callee X W (.ref (He.ga X.K cl)) F) (hk : PySem.W.keepIn X.K (.ref (He.ga X.K cl)) = true) (ha : SA X W (a :: es) ms)
    (hN : X.N[i]? = some x := by rfl) (hv : Vis X.env.scope x := by first | exact Or.inl rfl | exact Or.inr (Or.inl rfl) | exact Or.inr (Or.inr rfl)) (hd : (x == ("__debug__" : Str)) = false := by decide)
    (hcd : (x == ("__classdict__" : Str)) = false := by decide)
    (he : starEach (a :: es) X.env = (false, eval a X.env) :: starEach es X.env := by rfl) (hpl : (backTo pos (starEach es X.env)).any (·.1) = false := by rfl) : SE X W (.Call (.Name x p) (a :: es) [] pos) (mCallL i cl F ms) := by
  intro π ρ μ σ H Q sm sl h pins s I
  unfold mCallL at h
  split at h
  · rename_i c' ec
    by_cases hcc : c' = cl
    · subst hcc
      rw [if_pos rfl] at h
      obtain ⟨v, e1, e2⟩ := sl.loc i _ ec
      have ev : v = .ref (He.ga X.K c') := by unfold Rp Rep at e2; exact e2
      subst ev
      refine wpAny_Call_Name_kw (thn ((pe_var hN hv hd hcd).run pins s σ H (fun v' H' => v' = .ref (He.ga X.K c') ∧ H' = H) I ⟨_, e1, rfl, rfl⟩) fun u s0 z => ?_)
      obtain ⟨v', H', I0, rv', ev', eH⟩ := z
      subst ev'
      subst eH
      obtain rfl : u = Value.ref (He.ga X.K c') := rv'
      refine PySem.W.callWith_K (h₀ := X.base) I0.ok.mod.kin hk (thn (ha π ρ μ σ H' (fun vs H1 => ∀ pins s us, Inv X pins σ H1 s → Vals vs us → wpAny (model X.prog X.w) X.A (PySem.call (.ref (He.ga X.K c')) us) (EP X pins σ Q) X.xe s) sm sl
        (GE.bind h fun ds μ1 vs H1 π1 e1 g1 s1 r1 h1 pins s us I1 rv => run_ok (hc π1 μ1 σ H1 Q pins s us vs ds I1 rv s1 r1 h1)) pos pins s0 I0) fun us s1 z => ?_) he hpl
      obtain ⟨vs, H1, I1, rv, q⟩ := z
      exact ⟨I1.kIn, q pins s1 us I1 rv⟩
    · rw [if_neg hcc] at h; exact h.elim
  · exact h.elim
end
end Rv
set_option Elab.async false
set_option linter.all false
set_option maxRecDepth 100000
set_option maxHeartbeats 4000000
/-! Rv6: fields, properties, methods, isinstance, built-in functions, methods of texts. -/
namespace Rv
open PySem PySem.Spec L2
open PyProof.Rows hiding St

section
variable {X : Cx} {W : WX} {e a b c o : Expr} {es rest : List Expr} {m n : M D} {ms mk : M (List D)} {pos p p1 apos cpos : Pos} {x f : Str} {F : Fn} {cl : Str}

/-! ### instances: what is seen of them -/
/-- the class and the fields of an instance -/
def asI (μ : Store) : D → Option (Str × List Str × List D)
  | .obj c ns ds => some (c, ns, ds)
  | .ref k => match μ[k]? with
    | some (.ins c ns ds) => some (c, ns, ds)
    | _ => none
  | _ => none
theorem asI_view {K : PySem.W.Frag} {π : List Addr} {μ : Store} {H : Hp} {d : D} {v : V} {c : Str} {ns : List Str} {ds : List D} (s : SimM K π μ H) (r : Rp K π H d v) (h : asI μ d = some (c, ns, ds)) :
    ∃ a dx fs, v = .ref a ∧ H a = some (.ins (He.ga K c) dx fs) ∧ fs.map (·.1) = ns ∧ RpL K π H ds (fs.map (·.2)) := by
  unfold asI at h
  split at h
  · cases h
    unfold Rp Rep at r
    obtain ⟨a, dx, fs, h1, h2, h3, h4⟩ := r
    exact ⟨a, dx, fs, h1, (off_some h2).2, h3, h4⟩
  · split at h
    · rename_i e
      cases h
      unfold Rp Rep at r
      obtain ⟨a, h1, h2⟩ := r
      obtain ⟨dx, fs, h3, h4, h5⟩ := s.obj _ a _ h1 e
      exact ⟨a, dx, fs, h2, h3, h4, h5⟩
    · cases h
  · cases h
/-- a field by its name -/
def fget (f : Str) : List Str → List D → Option D
  | n :: ns, d :: ds => if f = n then some d else fget f ns ds
  | _, _ => none
theorem fget_rep {K : PySem.W.Frag} {H : Hp} {π : List Addr} {f : Str} : ∀ {fs : List (Str × V)} {ds : List D} {d : D}, RepL K H π ds (fs.map (·.2)) → fget f (fs.map (·.1)) ds = some d → ∃ v, fs.lookup f = some v ∧ Rep K H π d v
  | [], ds, d, r, h => by cases ds <;> simp [fget] at h
  | (g, w) :: fs, [], d, r, h => by simp [fget] at h
  | (g, w) :: fs, e :: ds, d, r, h => by
    obtain ⟨v, t, h1, h2, h3⟩ := r.uncons
    simp only [List.map_cons, List.cons.injEq] at h1
    obtain ⟨rfl, rfl⟩ := h1
    simp only [List.map_cons, fget] at h
    by_cases q : f = g
    · rw [if_pos q] at h
      cases h
      subst q
      exact ⟨w, by simp [List.lookup], h2⟩
    · rw [if_neg q] at h
      obtain ⟨u, k1, k2⟩ := fget_rep h3 h
      refine ⟨u, ?_, k2⟩
      have q' : (f == g) = false := by simpa using q
      simp only [List.lookup, q', k1]
theorem lookup_no {f : Str} : ∀ {fs : List (Str × V)}, f ∉ fs.map (·.1) → fs.lookup f = none
  | [], _ => rfl
  | (g, w) :: fs, h => by
    simp only [List.map_cons, List.mem_cons, not_or] at h
    have q' : (f == g) = false := by simpa using h.1
    simp only [List.lookup, q', lookup_no h.2]
def dFld (cl f : Str) (d : D) (μ : Store) : Out D := match asI μ d with
  | some (c, ns, ds) => if c = cl then (match fget f ns ds with
    | some d => .ok d μ
    | none => .stuck) else .stuck
  | none => .stuck
theorem SE.fld (cl : Str) (hc : Cls X.K (He.ga X.K cl)) (hn : NoAttr X.K (He.ga X.K cl) f) (ha : SE X W a m) (hb : attributeBase a f X.env (eval a X.env) = eval a X.env := by rfl) : SE X W (.Attribute a f pos) (m1 (dFld cl f) m) := fun π ρ μ σ H Q sm sl h => by
  refine WE.of (pe_fld pe_we hb) (ha π ρ μ σ H _ sm sl (GE.bind h fun d μ1 x H1 π1 e1 g1 s1 r1 h1 => ?_))
  unfold dFld at h1
  cases q : asI μ1 d with
  | none => rw [q] at h1; exact h1.elim
  | some t =>
    obtain ⟨c, ns, ds⟩ := t
    rw [q] at h1
    dsimp only at h1
    by_cases hcc : c = cl
    · rw [if_pos hcc] at h1
      subst hcc
      obtain ⟨p, dx, fs, rfl, k1, k2, k3⟩ := asI_view s1 r1 q
      cases q2 : fget f ns ds with
      | none => rw [q2] at h1; exact h1.elim
      | some d2 =>
        rw [q2] at h1
        rw [← k2] at q2
        obtain ⟨v, l1, l2⟩ := fget_rep k3 q2
        exact ⟨p, _, dx, fs, v, rfl, k1, hc, hn, l1, h1 v H1 π1 Gr.refl s1 l2⟩
    · rw [if_neg hcc] at h1; exact h1.elim

/-! ### a property: its getter raises nothing -/
theorem GE.only {α β : Type} {R : List Addr → Hp → α → β → Prop} {π : List Addr} {σ : L2.St} {H : Hp} {Q : β → Hp → Prop} {o : Out α} (h : GE X W R π σ H Q o.only) : ∃ d μ', o = .ok d μ' ∧ ∀ v H' π', Gr π H π' H' → SimM X.K π' μ' H' → R π' H' d v → Q v H' := by
  cases o with
  | ok d μ' => exact ⟨d, μ', rfl, h⟩
  | exc c ns ds μ' => exact h.elim
  | stuck => exact h.elim
theorem spG_only {n : Nat} {F : Fn} {π : List Addr} {μ : Store} {σ : L2.St} {H : Hp} {Q : VK} {ds : List D} {vs : List V} (s : SimM X.K π μ H) (r : RpL X.K π H ds vs) (hn : ds.length = n) (h : GE X W (Rp X.K) π σ H Q (F ds μ).only) :
    spG X.K n F vs H Q (fun _ _ _ => False) := by
  obtain ⟨d, μ', e, q⟩ := GE.only h
  exact ⟨π, μ, ds, hn, s, r, by rw [e]; exact q⟩
/-- an end of a call that raises nothing -/
theorem back_0 {σ : L2.St} {H : Hp} {Q : VK} {pins : List (Addr × Obj)} {s s' : Shared} {r : Result} (I : Inv X pins σ H s) (hq : CR (L2.CX X.prog X.w) X.stack X.prog X.w H s Q (fun _ _ _ => False) r s') : ∃ u, r = .ok (.ret u) ∧ EP X pins σ Q u s' := by
  cases r with
  | error e =>
    obtain ⟨_, _, _, _, _, _, _, _, _, _, _, _, z⟩ := hq
    exact z.elim
  | ok fl => cases fl with
    | ret u => exact ⟨u, rfl, I.after hq⟩
    | _ => exact hq.elim
def dProp (cl : Str) (F : Fn) (d : D) (μ : Store) : Out D := match asI μ d with
  | some (c, _, _) => if c = cl then (F [d] μ).only else .stuck
  | none => .stuck
theorem SE.prop {k : Nat} {pa g : Addr} {fd : FuncData} {ps : List Str} (cl : Str) (hc : Cls X.K (He.ga X.K cl)) (hp : PropOf X.K (He.ga X.K cl) f pa g) (hF : FnQ X.prog X.w X.K X.mg X.base k g fd ps F) (hr : RoomQ (k + 1) X.A) (hb : Binds X.K fd ps []) (hl : ps.length = 1)
    (ha : SE X W a m) (hab : attributeBase a f X.env (eval a X.env) = eval a X.env := by rfl) : SE X W (.Attribute a f pos) (m1 (dProp cl F) m) := fun π ρ μ σ H Q sm sl h pins s I => by
  refine attr_of hab (thn (ha π ρ μ σ H (fun x H1 => ∀ pins s u, Inv X pins σ H1 s → RelV x u → wpAny (model X.prog X.w) X.A (getAttr u f true) (EP X pins σ Q) X.xe s) sm sl (GE.bind h fun d μ1 x H1 π1 e1 g1 s1 r1 h1 pins s u I1 rx => ?_) pins s I) fun u s1 z => ?_)
  · unfold dProp at h1
    cases q : asI μ1 d with
    | none => rw [q] at h1; exact h1.elim
    | some t =>
      obtain ⟨c, ns, ds⟩ := t
      rw [q] at h1
      dsimp only at h1
      by_cases hcc : c = cl
      · rw [if_pos hcc] at h1
        subst hcc
        have r1' := r1
        obtain ⟨pp, dx, fs, rfl, k1, k2, k3⟩ := asI_view s1 r1 q
        obtain rfl : u = Value.ref pp := rx
        obtain ⟨mA, Ob, _, _, _, _⟩ := ins_get I1.hok k1
        obtain ⟨od, J, _⟩ := Ob.look
        obtain ⟨rest, hrec⟩ := hp.rec_
        have I2 := I1.tok (s.toks + 1)
        have hc' : (PySem.W.clsIn X.K (He.ga X.K c)).isSome = true := by
          obtain ⟨cd, hc2, _⟩ := PySem.W.any_some hc.hd
          rw [hc2]
          rfl
        refine PySem.W.get_bind I1.kIn J (PySem.W.plainGet_of (hc.get f)).1 (PySem.W.findObj_data hc' hp.at_ hp.get hp.tak) (PySem.W.plainGet_of (hc.get f)).2 (wpAny_call (PySem.W.prop_get (s := { s with toks := s.toks + 1 }) I1.kIn hrec ?_))
        have bd := hb { s with toks := s.toks + 1 } [.ref pp] I2.kIn (by rw [List.append_nil]; exact hl.symm)
        rw [List.append_nil] at bd
        refine codeAny_mono (hF.run X.A.in1 X.stack { s with toks := s.toks + 1 } H1 ⟨[.ref pp], []⟩ [.ref pp] [.ref pp] Q (fun _ _ _ => False) hr.in1 I2.env0.in1 bd (Paired.cons (a := V.ref pp) rfl .nil) (spG_only s1 (RepL.one r1') (by simpa using hl.symm) h1)) fun r s' hq => ?_
        obtain ⟨u, rfl, v, H', I3, rv, q3⟩ := back_0 I2 hq
        show wpAny _ _ (handedOut u) _ _ _
        rw [PySem.W.handedOut_of (handed_of rv)]
        exact wpAny_pure ⟨v, H', I3, rv, q3⟩
      · rw [if_neg hcc] at h1; exact h1.elim
  · obtain ⟨x, H1, I1, rx, q⟩ := z
    exact q pins s1 u I1 rx

/-! ### a method of an own class -/
/-- o.g(..), o an instance of cl -/
def mMeth (cl g : Str) (F : Fn) (m : M D) (ms : M (List D)) : M D := fun ρ μ => (m ρ μ).bind fun d μ1 => match asI μ1 d with
  | some (c, ns, _) => if c = cl ∧ g ∉ ns then (ms ρ μ1).bind fun ds μ2 => F (d :: ds) μ2 else .stuck
  | none => .stuck
theorem SE.meth {g : Str} {fa : Addr} {pl : Sem Bool} (cl : Str) (hc : Cls X.K (He.ga X.K cl)) (hm : Meth X.K (He.ga X.K cl) g fa) (hF : Callee X W (.ref fa) F) (ha : SE X W o m) (hs : SA X W (a :: es) ms)
    (hst : starEach (a :: es) X.env = (false, eval a X.env) :: starEach es X.env := by rfl) (hpl : (backTo pos (starEach es X.env)).any (·.1) = false := by rfl)
    (ht : eval (.Call (.Attribute o g apos) (a :: es) [] pos) X.env = (do
      let ov ← eval o X.env
      standAt apos.atName
      let (f, first) ← holding [ov] (getMethod ov g pl)
      callWith pos f first (backTo pos (starEach (a :: es) X.env)) (backToKw pos (keywordEach [] X.env))) := by rfl) : SE X W (.Call (.Attribute o g apos) (a :: es) [] pos) (mMeth cl g F m ms) := fun π ρ μ σ H Q sm sl h pins s I => by
  refine PySem.W.methodCall_KW (pl := pl) (thn (ha π ρ μ σ H (fun x H1 => ∃ pp dx fs, x = .ref pp ∧ H1 pp = some (.ins (He.ga X.K cl) dx fs) ∧ fs.lookup g = none ∧ WA X (a :: es) σ H1 fun vs H2 => ∀ pins s us, Inv X pins σ H2 s → Vals vs us → wpAny (model X.prog X.w) X.A (PySem.call (.ref fa) (.ref pp :: us)) (EP X pins σ Q) X.xe s) sm sl (GE.bind h fun d μ1 x H1 π1 e1 g1 s1 r1 h1 => ?_) pins s I) fun u s1 z => ?_) ht
  · cases q : asI μ1 d with
    | none => rw [q] at h1; exact h1.elim
    | some t =>
      obtain ⟨c, ns, ds⟩ := t
      rw [q] at h1
      dsimp only at h1
      by_cases hcc : c = cl ∧ g ∉ ns
      · rw [if_pos hcc] at h1
        obtain ⟨rfl, hno⟩ := hcc
        have r1' := r1
        obtain ⟨pp, dx, fs, rfl, k1, k2, k3⟩ := asI_view s1 r1 q
        refine ⟨pp, dx, fs, rfl, k1, lookup_no (by rw [k2]; exact hno), ?_⟩
        refine hs π1 ρ μ1 σ H1 _ s1 (g1.loc sl) (GE.bind h1 fun ds μ2 vs H2 π2 e2 g2 s2 r2 h2 pins s us I2 rv => ?_)
        exact run_ok (hF π2 μ2 σ H2 Q pins s (.ref pp :: us) (.ref pp :: vs) (d :: ds) I2 (Paired.cons (a := V.ref pp) rfl rv) s2 (.cons (g2.rep r1') r2) h2)
      · rw [if_neg hcc] at h1; exact h1.elim
  · obtain ⟨x, H1, I1, rx, pp, dx, fs, rfl, k1, l, q⟩ := z
    obtain rfl : u = Value.ref pp := rx
    refine getmeth_ok I1 k1 hc hm l ?_
    refine PySem.W.callWith_K (first := [.ref pp]) (h₀ := X.base) I.ok.mod.kin hm.kp (thn (q pos pins s1 I1) fun us s2 z => ?_) hst hpl
    obtain ⟨vs, H2, I2, rv, q2⟩ := z
    exact ⟨I2.kIn, q2 pins s2 us I2 rv⟩
/-- Cl.g(..), g a classmethod -/
def mCMeth (cl : Str) (F : Fn) (ms : M (List D)) : M D := fun ρ μ => (ms ρ μ).bind fun ds μ2 => F (.cls cl :: ds) μ2
theorem SE.cmeth {g : Str} {pa fa : Addr} {mc : Value} {pl : Sem Bool} (hg : Gl X cl) (hm : X.mg cl = some (.ref (He.ga X.K cl))) (r : ClX.CRead X.K (He.ga X.K cl) mc) (cm : ClX.CMet X.K (He.ga X.K cl) mc g pa fa) (hF : Callee X W (.ref fa) F) (hs : SA X W (a :: es) ms)
    (hdb : (cl == ("__debug__" : Str)) = false := by decide)
    (hst : starEach (a :: es) X.env = (false, eval a X.env) :: starEach es X.env := by rfl) (hpl : (backTo pos (starEach es X.env)).any (·.1) = false := by rfl)
    (ht : eval (.Call (.Attribute (.Name cl p) g apos) (a :: es) [] pos) X.env = (do
      let ov ← eval (.Name cl p) X.env
      standAt apos.atName
      let (f, first) ← holding [ov] (getMethod ov g pl)
      callWith pos f first (backTo pos (starEach (a :: es) X.env)) (backToKw pos (keywordEach [] X.env))) := by rfl) : SE X W (.Call (.Attribute (.Name cl p) g apos) (a :: es) [] pos) (mCMeth cl F ms) := fun π ρ μ σ H Q sm sl h pins s I => by
  refine PySem.W.methodCall_KW (pl := pl) (ld_glob I hg hm ?_ hdb) ht
  refine ClX.getmethcm_ok I r cm fun s2 I2 => ?_
  refine ClX.callwith_cm I2 (ClX.base_none I (Nat.le_refl _)) cm.fi (thn (hs π ρ μ σ H (fun vs H2 => ∀ pins s us, Inv X pins σ H2 s → Vals vs us → codeAny (model X.prog X.w) X.A (.call (.ref fa) ⟨.ref (He.ga X.K cl) :: us, []⟩) (RP X pins σ Q) s) sm sl
    (GE.bind h fun ds μ2 vs H2 π2 e2 g2 s2 r2 h2 pins s us I2 rv => hF π2 μ2 σ H2 Q pins s (.ref (He.ga X.K cl) :: us) (.ref (He.ga X.K cl) :: vs) (.cls cl :: ds) I2 (Paired.cons (a := V.ref (He.ga X.K cl)) rfl rv) s2 (.cons (by unfold Rep; rfl) r2) h2) pos _ s2 I2) fun us s3 z => ?_) hst hpl
  obtain ⟨vs, H2, I3, rv, q2⟩ := z
  refine ⟨⟨ClX.pin_at I3, I3.kIn⟩, ?_⟩
  exact thn (run_ok (PySem.W.method_call (ClX.pin_at I3) (q2 _ s3 us I3 rv))) fun _ _ y => ClX.unpinE y
end
end Rv
set_option Elab.async false
set_option linter.all false
set_option maxRecDepth 100000
set_option maxHeartbeats 4000000
/-! Rv7: isinstance, built-in functions, methods of texts, f-strings, lists joined and repeated. -/
namespace Rv
open PySem PySem.Spec L2
open PyProof.Rows hiding St

section
variable {X : Cx} {W : WX} {e a b c o : Expr} {es rest : List Expr} {m n : M D} {ms mk : M (List D)} {pos p p1 apos cpos : Pos} {x f : Str} {F : Fn} {cl : Str}

/-! ### built-in functions -/
/-- called with what stands for ds, the built-in f does what F says (it raises nothing) -/
def CallD (X : Cx) (W : WX) (f : Value) (F : Fn) : Prop := ∀ (π : List Addr) (μ : Store) (σ : L2.St) (H : Hp) (Q : VK) (ds : List D) (vs : List V), SimM X.K π μ H → RpL X.K π H ds vs → GE X W (Rp X.K) π σ H Q (F ds μ).only →
  ∀ (σ' : L2.St) (pins : List (Addr × Obj)) (s : Shared) (us : List Value), Inv X pins σ' H s → Vals vs us → wpAny (model X.prog X.w) X.A (PySem.call f us) (EP X pins σ' Q) X.xe s
def rCD (X : Cx) (f : Value) : List V → Hp → VK → Prop := fun vs H Q => ∀ (σ' : L2.St) (pins : List (Addr × Obj)) (s : Shared) (us : List Value), Inv X pins σ' H s → Vals vs us → wpAny (model X.prog X.w) X.A (PySem.call f us) (EP X pins σ' Q) X.xe s
theorem rCD_r {f : Value} : CallR X f (rCD X f) := fun pins s σ H vs us Q I r h => h σ pins s us I r
def mCallB (F : Fn) (ms : M (List D)) : M D := fun ρ μ => (ms ρ μ).bind fun ds μ1 => (F ds μ1).only
theorem SE.callB {id : String} (hc : CallD X W (.builtin id) F) (hg : Gl X x) (hm : X.mg x = none) (hv : bootBuiltins x = some (.builtin id)) (ha : SA X W (a :: es) ms) (hn : x ≠ "__name__" := by decide) (hdb : (x == ("__debug__" : Str)) = false := by decide)
    (he : starEach (a :: es) X.env = (false, eval a X.env) :: starEach es X.env := by rfl) (hpl : (backTo pos (starEach es X.env)).any (·.1) = false := by rfl) : SE X W (.Call (.Name x p) (a :: es) [] pos) (mCallB F ms) := fun π ρ μ σ H Q sm sl g =>
  WE.of (pe_callB rCD_r hg hm hv pa_wa hn hdb he hpl) (ha π ρ μ σ H _ sm sl (GE.bind g fun ds μ1 vs H1 π1 e1 g1 s1 r1 h1 => hc π1 μ1 σ H1 Q ds vs s1 r1 h1))
theorem SE.callTy {T : String} (hc : CallD X W (.type T) F) (hg : Gl X x) (hm : X.mg x = none) (hv : bootBuiltins x = some (.type T)) (ha : SA X W (a :: es) ms) (hn : x ≠ "__name__" := by decide) (hdb : (x == ("__debug__" : Str)) = false := by decide)
    (he : starEach (a :: es) X.env = (false, eval a X.env) :: starEach es X.env := by rfl) (hpl : (backTo pos (starEach es X.env)).any (·.1) = false := by rfl) : SE X W (.Call (.Name x p) (a :: es) [] pos) (mCallB F ms) := fun π ρ μ σ H Q sm sl g =>
  WE.of (pe_callTy rCD_r hg hm hv pa_wa hn hdb he hpl) (ha π ρ μ σ H _ sm sl (GE.bind g fun ds μ1 vs H1 π1 e1 g1 s1 r1 h1 => hc π1 μ1 σ H1 Q ds vs s1 r1 h1))
/-- from a rule by values -/
theorem CallD.of {f : Value} {r : List V → Hp → VK → Prop} (hr : CallR X f r) (h : ∀ (π : List Addr) (μ : Store) (H : Hp) (Q : VK) (ds : List D) (vs : List V) (d : D) (μ' : Store), SimM X.K π μ H → RpL X.K π H ds vs → F ds μ = .ok d μ' → (∀ v H' π', Gr π H π' H' → SimM X.K π' μ' H' → Rp X.K π' H' d v → Q v H') → r vs H Q) : CallD X W f F := by
  intro π μ σ H Q ds vs sm rl g σ' pins s us I rv
  obtain ⟨d, μ', e, q⟩ := GE.only g
  exact hr pins s σ' H vs us Q I rv (h π μ H Q ds vs d μ' sm rl e q)
theorem repL1 {K : PySem.W.Frag} {H : Hp} {π : List Addr} {d : D} {vs : List V} (r : RepL K H π [d] vs) : ∃ v, vs = [v] ∧ Rep K H π d v := by
  obtain ⟨v, t, rfl, h1, h2⟩ := r.uncons
  unfold RepL at h2
  subst h2
  exact ⟨v, rfl, h1⟩
theorem repL2 {K : PySem.W.Frag} {H : Hp} {π : List Addr} {d d2 : D} {vs : List V} (r : RepL K H π [d, d2] vs) : ∃ v w, vs = [v, w] ∧ Rep K H π d v ∧ Rep K H π d2 w := by
  obtain ⟨v, t, rfl, h1, h2⟩ := r.uncons
  obtain ⟨w, rfl, h3⟩ := repL1 h2
  exact ⟨v, w, rfl, h1, h3⟩
/-- len -/
def lenB (μ : Store) : D → Option Nat
  | .str s => if s.length ≤ maxL then some s.length else none
  | .scr ns => some ns.length
  | d => (asQ μ d).map List.length
def fLen : Fn := fun ds μ => match ds with
  | [d] => (match lenB μ d with
    | some n => .ok (.int n) μ
    | none => .stuck)
  | _ => .stuck
def rLenC (K : PySem.W.Frag) : List V → Hp → VK → Prop := fun xs H Q => ∃ a ns, xs = [V.ref a] ∧ ScrAt K H a ns ∧ Q (.int (ns.length : Nat)) H
theorem call_lenC : CallR X (.builtin "len") (rLenC X.K) := by
  intro pins s σ H xs us Q I r h
  obtain ⟨a, ns, rfl, hq, q⟩ := h
  exact scr_ep I hq (fun h1 => call_len pins s σ H _ us Q I r ⟨_, _, rfl, .inl ⟨_, h1, (List.length_map _).symm⟩, q⟩) fun H2 h1 kb _ I2 => call_len pins s σ H2 _ us _ I2 r ⟨_, _, rfl, .inl ⟨_, h1, (List.length_map _).symm⟩, rfl, by rw [scr_back kb]; exact q⟩
theorem lenB_ok {π : List Addr} {μ : Store} {H : Hp} {d : D} {v : V} {n : Nat} (s : SimM X.K π μ H) (r : Rp X.K π H d v) (h : lenB μ d = some n) : LenV X.K v H n ∨ ∃ a ns, v = .ref a ∧ ScrAt X.K H a ns ∧ n = ns.length := by
  unfold lenB at h
  split at h
  · rename_i s1
    cases rep_str r
    by_cases hl : s1.length ≤ maxL
    · rw [if_pos hl] at h
      cases h
      exact .inl ⟨by rw [toS_length, sizeLine_eq]; exact hl, (toS_length _).symm⟩
    · rw [if_neg hl] at h; cases h
  · cases h
    obtain ⟨a, rfl, hq⟩ := rep_scr r
    exact .inr ⟨a, _, rfl, hq, rfl⟩
  · obtain ⟨ds, h1, h2⟩ := Option.map_eq_some_iff.mp h
    obtain ⟨p, vs, rfl, hp, rp⟩ := asQ_view s r h1
    rcases hp with hp | hp
    · exact .inl (.inl ⟨vs, hp, by rw [rp.length, h2]⟩)
    · exact .inl (.inr ⟨vs, hp, by rw [rp.length, h2]⟩)
theorem cd_len : CallD X W (.builtin "len") fLen := .of (call_len.or call_lenC) fun π μ H Q ds vs d μ' sm rl e q => by
  unfold fLen at e
  split at e
  · rename_i d1
    split at e
    · rename_i n en
      cases e
      obtain ⟨v, rfl, rv⟩ := repL1 rl
      rcases lenB_ok sm rv en with h | ⟨a, ns, rfl, hq, rfl⟩
      · exact .inl ⟨v, n, rfl, h, q _ H π Gr.refl sm rfl⟩
      · exact .inr ⟨a, ns, rfl, hq, q _ H π Gr.refl sm rfl⟩
    · cases e
  · cases e
/-- functions of dInts -/
def fI1 (g : Int → Int) : Fn := fun ds μ => match ds with
  | [.int i] => .ok (.int (g i)) μ
  | _ => .stuck
def fI2 (g : Int → Int → Int) : Fn := fun ds μ => match ds with
  | [.int i, .int j] => .ok (.int (g i j)) μ
  | _ => .stuck
def fAbs : Fn := fI1 fun i => if i < 0 then -i else i
def fMax2 : Fn := fI2 fun i j => if j > i then j else i
def fMin2 : Fn := fI2 fun i j => if j < i then j else i
theorem fI1_ok {g : Int → Int} {ds : List D} {d : D} {μ μ' : Store} (e : fI1 g ds μ = .ok d μ') : ∃ i, ds = [.int i] ∧ d = .int (g i) ∧ μ' = μ := by
  unfold fI1 at e
  split at e
  · cases e; exact ⟨_, rfl, rfl, rfl⟩
  · cases e
theorem fI2_ok {g : Int → Int → Int} {ds : List D} {d : D} {μ μ' : Store} (e : fI2 g ds μ = .ok d μ') : ∃ i j, ds = [.int i, .int j] ∧ d = .int (g i j) ∧ μ' = μ := by
  unfold fI2 at e
  split at e
  · cases e; exact ⟨_, _, rfl, rfl, rfl⟩
  · cases e
theorem cd_abs : CallD X W (.builtin "abs") fAbs := .of call_abs fun π μ H Q ds vs d μ' sm rl e q => by
  obtain ⟨i, rfl, rfl, rfl⟩ := fI1_ok e
  obtain ⟨v, rfl, rv⟩ := repL1 rl
  exact ⟨i, by rw [rep_int rv], q _ H π Gr.refl sm rfl⟩
theorem cd_max2 (hc : X.calm = true) : CallD X W (.builtin "max") fMax2 := .of (call_max2 hc) fun π μ H Q ds vs d μ' sm rl e q => by
  obtain ⟨i, j, rfl, rfl, rfl⟩ := fI2_ok e
  obtain ⟨v, w, rfl, rv, rw'⟩ := repL2 rl
  exact ⟨i, j, by rw [rep_int rv, rep_int rw'], q _ H π Gr.refl sm rfl⟩
theorem cd_min2 (hc : X.calm = true) : CallD X W (.builtin "min") fMin2 := .of (call_min2 hc) fun π μ H Q ds vs d μ' sm rl e q => by
  obtain ⟨i, j, rfl, rfl, rfl⟩ := fI2_ok e
  obtain ⟨v, w, rfl, rv, rw'⟩ := repL2 rl
  exact ⟨i, j, by rw [rep_int rv, rep_int rw'], q _ H π Gr.refl sm rfl⟩
def fInt : Fn := fun ds μ => match ds with
  | [.int i] => .ok (.int i) μ
  | [.bl k] => .ok (.int (if k then 1 else 0)) μ
  | _ => .stuck
theorem cd_int : CallD X W (.type "int") fInt := .of call_int1 fun π μ H Q ds vs d μ' sm rl e q => by
  unfold fInt at e
  split at e
  · cases e
    obtain ⟨v, rfl, rv⟩ := repL1 rl
    exact .inl ⟨_, by rw [rep_int rv], q _ H π Gr.refl sm rfl⟩
  · cases e
    obtain ⟨v, rfl, rv⟩ := repL1 rl
    exact .inr ⟨_, by rw [rep_bl rv], q _ H π Gr.refl sm rfl⟩
  · cases e
def fBool : Fn := fun ds μ => match ds with
  | [.int i] => .ok (.bl (i != 0)) μ
  | [.bl k] => .ok (.bl k) μ
  | _ => .stuck
theorem cd_bool : CallD X W (.type "bool") fBool := .of call_bool1 fun π μ H Q ds vs d μ' sm rl e q => by
  unfold fBool at e
  split at e
  · cases e
    obtain ⟨v, rfl, rv⟩ := repL1 rl
    exact .inl ⟨_, by rw [rep_int rv], q _ H π Gr.refl sm rfl⟩
  · cases e
    obtain ⟨v, rfl, rv⟩ := repL1 rl
    exact .inr ⟨_, by rw [rep_bl rv], q _ H π Gr.refl sm rfl⟩
  · cases e
def fDivmod : Fn := fun ds μ => match ds with
  | [.int i, .int j] => if 0 < j ∧ j < 1073741824 then .ok (.tup [.int (i / j), .int (i % j)]) μ else .stuck
  | _ => .stuck
theorem cd_divmod : CallD X W (.builtin "divmod") fDivmod := .of call_divmod fun π μ H Q ds vs d μ' sm rl e q => by
  unfold fDivmod at e
  split at e
  · rename_i i j
    by_cases c : 0 < j ∧ j < 1073741824
    · rw [if_pos c] at e
      cases e
      obtain ⟨v, w, rfl, rv, rw'⟩ := repL2 rl
      refine ⟨i, j, by rw [rep_int rv, rep_int rw'], c, fun p hp => q _ _ π (Gr.new hp) (sm.new hp) (rp_tup sm hp (.cons (d := .int (i / j)) (v := .int (i / j)) rfl (.cons (d := .int (i % j)) (v := .int (i % j)) rfl .nil)))⟩
    · rw [if_neg c] at e; cases e
  · cases e
/-- tuple(a list | a tuple) -/
def fTuple : Fn := fun ds μ => match ds with
  | [d] => (match asQ μ d with
    | some xs => .ok (.tup xs) μ
    | none => .stuck)
  | _ => .stuck
theorem asQ_cases {μ : Store} {d : D} {xs : List D} (h : asQ μ d = some xs) : d = .tup xs ∨ asL μ d = some xs := by
  unfold asQ at h
  split at h
  · cases h; exact .inl rfl
  · exact .inr h
theorem cd_tuple : CallD X W (.type "tuple") fTuple := .of call_tuple_of fun π μ H Q ds vs d μ' sm rl e q => by
  unfold fTuple at e
  split at e
  · rename_i d1
    split at e
    · rename_i xs ex
      cases e
      obtain ⟨v, rfl, rv⟩ := repL1 rl
      rcases asQ_cases ex with rfl | ex
      · obtain ⟨p, vs, rfl, hp, rp⟩ := asT_view (ds := xs) rv rfl
        exact ⟨p, vs, rfl, .inr ⟨hp, q _ H π Gr.refl sm rv⟩⟩
      · obtain ⟨p, vs, rfl, hp, rp⟩ := asL_view sm rv ex
        exact ⟨p, vs, rfl, .inl ⟨hp, fun l hl => q _ _ π (Gr.new hl) (sm.new hl) (rp_tup sm hl rp)⟩⟩
    · cases e
  · cases e
/-- list(a list | a tuple): a new list that stays as it is | goes on being changed -/
def fList : Fn := fun ds μ => match ds with
  | [d] => (match asQ μ d with
    | some xs => .ok (.lst xs) μ
    | none => .stuck)
  | _ => .stuck
def fListN : Fn := fun ds μ => match ds with
  | [d] => (match asQ μ d with
    | some xs => .ok (.ref μ.length) (μ ++ [.lst xs])
    | none => .stuck)
  | _ => .stuck
theorem rep_newref {π : List Addr} {μ : Store} {H : Hp} {ds : List D} {vs : List V} {p : Addr} (sm : SimM X.K π μ H) (hp : H p = none) (r : RpL X.K π H ds vs) :
    SimM X.K (π ++ [p]) (μ ++ [.lst ds]) (upd H p (.lst vs)) ∧ Gr π H (π ++ [p]) (upd H p (.lst vs)) ∧ Rp X.K (π ++ [p]) (upd H p (.lst vs)) (.ref μ.length) (.ref p) := by
  obtain ⟨s2, g2⟩ := sm.push (m := .lst ds) hp ⟨vs, rfl, r⟩
  refine ⟨s2, g2, ?_⟩
  unfold Rp Rep
  exact ⟨p, by rw [← sm.len]; simp, rfl⟩
theorem cd_list : CallD X W (.type "list") fList := .of call_list_of fun π μ H Q ds vs d μ' sm rl e q => by
  unfold fList at e
  split at e
  · rename_i d1
    split at e
    · rename_i xs ex
      cases e
      obtain ⟨v, rfl, rv⟩ := repL1 rl
      obtain ⟨p, vs, rfl, hp, rp⟩ := asQ_view sm rv ex
      exact ⟨p, vs, rfl, hp, fun l hl => q _ _ π (Gr.new hl) (sm.new hl) (rp_lst sm hl rp)⟩
    · cases e
  · cases e
theorem cd_listN : CallD X W (.type "list") fListN := .of call_list_of fun π μ H Q ds vs d μ' sm rl e q => by
  unfold fListN at e
  split at e
  · rename_i d1
    split at e
    · rename_i xs ex
      cases e
      obtain ⟨v, rfl, rv⟩ := repL1 rl
      obtain ⟨p, vs, rfl, hp, rp⟩ := asQ_view sm rv ex
      refine ⟨p, vs, rfl, hp, fun l hl => ?_⟩
      obtain ⟨z1, z2, z3⟩ := rep_newref sm hl rp
      exact q _ _ _ z2 z1 z3
    · cases e
  · cases e
/-- dBls, dInts, texts -/
def dBls : List D → Option (List Bool)
  | [] => some []
  | .bl b :: r => (dBls r).map (b :: ·)
  | _ => none
def dInts : List D → Option (List Int)
  | [] => some []
  | .int i :: r => (dInts r).map (i :: ·)
  | _ => none
def dStrs : List D → Option (List (List Nat))
  | [] => some []
  | .str s :: r => (dStrs r).map (s :: ·)
  | _ => none
theorem bools_rep {K : PySem.W.Frag} {H : Hp} {π : List Addr} : ∀ {ds : List D} {vs : List V} {bs : List Bool}, RepL K H π ds vs → dBls ds = some bs → vs = bs.map V.bl
  | [], _, _, r, h => by
    unfold RepL at r
    cases h
    exact r
  | d :: ds, _, _, r, h => by
    obtain ⟨v, t, rfl, h1, h2⟩ := r.uncons
    cases d with
    | bl k =>
      obtain ⟨bs, e1, e2⟩ := Option.map_eq_some_iff.mp h
      subst e2
      rw [rep_bl h1, bools_rep h2 e1, List.map_cons]
    | _ => cases h
theorem ints_rep {K : PySem.W.Frag} {H : Hp} {π : List Addr} : ∀ {ds : List D} {vs : List V} {bs : List Int}, RepL K H π ds vs → dInts ds = some bs → vs = bs.map V.int
  | [], _, _, r, h => by
    unfold RepL at r
    cases h
    exact r
  | d :: ds, _, _, r, h => by
    obtain ⟨v, t, rfl, h1, h2⟩ := r.uncons
    cases d with
    | int k =>
      obtain ⟨bs, e1, e2⟩ := Option.map_eq_some_iff.mp h
      subst e2
      rw [rep_int h1, ints_rep h2 e1, List.map_cons]
    | _ => cases h
theorem strs_rep {K : PySem.W.Frag} {H : Hp} {π : List Addr} : ∀ {ds : List D} {vs : List V} {bs : List (List Nat)}, RepL K H π ds vs → dStrs ds = some bs → vs = (bs.map toS).map V.str
  | [], _, _, r, h => by
    unfold RepL at r
    cases h
    exact r
  | d :: ds, _, _, r, h => by
    obtain ⟨v, t, rfl, h1, h2⟩ := r.uncons
    cases d with
    | str k =>
      obtain ⟨bs, e1, e2⟩ := Option.map_eq_some_iff.mp h
      subst e2
      rw [rep_str h1, strs_rep h2 e1, List.map_cons, List.map_cons]
    | _ => cases h
theorem rep_strs {K : PySem.W.Frag} {H : Hp} {π : List Addr} : ∀ ns : List (List Nat), RepL K H π (ns.map D.str) ((ns.map toS).map V.str)
  | [] => .nil
  | n :: ns => by
    rw [List.map_cons, List.map_cons, List.map_cons]
    exact .cons (by unfold Rep; rfl) (rep_strs ns)
def fL (g : List D → Option D) : Fn := fun ds μ => match ds with
  | [d] => (match (asL μ d).bind g with
    | some r => .ok r μ
    | none => .stuck)
  | _ => .stuck
theorem fL_ok {g : List D → Option D} {ds : List D} {d : D} {μ μ' : Store} (e : fL g ds μ = .ok d μ') : ∃ d1 xs, ds = [d1] ∧ asL μ d1 = some xs ∧ g xs = some d ∧ μ' = μ := by
  unfold fL at e
  split at e
  · rename_i d1
    split at e
    · rename_i r er
      cases e
      obtain ⟨xs, e1, e2⟩ := Option.bind_eq_some_iff.mp er
      exact ⟨d1, xs, rfl, e1, e2, rfl⟩
    · cases e
  · cases e
def fAll : Fn := fL fun xs => (dBls xs).map fun bs => .bl (bs.all id)
def fAny : Fn := fL fun xs => (dBls xs).map fun bs => .bl (bs.any id)
def fSum : Fn := fL fun xs => (dInts xs).map fun bs => .int bs.sum
theorem cd_all (hc : X.calm = true) : CallD X W (.builtin "all") fAll := .of (cr_all hc) fun π μ H Q ds vs d μ' sm rl e q => by
  obtain ⟨d1, xs, rfl, e1, e2, rfl⟩ := fL_ok e
  obtain ⟨bs, e3, rfl⟩ := Option.map_eq_some_iff.mp e2
  obtain ⟨v, rfl, rv⟩ := repL1 rl
  obtain ⟨p, vs, rfl, hp, rp⟩ := asL_view sm rv e1
  cases bools_rep rp e3
  exact ⟨p, bs, rfl, hp, q _ H π Gr.refl sm rfl⟩
theorem cd_any (hc : X.calm = true) : CallD X W (.builtin "any") fAny := .of (cr_any hc) fun π μ H Q ds vs d μ' sm rl e q => by
  obtain ⟨d1, xs, rfl, e1, e2, rfl⟩ := fL_ok e
  obtain ⟨bs, e3, rfl⟩ := Option.map_eq_some_iff.mp e2
  obtain ⟨v, rfl, rv⟩ := repL1 rl
  obtain ⟨p, vs, rfl, hp, rp⟩ := asL_view sm rv e1
  cases bools_rep rp e3
  exact ⟨p, bs, rfl, hp, q _ H π Gr.refl sm rfl⟩
theorem cd_sum (hc : X.calm = true) : CallD X W (.builtin "sum") fSum := .of (cr_sum hc) fun π μ H Q ds vs d μ' sm rl e q => by
  obtain ⟨d1, xs, rfl, e1, e2, rfl⟩ := fL_ok e
  obtain ⟨bs, e3, rfl⟩ := Option.map_eq_some_iff.mp e2
  obtain ⟨v, rfl, rv⟩ := repL1 rl
  obtain ⟨p, vs, rfl, hp, rp⟩ := asL_view sm rv e1
  cases ints_rep rp e3
  exact ⟨p, bs, rfl, hp, q _ H π Gr.refl sm rfl⟩
/-- str(i) -/
def fStrI : Fn := fun ds μ => match ds with
  | [.int i] => if i.natAbs.log2 < 1920 then .ok (.str (ofS (toString i))) μ else .stuck
  | _ => .stuck
theorem cd_strI : CallD X W (.type "str") fStrI := .of call_str_int fun π μ H Q ds vs d μ' sm rl e q => by
  unfold fStrI at e
  split at e
  · rename_i i
    by_cases c : i.natAbs.log2 < 1920
    · rw [if_pos c] at e
      cases e
      obtain ⟨v, rfl, rv⟩ := repL1 rl
      exact ⟨i, by rw [rep_int rv], c, q _ H π Gr.refl sm (by unfold Rp Rep; rw [toS_ofS])⟩
    · rw [if_neg c] at e; cases e
  · cases e
end
end Rv
set_option Elab.async false
set_option linter.all false
set_option maxRecDepth 100000
set_option maxHeartbeats 4000000
/-! Rv8: isinstance, repr, methods of texts, f-strings, lists joined and repeated. -/
namespace Rv
open PySem PySem.Spec L2
open PyProof.Rows hiding St

/-! ### isinstance -/
inductive Tg where
  | b (n : String) | c (c : Str)
  deriving DecidableEq
def tgOf (μ : Store) : D → Option Tg
  | .non => some (.b "NoneType")
  | .bl _ => some (.b "bool")
  | .int _ => some (.b "int")
  | .str _ => some (.b "str")
  | .tup _ => some (.b "tuple")
  | .lst _ => some (.b "list")
  | .dct _ _ => some (.b "dict")
  | .obj c _ _ => some (.c c)
  | .ref k => match μ[k]? with
    | some (.lst _) => some (.b "list")
    | some (.dct _ _) => some (.b "dict")
    | some (.ins c _ _) => some (.c c)
    | none => none
  | _ => none
def tgC : D → Option Tg
  | .ty n => some (.b n)
  | .cls c => some (.c c)
  | _ => none
def tgV (K : PySem.W.Frag) : Tg → Value
  | .b n => .type n
  | .c c => .ref (He.ga K c)
/-- what isinstance asks of an own class -/
structure ClsI (K : PySem.W.Frag) (C : Addr) : Prop where
  cl : Cls K C
  ha : PySem.W.findIn K (.ref C) "__class__" = some (some (.builtin "object.__class__"))
  hn : PySem.W.specialIn K (.builtin "object.__class__") "__get__" = some (some (.builtin "getset_descriptor.__get__"))
  htk : PySem.W.takesIn K (.builtin "object.__class__") = some true
  hm : PySem.W.mroIn K C (.type "object") = some true
def clsIB (K : PySem.W.Frag) (x : Str) : Bool := (He.Fa.cls x).ok K && (He.eqO (PySem.W.findIn K (.ref (He.ga K x)) "__class__") (some (some (.builtin "object.__class__"))) && (He.eqO (PySem.W.specialIn K (.builtin "object.__class__") "__get__") (some (some (.builtin "getset_descriptor.__get__"))) &&
  (decide (PySem.W.takesIn K (.builtin "object.__class__") = some true) && decide (PySem.W.mroIn K (He.ga K x) (.type "object") = some true))))
theorem clsIB_ok {K : PySem.W.Frag} {x : Str} (h : clsIB K x = true) : ClsI K (He.ga K x) := by
  obtain ⟨h1, h⟩ := He.ba h
  obtain ⟨h2, h⟩ := He.ba h
  obtain ⟨h3, h⟩ := He.ba h
  obtain ⟨h4, h5⟩ := He.ba h
  exact ⟨He.cls_ok h1, He.eqO_ok h2, He.eqO_ok h3, of_decide_eq_true h4, of_decide_eq_true h5⟩
/-- own classes; who is one of which -/
structure Isi where
  cs : List Str
  tab : List (Tg × Tg × Bool)
def Isi.ok (K : PySem.W.Frag) (T : Isi) : Bool := T.cs.all (clsIB K) && T.tab.all fun e => decide (PySem.W.kitOne K (tgV K e.1) (tgV K e.2.1) = some e.2.2)
def Isi.get (T : Isi) (a b : Tg) : Option Bool := (T.tab.find? fun e => decide (e.1 = a) && decide (e.2.1 = b)).map fun e => e.2.2
def Isi.own (T : Isi) : Tg → Bool
  | .b _ => true
  | .c c => decide (c ∈ T.cs)
def fIsi (T : Isi) : Fn := fun ds μ => match ds with
  | [d, c] => (match tgOf μ d, tgC c with
    | some t, some u => if T.own t then (match T.get t u with
      | some b => .ok (.bl b) μ
      | none => .stuck) else .stuck
    | _, _ => .stuck)
  | _ => .stuck
section
variable {X : Cx} {W : WX} {e a b c o : Expr} {es rest : List Expr} {m n : M D} {ms mk : M (List D)} {pos p p1 apos cpos : Pos} {x f : Str} {F : Fn} {cl : Str}
theorem Isi.get_ok {K : PySem.W.Frag} {T : Isi} (h : T.ok K = true) {t u : Tg} {b : Bool} (e : T.get t u = some b) : PySem.W.kitOne K (tgV K t) (tgV K u) = some b := by
  obtain ⟨h1, h2⟩ := He.ba h
  unfold Isi.get at e
  obtain ⟨z, e1, e2⟩ := Option.map_eq_some_iff.mp e
  have q1 := List.find?_some e1
  have q2 := List.mem_of_find?_eq_some e1
  simp only [Bool.and_eq_true, decide_eq_true_eq] at q1
  have q3 := of_decide_eq_true (List.all_eq_true.mp h2 z q2)
  rw [q1.1, q1.2, e2] at q3
  exact q3
theorem tg_ok {K : PySem.W.Frag} {T : Isi} (h : T.ok K = true) {π : List Addr} {μ : Store} {H : Hp} {d : D} {v : V} {t : Tg} (s : SimM K π μ H) (r : Rp K π H d v) (e : tgOf μ d = some t) (o : T.own t = true) : TyX K H v (tgV K t) := by
  obtain ⟨h1, h2⟩ := He.ba h
  have ow : ∀ {c : Str} {a : Addr} {dx : Addr} {fs : List (Str × V)}, T.own (.c c) = true → H a = some (.ins (He.ga K c) dx fs) → TyX K H (.ref a) (tgV K (.c c)) := fun {c a dx fs} ho hi => by
    have q := clsIB_ok (List.all_eq_true.mp h1 c (of_decide_eq_true ho))
    exact .base (.ins hi q.cl q.ha q.hn q.htk q.hm)
  cases d with
  | non => cases rep_non r; cases e; exact .base .non
  | bl b => cases rep_bl r; cases e; exact .base (.bl b)
  | int i => cases rep_int r; cases e; exact .base (.int i)
  | str z => cases rep_str r; cases e; exact .base (.str _)
  | tup ds =>
    cases e
    obtain ⟨p, vs, rfl, hp, _⟩ := asT_view (ds := ds) r rfl
    rcases hp with (hp | ⟨o, hp⟩) | ⟨o, its, n, q1, q2, _⟩
    · exact .base (.tup hp)
    · exact .fTuple hp
    · exact .kTuple q1 q2
  | lst ds =>
    cases e
    unfold Rp Rep at r
    obtain ⟨p, vs, rfl, hp, _⟩ := r
    exact .base (.lst (off_sub _ _ hp))
  | dct ks ds =>
    cases e
    unfold Rp Rep at r
    obtain ⟨p, kvs, rfl, hp, _⟩ := r
    exact .base (.dK (off_sub _ _ hp))
  | obj c ns ds =>
    cases e
    unfold Rp Rep at r
    obtain ⟨p, dx, fs, rfl, hp, _⟩ := r
    exact ow o (off_some hp).2
  | ref k =>
    unfold tgOf at e
    dsimp only at e
    have r' := r
    unfold Rp Rep at r'
    obtain ⟨a, k1, rfl⟩ := r'
    cases hm : μ[k]? with
    | none => rw [hm] at e; cases e
    | some m =>
      rw [hm] at e
      have q := s.obj k a m k1 hm
      cases m with
      | lst ds => cases e; obtain ⟨vs, q1, _⟩ := q; exact .base (.lst q1)
      | dct ks ds => cases e; obtain ⟨vs, q1, _⟩ := q; exact .base (.dK q1)
      | ins c ns ds => cases e; obtain ⟨dx, fs, q1, _⟩ := q; exact ow o q1
  | cls c => cases e
  | ty n => cases e
  | scr ns => cases e
  | exn c ns ds => cases e
theorem cd_isi {T : Isi} (h : T.ok X.K = true) : CallD X W (.builtin "isinstance") (fIsi T) := .of call_isi fun π μ H Q ds vs d μ' sm rl e q => by
  unfold fIsi at e
  split at e
  · rename_i d1 c1
    split at e
    · rename_i t u e1 e2
      by_cases ho : T.own t = true
      · rw [if_pos ho] at e
        split at e
        · rename_i b eb
          cases e
          obtain ⟨v, w, rfl, rv, rw'⟩ := repL2 rl
          have hc : ClsV w (tgV X.K u) := by
            cases c1 with
            | cls c => cases e2; unfold Rep at rw'; subst rw'; exact .own _
            | ty n => cases e2; unfold Rep at rw'; subst rw'; exact .ty _
            | _ => cases e2
          exact ⟨v, w, _, _, b, rfl, hc, tg_ok h sm rv e1 ho, Isi.get_ok h eb, q _ H π Gr.refl sm rfl⟩
        · cases e
      · rw [if_neg ho] at e; cases e
    · cases e
  · cases e
/-- a built-in type's name -/
theorem SE.bty {T : String} (hg : Gl X x) (hm : X.mg x = none) (hv : bootBuiltins x = some (.type T)) (hn : x ≠ "__name__" := by decide) (hdb : (x == ("__debug__" : Str)) = false := by decide) : SE X W (.Name x pos) (mC (.ty T)) := fun π ρ μ σ H Q sm sl h =>
  fun pins s I => ld_blt I hg hm hv ⟨.ty T, H, I, rfl, h (.ty T) H π Gr.refl sm rfl⟩ hn hdb

/-! ### repr -/
def fRepr : Fn := fun ds μ => match ds with
  | [d] => (match pyd μ d with
    | some p => (match d with
      | .int i => if i.natAbs.log2 < 1920 then .ok (.str (ofS (toString i))) μ else .stuck
      | _ => if (p.showable && !p.hasDict) && (decide (p.shown.length ≤ maxL) && decide (p.depth ≤ 60)) then (match d with
        | .tup _ => .ok (.str (ofS p.shown)) μ
        | .lst _ => .ok (.str (ofS p.shown)) μ
        | .ref _ => .ok (.str (ofS p.shown)) μ
        | _ => .stuck) else .stuck)
    | none => .stuck)
  | _ => .stuck
def isRf : D → Prop
  | .tup _ => True
  | .lst _ => True
  | .ref _ => True
  | _ => False
theorem reprRef {d : D} {π : List Addr} {μ : Store} {H : Hp} {v : V} (sm : SimM X.K π μ H) (r : Rp X.K π H d v) (h : isRf d) : ∃ a, v = .ref a := by
  cases d <;> first | exact h.elim | skip
  all_goals unfold Rp Rep at r
  · obtain ⟨a, _, rfl, _⟩ := r; exact ⟨a, rfl⟩
  · obtain ⟨a, _, rfl, _⟩ := r; exact ⟨a, rfl⟩
  · obtain ⟨a, _, rfl⟩ := r; exact ⟨a, rfl⟩
theorem cd_repr {k : Nat} (hr : RoomQ k X.A) : CallD X W (.builtin "repr") fRepr := by
  intro π μ σ H Q ds vs sm rl g σ' pins s us I rv
  obtain ⟨d, μ', e, q⟩ := GE.only g
  unfold fRepr at e
  split at e
  · rename_i d1
    obtain ⟨v, rfl, r1⟩ := repL1 rl
    split at e
    · rename_i p ep
      split at e
      · rename_i i
        by_cases c : i.natAbs.log2 < 1920
        · rw [if_pos c] at e
          cases e
          exact SkE.call_repr_int pins s σ' H _ us Q I rv ⟨i, by rw [rep_int r1], c, q _ H π Gr.refl sm (by unfold Rp Rep; rw [toS_ofS])⟩
        · rw [if_neg c] at e; cases e
      · rename_i hne
        by_cases c : ((p.showable && !p.hasDict) && (decide (p.shown.length ≤ maxL) && decide (p.depth ≤ 60))) = true
        · rw [if_pos c] at e
          simp only [Bool.and_eq_true, decide_eq_true_eq, Bool.not_eq_true'] at c
          obtain ⟨⟨c1, c2⟩, c3, c4⟩ := c
          have hk : isRf d1 ∧ d = .str (ofS p.shown) ∧ μ' = μ := by
            split at e
            · cases e; exact ⟨trivial, rfl, rfl⟩
            · cases e; exact ⟨trivial, rfl, rfl⟩
            · cases e; exact ⟨trivial, rfl, rfl⟩
            · cases e
          obtain ⟨k1, rfl, rfl⟩ := hk
          obtain ⟨a, rfl⟩ := reprRef sm r1 k1
          obtain ⟨u, rfl, ru⟩ := vals1 rv
          cases (show u = Value.ref a from ru)
          obtain ⟨as, hR⟩ := Dp.reads I p _ _ (dp_of sm r1 ep) ru
          have hu := hr.rm.units
          refine PySem.repr_of_reads' hR c1 (fun z => by rw [c2] at z; cases z) hr.gd (by omega) (fun _ _ h => h) (fun h' u tk hk => ?_) (by rw [sizeLine_eq]; exact c3)
          exact ⟨.str p.shown, H, I.kept hk, ⟨_, rfl⟩, q _ H π Gr.refl sm (by unfold Rp Rep; rw [toS_ofS])⟩
        · rw [if_neg c] at e; cases e
    · cases e
  · cases e

/-! ### methods of texts -/
def isSt : D → Bool
  | .str _ => true
  | _ => false
def dM0 (f : List Nat → Store → Out D) : D → Store → Out D := fun d μ => match d with
  | .str s => f s μ
  | _ => .stuck
/-- a text's method of no argument, of one -/
def mM0 (f : List Nat → Store → Out D) (m : M D) : M D := fun ρ μ => (m ρ μ).bind fun d μ1 => match d with
  | .str s => (f s μ1).only
  | _ => .stuck
def mM1 (f : List Nat → D → Store → Out D) (m n : M D) : M D := fun ρ μ => (m ρ μ).bind fun d μ1 => match d with
  | .str s => (n ρ μ1).bind fun y μ2 => (f s y μ2).only
  | _ => .stuck
/-- the method's rule, by data -/
def MetD1 (X : Cx) (W : WX) (id : String) (f : List Nat → D → Store → Out D) : Prop := ∃ r, MtR X id r ∧ ∀ (π : List Addr) (μ : Store) (H : Hp) (Q : VK) (s : List Nat) (d d' : D) (v : V) (μ' : Store), SimM X.K π μ H → Rp X.K π H d v → f s d μ = .ok d' μ' → (∀ v H' π', Gr π H π' H' → SimM X.K π' μ' H' → Rp X.K π' H' d' v → Q v H') → r (.str (toS s)) [v] H Q
def MetD0 (X : Cx) (W : WX) (id : String) (f : List Nat → Store → Out D) : Prop := ∃ r, MtR X id r ∧ ∀ (π : List Addr) (μ : Store) (H : Hp) (Q : VK) (s : List Nat) (d' : D) (μ' : Store), SimM X.K π μ H → f s μ = .ok d' μ' → (∀ v H' π', Gr π H π' H' → SimM X.K π' μ' H' → Rp X.K π' H' d' v → Q v H') → r (.str (toS s)) [] H Q
theorem SE.m0 {id : String} {name : Str} {f : List Nat → Store → Out D} (h : MetD0 X W id f) (slot : Slot "str" name id) (ty : typeOf (.builtin id) = pure (.type "method_descriptor")) (ho : SE X W o m)
    (hbase : attributeBase o name X.env (eval o X.env) = eval o X.env := by rfl) (hline : (apos.endLine == pos.line) = true := by rfl) : SE X W (.Call (.Attribute o name apos) [] [] pos) (mM0 f m) := fun π ρ μ σ H Q sm sl g => by
  obtain ⟨r, hr, hf⟩ := h
  refine WE.of (pe_m0 slot ty hr pe_we hbase hline) (ho π ρ μ σ H _ sm sl (GE.bind g fun d μ1 x H1 π1 e1 g1 s1 r1 h1 => ?_))
  cases d with
  | str s =>
    cases rep_str r1
    obtain ⟨d', μ', e, q⟩ := GE.only h1
    exact ⟨⟨_, rfl⟩, hf π1 μ1 H1 Q s d' μ' s1 e q⟩
  | _ => exact h1.elim
theorem SE.m1 {id : String} {name : Str} {f : List Nat → D → Store → Out D} (h : MetD1 X W id f) (slot : Slot "str" name id) (ty : typeOf (.builtin id) = pure (.type "method_descriptor")) (ho : SE X W o m) (ha : SE X W a n)
    (hs : starEach [a] X.env = [(false, eval a X.env)] := by rfl) (hbase : attributeBase o name X.env (eval o X.env) = eval o X.env := by rfl) (hline : (apos.endLine == pos.line) = true := by rfl) : SE X W (.Call (.Attribute o name apos) [a] [] pos) (mM1 f m n) := fun π ρ μ σ H Q sm sl g => by
  obtain ⟨r, hr, hf⟩ := h
  refine WE.of (pe_m1 slot ty hr pe_we pe_we hs hbase hline) (ho π ρ μ σ H _ sm sl (GE.bind g fun d μ1 x H1 π1 e1 g1 s1 r1 h1 => ?_))
  cases d with
  | str s =>
    cases rep_str r1
    refine ⟨⟨_, rfl⟩, ha π1 ρ μ1 σ H1 _ s1 (g1.loc sl) (GE.bind h1 fun y μ2 y' H2 π2 e2 g2 s2 r2 h2 => ?_)⟩
    obtain ⟨d', μ', e, q⟩ := GE.only h2
    exact hf π2 μ2 H2 Q s y d' y' μ' s2 r2 e q
  | _ => exact h1.elim
/-- split: S is the separator (its signs below 256) -/
def fSplit (s : List Nat) (d : D) (μ : Store) : Out D := match d with
  | .str (c :: S) => if (c :: S).all (fun n => decide (n < 256)) && decide (s.length + 2 ≤ maxL) then .ok (.lst ((TL.spl (c :: S) 0 [] s).map D.str)) μ else .stuck
  | _ => .stuck
theorem tl_toS (s : List Nat) : TL.tl (toS s) = s := rfl
theorem split_toS {s : List Nat} {c : Nat} {S : List Nat} (h : (c :: S).all (fun n => decide (n < 256)) = true) : Txt.split (toS s) (toS (c :: S)) = (TL.spl (c :: S) 0 [] s).map toS := by
  have hk : (toS (c :: S)).cps.all (· < 256) = true := by
    unfold toS
    simp only [List.all_toArray]
    simpa using h
  have z := TL.split_spl (toS s) (toS (c :: S)) (by rw [tl_toS]; simp) (TL.kind_ok hk)
  rw [tl_toS, tl_toS] at z
  rw [← z, List.map_map]
  symm
  refine (List.map_congr_left fun y _ => ?_).trans (List.map_id _)
  exact toS_ofS y
theorem met_split : MetD1 X W "str.split" fSplit := ⟨_, mt_split, fun π μ H Q s d d' v μ' sm r e q => by
  unfold fSplit at e
  split at e
  · rename_i c S
    by_cases h : ((c :: S).all (fun n => decide (n < 256)) && decide (s.length + 2 ≤ maxL)) = true
    · rw [if_pos h] at e
      simp only [Bool.and_eq_true, decide_eq_true_eq] at h
      cases e
      refine ⟨_, _, rfl, by rw [rep_str r], by rw [toS_length]; rfl, by rw [toS_length, sizeLine_eq]; exact h.2, ?_⟩
      rw [split_toS h.1]
      intro p hp
      exact q _ _ π (Gr.new hp) (sm.new hp) (rp_lst sm hp (by rw [List.map_map]; exact (rep_strs _ : RepL _ _ _ _ _) |> fun z => by simpa [List.map_map] using z))
    · rw [if_neg h] at e; cases e
  · cases e⟩
end
end Rv
set_option Elab.async false
set_option linter.all false
set_option maxRecDepth 100000
set_option maxHeartbeats 4000000
/-! Rv9: join, f-strings, lists joined and repeated, an empty dict. -/
namespace Rv
open PySem PySem.Spec L2
open PyProof.Rows hiding St

section
variable {X : Cx} {W : WX} {e a b c o : Expr} {es rest : List Expr} {m n : M D} {ms mk : M (List D)} {pos p p1 apos cpos : Pos} {x f : Str} {F : Fn} {cl : Str}
/-- sep.join -/
def fJoin (s : List Nat) (d : D) (μ : Store) : Out D := match (asQ μ d).bind dStrs with
  | some ys => if (ys.map List.length).sum + ys.length * s.length ≤ maxL then .ok (.str (TL.joinL s ys)) μ else .stuck
  | none => .stuck
theorem join_toS (s : List Nat) (ys : List (List Nat)) : Txt.join (toS s) (ys.map toS) = toS (TL.joinL s ys) := by
  rw [TL.join_eq]
  have z := TL.tl_join (toS s) (ys.map toS)
  rw [List.map_map, show (TL.tl ∘ toS) = id from funext fun y => tl_toS y, List.map_id, tl_toS] at z
  rw [← z]
  exact (toS_ofS _).symm
theorem met_join : MetD1 X W "str.join" fJoin := ⟨_, mt_join, fun π μ H Q s d d' v μ' sm r e q => by
  unfold fJoin at e
  split at e
  · rename_i ys ey
    by_cases h : (ys.map List.length).sum + ys.length * s.length ≤ maxL
    · rw [if_pos h] at e
      cases e
      obtain ⟨ds, e1, e2⟩ := Option.bind_eq_some_iff.mp ey
      obtain ⟨p, vs, rfl, hp, rp⟩ := asQ_view sm r e1
      have ev := strs_rep rp e2
      subst ev
      refine ⟨_, p, ys.map toS, rfl, rfl, hp, ?_, ?_⟩
      · rw [List.map_map, List.length_map, toS_length, show (Str.length ∘ toS) = List.length from funext fun y => toS_length y]
        exact h
      · rw [join_toS]
        exact q _ H π Gr.refl sm (by unfold Rp Rep; rfl)
    · rw [if_neg h] at e; cases e
  · cases e⟩

/-! ### f-strings -/
def mFmt (m : M D) : M D := fun ρ μ => (m ρ μ).bind fun d μ1 => match d with
  | .str s => if s.length ≤ maxL then .ok (.str s) μ1 else .stuck
  | .int i => if i.natAbs.log2 < 1920 then .ok (.str (ofS (toString i))) μ1 else .stuck
  | _ => .stuck
theorem SE.fmt (ha : SE X W a m) : SE X W (.FormattedValue a (-1) none pos) (mFmt m) := fun π ρ μ σ H Q sm sl g => by
  refine WE.of (pe_fmt pe_we) (ha π ρ μ σ H _ sm sl (GE.bind g fun d μ1 x H1 π1 e1 g1 s1 r1 h1 => ?_))
  cases d with
  | str s =>
    cases rep_str r1
    have h1' : GE X W (Rp X.K) π1 σ H1 Q (if s.length ≤ maxL then .ok (.str s) μ1 else .stuck) := h1
    by_cases hl : s.length ≤ maxL
    · rw [if_pos hl] at h1'
      exact .inl ⟨_, rfl, by rw [toS_length, sizeLine_eq]; exact hl, h1' _ H1 π1 Gr.refl s1 r1⟩
    · rw [if_neg hl] at h1'; exact h1'.elim
  | int i =>
    cases rep_int r1
    have h1' : GE X W (Rp X.K) π1 σ H1 Q (if i.natAbs.log2 < 1920 then .ok (.str (ofS (toString i))) μ1 else .stuck) := h1
    by_cases hl : i.natAbs.log2 < 1920
    · rw [if_pos hl] at h1'
      exact .inr ⟨_, rfl, hl, h1' _ H1 π1 Gr.refl s1 (by unfold Rp Rep; rw [toS_ofS])⟩
    · rw [if_neg hl] at h1'; exact h1'.elim
  | _ => exact h1.elim
inductive SJ (X : Cx) (W : WX) : List Expr → List (M D) → Prop
  | nil : SJ X W [] []
  | cons {a : Expr} {m : M D} {es : List Expr} {l : List (M D)} (h : SE X W a m) (r : SJ X W es l) : SJ X W (a :: es) (m :: l)
def joinGo : List (M D) → List Nat → M D
  | [], acc => fun _ μ => .ok (.str acc) μ
  | m :: l, acc => fun ρ μ => (m ρ μ).bind fun d μ1 => match d with
    | .str s => if acc.length + s.length ≤ maxL then joinGo l (acc ++ s) ρ μ1 else .stuck
    | _ => .stuck
theorem sj_pj : ∀ {es : List Expr} {l : List (M D)}, SJ X W es l → PJ X es (es.map (WE X))
  | _, _, .nil => .nil
  | _, _, .cons h r => .cons pe_we (sj_pj r)
theorem sj_run : ∀ {es : List Expr} {l : List (M D)}, SJ X W es l → ∀ (acc : List Nat) (π : List Addr) (ρ : Env') (μ : Store) (σ : L2.St) (H : Hp) (Q : VK), SimM X.K π μ H → SimL X.K π H ρ σ → GE X W (Rp X.K) π σ H Q (joinGo l acc ρ μ) → tJs (es.map (WE X)) (toS acc) σ H fun out H1 => Q (.str out) H1
  | _, _, .nil, acc, π, ρ, μ, σ, H, Q, sm, sl, g => g _ H π Gr.refl sm (by unfold Rep; rfl)
  | _, _, .cons h r, acc, π, ρ, μ, σ, H, Q, sm, sl, g => by
    refine h π ρ μ σ H _ sm sl (GE.bind (f := fun d μ1 => _) g fun d μ1 x H1 π1 e1 g1 s1 r1 h1 => ?_)
    cases d with
    | str s =>
      cases rep_str r1
      dsimp only at h1
      by_cases hl : acc.length + s.length ≤ maxL
      · rw [if_pos hl] at h1
        refine ⟨_, rfl, by rw [toS_append, toS_length, List.length_append, sizeLine_eq]; exact hl, ?_⟩
        rw [toS_append]
        exact sj_run r _ π1 ρ μ1 σ H1 Q s1 (g1.loc sl) h1
      · rw [if_neg hl] at h1; exact h1.elim
    | _ => exact h1.elim
theorem SE.joined {v1 v2 : Expr} {l : List (M D)} (h : SJ X W (v1 :: v2 :: rest) l) : SE X W (.JoinedStr (v1 :: v2 :: rest) pos) (joinGo l []) := fun π ρ μ σ H Q sm sl g =>
  WE.of (pe_joined (sj_pj h)) (sj_run h [] π ρ μ σ H Q sm sl g)
theorem SE.joined1 (h : SE X W a m) : SE X W (.JoinedStr [a] pos) m := fun π ρ μ σ H Q sm sl g => WE.of (pe_joined1 pe_we) (h π ρ μ σ H Q sm sl g)

/-! ### + and * of lists too -/
def dPlus : D → D → Store → Out D := fun d1 d2 μ => match asL μ d1, asL μ d2 with
  | some s, some t => if s.length + t.length ≤ maxL then .ok (.lst (s ++ t)) μ else .stuck
  | _, _ => dAdd d1 d2 μ
theorem opb_plus : OpB X W (binaryOp .Add) dPlus := by
  intro π μ σ H Q d1 d2 x y s r1 r2 h
  unfold dPlus at h
  split at h
  · rename_i s1 t1 e1 e2
    by_cases hl : s1.length + t1.length ≤ maxL
    · rw [if_pos hl] at h
      obtain ⟨p, vs, rfl, hp, rp⟩ := asL_own s r1 e1
      obtain ⟨q, us, rfl, hq, rq⟩ := asL_own s r2 e2
      exact OpR.vb op_cat ⟨p, q, vs, us, rfl, rfl, hp, hq, by rw [rp.length, rq.length, sizeLine_eq]; exact hl, fun t ht => GE.newL h s (rp.append rq) ht⟩
    · rw [if_neg hl] at h; exact h.elim
  · exact opb_add π μ σ H Q d1 d2 x y s r1 r2 h
/-- .. the new list goes on being changed -/
def dPlusN : D → D → Store → Out D := fun d1 d2 μ => match asL μ d1, asL μ d2 with
  | some s, some t => if s.length + t.length ≤ maxL then .ok (.ref μ.length) (μ ++ [.lst (s ++ t)]) else .stuck
  | _, _ => .stuck
theorem opb_plusN : OpB X W (binaryOp .Add) dPlusN := by
  intro π μ σ H Q d1 d2 x y s r1 r2 h
  unfold dPlusN at h
  split at h
  · rename_i s1 t1 e1 e2
    by_cases hl : s1.length + t1.length ≤ maxL
    · rw [if_pos hl] at h
      obtain ⟨p, vs, rfl, hp, rp⟩ := asL_own s r1 e1
      obtain ⟨q, us, rfl, hq, rq⟩ := asL_own s r2 e2
      refine OpR.vb op_cat ⟨p, q, vs, us, rfl, rfl, hp, hq, by rw [rp.length, rq.length, sizeLine_eq]; exact hl, fun t ht => ?_⟩
      obtain ⟨z1, z2, z3⟩ := rep_newref s ht (rp.append rq)
      exact h _ _ _ z2 z1 z3
    · rw [if_neg hl] at h; exact h.elim
  · exact h.elim
def repD (k : Nat) (ds : List D) : List D := (List.replicate k ds).flatten
theorem repD_rep {K : PySem.W.Frag} {H : Hp} {π : List Addr} {ds : List D} {vs : List V} (r : RepL K H π ds vs) : ∀ k : Nat, RepL K H π (repD k ds) (List.replicate k vs).flatten
  | 0 => .nil
  | k + 1 => by
    unfold repD
    rw [List.replicate_succ, List.replicate_succ, List.flatten_cons, List.flatten_cons]
    exact r.append (repD_rep r k)
def dTimes : D → D → Store → Out D := fun d1 d2 μ => match asL μ d1, d2 with
  | some s, .int k => if -(2 ^ 63) ≤ k ∧ k < 2 ^ 63 ∧ s.length * k.toNat ≤ maxL then .ok (.lst (repD k.toNat s)) μ else .stuck
  | _, _ => dMul d1 d2 μ
theorem opb_times : OpB X W (binaryOp .Mult) dTimes := by
  intro π μ σ H Q d1 d2 x y s r1 r2 h
  unfold dTimes at h
  split at h
  · rename_i s1 k e1
    by_cases hl : -(2 ^ 63) ≤ k ∧ k < 2 ^ 63 ∧ s1.length * k.toNat ≤ maxL
    · rw [if_pos hl] at h
      cases rep_int r2
      obtain ⟨p, vs, rfl, hp, rp⟩ := asL_own s r1 e1
      exact OpR.vb op_rep ⟨p, k, vs, rfl, rfl, hp, hl.1, hl.2.1, by rw [rp.length, sizeLine_eq]; exact hl.2.2, fun t ht => GE.newL h s (repD_rep rp _) ht⟩
    · rw [if_neg hl] at h; exact h.elim
  · exact opb_mul π μ σ H Q _ _ x y s r1 r2 h
/-- {} that stays empty -/
theorem SE.dict0 : SE X W (.Dict [] [] pos) (mC (.dct [] [])) := fun π ρ μ σ H Q sm sl h => by
  refine WE.of pe_dnewK fun p hp => h (.ref p) _ π (Gr.new hp) (sm.new hp) ?_
  unfold Rp Rep
  exact ⟨p, [], rfl, by rw [off_ne (sm.in_ hp), upd_same], rfl, .nil⟩
end
end Rv
set_option Elab.async false
set_option linter.all false
set_option maxRecDepth 100000
set_option maxHeartbeats 4000000
/-! RvE: enumerate over a tuple. -/
namespace RvE
open PySem PySem.Spec PyProof.Rows L2
open AutoSeq1 (wpAny_loadPart')
/-- the iterator of a tuple and the enumerate object over it -/
abbrev litOf (l : Addr) : Obj := { cls := .type "tuple_iterator", data := .fields #[.ref l, .int 0 0] }
abbrev enuOf (i : Addr) : Obj := { cls := .type "enumerate", data := .fields #[.none, .bool false, .ref i, rawInt 0, .none, .none] }
theorem newT (l : Addr) (xs : Array Value) (k : Nat) (dd : Option Addr) (ss : Array (Option Value)) :
    Meets (Builtin.«enumerate.__new__» ⟨[.type "enumerate", .ref l], []⟩) (fun _ R s =>
      s.heap.get? l = some { cls := .type "tuple", dict := dd, data := .seq xs k, slots := ss } ∧ R (.ok (.ret (.ref (s.heap.push (litOf l)).objs.size))) { s with heap := (s.heap.push (litOf l)).push (enuOf s.heap.objs.size) }) :=
  .of_wp fun prog w A R s h => by
    obtain ⟨hp, gs, dr, tk, os⟩ := s
    obtain ⟨e0, h⟩ := h
    have hsub := sub_enumerate
    have isT : Heap.IsTuple (Shared.heap ⟨hp, gs, dr, tk, os⟩) l xs := ⟨_, e0, rfl, k, rfl⟩
    wp_walk using wpAny_loadPart' e0
    refine wpAny_stack_any fun st => wpAny_pure ?_
    split
    · rename_i c _ _ _ _ _
      cases (c == Value.type "enumerate") <;> (wp_walk using wpAny_loadPart' e0, wpAny_pyIter_tuple isT; exact ⟨_, rfl, h⟩)
    · wp_walk using wpAny_loadPart' e0, wpAny_pyIter_tuple isT
      exact ⟨_, rfl, h⟩
theorem callT {P : Program} {w : World} {A : Around} {E : Value → Shared → Prop} {s : Shared} {l : Addr} {xs : Array Value} {Q : Value → Shared → Prop} (hT : s.heap.IsTuple l xs)
    (h : ∀ g, IsEnum g (s.heap.objs.size + 1) s.heap.objs.size 0 .none → g.IsTupleIter s.heap.objs.size l 0 → (∀ b o, s.heap.get? b = some o → g.get? b = some o) → Q (.ref (s.heap.objs.size + 1)) { s with heap := g }) :
    wpAny (model P w) A (call (.type "enumerate") [.ref l]) Q E s := by
  obtain ⟨⟨c, dd, dt, ss⟩, e0, e1, k, e2⟩ := hT
  obtain rfl : c = .type "tuple" := e1
  obtain rfl : dt = .seq xs k := e2
  refine callType_new F.called_enumerate (by decide) (F.typeCall_enumerate_1 _) (F.newCall_enumerate_1 _) (fun ob => F.args_object_init_2 ob _) F.entry_enumerate_new (newT l xs k dd ss) ⟨e0, ?_⟩
  have sz : (s.heap.push (litOf l)).objs.size = s.heap.objs.size + 1 := Heap.size_push ..
  show _ ∧ _
  rw [sz]
  have q : IsEnum ((s.heap.push (litOf l)).push (enuOf s.heap.objs.size)) (s.heap.objs.size + 1) s.heap.objs.size 0 .none := by
    have z := Heap.get?_push_size (s.heap.push (litOf l)) (o := enuOf s.heap.objs.size) rfl
    rw [sz] at z
    exact z
  exact ⟨⟨_, q, rfl⟩, h _ q ⟨_, Heap.get?_push_of_some _ (Heap.get?_push_size _ rfl), rfl, rfl⟩ fun b o x => Heap.get?_push_of_some _ (Heap.get?_push_of_some _ x)⟩
theorem drawsT {P : Program} {w : World} {A : Around} (hh : A.handled = none) (it l : Addr) (ne : l ≠ it) (xs : Array Value) : Draws P w A it [it, l] xs.size (fun i v => xs[i]? = some v) (fun i h => h.IsTupleIter it l i ∧ h.IsTuple l xs) where
  live := fun _ _ st => ⟨_, st.1.choose_spec.1⟩
  frame := fun _ _ _ st k => ⟨st.1.at fun o e => k it (by simp) o e, by
    obtain ⟨ob, e, r⟩ := st.2
    exact ⟨ob, k l (by simp) _ e, r⟩⟩
  item := fun i s Q E hi st hQ => RZ.nextOf_tuple_item st.1 st.2 (x := xs[i]) (by simp [hi]) fun g a b => hQ _ g s.toks (by simp [hi]) ⟨a, by
    obtain ⟨ob, e, r⟩ := st.2
    exact ⟨ob, b.extBut l ob ne e, r⟩⟩ b
  done := fun s Q E st hE => RZ.nextOf_tuple_end hh st.1 st.2 (by simp) hE
/-- the tuple at a, each item in a new pair -/
def ItU (K : PySem.W.Frag) (a : Addr) : It where
  go := fun i H => ∃ (xs : List V) (x : V), SqT K H a xs ∧ xs[i]? = some x
  yld := fun i H v H' => ∃ T x, v = .ref T ∧ H T = none ∧ H' = upd H T (.tup [.int (i : Nat), x]) ∧ ∀ xs, SqT K H a xs → xs[i]? = some x
  stop := fun i H => ∃ xs : List V, SqT K H a xs ∧ xs.length = i
theorem turnU {P : Program} {w : World} {K : PySem.W.Frag} {es : List Expr} {kk : Nat} {tp : Pos} (a e it : Addr) (hai : a ≠ it) (hae : a ≠ e) :
    Turn P w K (.Tuple es kk tp) (ItU K a) [e, it] e (fun i h => (∃ old, IsEnum h e it ((i : Nat) : Int) old) ∧ h.IsTupleIter it a i ∧ e ≠ it) where
  mem := by simp
  obj := fun i h st b hb => by
    obtain ⟨⟨old, q⟩, ⟨o, q1, q2, q3⟩, _⟩ := st
    rcases List.mem_cons.mp hb with z | z
    · subst z; exact ⟨_, q, fun v y => nomatch y⟩
    · rw [List.mem_singleton] at z
      subst z
      exact ⟨o, q1, fun v y => by rw [q3] at y; cases y⟩
  keep := fun i h h' st k => by
    obtain ⟨⟨old, q⟩, r, ne⟩ := st
    exact ⟨⟨old, k e (by simp) _ q⟩, r.at fun o z => k it (by simp) o z, ne⟩
  item := by
    intro X hP hw hK hc i pins s σ H E I hf st hg
    subst hP hw hK
    obtain ⟨⟨old, he⟩, hit, hne⟩ := st
    obtain ⟨xs, x, hq, hx⟩ := hg
    obtain ⟨its, rv, p, hz⟩ := I.tuple hq
    obtain ⟨u, hu, ru⟩ := rv.get hx
    have hi : i < its.toArray.size := by simpa using (List.getElem?_eq_some_iff.mp hu).1
    have lt1 : e < s.heap.objs.size := Heap.lt_size he
    have lt2 : it < s.heap.objs.size := by obtain ⟨_, q, _⟩ := hit; exact Heap.lt_size q
    refine wpAny_pyNext_enum_itemD (drawsT (A := X.A.in1) (I.ok.hd hc) it a hai its.toArray) he ⟨hit, p⟩ hi hne (by simp [hne, Ne.symm hae]) fun x' g tk hx' ho st' hT hsz hk => ?_
    have hx2 : x' = u := by
      have z : its[i]? = some x' := by simpa using hx'
      rw [hu] at z
      exact (Option.some.inj z).symm
    subst hx2
    refine ⟨_, rfl, wpAny_letOwnedTupleGo_enum (s := { s with heap := g, toks := tk + 1 }) ho fun g2 ho2 sb => ?_⟩
    have hT2 : g2.get? s.heap.objs.size = some { cls := .type "tuple", data := .seq #[.int i tk, x'] } := (sb.2 _ (Nat.ne_of_gt lt1)).trans hT
    have fin : ObjOk X.prog X.w (upd H s.heap.objs.size (.tup [.int (i : Nat), x])) g2 s.heap.objs.size (.tup [.int (i : Nat), x]) :=
      ⟨by show 2 ≤ sizeLine; decide, [.int i tk, x'], .cons ⟨_, rfl⟩ (.cons ru .nil), ⟨_, hT2, rfl, _, rfl⟩⟩
    have I1 : Inv X pins σ (upd H s.heap.objs.size (.tup [.int (i : Nat), x])) { s with heap := g2, toks := tk + 1 } :=
      I.turnedNew (ch := [e, it]) (fun b ob nb q => (sb.2 b fun z => nb (z ▸ by simp)).trans (hk b ob (fun z => nb (z ▸ by simp)) (fun z => nb (z ▸ by simp)) q)) hf (Nat.le_refl _) fin
    refine ⟨.ref s.heap.objs.size, _, I1, rfl, ⟨_, x, rfl, I.hok.fresh (Nat.le_refl _), rfl, fun ys hy => ?_⟩, ⟨⟨x', ?_⟩, st'.1.at fun o q => (sb.2 it (Ne.symm hne)).trans q, hne⟩, fun b hb => ?_⟩
    · rw [I.tuple_inj hy hq]; exact hx
    · rw [show ((i + 1 : Nat) : Int) = (i : Int) + 1 by omega]
      exact ho2
    · have lt : b < s.heap.objs.size := by
        rcases List.mem_cons.mp hb with z | z
        · subst z; exact lt1
        · rw [List.mem_singleton] at z
          subst z; exact lt2
      rw [upd_ne (Nat.ne_of_lt lt)]
      exact (hf b hb).1
  done := by
    intro X hP hw hK hc i pins s σ H E I hf st hg
    subst hP hw hK
    obtain ⟨⟨old, he⟩, hit, hne⟩ := st
    obtain ⟨xs, hq, hx⟩ := hg
    obtain ⟨its, rv, p, hz⟩ := I.tuple hq
    obtain ⟨f0, f1, f2, f3, f4, f5⟩ := hf it (by simp)
    have hl : its.toArray.size = i := by
      have := rv.length
      simp only [List.size_toArray]
      omega
    subst hl
    exact wpAny_pyNext_enum_endD (drawsT (A := X.A.in1) (I.ok.hd hc) it a hai its.toArray) he ⟨hit, p⟩ fun g eb => ⟨rfl, I.turned (t' := s.toks) (fun b o hb q => eb b o hb q) f0 f1 f3 f4 f5⟩
  self := fun A i s Q E st h => let ⟨⟨_, q⟩, _⟩ := st; wpAny_pyIter_enum q h
def iEnumT (K : PySem.W.Frag) (ta : TA) : TI := fun σ H R => ta σ H fun vs H1 => ∃ a xs, vs = [.ref a] ∧ SqT K H1 a xs ∧ R (ItU K a) H1
theorem pi_enumT {X : Cx} {e : Expr} {ta : TA} {p pos tp : Pos} {es : List Expr} {kk : Nat} (hg : Gl X "enumerate") (hm : X.mg "enumerate" = none) (ha : PA X [e] ta)
    (hs : starEach [e] X.env = [(false, eval e X.env)] := by rfl) : PI X (.Tuple es kk tp) (.Call (.Name "enumerate" p) [e] [] pos) (iEnumT X.K ta) := by
  refine ⟨fun pins s σ H R I h => ?_⟩
  refine Call_ (ld_blt I hg hm boot_enumerate (PyProof.Rows.callWith_type1 (thn (ha.run pos pins s σ H _ I h) fun us s1 z => ?_) hs rfl))
  obtain ⟨vs, H1, I1, r1, a, xs, rfl, hq, q⟩ := z
  obtain ⟨u, rfl, ru⟩ := vals1 r1
  obtain rfl : u = Value.ref a := ru
  obtain ⟨its, rv, pl, hz⟩ := I1.tuple hq
  have la : a < s1.heap.objs.size := by obtain ⟨o, q, _⟩ := pl; exact Heap.lt_size q
  refine callT (show s1.heap.IsTuple a its.toArray from pl) fun g he hit hk => wpAny_pyIter_enum he ?_
  refine ⟨s1.heap.objs.size + 1, [s1.heap.objs.size + 1, s1.heap.objs.size], _, _, H1, rfl, I1.kept (t' := s1.toks) hk, turnU a (s1.heap.objs.size + 1) s1.heap.objs.size (Nat.ne_of_lt la) (Nat.ne_of_lt (Nat.lt_succ_of_lt la)), ⟨⟨.none, he⟩, hit, Nat.succ_ne_self _⟩, fun b hb => ?_, q⟩
  have le : s1.heap.objs.size ≤ b := by
    rcases List.mem_cons.mp hb with z | z
    · rw [z]; exact Nat.le_succ _
    · rw [List.mem_singleton] at z
      rw [z]; exact Nat.le_refl _
  exact I1.fpOk le (I1.hok.fresh le)
end RvE
set_option Elab.async false
set_option linter.all false
set_option maxRecDepth 100000
set_option maxHeartbeats 4000000
/-! Rv10: targets, what is walked, for. -/
namespace Rv
open PySem PySem.Spec L2
open PyProof.Rows hiding St

section
variable {X : Cx} {W : WX} {e a b c o tg iter : Expr} {es rest : List Expr} {m n : M D} {ms mk : M (List D)} {pos p p1 apos cpos : Pos} {x f : Str} {F : Fn} {cl : Str} {vs ws : List Nat}

/-! ### targets of loops: names, tuples of names -/
def WG (X : Cx) (tg : Expr) : TG := fun v σ H Q => ∀ (pins : List (Addr × Obj)) (s : Shared) (u : Value), Inv X pins σ H s → RelV v u → wpAny (model X.prog X.w) X.A (assign tg X.env u) (fun _ s' => ∃ σ' H', Inv X pins σ' H' s' ∧ Q σ' H') X.xe s
theorem pg_wg : PG X tg (WG X tg) := ⟨fun pins s σ H v u Q I r h => h pins s u I r⟩
theorem WG.of {t : TG} {v : V} {σ : L2.St} {H : Hp} {Q : L2.St → Hp → Prop} (h : PG X tg t) (q : t v σ H Q) : WG X tg v σ H Q := fun pins s u I r => h.run pins s σ H v u Q I r q
def WGs (X : Cx) (es : List Expr) : TGs := fun vs σ H Q => ∀ (pins : List (Addr × Obj)) (s : Shared) (us : List Value), Inv X pins σ H s → Vals vs us → wpAny (model X.prog X.w) X.A (assignInOrder ((assignEach es X.env).map (·.2)) us) (fun _ s' => ∃ σ' H', Inv X pins σ' H' s' ∧ Q σ' H') X.xe s
theorem pgs_wgs : PGs X es (WGs X es) := ⟨fun pins s σ H v u Q I r h => h pins s u I r⟩
theorem WGs.of {t : TGs} {v : List V} {σ : L2.St} {H : Hp} {Q : L2.St → Hp → Prop} (h : PGs X es t) (q : t v σ H Q) : WGs X es v σ H Q := fun pins s u I r => h.run pins s σ H v u Q I r q
/-- only the slots vs have changed -/
def OnlyIn (vs : List Nat) (σ σ' : L2.St) : Prop := ∀ us : List Nat, (∀ i ∈ vs, i ∈ us) → wipe σ' us = wipe σ us
theorem wipe_in {i : Nat} : ∀ {us : List Nat} {σ : L2.St}, i ∈ us → i < σ.length → (wipe σ us)[i]? = some none
  | [], _, h, _ => nomatch h
  | u :: us, σ, h, hl => by
    unfold wipe
    by_cases e : u = i
    · subst e
      rw [List.getElem?_set_self]
      rw [wipe_length]; exact hl
    · rw [List.getElem?_set_ne e]
      exact wipe_in ((List.mem_cons.mp h).resolve_left fun z => e z.symm) hl
theorem wipe_at {us : List Nat} {σ : L2.St} (i : Nat) : (wipe σ us)[i]? = if i ∈ us ∧ i < σ.length then some none else σ[i]? := by
  by_cases h : i ∈ us
  · by_cases hl : i < σ.length
    · rw [if_pos ⟨h, hl⟩, wipe_in h hl]
    · rw [if_neg fun z => hl z.2, List.getElem?_eq_none (by rw [wipe_length]; omega), List.getElem?_eq_none (by omega)]
  · rw [if_neg fun z => h z.1, wipe_out h]
theorem OnlyIn.refl {σ : L2.St} : OnlyIn vs σ σ := fun _ _ => rfl
theorem OnlyIn.trans {σ σ1 σ2 : L2.St} (h : OnlyIn vs σ σ1) (k : OnlyIn vs σ1 σ2) : OnlyIn vs σ σ2 := fun us hu => (k us hu).trans (h us hu)
theorem OnlyIn.more {σ σ1 : L2.St} (h : OnlyIn ws σ σ1) (k : ∀ i ∈ ws, i ∈ vs) : OnlyIn vs σ σ1 := fun us hu => h us fun i hi => hu i (k i hi)
theorem OnlyIn.set {σ : L2.St} {i : Nat} {v : Option V} : OnlyIn [i] σ (σ.set i v) := fun us hu => by
  have hi := hu i (by simp)
  refine List.ext_getElem? fun j => ?_
  rw [wipe_at, wipe_at, List.length_set]
  by_cases h : j ∈ us ∧ j < σ.length
  · rw [if_pos h, if_pos h]
  · rw [if_neg h, if_neg h]
    by_cases e : i = j
    · subst e
      have : ¬ i < σ.length := fun z => h ⟨hi, z⟩
      rw [List.getElem?_eq_none (by rw [List.length_set]; omega), List.getElem?_eq_none (by omega)]
    · rw [List.getElem?_set_ne e]
abbrev TgM := D → Env' → Option Env'
def SG (X : Cx) (vs : List Nat) (tg : Expr) (g : TgM) : Prop := ∀ (π : List Addr) (H : Hp) (ρ ρ' : Env') (σ : L2.St) (d : D) (v : V), SimL X.K π H ρ σ → Rp X.K π H d v → g d ρ = some ρ' →
  ∃ σ', SimL X.K π H ρ' σ' ∧ OnlyIn vs σ σ' ∧ ∀ (H2 : Hp) (Q : L2.St → Hp → Prop), (∀ b o, off π H b = some o → H2 b = some o) → Q σ' H2 → WG X tg v σ H2 Q
def SGs (X : Cx) (vs : List Nat) (es : List Expr) (g : List D → Env' → Option Env') : Prop := ∀ (π : List Addr) (H : Hp) (ρ ρ' : Env') (σ : L2.St) (ds : List D) (us : List V), SimL X.K π H ρ σ → RpL X.K π H ds us → g ds ρ = some ρ' →
  ∃ σ', SimL X.K π H ρ' σ' ∧ OnlyIn vs σ σ' ∧ ∀ (H2 : Hp) (Q : L2.St → Hp → Prop), (∀ b o, off π H b = some o → H2 b = some o) → Q σ' H2 → WGs X es us σ H2 Q
theorem SimL.set {K : PySem.W.Frag} {π : List Addr} {H : Hp} {ρ : Env'} {σ : L2.St} {d : D} {v : V} (l : SimL K π H ρ σ) (r : Rp K π H d v) (i : Nat) : SimL K π H (ρ.set i (some d)) (σ.set i (some v)) := by
  refine ⟨by rw [List.length_set, List.length_set, l.len], fun j d' e => ?_⟩
  by_cases h : i = j
  · subst h
    by_cases hl : i < ρ.length
    · rw [List.getElem?_set_self hl] at e
      cases e
      exact ⟨v, by rw [List.getElem?_set_self (by rw [l.len]; exact hl)], r⟩
    · rw [List.getElem?_eq_none (by rw [List.length_set]; omega)] at e
      cases e
  · rw [List.getElem?_set_ne h] at e
    obtain ⟨w, h1, h2⟩ := l.loc j d' e
    exact ⟨w, by rw [List.getElem?_set_ne h]; exact h1, h2⟩
def gN (i : Nat) : TgM := fun d ρ => some (ρ.set i (some d))
theorem SG.name (i : Nat) (hN : X.N.Nodup) (hi : X.N[i]? = some x) (hx : Loc X.env.scope x) (hf : X.fn x = true ∨ X.env.scope.names.lookup x = some .local := by first | exact .inl rfl | exact .inr rfl) : SG X [i] (.Name x pos) (gN i) := by
  intro π H ρ ρ' σ d v l r e
  cases e
  exact ⟨_, l.set r i, .set, fun H2 Q _ q => WG.of (pg_name hN hi hx hf) q⟩
def gsN : List D → Env' → Option Env' := fun ds ρ => match ds with
  | [] => some ρ
  | _ => none
def gsC (g : TgM) (gs : List D → Env' → Option Env') : List D → Env' → Option Env' := fun ds ρ => match ds with
  | d :: ds => (g d ρ).bind (gs ds)
  | [] => none
theorem SGs.nil : SGs X [] [] gsN := by
  intro π H ρ ρ' σ ds us l r e
  unfold gsN at e
  split at e
  · cases e
    unfold RpL RepL at r
    subst r
    exact ⟨σ, l, .refl, fun H2 Q _ q => WGs.of pgs_nil ⟨rfl, q⟩⟩
  · cases e
theorem SGs.cons {g : TgM} {gs : List D → Env' → Option Env'} (h : SG X vs a g) (k : SGs X ws es gs) (hs : (assignEach (a :: es) X.env).map (·.2) = assign a X.env :: (assignEach es X.env).map (·.2) := by rfl) : SGs X (vs ++ ws) (a :: es) (gsC g gs) := by
  intro π H ρ ρ' σ ds us l r e
  unfold gsC at e
  split at e
  · rename_i d ds'
    obtain ⟨ρ1, e1, e2⟩ := Option.bind_eq_some_iff.mp e
    obtain ⟨v, t, rfl, r1, r2⟩ := r.uncons
    obtain ⟨σ1, l1, o1, q1⟩ := h π H ρ ρ1 σ d v l r1 e1
    obtain ⟨σ2, l2, o2, q2⟩ := k π H ρ1 ρ' σ1 ds' t l1 r2 e2
    refine ⟨σ2, l2, (o1.more fun i hi => List.mem_append_left _ hi).trans (o2.more fun i hi => List.mem_append_right _ hi), fun H2 Q sub q => ?_⟩
    exact WGs.of (pgs_cons pg_wg pgs_wgs hs) ⟨v, t, rfl, q1 H2 _ sub (q2 H2 Q sub q)⟩
  · cases e
def gT (gs : List D → Env' → Option Env') : TgM := fun d ρ => match asT d with
  | some ds => gs ds ρ
  | none => none
theorem SG.tup {k : Nat} {n : Nat} {gs : List D → Env' → Option Env'} (hc : X.calm = true) (h : SGs X vs es gs) (hl : ∀ ds ρ ρ', gs ds ρ = some ρ' → ds.length = n)
    (hn : (assignEach es X.env).length = n := by rfl) (hst : (assignEach es X.env).findIdx? (·.1) = none := by rfl) : SG X vs (.Tuple es k pos) (gT gs) := by
  intro π H ρ ρ' σ d v l r e
  unfold gT at e
  split at e
  · rename_i ds ed
    cases d with
    | tup ds' =>
      cases ed
      unfold Rp Rep at r
      obtain ⟨p, us, rfl, hp, rp⟩ := r
      obtain ⟨σ', l', o', q'⟩ := h π H ρ ρ' σ ds us l rp e
      refine ⟨σ', l', o', fun H2 Q sub q => WG.of (pg_tup hc pgs_wgs hn hst) ⟨p, us, rfl, ext_t sub hp, by rw [rp.length]; exact hl _ _ _ e, q' H2 Q sub q⟩⟩
    | _ => cases ed
  · cases e
theorem gsN_len {ds : List D} {ρ ρ' : Env'} (h : gsN ds ρ = some ρ') : ds.length = 0 := by
  unfold gsN at h
  split at h
  · rfl
  · cases h
theorem gsC_len {g : TgM} {gs : List D → Env' → Option Env'} {n : Nat} (k : ∀ ds ρ ρ', gs ds ρ = some ρ' → ds.length = n) {ds : List D} {ρ ρ' : Env'} (h : gsC g gs ds ρ = some ρ') : ds.length = n + 1 := by
  unfold gsC at h
  split at h
  · obtain ⟨ρ1, e1, e2⟩ := Option.bind_eq_some_iff.mp h
    rw [List.length_cons, k _ _ _ e2]
  · cases h

/-! ### what is walked -/
/-- the list at a place of the store that must stay as it is meanwhile -/
abbrev Lv := Option (Nat × List D)
def lvOk (lv : Lv) (μ : Store) : Bool := match lv with
  | none => true
  | some (k, ds) => decide (μ[k]? = some (.lst ds))
structure Wlk (K : PySem.W.Frag) (π1 : List Addr) (H1 : Hp) (J : It) (lv : Lv) (ds : List D) : Prop where
  go : ∀ i π μ L H, i < ds.length → Gr π1 H1 π L → SimM K π μ L → lvOk lv μ = true → (∀ b o, L b = some o → H b = some o) → J.go i H
  stop : ∀ π μ L H, Gr π1 H1 π L → SimM K π μ L → lvOk lv μ = true → (∀ b o, L b = some o → H b = some o) → J.stop ds.length H
  yld : ∀ i x π μ L H H2, i < ds.length → Gr π1 H1 π L → SimM K π μ L → lvOk lv μ = true → (∀ b o, L b = some o → H b = some o) → J.yld i H x H2 →
    ∃ d L2, ds[i]? = some d ∧ Gr π L π L2 ∧ SimM K π μ L2 ∧ Rp K π L2 d x ∧ (∀ b o, L2 b = some o → H2 b = some o) ∧ (∀ b o, H b = some o → H2 b = some o) ∧ ∀ b, H b ≠ none → L2 b = L b
/-- a list or tuple that is seen at each turn -/
def Vw (K : PySem.W.Frag) (sq : Hp → List V → Prop) (π1 : List Addr) (H1 : Hp) (lv : Lv) (ds : List D) : Prop := ∀ π μ L, Gr π1 H1 π L → SimM K π μ L → lvOk lv μ = true → ∃ vs, sq L vs ∧ RpL K π L ds vs
def asLv (μ : Store) : D → Option (Lv × List D)
  | .lst ds => some (none, ds)
  | .ref k => match μ[k]? with
    | some (.lst ds) => some (some (k, ds), ds)
    | _ => none
  | _ => none
theorem asLv_view {K : PySem.W.Frag} {π : List Addr} {μ : Store} {H : Hp} {d : D} {v : V} {lv : Lv} {ds : List D} (s : SimM K π μ H) (r : Rp K π H d v) (h : asLv μ d = some (lv, ds)) :
    lvOk lv μ = true ∧ ∃ a vs, v = .ref a ∧ H a = some (.lst vs) ∧ RpL K π H ds vs ∧ Vw K (fun L us => L a = some (.lst us)) π H lv ds := by
  unfold asLv at h
  split at h
  · cases h
    unfold Rp Rep at r
    obtain ⟨a, vs, h1, h2, h3⟩ := r
    exact ⟨rfl, a, vs, h1, off_sub _ _ h2, h3, fun π' μ' L g s' _ => ⟨vs, off_sub _ _ (g.keep _ _ h2), g.repL h3⟩⟩
  · rename_i k
    unfold Rp Rep at r
    obtain ⟨a, h1, h2⟩ := r
    split at h
    · rename_i ds' e
      cases h
      obtain ⟨vs, h3, h4⟩ := s.obj k a _ h1 e
      refine ⟨by unfold lvOk; exact decide_eq_true e, a, vs, h2, h3, h4, fun π' μ' L g s' ok => ?_⟩
      have e' : μ'[k]? = some (.lst ds) := of_decide_eq_true ok
      obtain ⟨us, h5, h6⟩ := s'.obj k a _ (g.get h1) e'
      exact ⟨us, h5, h6⟩
    · cases h
  · cases h
theorem asT_vw {K : PySem.W.Frag} {π : List Addr} {H : Hp} {ds : List D} {v : V} (r : Rp K π H (.tup ds) v) : ∃ a vs, v = .ref a ∧ SqT K H a vs ∧ RpL K π H ds vs ∧ Vw K (fun L us => SqT K L a us) π H none ds := by
  unfold Rp Rep at r
  obtain ⟨a, vs, h1, h2, h3⟩ := r
  exact ⟨a, vs, h1, ext_t off_sub h2, h3, fun π' μ' L g s' _ => ⟨vs, ext_t off_sub (ext_t g.keep h2), g.repL h3⟩⟩
section
variable {K : PySem.W.Frag} {π1 : List Addr} {H1 : Hp} {lv : Lv} {ds : List D} {p q : Addr}
theorem wlk_list (h : Vw K (fun L us => L p = some (.lst us)) π1 H1 lv ds) : Wlk K π1 H1 (Itl K p) lv ds where
  go := fun i π μ L H hi g s ok sub => by
    obtain ⟨us, h1, h2⟩ := h π μ L g s ok
    have hl := h2.length
    exact ⟨us, us[i]'(by omega), SqL.of (sub _ _ h1), by simp⟩
  stop := fun π μ L H g s ok sub => by
    obtain ⟨us, h1, h2⟩ := h π μ L g s ok
    exact ⟨us, SqL.of (sub _ _ h1), Nat.le_of_eq h2.length⟩
  yld := fun i x π μ L H H2 hi g s ok sub y => by
    obtain ⟨us, h1, h2⟩ := h π μ L g s ok
    obtain ⟨e, y⟩ := y
    subst e
    obtain ⟨d, d1, d2⟩ := h2.getV (y us (SqL.of (sub _ _ h1)))
    exact ⟨d, L, d1, Gr.refl, s, d2, sub, fun _ _ z => z, fun _ _ => rfl⟩
theorem wlk_tup (h : Vw K (fun L us => SqT K L p us) π1 H1 lv ds) : Wlk K π1 H1 (Itt K p) lv ds where
  go := fun i π μ L H hi g s ok sub => by
    obtain ⟨us, h1, h2⟩ := h π μ L g s ok
    have hl := h2.length
    exact ⟨us, us[i]'(by omega), ext_t sub h1, by simp⟩
  stop := fun π μ L H g s ok sub => by
    obtain ⟨us, h1, h2⟩ := h π μ L g s ok
    exact ⟨us, ext_t sub h1, Nat.le_of_eq h2.length⟩
  yld := fun i x π μ L H H2 hi g s ok sub y => by
    obtain ⟨us, h1, h2⟩ := h π μ L g s ok
    obtain ⟨e, y⟩ := y
    subst e
    obtain ⟨d, d1, d2⟩ := h2.getV (y us (ext_t sub h1))
    exact ⟨d, L, d1, Gr.refl, s, d2, sub, fun _ _ z => z, fun _ _ => rfl⟩
/-- items that need no heap -/
theorem wlk_fn {J : It} {n : Nat} {f : Nat → V} {g : Nat → D} {Y : Nat → Hp → V → Hp → Prop} (w : Walk J n (fun _ => True) Y) (hy : ∀ i H x H', i < n → Y i H x H' → H' = H ∧ x = f i) (hr : ∀ i π H, Rp K π H (g i) (f i)) :
    Wlk K π1 H1 J none ((List.range n).map g) where
  go := fun i π μ L H hi _ s ok sub => w.goes i H (by simpa using hi) trivial
  stop := fun π μ L H _ s ok sub => by simpa using w.stops H trivial
  yld := fun i x π μ L H H2 hi _ s ok sub y => by
    have hi' : i < n := by simpa using hi
    obtain ⟨rfl, rfl⟩ := hy i H x H2 hi' (w.yields i H x H2 hi' trivial y)
    exact ⟨g i, L, by simp [hi'], Gr.refl, s, hr i π L, sub, fun _ _ z => z, fun _ _ => rfl⟩
/-- a new pair at each turn -/
theorem pair_new {π : List Addr} {μ : Store} {L H : Hp} {T : Addr} {d1 d2 : D} {x y : V} (s : SimM K π μ L) (sub : ∀ b o, L b = some o → H b = some o) (hT : H T = none) (r1 : Rp K π L d1 x) (r2 : Rp K π L d2 y) :
    ∃ L2, Gr π L π L2 ∧ SimM K π μ L2 ∧ Rp K π L2 (.tup [d1, d2]) (.ref T) ∧ (∀ b o, L2 b = some o → upd H T (.tup [x, y]) b = some o) ∧ (∀ b o, H b = some o → upd H T (.tup [x, y]) b = some o) ∧ ∀ b, H b ≠ none → L2 b = L b := by
  have hL : L T = none := by
    cases e : L T with
    | none => rfl
    | some o => rw [sub _ _ e] at hT; cases hT
  refine ⟨upd L T (.tup [x, y]), Gr.new hL, s.new hL, rp_tup s hL (.cons r1 (.one r2)), fun b o e => ?_, fun b o e => ?_, fun b hb => ?_⟩
  · by_cases hb : b = T
    · subst hb; rw [upd_same] at e ⊢; exact e
    · rw [upd_ne hb] at e ⊢; exact sub _ _ e
  · rw [upd_ne (ne_of_none e hT)]; exact e
  · have nb : b ≠ T := fun z => hb (z ▸ hT)
    rw [upd_ne nb]
def enumD (ds : List D) : List D := (List.range ds.length).map fun i => .tup [.int (i : Nat), ds.getD i .non]
theorem enumD_at {i : Nat} {d : D} (h : ds[i]? = some d) : (enumD ds)[i]? = some (.tup [.int (i : Nat), d]) := by
  have hl := (List.getElem?_eq_some_iff.mp h).1
  unfold enumD
  rw [List.getElem?_map, List.getElem?_range hl]
  simp [List.getD_eq_getElem?_getD, h]
theorem enumD_len : (enumD ds).length = ds.length := by unfold enumD; simp
theorem wlk_enum (h : Vw K (fun L us => L p = some (.lst us)) π1 H1 lv ds) : Wlk K π1 H1 (Ite K p) lv (enumD ds) where
  go := fun i π μ L H hi g s ok sub => by
    obtain ⟨us, h1, h2⟩ := h π μ L g s ok
    have hl := h2.length
    rw [enumD_len] at hi
    exact ⟨us, us[i]'(by omega), SqL.of (sub _ _ h1), by simp⟩
  stop := fun π μ L H g s ok sub => by
    obtain ⟨us, h1, h2⟩ := h π μ L g s ok
    rw [enumD_len]
    exact ⟨us, SqL.of (sub _ _ h1), Nat.le_of_eq h2.length⟩
  yld := fun i x π μ L H H2 hi g s ok sub y => by
    obtain ⟨us, h1, h2⟩ := h π μ L g s ok
    obtain ⟨T, z, e1, hT, e2, y⟩ := y
    subst e1 e2
    obtain ⟨d, d1, d2⟩ := h2.getV (y us (SqL.of (sub _ _ h1)))
    obtain ⟨L2, k1, k2, k3, k4⟩ := pair_new (d1 := .int (i : Nat)) s sub hT (by unfold Rp Rep; rfl) d2
    exact ⟨_, L2, enumD_at d1, k1, k2, k3, k4⟩
theorem wlk_enumT (h : Vw K (fun L us => SqT K L p us) π1 H1 lv ds) : Wlk K π1 H1 (RvE.ItU K p) lv (enumD ds) where
  go := fun i π μ L H hi g s ok sub => by
    obtain ⟨us, h1, h2⟩ := h π μ L g s ok
    have hl := h2.length
    rw [enumD_len] at hi
    exact ⟨us, us[i]'(by omega), ext_t sub h1, by simp⟩
  stop := fun π μ L H g s ok sub => by
    obtain ⟨us, h1, h2⟩ := h π μ L g s ok
    rw [enumD_len]
    exact ⟨us, ext_t sub h1, h2.length⟩
  yld := fun i x π μ L H H2 hi g s ok sub y => by
    obtain ⟨us, h1, h2⟩ := h π μ L g s ok
    obtain ⟨T, z, e1, hT, e2, y⟩ := y
    subst e1 e2
    obtain ⟨d, d1, d2⟩ := h2.getV (y us (ext_t sub h1))
    obtain ⟨L2, k1, k2, k3, k4⟩ := pair_new (d1 := .int (i : Nat)) s sub hT (by unfold Rp Rep; rfl) d2
    exact ⟨_, L2, enumD_at d1, k1, k2, k3, k4⟩
def zipD (ds es : List D) : List D := (ds.zip es).map fun p => .tup [p.1, p.2]
theorem zipD_at {es : List D} {i : Nat} {d e : D} (h : ds[i]? = some d) (k : es[i]? = some e) : (zipD ds es)[i]? = some (.tup [d, e]) := by
  unfold zipD
  rw [List.getElem?_map, List.getElem?_zip_eq_some.mpr (show ds[i]? = some (d, e).1 ∧ es[i]? = some (d, e).2 from ⟨h, k⟩)]
  rfl
theorem zipD_len {es : List D} : (zipD ds es).length = min ds.length es.length := by unfold zipD; simp
theorem wlk_zip {es : List D} (h : Vw K (fun L us => L p = some (.lst us)) π1 H1 lv ds) (h' : Vw K (fun L us => L q = some (.lst us)) π1 H1 lv es) : Wlk K π1 H1 (Itz K p q) lv (zipD ds es) where
  go := fun i π μ L H hi g s ok sub => by
    obtain ⟨us, h1, h2⟩ := h π μ L g s ok
    obtain ⟨ws, h3, h4⟩ := h' π μ L g s ok
    have hl := h2.length
    have hl' := h4.length
    rw [zipD_len] at hi
    exact ⟨us, ws, us[i]'(by omega), ws[i]'(by omega), SqL.of (sub _ _ h1), SqL.of (sub _ _ h3), by simp, by simp⟩
  stop := fun π μ L H g s ok sub => by
    obtain ⟨us, h1, h2⟩ := h π μ L g s ok
    obtain ⟨ws, h3, h4⟩ := h' π μ L g s ok
    have hl := h2.length
    have hl' := h4.length
    rw [zipD_len]
    exact ⟨us, ws, SqL.of (sub _ _ h1), SqL.of (sub _ _ h3), by omega⟩
  yld := fun i x π μ L H H2 hi g s ok sub y => by
    obtain ⟨us, h1, h2⟩ := h π μ L g s ok
    obtain ⟨ws, h3, h4⟩ := h' π μ L g s ok
    obtain ⟨T, z, z2, e1, hT, e2, y, y2⟩ := y
    subst e1 e2
    obtain ⟨d, d1, d2⟩ := h2.getV (y us (SqL.of (sub _ _ h1)))
    obtain ⟨e, e1, e2⟩ := h4.getV (y2 ws (SqL.of (sub _ _ h3)))
    obtain ⟨L2, k1, k2, k3, k4⟩ := pair_new s sub hT d2 e2
    exact ⟨_, L2, zipD_at d1 e1, k1, k2, k3, k4⟩
theorem wlk_zipT {es : List D} (h : Vw K (fun L us => SqT K L p us) π1 H1 lv ds) (h' : Vw K (fun L us => SqT K L q us) π1 H1 lv es) : Wlk K π1 H1 (RZ.ItzT K p q) lv (zipD ds es) where
  go := fun i π μ L H hi g s ok sub => by
    obtain ⟨us, h1, h2⟩ := h π μ L g s ok
    obtain ⟨ws, h3, h4⟩ := h' π μ L g s ok
    have hl := h2.length
    have hl' := h4.length
    rw [zipD_len] at hi
    exact ⟨us, ws, us[i]'(by omega), ws[i]'(by omega), ext_t sub h1, ext_t sub h3, by simp, by simp⟩
  stop := fun π μ L H g s ok sub => by
    obtain ⟨us, h1, h2⟩ := h π μ L g s ok
    obtain ⟨ws, h3, h4⟩ := h' π μ L g s ok
    have hl := h2.length
    have hl' := h4.length
    rw [zipD_len]
    exact ⟨us, ws, ext_t sub h1, ext_t sub h3, by omega⟩
  yld := fun i x π μ L H H2 hi g s ok sub y => by
    obtain ⟨us, h1, h2⟩ := h π μ L g s ok
    obtain ⟨ws, h3, h4⟩ := h' π μ L g s ok
    obtain ⟨T, z, z2, e1, hT, e2, y, y2⟩ := y
    subst e1 e2
    obtain ⟨d, d1, d2⟩ := h2.getV (y us (ext_t sub h1))
    obtain ⟨e, e1, e2⟩ := h4.getV (y2 ws (ext_t sub h3))
    obtain ⟨L2, k1, k2, k3, k4⟩ := pair_new s sub hT d2 e2
    exact ⟨_, L2, zipD_at d1 e1, k1, k2, k3, k4⟩
end
end
end Rv
set_option Elab.async false
set_option linter.all false
set_option maxRecDepth 100000
set_option maxHeartbeats 4000000
/-! Rv11: iterators' expressions, for, blocks and small statements. -/
namespace Rv
open PySem PySem.Spec L2
open PyProof.Rows hiding St

section
variable {X : Cx} {W : WX} {e a b c o tg iter : Expr} {es rest : List Expr} {m n : M D} {ms mk : M (List D)} {pos p p1 apos cpos : Pos} {x f : Str} {F : Fn} {cl : Str} {vs ws : List Nat}
def WI (X : Cx) (tg iter : Expr) : TI := fun σ H R => ∀ (pins : List (Addr × Obj)) (s : Shared), Inv X pins σ H s → wpAny (model X.prog X.w) X.A (eval iter X.env) (fun v s1 => wpAny (model X.prog X.w) X.A (pyIter v) (PIE X pins σ tg R) X.xe s1) X.xe s
theorem pi_wi : PI X tg iter (WI X tg iter) := ⟨fun pins s σ H R I h => h pins s I⟩
theorem WI.of {t : TI} {σ : L2.St} {H : Hp} {R : It → Hp → Prop} (h : PI X tg iter t) (q : t σ H R) : WI X tg iter σ H R := fun pins s I => h.run pins s σ H R I q
abbrev RW (K : PySem.W.Frag) : List Addr → Hp → (Lv × List D) → It → Prop := fun π H p J => Wlk K π H J p.1 p.2
abbrev MI := M (Lv × List D)
def SI (X : Cx) (W : WX) (tg iter : Expr) (m : MI) : Prop := ∀ (π : List Addr) (ρ : Env') (μ : Store) (σ : L2.St) (H : Hp) (R : It → Hp → Prop), SimM X.K π μ H → SimL X.K π H ρ σ → GE X W (RW X.K) π σ H R (m ρ μ) → WI X tg iter σ H R
/-- a list, a tuple, a text -/
def signs (s : List Nat) : List D := s.map fun c => .str [c]
def itD (μ : Store) (d : D) : Option (Lv × List D) := match d with
  | .tup ds => some (none, ds)
  | .str s => some (none, signs s)
  | d => asLv μ d
def oOut {α : Type} (o : Option α) (μ : Store) : Out α := match o with
  | some a => .ok a μ
  | none => .stuck
def mIt (m : M D) : MI := fun ρ μ => (m ρ μ).bind fun d μ1 => oOut (itD μ1 d) μ1
theorem signs_rng (s : List Nat) : signs s = (List.range s.length).map fun i => .str [s.getD i 0] := by
  refine List.ext_getElem? fun i => ?_
  unfold signs
  rw [List.getElem?_map, List.getElem?_map]
  by_cases h : i < s.length
  · rw [List.getElem?_range h, List.getElem?_eq_getElem h]
    simp [List.getD_eq_getElem?_getD, h]
  · rw [List.getElem?_eq_none (by omega), List.getElem?_eq_none (by simp; omega)]
    rfl
theorem SI.val (ha : SE X W e m) : SI X W tg e (mIt m) := fun π ρ μ σ H R sm sl g pins s I => by
  refine thn (ha π ρ μ σ H (fun v H1 => (∃ a xs, v = .ref a ∧ SqL X.K H1 a xs ∧ R (Itl X.K a) H1) ∨ (∃ a xs, v = .ref a ∧ SqT X.K H1 a xs ∧ R (Itt X.K a) H1) ∨ ∃ z, v = .str z ∧ R (Its z) H1) sm sl (GE.bind g fun d μ1 v H1 π1 e1 g1 s1 r1 h1 => ?_) pins s I) fun v s1 z => ?_
  · cases q : itD μ1 d with
    | none => rw [q] at h1; exact h1.elim
    | some p =>
      rw [q] at h1
      unfold itD at q
      split at q
      · rename_i ds
        cases q
        obtain ⟨a, us, rfl, k1, k2, k3⟩ := asT_vw r1
        exact .inr (.inl ⟨a, us, rfl, k1, h1 _ H1 π1 Gr.refl s1 (wlk_tup k3)⟩)
      · rename_i z
        cases q
        cases rep_str r1
        refine .inr (.inr ⟨_, rfl, h1 (Its (toS z)) H1 π1 Gr.refl s1 ?_⟩)
        show Wlk X.K π1 H1 (Its (toS z)) none (signs z)
        rw [signs_rng]
        exact wlk_fn (f := fun i => .str ⟨#[z.getD i 0]⟩) (walk_str (z := toS z)) (fun i H x H' hi y => by
          obtain ⟨y1, c, y2, y3⟩ := y
          refine ⟨y1, ?_⟩
          rw [y3]
          have : z[i]? = some c := by
            have := y2
            rw [← Array.getElem?_toList] at this
            exact this
          rw [List.getD_eq_getElem?_getD, this]
          rfl) (fun i π H => by unfold Rep; rfl)
      · obtain ⟨lv, ds⟩ := p
        obtain ⟨k0, a, us, rfl, k1, k2, k3⟩ := asLv_view s1 r1 q
        exact .inl ⟨a, us, rfl, SqL.of k1, h1 _ H1 π1 Gr.refl s1 (wlk_list k3)⟩
  · obtain ⟨v', H1, I1, r1, q⟩ := z
    rcases q with ⟨a, xs, rfl, hq, q⟩ | ⟨a, xs, rfl, hq, q⟩ | ⟨z, rfl, q⟩
    · cases r1
      obtain ⟨its, rv, pl, hz⟩ := I1.list hq
      exact wpAny_pyIter_list pl.isList (pi_one (tk := s1.toks) I1 _ (turn_list a _) ⟨_, Heap.get?_push_size _ rfl, rfl, rfl⟩ q)
    · cases r1
      obtain ⟨its, rv, pl, hz⟩ := I1.tuple hq
      exact wpAny_pyIter_tuple (show s1.heap.IsTuple a its.toArray from pl) (pi_one (tk := s1.toks) I1 _ (turn_tuple a _) ⟨_, Heap.get?_push_size _ rfl, rfl, rfl⟩ q)
    · obtain ⟨t, rfl⟩ := r1
      cases ha : z.cps.all (· < 128)
      · exact wpAny_pyIter_wide ha (pi_one (tk := s1.toks) I1 _ (turn_str _ z t "str_iterator" (.inr rfl)) ⟨_, Heap.get?_push_size _ rfl, rfl, rfl⟩ q)
      · exact wpAny_pyIter_ascii ha (pi_one (tk := s1.toks) I1 _ (turn_str _ z t "str_ascii_iterator" (.inl rfl)) ⟨_, Heap.get?_push_size _ rfl, rfl, rfl⟩ q)
/-- range -/
def rngD (lo : Int) (n : Nat) : List D := (List.range n).map fun i => .int (lo + (i : Nat))
def rng1 (ds : List D) (μ : Store) : Out (Lv × List D) := match ds with
  | [.int j] => if -(2 ^ 62) ≤ j ∧ j < 2 ^ 62 then .ok (none, rngD 0 j.toNat) μ else .stuck
  | _ => .stuck
def rng2 (ds : List D) (μ : Store) : Out (Lv × List D) := match ds with
  | [.int i, .int j] => if -(2 ^ 62) ≤ i ∧ i < 2 ^ 62 ∧ -(2 ^ 62) ≤ j ∧ j < 2 ^ 62 then .ok (none, rngD i (j - i).toNat) μ else .stuck
  | _ => .stuck
/-- a range by steps: k items -/
def rngC (lo c : Int) (k : Nat) : List D := (List.range k).map fun i => .int (lo + (i : Nat) * c)
def rng3 (ds : List D) (μ : Store) : Out (Lv × List D) := match ds with
  | [.int i, .int j, .int c] => if c ≠ 0 ∧ c.natAbs < 1073741824 ∧ Builtin.Range.small i j c = true ∧ Builtin.Range.rangeSize i j c = ((Builtin.Range.rangeSize i j c).toNat : Nat) then .ok (none, rngC i c (Builtin.Range.rangeSize i j c).toNat) μ else .stuck
  | _ => .stuck
def mI (k : List D → Store → Out (Lv × List D)) (ms : M (List D)) : MI := fun ρ μ => (ms ρ μ).bind k
theorem wlk_rng {K : PySem.W.Frag} {π : List Addr} {H : Hp} {lo : Int} {k : Nat} : Wlk K π H (Itr lo k) none (rngD lo k) :=
  wlk_fn (f := fun i => .int (lo + (i : Nat))) walk_range (fun i H x H' hi y => y) (fun i π H => by unfold Rep; rfl)
theorem wlk_rngC {K : PySem.W.Frag} {π : List Addr} {H : Hp} {lo c : Int} {k : Nat} : Wlk K π H (Itc lo c k) none (rngC lo c k) :=
  wlk_fn (f := fun i => .int (lo + (i : Nat) * c)) walk_rangeC (fun i H x H' hi y => y) (fun i π H => by unfold Rep; rfl)
theorem SI.range1 (hg : Gl X "range") (hm : X.mg "range" = none) (ha : SA X W [a] ms) (hs : starEach [a] X.env = [(false, eval a X.env)] := by rfl) : SI X W tg (.Call (.Name "range" p) [a] [] pos) (mI rng1 ms) := fun π ρ μ σ H R sm sl g => by
  refine WI.of (pi_range1 hg hm pa_wa hs) (ha π ρ μ σ H _ sm sl (GE.bind g fun ds μ1 us H1 π1 e1 g1 s1 r1 h1 => ?_))
  unfold rng1 at h1
  split at h1
  · rename_i j
    by_cases c : -(2 ^ 62) ≤ j ∧ j < 2 ^ 62
    · rw [if_pos c] at h1
      obtain ⟨v, rfl, rv⟩ := repL1 r1
      cases rep_int rv
      exact ⟨j, rfl, c.1, c.2, h1 _ H1 π1 Gr.refl s1 wlk_rng⟩
    · rw [if_neg c] at h1; exact h1.elim
  · exact h1.elim
theorem SI.range2 (hg : Gl X "range") (hm : X.mg "range" = none) (ha : SA X W [a, b] ms) (hs : starEach [a, b] X.env = [(false, eval a X.env), (false, eval b X.env)] := by rfl) (hs2 : starEach [b] X.env = [(false, eval b X.env)] := by rfl) :
    SI X W tg (.Call (.Name "range" p) [a, b] [] pos) (mI rng2 ms) := fun π ρ μ σ H R sm sl g => by
  refine WI.of (pi_range2 hg hm pa_wa hs hs2) (ha π ρ μ σ H _ sm sl (GE.bind g fun ds μ1 us H1 π1 e1 g1 s1 r1 h1 => ?_))
  unfold rng2 at h1
  split at h1
  · rename_i i j
    by_cases c : -(2 ^ 62) ≤ i ∧ i < 2 ^ 62 ∧ -(2 ^ 62) ≤ j ∧ j < 2 ^ 62
    · rw [if_pos c] at h1
      obtain ⟨v, w, rfl, rv, rw'⟩ := repL2 r1
      cases rep_int rv
      cases rep_int rw'
      exact ⟨i, j, rfl, c, h1 _ H1 π1 Gr.refl s1 wlk_rng⟩
    · rw [if_neg c] at h1; exact h1.elim
  · exact h1.elim
theorem SI.range3 (hg : Gl X "range") (hm : X.mg "range" = none) (ha : SA X W [a, b, c] ms) (hs : starEach [a, b, c] X.env = (false, eval a X.env) :: starEach [b, c] X.env := by rfl) (hpl : (backTo pos (starEach [b, c] X.env)).any (·.1) = false := by rfl) :
    SI X W tg (.Call (.Name "range" p) [a, b, c] [] pos) (mI rng3 ms) := fun π ρ μ σ H R sm sl g => by
  refine WI.of (pi_range3 hg hm pa_wa hs hpl) (ha π ρ μ σ H _ sm sl (GE.bind g fun ds μ1 us H1 π1 e1 g1 s1 r1 h1 => ?_))
  unfold rng3 at h1
  split at h1
  · rename_i i j k
    by_cases z : k ≠ 0 ∧ k.natAbs < 1073741824 ∧ Builtin.Range.small i j k = true ∧ Builtin.Range.rangeSize i j k = ((Builtin.Range.rangeSize i j k).toNat : Nat)
    · rw [if_pos z] at h1
      obtain ⟨v, t, rfl, rv, r2⟩ := r1.uncons
      obtain ⟨w, w2, rfl, rw', rw2⟩ := repL2 r2
      cases rep_int rv
      cases rep_int rw'
      cases rep_int rw2
      exact ⟨i, j, k, _, rfl, z, h1 _ H1 π1 Gr.refl s1 wlk_rngC⟩
    · rw [if_neg z] at h1; exact h1.elim
  · exact h1.elim
/-- enumerate of a list, of a tuple -/
def enuL (ds : List D) (μ : Store) : Out (Lv × List D) := match ds with
  | [d] => oOut ((asLv μ d).map fun p => (p.1, enumD p.2)) μ
  | _ => .stuck
def enuT (ds : List D) (μ : Store) : Out (Lv × List D) := match ds with
  | [.tup xs] => .ok (none, enumD xs) μ
  | _ => .stuck
def zipO (ds : List D) (μ : Store) : Out (Lv × List D) := match ds with
  | [.tup xs, .tup ys] => .ok (none, zipD xs ys) μ
  | [.lst xs, .lst ys] => .ok (none, zipD xs ys) μ
  | _ => .stuck
variable {tp : Pos} {kk : Nat}
theorem SI.enumL (hg : Gl X "enumerate") (hm : X.mg "enumerate" = none) (ha : SA X W [a] ms) (hs : starEach [a] X.env = [(false, eval a X.env)] := by rfl) : SI X W (.Tuple es kk tp) (.Call (.Name "enumerate" p) [a] [] pos) (mI enuL ms) := fun π ρ μ σ H R sm sl g => by
  refine WI.of (pi_enum hg hm pa_wa hs) (ha π ρ μ σ H _ sm sl (GE.bind g fun ds μ1 us H1 π1 e1 g1 s1 r1 h1 => ?_))
  unfold enuL at h1
  split at h1
  · rename_i d
    obtain ⟨v, rfl, rv⟩ := repL1 r1
    cases q : asLv μ1 d with
    | none => rw [q] at h1; exact h1.elim
    | some p =>
      rw [q] at h1
      obtain ⟨lv, xs⟩ := p
      obtain ⟨k0, a, us, rfl, k1, k2, k3⟩ := asLv_view s1 rv q
      exact ⟨a, us, rfl, SqL.of k1, h1 _ H1 π1 Gr.refl s1 (wlk_enum k3)⟩
  · exact h1.elim
theorem SI.enumT (hg : Gl X "enumerate") (hm : X.mg "enumerate" = none) (ha : SA X W [a] ms) (hs : starEach [a] X.env = [(false, eval a X.env)] := by rfl) : SI X W (.Tuple es kk tp) (.Call (.Name "enumerate" p) [a] [] pos) (mI enuT ms) := fun π ρ μ σ H R sm sl g => by
  refine WI.of (RvE.pi_enumT hg hm pa_wa hs) (ha π ρ μ σ H _ sm sl (GE.bind g fun ds μ1 us H1 π1 e1 g1 s1 r1 h1 => ?_))
  unfold enuT at h1
  split at h1
  · rename_i xs
    obtain ⟨v, rfl, rv⟩ := repL1 r1
    obtain ⟨a, us, rfl, k1, k2, k3⟩ := asT_vw rv
    exact ⟨a, us, rfl, k1, h1 _ H1 π1 Gr.refl s1 (wlk_enumT k3)⟩
  · exact h1.elim
theorem SI.zip (hg : Gl X "zip") (hm : X.mg "zip" = none) (ha : SA X W [a, b] ms) (hs : starEach [a, b] X.env = (false, eval a X.env) :: starEach [b] X.env := by rfl) (hpl : (backTo pos (starEach [b] X.env)).any (·.1) = false := by rfl) :
    SI X W (.Tuple es kk tp) (.Call (.Name "zip" p) [a, b] [] pos) (mI zipO ms) := fun π ρ μ σ H R sm sl g => by
  refine WI.of (RZ.pi_zipA hg hm pa_wa hs hpl) (ha π ρ μ σ H _ sm sl (GE.bind g fun ds μ1 us H1 π1 e1 g1 s1 r1 h1 => ?_))
  unfold zipO at h1
  split at h1
  · obtain ⟨v, w, rfl, rv, rw'⟩ := repL2 r1
    obtain ⟨a, us, rfl, k1, k2, k3⟩ := asT_vw rv
    obtain ⟨b, ws, rfl, l1, l2, l3⟩ := asT_vw rw'
    exact ⟨a, b, us, ws, rfl, .inr ⟨k1, l1, h1 _ H1 π1 Gr.refl s1 (wlk_zipT k3 l3)⟩⟩
  · obtain ⟨v, w, rfl, rv, rw'⟩ := repL2 r1
    obtain ⟨z, a, us, rfl, k1, k2, k3⟩ := asLv_view s1 rv (rfl : asLv μ1 (.lst _) = some (none, _))
    obtain ⟨z2, b, ws, rfl, l1, l2, l3⟩ := asLv_view s1 rw' (rfl : asLv μ1 (.lst _) = some (none, _))
    exact ⟨a, b, us, ws, rfl, .inl ⟨SqL.of k1, SqL.of l1, h1 _ H1 π1 Gr.refl s1 (wlk_zip k3 l3)⟩⟩
  · exact h1.elim

/-! ### for -/
variable {st : Stmt} {body sts : List Stmt} {g : TgM} {cc cb : C} {mi : MI} {t : M Bool}
def forGo (lv : Lv) (g : TgM) (body : C) : List D → C
  | [], ρ, μ => if lvOk lv μ = true then .nx ρ μ else .stuck
  | d :: ds, ρ, μ => if lvOk lv μ = true then (match g d ρ with
    | none => .stuck
    | some ρ1 => match body ρ1 μ with
      | .nx ρ2 μ2 => forGo lv g body ds ρ2 μ2
      | .ct ρ2 μ2 => forGo lv g body ds ρ2 μ2
      | .brk ρ2 μ2 => .nx ρ2 μ2
      | .ret d μ2 => .ret d μ2
      | .exc c ns es ρ2 μ2 => .exc c ns es ρ2 μ2
      | .stuck => .stuck) else .stuck
def cFor (mi : MI) (g : TgM) (body : C) : C := fun ρ μ => (mi ρ μ).bindS ρ fun p μ1 => forGo p.1 g body p.2 ρ μ1
theorem SS.for (hp : PassesOwn (model X.prog X.w) X.A X.env X.xe) (hc : X.calm = true) (hi : SI X W tg iter mi) (hg : SG X vs tg g) (hb : SSs X W body cb) (hs : ∀ x, foldedSetIterable iter X.env x = pure x := by intro _; rfl) : SS X W (.For tg iter body [] pos) (cFor mi g cb) := by
  intro π ρ μ σ H Dn sm sl h
  refine WS.of (ps_for hp hc pi_wi pg_wg pss_wss hs) (hi π ρ μ σ H _ sm sl (GE.bindS sl h fun p μ1 J H1 π1 e1 g1 s1 w h1 => ?_))
  obtain ⟨lv, ds⟩ := p
  refine ⟨fun i m σ' H' => ∃ π' μ' ρ', Gr π1 H1 π' H' ∧ SimM X.K π' μ' H' ∧ SimL X.K π' H' ρ' σ' ∧ m = ds.length - i ∧ i ≤ ds.length ∧ GS X W π' H' Dn (forGo lv g cb (ds.drop i) ρ' μ'), ⟨ds.length, π1, μ1, ρ, Gr.refl, s1, g1.loc sl, by simp, Nat.zero_le _, by simpa using h1⟩, ?_⟩
  rintro i m σ' H' ⟨π', μ', ρ', g', s', l', rfl, hi', q⟩
  by_cases hlt : i < ds.length
  · have ed : ds.drop i = ds[i] :: ds.drop (i + 1) := List.drop_eq_getElem_cons hlt
    rw [ed] at q
    unfold forGo at q
    by_cases ok : lvOk lv μ' = true
    · rw [if_pos ok] at q
      refine .inr ⟨w.go i π' μ' H' H' hlt g' s' ok fun _ _ z => z, fun σ2 H2 => ∃ π2 μ2 ρ2, Gr π1 H1 π2 H2 ∧ SimM X.K π2 μ2 H2 ∧ SimL X.K π2 H2 ρ2 σ2 ∧ GS X W π2 H2 Dn (forGo lv g cb (ds.drop (i + 1)) ρ2 μ2), fun σ2 H2 z => ?_, fun x H2 y => ?_⟩
      · obtain ⟨π2, μ2, ρ2, a1, a2, a3, a4⟩ := z
        exact ⟨ds.length - (i + 1), by omega, π2, μ2, ρ2, a1, a2, a3, rfl, hlt, a4⟩
      · obtain ⟨d, L2, d1, k1, k2, k3, k4, k5, k6⟩ := w.yld i x π' μ' H' H' H2 hlt g' s' ok (fun _ _ z => z) y
        have ed2 : ds[i] = d := by
          rw [List.getElem?_eq_getElem hlt] at d1
          exact Option.some.inj d1
        rw [ed2] at q
        obtain ⟨s2, g2⟩ := k2.grow k4
        have gg : Gr π' H' π' H2 := k1.trans g2
        cases eg : g d ρ' with
        | none => rw [eg] at q; exact q.elim
        | some ρ1 =>
          rw [eg] at q
          dsimp only at q
          obtain ⟨σ1, l1, o1, q1⟩ := hg π' H2 ρ' ρ1 σ' d x (gg.loc l') (g2.rep k3) eg
          refine q1 H2 _ off_sub ?_
          refine hb π' ρ1 μ' σ1 H2 _ s2 l1 ?_
          have q' := GS.mono gg q
          cases eb : cb ρ1 μ' with
          | nx ρ2 μ2 =>
            rw [eb] at q'
            exact fun σ3 H3 π3 g3 s3 l3 => ⟨π3, μ2, ρ2, (g'.trans gg).trans g3, s3, l3, GS.mono g3 q'⟩
          | ct ρ2 μ2 =>
            rw [eb] at q'
            exact fun σ3 H3 π3 g3 s3 l3 => ⟨π3, μ2, ρ2, (g'.trans gg).trans g3, s3, l3, GS.mono g3 q'⟩
          | brk ρ2 μ2 => rw [eb] at q'; exact q'
          | ret d2 μ2 => rw [eb] at q'; exact q'
          | exc c ns es ρ2 μ2 => rw [eb] at q'; exact q'
          | stuck => rw [eb] at q'; exact q'
    · rw [if_neg ok] at q; exact q.elim
  · have e : i = ds.length := by omega
    subst e
    rw [List.drop_length] at q
    unfold forGo at q
    by_cases ok : lvOk lv μ' = true
    · rw [if_pos ok] at q
      exact .inl ⟨w.stop π' μ' H' H' g' s' ok fun _ _ z => z, q σ' H' π' Gr.refl s' l'⟩
    · rw [if_neg ok] at q; exact q.elim

/-! ### blocks and small statements -/
def cNil : C := fun ρ μ => .nx ρ μ
def cSeq (a b : C) : C := fun ρ μ => (a ρ μ).bind b
theorem SSs.nil : SSs X W [] cNil := fun π ρ μ σ H Dn sm sl h => WSs.of pss_nil (h σ H π Gr.refl sm sl)
theorem SSs.one (h : SS X W st cc) : SSs X W [st] cc := fun π ρ μ σ H Dn sm sl g => WSs.of (pss_one ps_ws) (h π ρ μ σ H Dn sm sl g)
theorem SSs.cons (h : SS X W st cc) (k : SSs X W sts cb) : SSs X W (st :: sts) (cSeq cc cb) := fun π ρ μ σ H Dn sm sl g =>
  WSs.of (pss_cons ps_ws pss_wss) (h π ρ μ σ H _ sm sl (GS.bind g (fun ρ1 μ1 σ1 H1 π1 e1 g1 s1 l1 h1 => k π1 ρ1 μ1 σ1 H1 Dn s1 l1 h1) rfl rfl rfl))
def cStuck : C := fun _ _ => .stuck
/-- what the proof never comes to -/
theorem SS.never : SS X W st cStuck := fun π ρ μ σ H Dn sm sl h => h.elim
theorem SSs.never : SSs X W sts cStuck := fun π ρ μ σ H Dn sm sl h => h.elim
theorem SS.pass : SS X W (.Pass pos) cNil := fun π ρ μ σ H Dn sm sl h => WS.of ps_pass (h σ H π Gr.refl sm sl)
def cBrk : C := fun ρ μ => .brk ρ μ
def cCt : C := fun ρ μ => .ct ρ μ
theorem SS.brk : SS X W (.Break pos) cBrk := fun π ρ μ σ H Dn sm sl h => WS.of ps_break (h σ H π Gr.refl sm sl)
theorem SS.ct : SS X W (.Continue pos) cCt := fun π ρ μ σ H Dn sm sl h => WS.of ps_continue (h σ H π Gr.refl sm sl)
def cRet (m : M D) : C := fun ρ μ => (m ρ μ).bindS ρ fun d μ1 => .ret d μ1
theorem SS.ret (h : SE X W a m) : SS X W (.Return (some a) pos) (cRet m) := fun π ρ μ σ H Dn sm sl g =>
  WS.of (ps_ret pe_we) (h π ρ μ σ H _ sm sl (GE.bindS sl g fun d μ1 v H1 π1 e1 g1 s1 r1 h1 => h1 v H1 π1 Gr.refl s1 r1))
def cRetN : C := fun _ μ => .ret .non μ
theorem SS.retN : SS X W (.Return none pos) cRetN := fun π ρ μ σ H Dn sm sl h => WS.of ps_retN (h .non H π Gr.refl sm (by unfold Rp Rep; rfl))
def cExpr (m : M D) : C := fun ρ μ => (m ρ μ).bindS ρ fun _ μ1 => .nx ρ μ1
theorem SS.expr (h : SE X W a m) (hs : swapsWith a none pos.line X.env = pure false := by rfl) : SS X W (.Expr a pos) (cExpr m) := fun π ρ μ σ H Dn sm sl g =>
  WS.of (ps_expr pe_we hs) (h π ρ μ σ H _ sm sl (GE.bindS sl g fun d μ1 v H1 π1 e1 g1 s1 r1 h1 => h1 σ H1 π1 Gr.refl s1 (g1.loc sl)))
def cIf (t : M Bool) (a b : C) : C := fun ρ μ => (t ρ μ).bindS ρ fun k μ1 => if k = true then a ρ μ1 else b ρ μ1
theorem SS.if_ {p q : List Stmt} {ca cb : C} (hc : ST X W c t) (ha : SSs X W p ca) (hb : SSs X W q cb) : SS X W (.If c p q pos) (cIf t ca cb) := fun π ρ μ σ H Dn sm sl g =>
  WS.of (ps_if pt_wt pss_wss pss_wss) (hc π ρ μ σ H _ sm sl (GE.bindS sl g fun k μ1 k' H1 π1 e1 g1 s1 r1 h1 => by
    cases r1
    cases k with
    | true => exact ha π1 ρ μ1 σ H1 Dn s1 (g1.loc sl) h1
    | false => exact hb π1 ρ μ1 σ H1 Dn s1 (g1.loc sl) h1))
/-- name = e -/
def cSet (i : Nat) (m : M D) : C := fun ρ μ => (m ρ μ).bindS ρ fun d μ1 => .nx (ρ.set i (some d)) μ1
theorem SS.set {pos' : Pos} (i : Nat) (hN : X.N.Nodup) (hi : X.N[i]? = some x) (hx : Loc X.env.scope x) (h : SE X W a m) (hs : swapsWith a (some (.Name x pos')) pos.line X.env = pure false := by rfl)
    (hf : X.fn x = true ∨ X.env.scope.names.lookup x = some .local := by first | exact .inl rfl | exact .inr rfl) : SS X W (.Assign [.Name x pos'] a pos) (cSet i m) := fun π ρ μ σ H Dn sm sl g =>
  WS.of (ps_set hN hi hx pe_we hs hf) (h π ρ μ σ H _ sm sl (GE.bindS sl g fun d μ1 v H1 π1 e1 g1 s1 r1 h1 => h1 _ H1 π1 Gr.refl s1 ((g1.loc sl).set r1 i)))
/-- a pattern = e -/
def cPat (g : TgM) (m : M D) : C := fun ρ μ => (m ρ μ).bindS ρ fun d μ1 => match g d ρ with
  | some ρ' => .nx ρ' μ1
  | none => .stuck
theorem SS.pat (hg : SG X vs tg g) (h : SE X W a m) (hs : swapsWithSole [tg] a pos.line X.env = pure false := by rfl) (hw : swappedStores [tg] a X.env = pure none := by rfl) (h1 : (assignEach [tg] X.env).map (·.2) = [assign tg X.env] := by rfl) :
    SS X W (.Assign [tg] a pos) (cPat g m) := fun π ρ μ σ H Dn sm sl q =>
  WS.of (ps_asg pe_we pg_wg hs hw h1) (h π ρ μ σ H _ sm sl (GE.bindS sl q fun d μ1 v H1 π1 e1 g1 s1 r1 h1 => by
    cases eg : g d ρ with
    | none => rw [eg] at h1; exact h1.elim
    | some ρ' =>
      rw [eg] at h1
      obtain ⟨σ1, l1, o1, q1⟩ := hg π1 H1 ρ ρ' σ d v (g1.loc sl) r1 eg
      exact q1 H1 _ off_sub (h1 σ1 H1 π1 Gr.refl s1 l1)))
/-- a, b = x, y -/
def cPar (i j : Nat) (ms : M (List D)) : C := fun ρ μ => (ms ρ μ).bindS ρ fun ds μ1 => match ds with
  | [d1, d2] => .nx ((ρ.set i (some d1)).set j (some d2)) μ1
  | _ => .stuck
theorem SS.par {x y : Str} {px py pt pt2 : Pos} {kt k2} (i j : Nat) (hc : X.calm = true) (hN : X.N.Nodup) (hi : X.N[i]? = some x) (hj : X.N[j]? = some y) (hij : i ≠ j) (hx : X.env.scope.names.lookup x = some .local) (hy : X.env.scope.names.lookup y = some .local)
    (ha : SA X W [a, b] ms) (hw : swappedStores [.Tuple [.Name x px, .Name y py] kt pt] (.Tuple [a, b] k2 pt2) X.env = pure (some [x, y])) (hs : swapsWithSole [.Tuple [.Name x px, .Name y py] kt pt] (.Tuple [a, b] k2 pt2) pos.line X.env = pure false := by rfl) :
    SS X W (.Assign [.Tuple [.Name x px, .Name y py] kt pt] (.Tuple [a, b] k2 pt2) pos) (cPar i j ms) := fun π ρ μ σ H Dn sm sl q =>
  WS.of (ps_par hc hN hi hj hij hx hy pa_wa hw hs) (ha π ρ μ σ H _ sm sl (GE.bindS sl q fun ds μ1 vs H1 π1 e1 g1 s1 r1 h1 => by
    split at h1
    · obtain ⟨v, w, rfl, rv, rw'⟩ := repL2 r1
      exact ⟨v, w, rfl, h1 _ H1 π1 Gr.refl s1 (((g1.loc sl).set rv i).set rw' j)⟩
    · exact h1.elim))
end
end Rv
set_option Elab.async false
set_option linter.all false
set_option maxRecDepth 100000
set_option maxHeartbeats 4000000
/-! Rv12: list comprehensions. -/
namespace Rv
open PySem PySem.Spec L2
open PyProof.Rows hiding St

/-! ### the new list is out of sight meanwhile -/
def rm (D : Addr) (H : Hp) : Hp := fun b => if b = D then none else H b
theorem rm_ne {D b : Addr} {H : Hp} (h : b ≠ D) : rm D H b = H b := if_neg h
theorem rm_self {D : Addr} {H : Hp} : rm D H D = none := if_pos rfl
theorem rm_upd {D : Addr} {H : Hp} {o : HO} : rm D (upd H D o) = rm D H := by
  funext b
  by_cases h : b = D
  · subst h; rw [rm_self, rm_self]
  · rw [rm_ne h, rm_ne h, upd_ne h]
theorem rm_none {D : Addr} {H : Hp} (h : H D = none) : rm D H = H := by
  funext b
  by_cases e : b = D
  · subst e; rw [rm_self, h]
  · rw [rm_ne e]
theorem upd_rm {D : Addr} {H : Hp} {o : HO} : upd (rm D H) D o = upd H D o := by
  funext b
  by_cases h : b = D
  · subst h; rw [upd_same, upd_same]
  · rw [upd_ne h, upd_ne h, rm_ne h]
theorem off_rm {D : Addr} {π : List Addr} {H : Hp} : off π (rm D H) = rm D (off π H) := by
  funext b
  unfold off rm
  by_cases h : b = D
  · rw [if_pos h, if_pos h]; split <;> rfl
  · rw [if_neg h, if_neg h]
theorem rm_some {D b : Addr} {H : Hp} {o : HO} (h : rm D H b = some o) : b ≠ D ∧ H b = some o := by
  by_cases e : b = D
  · subst e; rw [rm_self] at h; cases h
  · rw [rm_ne e] at h; exact ⟨e, h⟩
/-- a thing that no data is made of stands at D -/
def Dull : Option HO → Prop
  | some (.frz _ (.lst _)) => True
  | _ => False
section
variable {K : PySem.W.Frag} {G : Hp} {π : List Addr} {D0 : Addr}
theorem dull_ne {b : Addr} {o : HO} (hd : Dull (G D0)) (h : G b = some o) (k : ∀ ob us, o ≠ .frz ob (.lst us)) : b ≠ D0 := fun e => by
  subst e
  rw [h] at hd
  cases o with
  | frz ob u =>
    cases u with
    | lst us => exact k ob us rfl
    | _ => exact hd
  | _ => exact hd
theorem rd_skip {b : Addr} {xs : List V} (hd : Dull (G D0)) (h : SqT K G b xs) : SqT K (rm D0 G) b xs := by
  rcases h with (h | ⟨o, h⟩) | h
  · exact .inl (.inl (by rw [rm_ne (dull_ne hd h fun _ _ z => nomatch z)]; exact h))
  · exact .inl (.inr ⟨o, by rw [rm_ne (dull_ne hd h fun _ _ z => nomatch z)]; exact h⟩)
  · exact .inr h
mutual
theorem Rep.skip (hd : Dull (G D0)) : ∀ {d : D} {v : V}, Rep K G π d v → Rep K (rm D0 G) π d v
  | .non, _, h => h
  | .bl _, _, h => h
  | .int _, _, h => h
  | .str _, _, h => h
  | .tup ds, _, h => by
    unfold Rep at h ⊢
    obtain ⟨a, vs, h1, h2, h3⟩ := h
    exact ⟨a, vs, h1, rd_skip hd h2, RepL.skip hd h3⟩
  | .lst ds, _, h => by
    unfold Rep at h ⊢
    obtain ⟨a, vs, h1, h2, h3⟩ := h
    exact ⟨a, vs, h1, by rw [rm_ne (dull_ne hd h2 fun _ _ z => nomatch z)]; exact h2, RepL.skip hd h3⟩
  | .dct ks ds, _, h => by
    unfold Rep at h ⊢
    obtain ⟨a, vs, h1, h2, h3, h4⟩ := h
    exact ⟨a, vs, h1, by rw [rm_ne (dull_ne hd h2 fun _ _ z => nomatch z)]; exact h2, h3, RepL.skip hd h4⟩
  | .obj c ns ds, _, h => by
    unfold Rep at h ⊢
    obtain ⟨a, dx, fs, h1, h2, h3, h4⟩ := h
    exact ⟨a, dx, fs, h1, by rw [rm_ne (dull_ne hd h2 fun _ _ z => nomatch z)]; exact h2, h3, RepL.skip hd h4⟩
  | .ref n, _, h => h
  | .cls _, _, h => h
  | .ty _, _, h => h
  | .scr ns, _, h => by
    unfold Rep at h ⊢
    obtain ⟨a, h1, h2⟩ := h
    refine ⟨a, h1, ?_⟩
    rcases h2 with h2 | ⟨us, h2, h3⟩
    · exact .inl h2
    · exact .inr ⟨us, by rw [rm_ne (dull_ne hd h2 fun _ _ z => nomatch z)]; exact h2, h3⟩
  | .exn c ns ds, _, h => by
    unfold Rep at h ⊢
    obtain ⟨a, d, fs, h1, h2, h3, h4, h5, h6⟩ := h
    exact ⟨a, d, fs, h1, by rw [rm_ne (dull_ne hd h2 fun _ _ z => exo_frz z)]; exact h2, fun dx z => by rw [rm_ne (dull_ne hd (h3 dx z) fun _ _ z => nomatch (show HO.ext _ = HO.frz _ _ from z))]; exact h3 dx z, h4, h5, RepL.skip hd h6⟩
theorem RepL.skip (hd : Dull (G D0)) : ∀ {ds : List D} {vs : List V}, RepL K G π ds vs → RepL K (rm D0 G) π ds vs
  | [], _, h => h
  | d :: ds, _, h => by
    obtain ⟨v, r, h1, h2, h3⟩ := h.uncons
    rw [h1]
    exact .cons (Rep.skip hd h2) (RepL.skip hd h3)
end
theorem RepO.skip {m : MO} {o : Option HO} (hd : Dull (G D0)) (h : RepO K G π m o) : RepO K (rm D0 G) π m o := by
  cases m with
  | lst ds => obtain ⟨vs, a, b⟩ := h; exact ⟨vs, a, b.skip hd⟩
  | dct ks ds => obtain ⟨vs, a, b, c⟩ := h; exact ⟨vs, a, b, c.skip hd⟩
  | ins c ns ds => obtain ⟨dx, fs, a, b, c⟩ := h; exact ⟨dx, fs, a, b, c.skip hd⟩
end
section
variable {K : PySem.W.Frag} {H : Hp} {π π2 : List Addr} {D0 : Addr} {μ : Store}
theorem off_dull (hn : D0 ∉ π) (hd : Dull (H D0)) : Dull (off π H D0) := by rw [off_ne hn]; exact hd
theorem Rp.skip {d : D} {v : V} (hn : D0 ∉ π) (hd : Dull (H D0)) (h : Rp K π H d v) : Rp K π (rm D0 H) d v := by
  unfold Rp
  rw [off_rm]
  exact Rep.skip (off_dull hn hd) h
theorem SimM.skip (hn : D0 ∉ π) (hd : Dull (H D0)) (s : SimM K π μ H) : SimM K π μ (rm D0 H) := ⟨s.nd, s.len, fun n a m h1 h2 => by
  have q := (s.obj n a m h1 h2).skip (off_dull hn hd)
  rw [← off_rm] at q
  rw [rm_ne fun z => hn (by rw [← z]; exact List.mem_of_getElem? h1)]
  exact q⟩
theorem SimL.skip {ρ : Env'} {σ : L2.St} (hn : D0 ∉ π) (hd : Dull (H D0)) (l : SimL K π H ρ σ) : SimL K π (rm D0 H) ρ σ := ⟨l.len, fun i d e => let ⟨v, a, b⟩ := l.loc i d e; ⟨v, a, Rp.skip hn hd b⟩⟩
/-- from out of sight into the lock -/
theorem SimM.lock {od : Obj} {acc : List V} (s : SimM K π μ (rm D0 H)) : SimM K π μ (upd H D0 (.frz od (.lst acc))) ∧ Gr π (rm D0 H) π (upd H D0 (.frz od (.lst acc))) := by
  have z := s.new (p := D0) (o := .frz od (.lst acc)) rm_self
  rw [upd_rm] at z
  have g : Gr π (rm D0 H) π (upd (rm D0 H) D0 (.frz od (.lst acc))) := Gr.new rm_self
  rw [upd_rm] at g
  exact ⟨z, g⟩
/-- .. and back -/
theorem SimM.unlock_ {od : Obj} {acc : List V} {H' : Hp} (s : SimM K π μ (rm D0 H)) (g : Gr π (upd H D0 (.frz od (.lst acc))) π2 H') : D0 ∉ π2 ∧ H' D0 = some (.frz od (.lst acc)) ∧ Dull (H' D0) ∧ Gr π (rm D0 H) π2 (rm D0 H') := by
  have hn : D0 ∉ π := s.in_ rm_self
  have q := g.keep D0 (.frz od (.lst acc)) (by rw [off_ne hn, upd_same])
  obtain ⟨q1, q2⟩ := off_some q
  refine ⟨q1, q2, by rw [q2]; trivial, ⟨g.pre, fun b o e => ?_⟩⟩
  obtain ⟨e1, e2⟩ := off_some e
  obtain ⟨e3, e4⟩ := rm_some e2
  have z := g.keep b o (by rw [off_ne e1, upd_ne e3]; exact e4)
  obtain ⟨z1, z2⟩ := off_some z
  rw [off_ne z1, rm_ne e3]
  exact z2
end
def wipeM (ρ : Env') : List Nat → Env'
  | [] => ρ
  | v :: vs => (wipeM ρ vs).set v none
theorem wipeM_length (ρ : Env') : ∀ vs : List Nat, (wipeM ρ vs).length = ρ.length
  | [] => rfl
  | v :: vs => by unfold wipeM; rw [List.length_set, wipeM_length ρ vs]
theorem wipeM_some {ρ : Env'} {i : Nat} {x : D} : ∀ {vs : List Nat}, (wipeM ρ vs)[i]? = some (some x) → ρ[i]? = some (some x) ∧ i ∉ vs
  | [], h => ⟨h, by simp⟩
  | v :: vs, h => by
    unfold wipeM at h
    by_cases hi : v = i
    · subst hi
      by_cases hv : v < (wipeM ρ vs).length
      · rw [List.getElem?_set_self hv] at h; cases h
      · rw [List.getElem?_eq_none (by simpa using hv)] at h; cases h
    · rw [List.getElem?_set_ne hi] at h
      obtain ⟨h1, h2⟩ := wipeM_some h
      exact ⟨h1, fun z => (List.mem_cons.mp z).elim (fun e => hi e.symm) h2⟩
theorem SimL.wipe {K : PySem.W.Frag} {π : List Addr} {H : Hp} {ρ : Env'} {σ : L2.St} (l : SimL K π H ρ σ) (vs : List Nat) : SimL K π H (wipeM ρ vs) (L2.wipe σ vs) := by
  refine ⟨by rw [wipe_length, wipeM_length, l.len], fun i d e => ?_⟩
  obtain ⟨h1, h2⟩ := wipeM_some e
  obtain ⟨v, a, b⟩ := l.loc i d h1
  exact ⟨v, by rw [wipe_out h2]; exact a, b⟩
theorem wipe_wipe {σ : L2.St} {vs : List Nat} : wipe (wipe σ vs) vs = wipe σ vs := by
  refine List.ext_getElem? fun j => ?_
  rw [wipe_at, wipe_length, wipe_at]
  split <;> rfl
/-- a test in the lock -/
def tLockT (t : TT) : TT := fun σ H Q => ∃ d u, H d = some u ∧ Mut (some u) ∧ ∀ od, t σ (upd H d (.frz od u)) fun b H' => H' d = some (.frz od u) ∧ Q b (upd H' d u)
section
variable {X : Cx} {W : WX} {c elt tg iter : Expr} {ifs : List Expr} {m n : M D} {t : M Bool} {g : TgM} {mi : MI} {pos : Pos} {scope : Scope} {own : List (Str × Nat)} {vs : List Nat}
theorem pt_lock {t : TT} (h : PT X c t) : PT X c (tLockT t) := by
  refine ⟨fun pins s σ H Q I hw => ?_⟩
  obtain ⟨d, u, hd, mu, hw⟩ := hw
  obtain ⟨od, I1⟩ := I.lock hd mu
  refine thn (h.run pins s σ _ _ I1 (hw od)) fun b s1 z => ?_
  obtain ⟨H1, I2, e2, q⟩ := z
  exact ⟨_, I2.unlock e2 (I.nofrz hd mu), q⟩
/-- no exception leaves a comprehension -/
def W0 : WX := fun _ _ _ _ => False
abbrev Cx.in_ (X : Cx) (scope : Scope) (s : Shared) (H : Hp) (C : Addr) (cl : List (Str × Addr)) (fp : List Addr) : Cx := X.blk s H scope (compEnvC scope cl C X.env) fp
/-- tests of a clause -/
def STs (X : Cx) (W : WX) (ifs : List Expr) (t : M Bool) : Prop := (ifs = [] ∧ t = fun _ μ => .ok true μ) ∨ ∃ c, ifs = [c] ∧ ST X W c t
def lcGo (lv : Lv) (g : TgM) (t : M Bool) (m : M D) (ρ0 : Env') : List D → Store → Out (List D)
  | [], μ => if lvOk lv μ = true then .ok [] μ else .stuck
  | d :: ds, μ => if lvOk lv μ = true then (match g d ρ0 with
    | none => .stuck
    | some ρ1 => (t ρ1 μ).bind fun k μ1 => if k = true then (m ρ1 μ1).bind fun y μ2 => (lcGo lv g t m ρ0 ds μ2).bind fun ys μ3 => .ok (y :: ys) μ3 else lcGo lv g t m ρ0 ds μ1) else .stuck
def mLc (mi : MI) (vs : List Nat) (g : TgM) (t : M Bool) (m : M D) : M (List D) := fun ρ μ => (mi ρ μ).bind fun p μ1 => if p.2.length ≤ maxL then (lcGo p.1 g t m (wipeM ρ vs) p.2 μ1).only else .stuck
theorem Out.bind_okI {α β : Type} {o : Out α} {f : α → Store → Out β} {b : β} {μ : Store} (h : o.bind f = .ok b μ) : ∃ a μ1, o = .ok a μ1 ∧ f a μ1 = .ok b μ := by
  cases o with
  | ok a μ1 => exact ⟨a, μ1, rfl, h⟩
  | exc c ns ds μ1 => cases h
  | stuck => cases h
theorem GF.only {π : List Addr} {σ : L2.St} {H : Hp} {Q : VK} {o : Out (List D)} (h : GF X W π σ H Q o.only) : ∃ ds μ', o = .ok ds μ' ∧ GF X W π σ H Q (.ok ds μ') := by
  cases o with
  | ok ds μ' => exact ⟨ds, μ', rfl, h⟩
  | exc c ns ds μ' => exact h.elim
  | stuck => exact h.elim
def gAll (X : Cx) (scope : Scope) (tg : Expr) : TG := fun v σ H Q => ∀ s H0 C cl fp, WG (Cx.in_ X scope s H0 C cl fp) tg v σ H Q
def tAll (X : Cx) (scope : Scope) (ifs : List Expr) : TT := fun σ H Q => ∀ s H0 C cl fp, (ifs = [] ∧ Q true H) ∨ ∃ c, ifs = [c] ∧ tLockT (WT (Cx.in_ X scope s H0 C cl fp) c) σ H Q
def eAll (X : Cx) (scope : Scope) (elt : Expr) : TE := fun σ H Q => ∀ s H0 C cl fp, tLockE (WE (Cx.in_ X scope s H0 C cl fp) elt) σ H Q
theorem gAll_ok (s : Shared) (H0 : Hp) (C : Addr) (cl : List (Str × Addr)) (fp : List Addr) : PG (X.blk s H0 scope (compEnvC scope cl C X.env) fp) tg (gAll X scope tg) := ⟨fun pins st σ H v u Q I r h => h s H0 C cl fp pins st u I r⟩
theorem tAll_ok (s : Shared) (H0 : Hp) (C : Addr) (cl : List (Str × Addr)) (fp : List Addr) : PTs (X.blk s H0 scope (compEnvC scope cl C X.env) fp) ifs (tAll X scope ifs) := ⟨fun pins st σ H Q I h => by
  rcases h s H0 C cl fp with ⟨e, k⟩ | ⟨c, e, k⟩
  · subst e
    exact pts_nil.run pins st σ H Q I k
  · subst e
    exact (pts_one (pt_lock pt_wt)).run pins st σ H Q I k⟩
theorem eAll_ok (s : Shared) (H0 : Hp) (C : Addr) (cl : List (Str × Addr)) (fp : List Addr) : PE (X.blk s H0 scope (compEnvC scope cl C X.env) fp) elt (eAll X scope elt) := ⟨fun pins st σ H Q I h => (pe_lock pe_we).run pins st σ H Q I (h s H0 C cl fp)⟩
theorem lc_t {π : List Addr} {ρ : Env'} {μ : Store} {σ : L2.St} {H : Hp} {Q : VK} (hi : SI X W tg iter mi) (hv : ∀ i ∈ vs, i ∈ own.map (·.2))
    (hg : ∀ s H C cl fp, SG (Cx.in_ X scope s H C cl fp) vs tg g) (ht : ∀ s H C cl fp, STs (Cx.in_ X scope s H C cl fp) W0 ifs t) (he : ∀ s H C cl fp, SE (Cx.in_ X scope s H C cl fp) W0 elt m)
    (sm : SimM X.K π μ H) (sl : SimL X.K π H ρ σ) (h : GF X W π σ H Q (mLc mi (own.map (·.2)) g t m ρ μ)) : tLc (WI X tg iter) (gAll X scope tg) (tAll X scope ifs) (eAll X scope elt) (own.map (·.2)) σ H Q := by
  refine (hi π ρ μ σ H _ sm sl (GF.bindA h fun p μ1 J H1 π1 e1 g1 s1 w h1 => ?_))
  obtain ⟨lv, ds⟩ := p
  by_cases hl : ds.length ≤ maxL
  · rw [if_pos hl] at h1
    obtain ⟨ysF, μF, eF, hF⟩ := GF.only h1
    intro A hA
    generalize hvs : own.map (·.2) = us at *
    refine ⟨fun i k H' => k = ds.length - i ∧ i ≤ ds.length ∧ ∃ π' μ' acc accV ys, Gr π1 H1 π' (rm A H') ∧ SimM X.K π' μ' (rm A H') ∧ H' A = some (.lst accV) ∧ RpL X.K π' (rm A H') acc accV ∧ acc.length ≤ i ∧ lcGo lv g t m (wipeM ρ us) (ds.drop i) μ' = .ok ys μF ∧ acc ++ ys = ysF,
      ⟨ds.length, rfl, Nat.zero_le _, π1, μ1, [], [], ysF, ?_⟩, ?_⟩
    · rw [rm_upd, rm_none hA]
      exact ⟨Gr.refl, s1, upd_same, .nil, Nat.le_refl _, eF, rfl⟩
    · rintro i k H' ⟨rfl, hi', π', μ', acc, accV, ys, g', s', hD, rA, la, eG, eY⟩
      have subs : ∀ b o, rm A H' b = some o → H' b = some o := fun b o e => (rm_some e).2
      have slW : SimL X.K π' (rm A H') (wipeM ρ us) (wipe σ us) := (g'.loc (g1.loc sl)).wipe us
      by_cases hlt : i < ds.length
      · have ed : ds.drop i = ds[i] :: ds.drop (i + 1) := List.drop_eq_getElem_cons hlt
        rw [ed] at eG
        unfold lcGo at eG
        by_cases okv : lvOk lv μ' = true
        · rw [if_pos okv] at eG
          refine .inr ⟨w.go i π' μ' (rm A H') H' hlt g' s' okv subs, fun H2 => i + 1 ≤ ds.length ∧ ∃ π' μ' acc accV ys, Gr π1 H1 π' (rm A H2) ∧ SimM X.K π' μ' (rm A H2) ∧ H2 A = some (.lst accV) ∧ RpL X.K π' (rm A H2) acc accV ∧ acc.length ≤ i + 1 ∧ lcGo lv g t m (wipeM ρ us) (ds.drop (i + 1)) μ' = .ok ys μF ∧ acc ++ ys = ysF,
            fun H2 z => ⟨ds.length - (i + 1), by omega, rfl, z⟩, fun x H2 y => ?_⟩
          obtain ⟨d, L2, d1, k1, k2, k3, k4, k5, k6⟩ := w.yld i x π' μ' (rm A H') H' H2 hlt g' s' okv subs y
          have ed2 : ds[i] = d := by
            rw [List.getElem?_eq_getElem hlt] at d1
            exact Option.some.inj d1
          rw [ed2] at eG
          have hL2 : L2 A = none := by
            rw [k6 A (by rw [hD]; exact fun z => nomatch z)]
            exact rm_self
          have k4' : ∀ b o, L2 b = some o → rm A H2 b = some o := fun b o e => by
            rw [rm_ne (ne_of_none e hL2)]
            exact k4 b o e
          obtain ⟨s2, g2⟩ := k2.grow k4'
          have gg : Gr π' (rm A H') π' (rm A H2) := k1.trans g2
          have hD2 : H2 A = some (.lst accV) := k5 _ _ hD
          cases eg : g d (wipeM ρ us) with
          | none => rw [eg] at eG; cases eG
          | some ρ1 =>
            rw [eg] at eG
            dsimp only at eG
            obtain ⟨b, μ3, et, eG⟩ := Out.bind_okI eG
            intro s0 H0 C cl fp
            obtain ⟨σ2, l2, o2, q2⟩ := hg s0 H0 C cl fp π' (rm A H2) (wipeM ρ us) ρ1 (wipe σ us) d x (gg.loc slW) (g2.rep k3) eg
            refine q2 H2 _ (fun b o e => (rm_some (off_sub _ _ e)).2) ⟨?_, ?_⟩
            · rw [o2 us hv, wipe_wipe]
            -- the tests, then the item
            have item : ∀ H3 π3, Gr π' (rm A H2) π3 (rm A H3) → SimM X.K π3 μ3 (rm A H3) → H3 A = some (.lst accV) → (if b = true then ∀ s H0 C cl fp, tLockE (WE (Cx.in_ X scope s H0 C cl fp) elt) σ2 H3 (fun y H4 => ∃ acc, H4 A = some (.lst acc) ∧ acc.length < sizeLine ∧
                (fun H2 => i + 1 ≤ ds.length ∧ ∃ π' μ' acc accV ys, Gr π1 H1 π' (rm A H2) ∧ SimM X.K π' μ' (rm A H2) ∧ H2 A = some (.lst accV) ∧ RpL X.K π' (rm A H2) acc accV ∧ acc.length ≤ i + 1 ∧ lcGo lv g t m (wipeM ρ us) (ds.drop (i + 1)) μ' = .ok ys μF ∧ acc ++ ys = ysF) (upd H4 A (.lst (acc ++ [y]))))
                else i + 1 ≤ ds.length ∧ ∃ π' μ' acc accV ys, Gr π1 H1 π' (rm A H3) ∧ SimM X.K π' μ' (rm A H3) ∧ H3 A = some (.lst accV) ∧ RpL X.K π' (rm A H3) acc accV ∧ acc.length ≤ i + 1 ∧ lcGo lv g t m (wipeM ρ us) (ds.drop (i + 1)) μ' = .ok ys μF ∧ acc ++ ys = ysF) := by
              intro H3 π3 g3 s3 hD3
              cases b with
              | true =>
                rw [if_pos rfl] at eG ⊢
                obtain ⟨yd, μ4, em, eG⟩ := Out.bind_okI eG
                obtain ⟨ys', μ5, er, eG⟩ := Out.bind_okI eG
                cases eG
                intro s1 H1' C1 cl1 fp1
                refine ⟨A, .lst accV, hD3, trivial, fun od => ?_⟩
                obtain ⟨s3', g3'⟩ := s3.lock (od := od) (acc := accV)
                refine he s1 H1' C1 cl1 fp1 π3 ρ1 μ3 σ2 _ _ s3' ((g3.trans g3').loc l2) ?_
                rw [em]
                intro yv H4 π4 g4 s4 r4
                obtain ⟨n4, e4, d4, u4⟩ := s3.unlock_ g4
                refine ⟨e4, accV, upd_same, ?_, hlt, π4, μ4, acc ++ [yd], accV ++ [yv], ys', ?_, ?_, upd_same, ?_, ?_, er, ?_⟩
                · have := rA.length
                  rw [this, sizeLine_eq]
                  have : maxL = 16777216 := rfl
                  omega
                · rw [rm_upd, rm_upd]
                  exact ((g'.trans gg).trans g3).trans u4
                · rw [rm_upd, rm_upd]
                  exact s4.skip n4 d4
                · rw [rm_upd, rm_upd]
                  exact (((gg.trans g3).trans u4).repL rA).append (.one (Rp.skip n4 d4 r4))
                · rw [List.length_append, List.length_singleton]; omega
                · rw [List.append_assoc]; exact eY
              | false =>
                rw [if_neg (by decide)] at eG ⊢
                exact ⟨hlt, π3, μ3, acc, accV, ys, (g'.trans gg).trans g3, s3, hD3, (gg.trans g3).repL rA, by omega, eG, eY⟩
            intro s1 H1' C1 cl1 fp1
            rcases ht s1 H1' C1 cl1 fp1 with ⟨hz, rfl⟩ | ⟨c, hz, hT⟩
            · cases et
              exact .inl ⟨hz, item H2 π' Gr.refl s2 hD2⟩
            · refine .inr ⟨c, hz, A, .lst accV, hD2, trivial, fun od => ?_⟩
              obtain ⟨s3', g3'⟩ := s2.lock (od := od) (acc := accV)
              refine hT π' ρ1 μ' σ2 _ _ s3' (g3'.loc l2) ?_
              rw [et]
              intro bv H3 π3 g3 s3 r3
              cases r3
              obtain ⟨n3, e3, d3, u3⟩ := s2.unlock_ g3
              refine ⟨e3, ?_⟩
              refine item (upd H3 A (.lst accV)) π3 ?_ ?_ upd_same
              · rw [rm_upd]; exact u3
              · rw [rm_upd]; exact s3.skip n3 d3
        · rw [if_neg okv] at eG; cases eG
      · have e : i = ds.length := by omega
        subst e
        rw [List.drop_length] at eG
        unfold lcGo at eG
        by_cases okv : lvOk lv μ' = true
        · rw [if_pos okv] at eG
          cases eG
          refine .inl ⟨w.stop π' _ (rm A H') H' g' s' okv subs, ?_⟩
          have z := hF A accV (rm A H') π' rm_self g' s' (by rw [← eY, List.append_nil]; exact rA)
          rw [upd_rm] at z
          have e2 : upd H' A (.lst accV) = H' := by
            funext b
            by_cases hb : b = A
            · subst hb; rw [upd_same, hD]
            · rw [upd_ne hb]
          rw [e2] at z
          exact z
        · rw [if_neg okv] at eG; cases eG
  · rw [if_neg hl] at h1; exact h1.elim
theorem SF.lc (hc : X.calm = true) (hN : X.N.Nodup) (hi : SI X W tg iter mi) (ok : BlkOk X.N X.env.scope scope own) (hv : ∀ i ∈ vs, i ∈ own.map (·.2))
    (hg : ∀ s H C cl fp, SG (Cx.in_ X scope s H C cl fp) vs tg g) (ht : ∀ s H C cl fp, STs (Cx.in_ X scope s H C cl fp) W0 ifs t) (he : ∀ s H C cl fp, SE (Cx.in_ X scope s H C cl fp) W0 elt m)
    (hs : ∀ x, foldedSetIterable iter X.env x = pure x := by intro _; rfl) : SF X W (.ListComp elt [⟨tg, iter, ifs, 0⟩] scope pos) (mLc mi (own.map (·.2)) g t m) := fun π ρ μ σ H Q sm sl h =>
  WE.of (pe_lc hc hN pi_wi ok gAll_ok tAll_ok eAll_ok hs) (lc_t hi hv hg ht he sm sl h)
/-- a way to take a new list: it stays as it is, or goes on being changed -/
def Fresh (X : Cx) (W : WX) (k : M (List D) → M D) : Prop := ∀ (ml : M (List D)) (π : List Addr) (ρ : Env') (μ : Store) (σ : L2.St) (H : Hp) (Q : VK), GE X W (Rp X.K) π σ H Q (k ml ρ μ) → GF X W π σ H Q (ml ρ μ)
theorem fresh_fz : Fresh X W mFz := fun ml π ρ μ σ H Q g => by
  unfold mFz at g
  cases q : ml ρ μ with
  | ok ds μ1 =>
    rw [q] at g
    exact fun p vs H1 π' hp g1 s1 r1 => GE.newL (GE.mono g1 g) s1 r1 hp
  | exc c ns ds μ1 => rw [q] at g; exact g
  | stuck => rw [q] at g; exact g
theorem fresh_nw : Fresh X W mNw := fun ml π ρ μ σ H Q g => by
  unfold mNw at g
  cases q : ml ρ μ with
  | ok ds μ1 =>
    rw [q] at g
    intro p vs H1 π' hp g1 s1 r1
    obtain ⟨z1, z2, z3⟩ := rep_newref s1 hp r1
    exact g (.ref p) _ (π' ++ [p]) (g1.trans z2) z1 z3
  | exc c ns ds μ1 => rw [q] at g; exact g
  | stuck => rw [q] at g; exact g
/-- name = [.. for ..] on one line -/
theorem SS.setLc {k : M (List D) → M D} {y : Str} {py spos : Pos} (i : Nat) (fk : Fresh X W k) (hy : X.N[i]? = some y) (hyl : X.env.scope.names.lookup y = some .local) (hsw : swapsWith (.ListComp elt [⟨tg, iter, ifs, 0⟩] scope pos) (some (.Name y py)) spos.line X.env = pure true)
    (hc : X.calm = true) (hN : X.N.Nodup) (hi : SI X W tg iter mi) (ok : BlkOk X.N X.env.scope scope own) (hv : ∀ i ∈ vs, i ∈ own.map (·.2))
    (hg : ∀ s H C cl fp, SG (Cx.in_ X scope s H C cl fp) vs tg g) (ht : ∀ s H C cl fp, STs (Cx.in_ X scope s H C cl fp) W0 ifs t) (he : ∀ s H C cl fp, SE (Cx.in_ X scope s H C cl fp) W0 elt m)
    (hs : ∀ x, foldedSetIterable iter X.env x = pure x := by intro _; rfl) : SS X W (.Assign [.Name y py] (.ListComp elt [⟨tg, iter, ifs, 0⟩] scope pos) spos) (cSet i (k (mLc mi (own.map (·.2)) g t m))) := fun π ρ μ σ H Dn sm sl h =>
  WS.of (ps_setLc hc hN hy hyl hsw pi_wi ok gAll_ok tAll_ok eAll_ok hs) (lc_t (Q := fun x H1 => gName i x σ H1 Dn.nx) hi hv hg ht he sm sl (fk _ π ρ μ σ H _ (GE.bindS sl h fun d μ1 v H1 π1 e1 g1 s1 r1 h1 => h1 _ H1 π1 Gr.refl s1 ((g1.loc sl).set r1 i))))
end
end Rv
set_option Elab.async false
set_option linter.all false
set_option maxRecDepth 100000
set_option maxHeartbeats 4000000
/-! Rv13: things changed: items, fields, append; a comprehension set to a name; try without an exception. -/
namespace Rv
open PySem PySem.Spec L2
open PyProof.Rows hiding St

section
variable {K : PySem.W.Frag} {π : List Addr} {H : Hp} {μ : Store}
theorem off_upd {a : Addr} {o : HO} (h : a ∈ π) : off π (upd H a o) = off π H := by
  funext b
  unfold off
  by_cases hb : b ∈ π
  · rw [if_pos hb, if_pos hb]
  · rw [if_neg hb, if_neg hb, upd_ne fun z => hb (by rw [z]; exact h)]
/-- one of the things that may be changed is changed -/
theorem SimM.write {k : Nat} {a : Addr} {m : MO} {o : HO} (s : SimM K π μ H) (ha : π[k]? = some a) (r : RepO K (off π H) π m (some o)) : SimM K π (μ.set k m) (upd H a o) ∧ Gr π H π (upd H a o) := by
  have hm : a ∈ π := List.mem_of_getElem? ha
  refine ⟨⟨s.nd, by rw [List.length_set, s.len], fun n b m' h1 h2 => ?_⟩, ⟨⟨[], by simp⟩, fun b u e => by rw [off_upd hm]; exact e⟩⟩
  rw [off_upd hm]
  by_cases hk : k = n
  · subst hk
    rw [ha] at h1
    cases h1
    have hl : k < μ.length := by rw [← s.len]; exact (List.getElem?_eq_some_iff.mp ha).1
    rw [List.getElem?_set_self hl] at h2
    cases h2
    rw [upd_same]
    exact r
  · rw [List.getElem?_set_ne hk] at h2
    have nb : b ≠ a := fun e => by
      subst e
      obtain ⟨l1, e1⟩ := List.getElem?_eq_some_iff.mp ha
      obtain ⟨l2, e2⟩ := List.getElem?_eq_some_iff.mp h1
      exact hk ((List.getElem_inj s.nd).mp (e1.trans e2.symm))
    rw [upd_ne nb]
    exact s.obj n b m' h1 h2
end
section
variable {X : Cx} {W : WX} {e a b c o tg iter elt value : Expr} {es rest ifs : List Expr} {m n mo mx : M D} {ms mk ml : M (List D)} {pos pos' p p1 apos cpos tpos : Pos} {x f : Str} {F : Fn} {cl : Str} {vs ws : List Nat}
variable {st : Stmt} {body sts : List Stmt} {g : TgM} {cc cb : C} {mi : MI} {t : M Bool} {scope : Scope} {own : List (Str × Nat)}

/-! ### xs.append(e) -/
def fApp (d1 d2 : D) (μ : Store) : Out D := match d1 with
  | .ref k => (match μ[k]? with
    | some (.lst ds) => if ds.length < maxL then .ok .non (μ.set k (.lst (ds ++ [d2]))) else .stuck
    | _ => .stuck)
  | _ => .stuck
def mApp (m n : M D) : M D := fun ρ μ => (m ρ μ).bind fun d1 μ1 => match asL μ1 d1 with
  | some _ => (n ρ μ1).bind fun d2 μ2 => fApp d1 d2 μ2
  | none => .stuck
theorem SE.append (ho : SE X W o m) (ha : SE X W a n) (hbase : attributeBase o "append" X.env (eval o X.env) = eval o X.env := by rfl)
    (hfew : ((backTo cpos (starEach [a] X.env)).all (fun x => !x.1) && (backToKw cpos (keywordEach [] X.env)).all (fun x => x.1.isSome) && decide (([a] : List Expr).length + ([] : List Keyword).length + (if ([] : List Keyword).isEmpty then 0 else 1) < 30)) = true := by rfl)
    (hline : (apos.endLine == cpos.line) = true := by rfl) (hs : starEach [a] X.env = (false, eval a X.env) :: starEach [] X.env := by rfl) (hplain : (backTo cpos (starEach [] X.env)).any (·.1) = false := by rfl) :
    SE X W (.Call (.Attribute o "append" apos) [a] [] cpos) (mApp m n) := fun π ρ μ σ H Q sm sl h => by
  refine WE.of (pe_bm PySem.F.plainAttrs_list PySem.F.slot_list_append PySem.F.type_list_append mt_append pe_we (pa_cons pe_we pa_nil hs) hbase hfew hline hs hplain) (ho π ρ μ σ H _ sm sl (GE.bind h fun d1 μ1 v H1 π1 e1 g1 s1 r1 h1 => ?_))
  cases q : asL μ1 d1 with
  | none => rw [q] at h1; exact h1.elim
  | some ds0 =>
    rw [q] at h1
    obtain ⟨p, us, rfl, hp, rp⟩ := asL_view s1 r1 q
    refine ⟨.inl ⟨rfl, us, hp⟩, ha π1 ρ μ1 σ H1 _ s1 (g1.loc sl) (GE.bind h1 fun d2 μ2 y H2 π2 e2 g2 s2 r2 h2 => ?_)⟩
    have r1' := g2.rep r1
    unfold fApp at h2
    split at h2
    · rename_i k
      unfold Rp Rep at r1'
      obtain ⟨p', hk, ep⟩ := r1'
      cases ep
      split at h2
      · rename_i ds e
        by_cases hl : ds.length < maxL
        · rw [if_pos hl] at h2
          obtain ⟨ws, h3, h4⟩ := s2.obj k p _ hk e
          obtain ⟨s3, g3⟩ := s2.write (m := .lst (ds ++ [d2])) (o := .lst (ws ++ [y])) hk ⟨_, rfl, h4.append (.one r2)⟩
          exact ⟨p, ws, y, rfl, rfl, h3, by rw [h4.length, sizeLine_eq]; exact hl, h2 .non _ π2 g3 s3 (by unfold Rp Rep; rfl)⟩
        · rw [if_neg hl] at h2; exact h2.elim
      · exact h2.elim
    · exact h2.elim

/-! ### targets of statements -/
def SGS (X : Cx) (W : WX) (tg : Expr) (g : D → C) : Prop := ∀ (π : List Addr) (ρ : Env') (μ : Store) (σ : L2.St) (H : Hp) (d : D) (v : V) (Dn : Ends), SimM X.K π μ H → SimL X.K π H ρ σ → Rp X.K π H d v → GS X W π H Dn (g d ρ μ) → WG X tg v σ H Dn.nx
def SGSs (X : Cx) (W : WX) (es : List Expr) (g : List D → C) : Prop := ∀ (π : List Addr) (ρ : Env') (μ : Store) (σ : L2.St) (H : Hp) (ds : List D) (us : List V) (Dn : Ends), SimM X.K π μ H → SimL X.K π H ρ σ → RpL X.K π H ds us → GS X W π H Dn (g ds ρ μ) → WGs X es us σ H Dn.nx
def tgP (g : TgM) : D → C := fun d ρ μ => match g d ρ with
  | some ρ' => .nx ρ' μ
  | none => .stuck
theorem SGS.pat (hg : SG X vs tg g) : SGS X W tg (tgP g) := fun π ρ μ σ H d v Dn sm sl r h => by
  unfold tgP at h
  cases eg : g d ρ with
  | none => rw [eg] at h; exact h.elim
  | some ρ' =>
    rw [eg] at h
    obtain ⟨σ1, l1, o1, q1⟩ := hg π H ρ ρ' σ d v sl r eg
    exact q1 H _ off_sub (h σ1 H π Gr.refl sm l1)
/-- xs[i] = d -/
def dSet (o i d : D) (μ : Store) : Option Store := match o, i with
  | .ref k, .int j => (match μ[k]? with
    | some (.lst ds) => (ixN ds.length j).map fun q => μ.set k (.lst (ds.set q d))
    | _ => none)
  | _, _ => none
def tgSub (mo mi : M D) : D → C := fun d ρ μ => (mo ρ μ).bindS ρ fun o μ1 => (mi ρ μ1).bindS ρ fun i μ2 => match dSet o i d μ2 with
  | some μ3 => .nx ρ μ3
  | none => .stuck
theorem SGS.sub (ho : SE X W o mo) (hi : SE X W a mx) (ha : ∀ v, assign (.Subscript o a pos) X.env v = (do
      let ov ← holding [v] (eval o X.env)
      let iv ← holding [v, ov] (eval a X.env)
      standAt pos
      holding [v, ov, iv] (setItem ov iv v)
      release [v, ov, iv] []) := by intro _; rfl) : SGS X W (.Subscript o a pos) (tgSub mo mx) := fun π ρ μ σ H d v Dn sm sl r h => by
  refine WG.of (pg_sub pe_we pe_we set_list ha) (ho π ρ μ σ H _ sm sl (GE.bindS sl h fun d1 μ1 x H1 π1 e1 g1 s1 r1 h1 => ?_))
  refine hi π1 ρ μ1 σ H1 _ s1 (g1.loc sl) (GE.bindS (g1.loc sl) h1 fun d2 μ2 y H2 π2 e2 g2 s2 r2 h2 => ?_)
  have ro := g2.rep r1
  have rd := (g1.trans g2).rep r
  cases q : dSet d1 d2 d μ2 with
  | none => rw [q] at h2; exact h2.elim
  | some μ3 =>
    rw [q] at h2
    unfold dSet at q
    split at q
    · rename_i k j
      split at q
      · rename_i ds e
        obtain ⟨z, z1, z2⟩ := Option.map_eq_some_iff.mp q
        subst z2
        unfold Rp Rep at ro
        obtain ⟨p, hk, rfl⟩ := ro
        cases rep_int r2
        obtain ⟨ws, h3, h4⟩ := s2.obj k p _ hk e
        obtain ⟨s3, g3⟩ := s2.write (m := .lst (ds.set z d)) (o := .lst (ws.set z v)) hk ⟨_, rfl, h4.set z rd⟩
        exact ⟨p, ws, j, z, rfl, rfl, h3, by rw [h4.length]; exact z1, h2 σ _ π2 g3 s3 (((g1.trans g2).trans g3).loc sl)⟩
      · cases q
    · cases q
def tgsN : List D → C := fun ds ρ μ => match ds with
  | [] => .nx ρ μ
  | _ => .stuck
def tgsC (g : D → C) (gs : List D → C) : List D → C := fun ds ρ μ => match ds with
  | d :: ds => (g d ρ μ).bind (gs ds)
  | [] => .stuck
theorem SGSs.nil : SGSs X W [] tgsN := fun π ρ μ σ H ds us Dn sm sl r h => by
  unfold tgsN at h
  split at h
  · unfold RpL RepL at r
    subst r
    exact WGs.of pgs_nil ⟨rfl, h σ H π Gr.refl sm sl⟩
  · exact h.elim
theorem SGSs.cons {g : D → C} {gs : List D → C} (h : SGS X W a g) (k : SGSs X W es gs) (hs : (assignEach (a :: es) X.env).map (·.2) = assign a X.env :: (assignEach es X.env).map (·.2) := by rfl) : SGSs X W (a :: es) (tgsC g gs) := fun π ρ μ σ H ds us Dn sm sl r q => by
  unfold tgsC at q
  split at q
  · rename_i d ds'
    obtain ⟨v, t, rfl, r1, r2⟩ := r.uncons
    refine WGs.of (pgs_cons pg_wg pgs_wgs hs) ⟨v, t, rfl, ?_⟩
    exact h π ρ μ σ H d v { Dn with nx := fun σ' H' => WGs X es t σ' H' Dn.nx } sm sl r1 (GS.bind q (fun ρ1 μ1 σ1 H1 π1 e1 g1 s1 l1 h1 => k π1 ρ1 μ1 σ1 H1 ds' t Dn s1 l1 (g1.repL r2) h1) rfl rfl rfl)
  · exact q.elim
def tgT (n : Nat) (gs : List D → C) : D → C := fun d ρ μ => match asT d with
  | some ds => if ds.length = n then gs ds ρ μ else .stuck
  | none => .stuck
theorem SGS.tup {k n : Nat} {gs : List D → C} (hc : X.calm = true) (h : SGSs X W es gs) (hn : (assignEach es X.env).length = n := by rfl) (hst : (assignEach es X.env).findIdx? (·.1) = none := by rfl) : SGS X W (.Tuple es k pos) (tgT n gs) := fun π ρ μ σ H d v Dn sm sl r q => by
  unfold tgT at q
  split at q
  · rename_i ds e
    by_cases hl : ds.length = n
    · rw [if_pos hl] at q
      obtain ⟨p, us, rfl, hp, rp⟩ := asT_view r e
      exact WG.of (pg_tup hc pgs_wgs hn hst) ⟨p, us, rfl, hp, by rw [rp.length]; exact hl, h π ρ μ σ H ds us Dn sm sl rp q⟩
    · rw [if_neg hl] at q; exact q.elim
  · exact q.elim
def cAsg (g : D → C) (m : M D) : C := fun ρ μ => (m ρ μ).bindS ρ fun d μ1 => g d ρ μ1
theorem SS.asg {g : D → C} (hg : SGS X W tg g) (h : SE X W a m) (hs : swapsWithSole [tg] a pos.line X.env = pure false := by rfl) (hw : swappedStores [tg] a X.env = pure none := by rfl) (h1 : (assignEach [tg] X.env).map (·.2) = [assign tg X.env] := by rfl) :
    SS X W (.Assign [tg] a pos) (cAsg g m) := fun π ρ μ σ H Dn sm sl q =>
  WS.of (ps_asg pe_we pg_wg hs hw h1) (h π ρ μ σ H _ sm sl (GE.bindS sl q fun d μ1 v H1 π1 e1 g1 s1 r1 h1 => hg π1 ρ μ1 σ H1 d v Dn s1 (g1.loc sl) r1 h1))

/-! ### o.f = e -/
def dPutF (f : Str) (d : D) : List Str → List D → List Str × List D
  | n :: ns, e :: ds => if n = f then (n :: ns, d :: ds) else (n :: (dPutF f d ns ds).1, e :: (dPutF f d ns ds).2)
  | ns, ds => (ns ++ [f], ds ++ [d])
theorem putF_rep {H : Hp} {π : List Addr} {K : PySem.W.Frag} {f : Str} {d : D} {v : V} (r : Rep K H π d v) : ∀ {fs : List (Str × V)} {ds : List D}, RepL K H π ds (fs.map (·.2)) → (putF f v fs).map (·.1) = (dPutF f d (fs.map (·.1)) ds).1 ∧ RepL K H π (dPutF f d (fs.map (·.1)) ds).2 ((putF f v fs).map (·.2))
  | [], ds, h => by
    have := h.length
    cases ds with
    | nil => exact ⟨rfl, .one r⟩
    | cons e ds => simp at this
  | (g, w) :: fs, [], h => by
    have := h.length
    simp at this
  | (g, w) :: fs, e :: ds, h => by
    obtain ⟨v', t, h1, h2, h3⟩ := h.uncons
    simp only [List.map_cons, List.cons.injEq] at h1
    obtain ⟨rfl, rfl⟩ := h1
    obtain ⟨k1, k2⟩ := putF_rep (f := f) r h3
    by_cases q : g = f
    · simp only [putF, if_pos q, List.map_cons, dPutF]
      exact ⟨trivial, .cons r h3⟩
    · simp only [putF, if_neg q, List.map_cons, dPutF]
      exact ⟨by rw [k1], .cons h2 k2⟩
def dSetF (cl f : Str) (o d : D) (μ : Store) : Option Store := match o with
  | .ref k => (match μ[k]? with
    | some (.ins c ns ds) => if c = cl ∧ ns.length < 1000 then some (μ.set k (.ins c (dPutF f d ns ds).1 (dPutF f d ns ds).2)) else none
    | _ => none)
  | _ => none
def cFld (cl f : Str) (mo m : M D) : C := fun ρ μ => (m ρ μ).bindS ρ fun d μ1 => (mo ρ μ1).bindS ρ fun o μ2 => match dSetF cl f o d μ2 with
  | some μ3 => .nx ρ μ3
  | none => .stuck
theorem SS.fld (cl : Str) (hc : Cls X.K (He.ga X.K cl)) (hn : NoAttr X.K (He.ga X.K cl) f) (ho : SE X W o mo) (h : SE X W value m) (hs : swapsWith value (some (.Attribute o f pos')) pos.line X.env = pure false := by rfl) :
    SS X W (.Assign [.Attribute o f pos'] value pos) (cFld cl f mo m) := fun π ρ μ σ H Dn sm sl q => by
  refine WS.of (ps_fld pe_we pe_we hs) (h π ρ μ σ H _ sm sl (GE.bindS sl q fun d μ1 v H1 π1 e1 g1 s1 r1 h1 => ?_))
  refine ho π1 ρ μ1 σ H1 _ s1 (g1.loc sl) (GE.bindS (g1.loc sl) h1 fun o μ2 x H2 π2 e2 g2 s2 r2 h2 => ?_)
  have rd := g2.rep r1
  cases z : dSetF cl f o d μ2 with
  | none => rw [z] at h2; exact h2.elim
  | some μ3 =>
    rw [z] at h2
    unfold dSetF at z
    split at z
    · rename_i k
      split at z
      · rename_i c ns ds e
        by_cases hcc : c = cl ∧ ns.length < 1000
        · rw [if_pos hcc] at z
          obtain ⟨rfl, hl⟩ := hcc
          cases z
          unfold Rp Rep at r2
          obtain ⟨p, hk, rfl⟩ := r2
          obtain ⟨dx, fs, h3, h4, h5⟩ := s2.obj k p _ hk e
          subst h4
          obtain ⟨k1, k2⟩ := putF_rep (f := f) rd h5
          obtain ⟨s3, g3⟩ := s2.write (m := .ins c (dPutF f d (fs.map (·.1)) ds).1 (dPutF f d (fs.map (·.1)) ds).2) (o := .ins (He.ga X.K c) dx (putF f v fs)) hk ⟨dx, _, rfl, k1, k2⟩
          exact ⟨p, _, dx, fs, rfl, h3, hc, hn, by rw [← List.length_map (f := fun q : Str × V => q.1)]; exact hl, h2 σ _ π2 g3 s3 (((g1.trans g2).trans g3).loc sl)⟩
        · rw [if_neg hcc] at z; cases z
      · cases z
    · cases z
end
end Rv
set_option Elab.async false
set_option linter.all false
set_option maxRecDepth 100000
set_option maxHeartbeats 4000000
/-! RvC: own special methods, at the library's level: str, o[i] = v, ==, !=. -/
namespace RvC
open PySem PySem.Spec PySem.W PyProof.Rows
section
variable {P : Program} {w : World} {A : Around} {E : Value → Shared → Prop} {s : Shared} {K : Frag} {x C f : Addr} {ox : Obj} {od : Option Obj} {b tb : Value}
/-! ### str(x) -/
/-- a type's call whose __new__ is met in one program -/
theorem type_in {T nid : String} {Bn : Builtin} {args : List Value} {S : PySem.Spec} {Q : Value → Shared → Prop} (ft : TypeCalled T nid "object.__init__") (hne : (some nid != some "object.__new__") = true) (c1 : checkTypeCall T ⟨args, []⟩ = pure ()) (c2 : checkBuiltinCall nid ⟨.type T :: args, []⟩ = pure ())
    (hok : ∀ ob, argsOk "object.__init__" ⟨ob :: args, []⟩) (en : entryFor table nid = some Bn) (g : MeetsIn P w (Bn ⟨.type T :: args, []⟩) S) (h : S A.in1 (wants (fun ob s1 => s1.TypeIs ob T ∧ Q ob s1) E) s) : wpAny (model P w) A (call (.type T) args) Q E s := by
  obtain ⟨c, tl, m0⟩ := ft.mro
  have m1 := ft.made
  have m2 := ft.sub
  refine wpAny_call (codeAny_of_tree ?_)
  show wpAny _ _ (callAny (.type T) _) _ _ _
  refine wpAny_pure ⟨Code.quiet_builtin _ (by decide +kernel), codeAny_builtin F.entry_type_call ?_⟩
  rw [Around.under_plain (weight_type_call_type T args []) (units_type_call_type T args [])]
  have m3 := ft.notType
  have m4 := ft.canCreate
  repeat (any_goals first | assumption | wp_step)
  refine codeAny_mono (codeAny_call_builtin ft.plain en (wpAny_of_eq c2 (g A.in1 _ s h))) fun r s1 hr => ?_
  cases r with
  | error e => exact hr
  | ok fl =>
    cases fl with
    | ret ob =>
      obtain ⟨hT, hq⟩ := hr
      have n1 := ft.init.lookup
      have n2 := ft.init.bind ob
      repeat (any_goals first | assumption | wp_step)
      refine codeAny_mono (codeAny_call_builtin ft.init.plain F.entry_object_init (ft.init.check _ _ _ _ _ _ _ _ hT (hok ob) (object_init_meets (rest := args) n1 m1 hne P w A.in1 (wants (fun r s2 => r = .none ∧ Q ob s2) E) s1 ⟨hT, rfl, hq⟩))) fun r2 s2 hr2 => ?_
      cases r2 with
      | error e => exact hr2
      | ok fl2 =>
        cases fl2 with
        | ret r =>
          obtain ⟨e, hq2⟩ := hr2
          subst e
          repeat (any_goals first | assumption | wp_step)
        | _ => exact hr2.elim
    | _ => exact hr.elim
theorem str_own {Q : Value → Shared → Prop} (hu : A.units + 2 < cLine) (X : K.In s.heap) (I : InstAt s.heap x ox C od) (hs : findIn K (.ref C) "__str__" = some (some (.ref f))) (hf : isFn K (.ref f) = true)
    (h : wpAny (model P w) A.in1.in1 (call (.ref f) [.ref x]) (fun r s' => ∃ z t, r = .str z t ∧ Q (.str z t) s') E s) : wpAny (model P w) A (call (.type "str") [.ref x]) Q E s := by
  refine type_in F.called_str (by decide) (F.typeCall_str_1 _) (F.newCall_str_1 _) (fun ob => F.args_object_init_2 ob _) F.entry_str_new
    (S := fun (A' : Around) (R : Result → Shared → Prop) (s' : Shared) => wpAny (model P w) A'.in1 (call (.ref f) [.ref x]) (fun r s2 => ∃ z t, r = .str z t ∧ R (.ok (.ret (.str z t))) s2) (fun e s2 => R (.error e) s2) s' ∧ A'.units + 1 < cLine ∧ K.In s'.heap ∧ InstAt s'.heap x ox C od)
    (fun A' R s' hS => ?_) ⟨?_, by show A.units + 1 + 1 < cLine; omega, X, I⟩
  · obtain ⟨hc, hz, X', I'⟩ := hS
    rw [str_new_tree]
    refine wpAny_bind (wpAny_pure ?_)
    refine wpAny_bind (wpAny_of_eq isSubtype_str_str ?_)
    refine wpAny_bind ?_
    unfold Builtin.Str.strOf
    show wpAny _ _ (cRoomFor "str" [.ref x] >>= _) _ _ _
    refine wpAny_bind (wpAny_cRoomFor (by show A'.units + 1 < cLine; omega) ?_)
    refine wpAny_bind (m := callSpecial? (.ref x) (Str.ofString "__str__")) (special_fn X' I' hs (beq_iff_eq.mp hf) (wpAny_mono hc (fun r s2 z => ?_) fun _ _ e => e))
    obtain ⟨z, t, rfl, q⟩ := z
    exact wpAny_bind (wpAny_pure (wpAny_pure (wpAny_pure q)))
  · exact wpAny_mono h (fun r s2 z => by
      obtain ⟨z, t, rfl, q⟩ := z
      exact ⟨z, t, rfl, typeIs_str _ _ _, q⟩) fun _ _ e => e
/-! ### x[i] = v -/
theorem set_own {M : Model} {i v : Value} {Q : Unit → Shared → Prop} (X : K.In s.heap) (I : InstAt s.heap x ox C od) (hq : noSeq K C = true) (hs : findIn K (.ref C) "__setitem__" = some (some (.ref f))) (hf : isFn K (.ref f) = true)
    (h : wpAny M A (call (.ref f) [.ref x, i, v]) (fun _ s' => Q () s') E s) : wpAny M A (setItem (.ref x) i v) Q E s := by
  unfold setItem sequenceKey
  refine wpAny_holding (wpAny_bind (wpAny_bind (I.type.here ?_)))
  refine wpAny_bind ((anyM_none X hq).here ?_)
  rw [if_pos (show (!false) = true from rfl)]
  exact wpAny_pure (wpAny_bind (special_fn X I hs (beq_iff_eq.mp hf) (wpAny_mono h (fun _ _ z => wpAny_pure z) fun _ _ z => z)))

/-! ### ==, != -/
/-- how a comparison goes on behind its two tries -/
def Tail (P : Program) (w : World) (A : Around) (E : Value → Shared → Prop) (op : CmpOp) (x : Addr) (b : Value) (Q : Value → Shared → Prop) : Option Value → Shared → Prop := fun r s1 => match r with
  | some v => Q v s1
  | none => wpAny (model P w) A (tryCompare b (cmpInfo op).2.2 (.ref x)) (fun r s2 => match r with
    | some v => Q v s2
    | none => wpAny (model P w) A (isSame (.ref x) b) (fun k s3 => Q (.bool (if op = .Eq then k else !k)) s3) E s2) E s1
theorem rc_of {op : CmpOp} {Q : Value → Shared → Prop} (hop : op = .Eq ∨ op = .NotEq) (hu : A.units < cLine) (X : K.In s.heap) (I : InstAt s.heap x ox C od) (hb : Looks (model P w) s.heap (typeOf b) tb) (hn : tb = .ref C ∨ subIn K tb (.ref C) = some false)
    (one : wpAny (model P w) A (tryCompare (.ref x) (cmpInfo op).2.1 b) (Tail P w A E op x b Q) E s) : wpAny (model P w) A (richCompare op (.ref x) b) Q E s := by
  have e0 : (Value.ref C != tb) = true → subIn K tb (.ref C) = some false := fun q => hn.elim (fun e => by rw [e] at q; simp at q) id
  rcases hop with rfl | rfl
  all_goals
    unfold richCompare
    simp only [oneThing_ref]
    refine wpAny_holding (wpAny_bind (wpAny_cRoomFor hu ?_))
    refine wpAny_bind (I.type.here (wpAny_bind (hb.here ?_)))
    split
  all_goals first
    | (rename_i q; refine wpAny_bind ((looks_subIn X (e0 q)).here ?_))
    | refine wpAny_bind (wpAny_pure ?_)
  all_goals
    simp only [Bool.false_eq_true, if_false, Bool.not_false, if_true]
    refine wpAny_bind (wpAny_mono one (fun r s1 z => ?_) fun _ _ e => e)
    cases r with
    | some v => exact wpAny_pure z
    | none =>
      refine wpAny_bind (wpAny_mono z (fun r s2 z2 => ?_) fun _ _ e => e)
      cases r with
      | some v => exact wpAny_pure z2
      | none => exact wpAny_bind (wpAny_rule (wpAny_bind (wpAny_mono z2 (fun k s3 q => wpAny_pure q) fun _ _ e => e)))
/-- own class without == of its own; with one at f -/
structure EqU (K : Frag) (C : Addr) : Prop where
  eq : findIn K (.ref C) "__eq__" = some (some (.builtin "object.__eq__"))
  ne : findIn K (.ref C) "__ne__" = some (some (.builtin "object.__ne__"))
  mro : mroIn K C (.type "object") = some true
structure EqO (K : Frag) (C f : Addr) : Prop where
  eq : findIn K (.ref C) "__eq__" = some (some (.ref f))
  fn : isFn K (.ref f) = true
  ne : findIn K (.ref C) "__ne__" = some (some (.builtin "object.__ne__"))
  mro : mroIn K C (.type "object") = some true
/-- a built-in special method that is bound, called -/
theorem bound_b {name : Str} {id : String} {args : List Value} {Q : Option Value → Shared → Prop} (X : K.In s.heap) (I : InstAt s.heap x ox C od) (hs : findIn K (.ref C) name = some (some (.builtin id))) {T : String} (sl : Slot T name id)
    (h : wpAny (model P w) A (call (.builtin id) (.ref x :: args)) (fun v => Q (some v)) E s) : wpAny (model P w) A (callSpecialIfBound? (.ref x) name args) Q E s := by
  simp only [callSpecialIfBound?, bindSpecialIfBound?]
  refine wpAny_holding (wpAny_bind (wpAny_bind (wpAny_bind (I.type.here ((looks_findIn X hs).here ?_)))))
  refine wpAny_bind (wpAny_askSetting (wpAny_ite ?_))
  have g : wpAny (model P w) A (call (.builtin id) ([.ref x] ++ args) >>= fun v => pure (some v)) Q E s := wpAny_bind (wpAny_mono h (fun v s' z => wpAny_pure z) fun _ _ z => z)
  split
  · exact wpAny_bind (wpAny_of_eq (sl.bind _) (wpAny_pure (by exact g)))
  · exact wpAny_tryCatch (wpAny_bind (wpAny_of_eq (sl.bind _) (wpAny_pure (by exact g))))
/-- x is not b, whatever the state -/
def Apart (x : Addr) (b : Value) (s : Shared) : Prop := ∀ (M : Model) (A : Around) (E : Value → Shared → Prop) (R : Bool → Shared → Prop), R false s → wpAny M A (isSame (.ref x) b) R E s
theorem apart_none : Apart x .none s := fun _ _ _ _ h => wpAny_of_eq (rfl : isSame (.ref x) .none = pure false) h
theorem apart_ref {y : Addr} {oy : Obj} {o1 : Obj} (hxy : x ≠ y) (hx : s.heap.get? x = some o1) (hc : o1.cls ≠ .type "tuple") (hy : s.heap.get? y = some oy) : Apart x (.ref y) s := fun _ _ _ _ h => wpAny_isSame_ref_other hxy hx hy hc h
theorem objEq_apart {Q : Value → Shared → Prop} (X : K.In s.heap) (I : InstAt s.heap x ox C od) (hm : mroIn K C (.type "object") = some true) (ap : Apart x b s) (hq : Q .notImplemented s) : wpAny (model P w) A (call (.builtin "object.__eq__") [.ref x, b]) Q E s := by
  refine wpAny_call (codeAny_call_builtin F.cmp_object.eq.plain F.cmpEntry_eq (check_slot F.cmpKind_eq F.cmpSplit_eq (I.type.andThen (looks_mroIn X hm)) (F.cmpArgs_eq _ _) ?_))
  unfold Builtin.«object.__eq__»
  refine wpAny_bind (m := slotArgs "__eq__" 1 _) (wpAny_of_eq (a := (Value.ref x, [b])) rfl ?_)
  refine wpAny_bind (m := isSame (.ref x) b) (ap _ _ _ _ ?_)
  exact wpAny_pure hq
theorem try_eqU {Q : Option Value → Shared → Prop} (X : K.In s.heap) (I : InstAt s.heap x ox C od) (u : EqU K C) (ap : Apart x b s) (hq : Q none s) : wpAny (model P w) A (tryCompare (.ref x) "__eq__" b) Q E s := by
  unfold tryCompare
  exact wpAny_bind (bound_b X I u.eq F.cmp_object.eq (objEq_apart X I u.mro ap (wpAny_pure hq)))
theorem try_eqO {Q : Option Value → Shared → Prop} (X : K.In s.heap) (I : InstAt s.heap x ox C od) (u : EqO K C f) (h : wpAny (model P w) A (call (.ref f) [.ref x, b]) (fun v s' => ∃ k, v = .bool k ∧ Q (some (.bool k)) s') E s) : wpAny (model P w) A (tryCompare (.ref x) "__eq__" b) Q E s := by
  unfold tryCompare
  refine wpAny_bind (ifBound_K X I u.eq u.fn (wpAny_mono h (fun v s' z => ?_) fun _ _ e => e))
  obtain ⟨k, rfl, q⟩ := z
  exact wpAny_pure q
theorem try_neU {Q : Option Value → Shared → Prop} (hu : A.units + 1 < cLine) (X : K.In s.heap) (I : InstAt s.heap x ox C od) (u : EqU K C) (ap : Apart x b s) (hq : Q none s) : wpAny (model P w) A (tryCompare (.ref x) "__ne__" b) Q E s := by
  unfold tryCompare
  refine wpAny_bind (bound_b X I u.ne F.cmp_object.ne ?_)
  refine wpAny_call (codeAny_call_builtin F.cmp_object.ne.plain F.cmpEntry_ne (check_slot F.cmpKind_ne F.cmpSplit_ne (I.type.andThen (looks_mroIn X u.mro)) (F.cmpArgs_ne _ _) ?_))
  unfold Builtin.«object.__ne__»
  have hu1 : A.in1.units < cLine := hu
  refine wpAny_bind (m := slotArgs "__ne__" 1 _) (wpAny_of_eq (a := (Value.ref x, [b])) rfl ?_)
  refine wpAny_bind (m := cRoomFor "comparison" [.ref x, b]) (wpAny_cRoomFor hu1 ?_)
  refine wpAny_bind (bound_b X I u.eq F.cmp_object.eq (objEq_apart X I u.mro ap ?_))
  exact wpAny_pure (wpAny_pure hq)
theorem try_neO {Q : Option Value → Shared → Prop} (hu : A.units + 1 < cLine) (X : K.In s.heap) (I : InstAt s.heap x ox C od) (u : EqO K C f) (h : wpAny (model P w) A.in1 (call (.ref f) [.ref x, b]) (fun v s' => ∃ k, v = .bool k ∧ Q (some (.bool (!k))) s') E s) :
    wpAny (model P w) A (tryCompare (.ref x) "__ne__" b) Q E s := by
  unfold tryCompare
  refine wpAny_bind (bound_b X I u.ne F.cmp_object.ne ?_)
  refine wpAny_call (codeAny_call_builtin F.cmp_object.ne.plain F.cmpEntry_ne (check_slot F.cmpKind_ne F.cmpSplit_ne (I.type.andThen (looks_mroIn X u.mro)) (F.cmpArgs_ne _ _) ?_))
  unfold Builtin.«object.__ne__»
  have hu1 : A.in1.units < cLine := hu
  refine wpAny_bind (m := slotArgs "__ne__" 1 _) (wpAny_of_eq (a := (Value.ref x, [b])) rfl ?_)
  refine wpAny_bind (m := cRoomFor "comparison" [.ref x, b]) (wpAny_cRoomFor hu1 ?_)
  refine wpAny_bind (ifBound_K X I u.eq u.fn (wpAny_mono h (fun v s' z => ?_) fun _ _ e => e))
  obtain ⟨k, rfl, q⟩ := z
  exact wpAny_bind (wpAny_truthy_bool (wpAny_pure (wpAny_pure q)))
end
end RvC
set_option Elab.async false
set_option linter.all false
set_option maxRecDepth 100000
set_option maxHeartbeats 4000000
/-! RvD: built-in values decline instances. -/
namespace RvC
open PySem PySem.Spec PySem.W PyProof.Rows PySem.SeqAt
section
variable {P : Program} {w : World} {A : Around} {E : Value → Shared → Prop} {s : Shared} {K : Frag} {x C f : Addr} {ox : Obj} {od : Option Obj} {b tb : Value}
/-! ### built-in values decline instances -/
/-- b's own try with the instance x gives nothing -/
def Decl (P : Program) (w : World) (A : Around) (b : Value) (nm : Str) (x : Addr) (s : Shared) : Prop := ∀ (E : Value → Shared → Prop) (Q : Option Value → Shared → Prop), Q none s → wpAny (model P w) A (tryCompare b nm (.ref x)) Q E s
theorem decl_none_eq : Decl P w A .none (cmpInfo .Eq).2.2 x s := fun E Q h => wpAny_tryCompare_declines (show s.TypeIs .none "NoneType" from rfl) F.slot_NoneType_eq_refl (call_gives F.slot_NoneType_eq_refl rfl F.entry_NoneType_eq (F.args_NoneType_eq_2 _ _) (NoneType___eq___none_ref_0 x) ⟨rfl, h⟩)
theorem decl_none_ne : Decl P w A .none (cmpInfo .NotEq).2.2 x s := fun E Q h => wpAny_tryCompare_declines (show s.TypeIs .none "NoneType" from rfl) F.slot_NoneType_ne_refl (call_gives F.slot_NoneType_ne_refl rfl F.entry_NoneType_ne (F.args_NoneType_ne_2 _ _) (NoneType___ne___none_ref_0 x) ⟨rfl, h⟩)
theorem inst_not {M : Model} {T : String} {Q : Bool → Shared → Prop} (X : K.In s.heap) (I : InstAt s.heap x ox C od) (e : subIn K (.ref C) (.type T) = some false) (h : Q false s) : wpAny M A (isInstance (.ref x) (.type T)) Q E s := by
  unfold isInstance
  exact wpAny_bind (I.type.here ((looks_subIn X e).here h))
theorem decl_tup_eq {t : Addr} (X : K.In s.heap) (I : InstAt s.heap x ox C od) (e : subIn K (.ref C) (.type "tuple") = some false) (hT : s.TypeIs (.ref t) "tuple") : Decl P w A (.ref t) (cmpInfo .Eq).2.2 x s := fun E Q h => by
  refine wpAny_tryCompare_declines hT F.slot_tuple_eq_refl ?_
  refine call_meetsIn F.slot_tuple_eq_refl hT F.entry_tuple_eq (F.args_tuple_eq_2 _ _) (S := fun (A' : Around) (R : Result → Shared → Prop) (s' : Shared) => s' = s ∧ R (.ok (.ret .notImplemented)) s') (fun A' R s' hS => ?_) ⟨rfl, rfl, h⟩
  obtain ⟨rfl, hR⟩ := hS
  unfold Builtin.«tuple.__eq__»
  refine wpAny_bind (m := slotArgs "__eq__" 1 _) (wpAny_of_eq (a := (Value.ref t, [Value.ref x])) rfl ?_)
  refine wpAny_bind (m := isInstance (.ref x) (.type "tuple")) (inst_not X I e ?_)
  rw [if_pos (show (!false) = true from rfl)]
  exact wpAny_pure hR
theorem decl_tup_ne {t : Addr} (X : K.In s.heap) (I : InstAt s.heap x ox C od) (e : subIn K (.ref C) (.type "tuple") = some false) (hT : s.TypeIs (.ref t) "tuple") : Decl P w A (.ref t) (cmpInfo .NotEq).2.2 x s := fun E Q h => by
  refine wpAny_tryCompare_declines hT F.slot_tuple_ne_refl ?_
  refine call_meetsIn F.slot_tuple_ne_refl hT F.entry_tuple_ne (F.args_tuple_ne_2 _ _) (S := fun (A' : Around) (R : Result → Shared → Prop) (s' : Shared) => s' = s ∧ R (.ok (.ret .notImplemented)) s') (fun A' R s' hS => ?_) ⟨rfl, rfl, h⟩
  obtain ⟨rfl, hR⟩ := hS
  unfold Builtin.«tuple.__ne__»
  refine wpAny_bind (m := slotArgs "__ne__" 1 _) (wpAny_of_eq (a := (Value.ref t, [Value.ref x])) rfl ?_)
  refine wpAny_bind (m := isInstance (.ref x) (.type "tuple")) (inst_not X I e ?_)
  rw [if_pos (show (!false) = true from rfl)]
  exact wpAny_pure hR
end
end RvC
set_option Elab.async false
set_option linter.all false
set_option maxRecDepth 100000
set_option maxHeartbeats 4000000
/-! Rv14: special methods of own classes: len, x[i], x[i] = v, in, truth, str, ==, !=; methods and classes without arguments; try without an exception. -/
namespace Rv
open PySem PySem.Spec L2
open PyProof.Rows hiding St

section
variable {X : Cx} {W : WX} {e a b c o tg : Expr} {es rest : List Expr} {m n mo mx : M D} {ms : M (List D)} {pos pos' p p1 apos cpos : Pos} {x f : Str} {F RF : Fn} {cl rc : Str} {k : Nat} {fa : Addr} {fd : FuncData} {ps : List Str}
theorem GE.only_any {α β : Type} {R : List Addr → Hp → α → β → Prop} {π : List Addr} {σ σ' : L2.St} {H : Hp} {Q : β → Hp → Prop} {o : Out α} (h : GE X W R π σ H Q o.only) : GE X W R π σ' H Q o := by
  cases o with
  | ok d μ' => exact h
  | exc c ns ds μ' => exact h.elim
  | stuck => exact h.elim
/-- an own def called in a context below -/
theorem call_a {A' : Around} {pins : List (Addr × Obj)} {s : Shared} {σ : L2.St} {H : Hp} {Q : VK} {π : List Addr} {μ : Store} {us : List Value} {vs : List V} {ds : List D} (hF : FnQ X.prog X.w X.K X.mg X.base k fa fd ps F) (hr : RoomQ k A') (e0 : Env0 X.prog X.w X.K X.mg X.base A' X.stack s H) (tk : Takes X W) (I : Inv X pins σ H s)
    (hb : Binds X.K fd ps []) (rv : Vals vs us) (sm : SimM X.K π μ H) (rl : RpL X.K π H ds vs) (hn : ds.length = ps.length) (h : GE X W (Rp X.K) π σ H Q (F ds μ)) : wpAny (model X.prog X.w) A' (PySem.call (.ref fa) us) (EP X pins σ Q) X.xe s := by
  have l1 := rv.length
  have l2 := rl.length
  have bd := hb s us I.kIn (by rw [List.append_nil]; omega)
  rw [List.append_nil] at bd
  exact wpAny_call (codeAny_mono (hF.run A' X.stack s H ⟨us, []⟩ us vs Q _ hr e0 bd rv (spG_of sm rl hn h)) fun _ _ hq => back_q tk I hq)
/-- the instance that stands for d -/
theorem own_at {π : List Addr} {μ : Store} {σ : L2.St} {H : Hp} {d : D} {v : V} {u : Value} {ns : List Str} {ds : List D} {pins : List (Addr × Obj)} {s : Shared} (sm : SimM X.K π μ H) (r : Rp X.K π H d v) (h : asI μ d = some (cl, ns, ds)) (I : Inv X pins σ H s) (rx : RelV v u) :
    ∃ a ox od, v = .ref a ∧ u = .ref a ∧ PySem.W.InstAt s.heap a ox (He.ga X.K cl) (some od) ∧ ox.cls = .ref (He.ga X.K cl) := by
  obtain ⟨a, dx, fs, rfl, k1, _⟩ := asI_view sm r h
  obtain ⟨mA, Ob, _⟩ := ins_get I.hok k1
  obtain ⟨od, J, _⟩ := Ob.look
  exact ⟨a, _, od, rfl, rx, J, J.cls⟩
theorem RoomQ.in2 {A : Around} (r : RoomQ (k + 2) A) : RoomQ k A.in1.in1 := r.in1.in1
/-- what is asked of a special method -/
structure Spc (X : Cx) (cl nm : Str) (fa : Addr) (fd : FuncData) (ps : List Str) (k : Nat) (F : Fn) : Prop where
  fn : FnQ X.prog X.w X.K X.mg X.base k fa fd ps F
  rm : RoomQ (k + 2) X.A
  bd : Binds X.K fd ps []
  mt : Meth X.K (He.ga X.K cl) nm fa
def isC (μ : Store) (cl : Str) (d : D) : Bool := match asI μ d with
  | some (c, _, _) => decide (c = cl)
  | none => false
theorem isC_ok {μ : Store} {d : D} (h : isC μ cl d = true) : ∃ ns ds, asI μ d = some (cl, ns, ds) := by
  unfold isC at h
  split at h
  · rename_i c ns ds e
    have := of_decide_eq_true h
    subst this
    exact ⟨ns, ds, e⟩
  · cases h
/-- len(x) -/
def fLenK (cl : Str) (F : Fn) : Fn := fun ds μ => match ds with
  | [d] => if isC μ cl d = true then (F [d] μ).only.bind fun r μ1 => (match r with
    | .int n => if 0 ≤ n ∧ n < 2 ^ 63 then .ok (.int n) μ1 else .stuck
    | _ => .stuck) else .stuck
  | _ => .stuck
theorem cd_lenK (S : Spc X cl "__len__" fa fd ps k F) (hl : ps.length = 1) (tk : Takes X W) : CallD X W (.builtin "len") (fLenK cl F) := by
  intro π μ σ H Q ds vs sm rl g σ' pins s us I rv
  unfold fLenK at g
  split at g
  · rename_i d
    by_cases hc : isC μ cl d = true
    · rw [if_pos hc] at g
      obtain ⟨ns, ds, e⟩ := isC_ok hc
      obtain ⟨v, rfl, r1⟩ := repL1 rl
      obtain ⟨u, rfl, ru⟩ := vals1 rv
      obtain ⟨a, ox, od, rfl, rfl, J, _⟩ := own_at sm r1 e I ru
      obtain ⟨m, Fr⟩ := I.fr
      cases eF : F [d] μ with
      | ok r μ1 =>
        rw [eF] at g
        refine PySem.W.len_K Fr I.mod.kin J S.mt.at_ S.mt.fn (wpAny_mono (call_a S.fn (S.rm.mono (Nat.le_succ _)).in1 I.env0.in1 tk I S.bd (Paired.cons (a := V.ref a) ru .nil) sm (RepL.one r1) (by rw [hl]; rfl) (Q := fun x H' => ∃ n : Int, x = .int n ∧ 0 ≤ n ∧ n < 2 ^ 63 ∧ Q (.int n) H') ?_) (fun u2 s2 z => ?_) fun _ _ z => z)
        · rw [eF]
          intro x H' π' g' s' r'
          cases r with
          | int n =>
            cases rep_int r'
            have g2 : GE X W (Rp X.K) π σ H Q (Out.only (if 0 ≤ n ∧ n < 2 ^ 63 then .ok (.int n) μ1 else .stuck)) := g
            by_cases hn : 0 ≤ n ∧ n < 2 ^ 63
            · rw [if_pos hn] at g2
              exact ⟨n, rfl, hn.1, hn.2, g2 _ H' π' g' s' r'⟩
            · rw [if_neg hn] at g2; exact g2.elim
          | _ => exact (show False from g).elim
        · obtain ⟨x, H', I', rx, n, rfl, h0, h1, q⟩ := z
          obtain ⟨t, rfl⟩ := rx
          exact ⟨⟨h0, h1⟩, .int n, H', I'.tok _, ⟨_, rfl⟩, q⟩
      | exc c ns ds μ1 => rw [eF] at g; exact (show False from g).elim
      | stuck => rw [eF] at g; exact (show False from g).elim
    · rw [if_neg hc] at g; exact (show False from g).elim
  · exact (show False from g).elim
/-- str(x) -/
def fStrK (cl : Str) (F : Fn) : Fn := fun ds μ => match ds with
  | [d] => if isC μ cl d = true then (F [d] μ).only.bind fun r μ1 => (match r with
    | .str n => .ok (.str n) μ1
    | _ => .stuck) else .stuck
  | _ => .stuck
theorem cd_strK (S : Spc X cl "__str__" fa fd ps k F) (hl : ps.length = 1) (tk : Takes X W) : CallD X W (.type "str") (fStrK cl F) := by
  intro π μ σ H Q ds vs sm rl g σ' pins s us I rv
  unfold fStrK at g
  split at g
  · rename_i d
    by_cases hc : isC μ cl d = true
    · rw [if_pos hc] at g
      obtain ⟨ns, ds, e⟩ := isC_ok hc
      obtain ⟨v, rfl, r1⟩ := repL1 rl
      obtain ⟨u, rfl, ru⟩ := vals1 rv
      obtain ⟨a, ox, od, rfl, rfl, J, _⟩ := own_at sm r1 e I ru
      cases eF : F [d] μ with
      | ok r μ1 =>
        rw [eF] at g
        refine RvC.str_own (by have := S.rm.rm.units; omega) I.kIn J S.mt.at_ S.mt.fn (wpAny_mono (call_a S.fn S.rm.in2 I.env0.in1.in1 tk I S.bd (Paired.cons (a := V.ref a) ru .nil) sm (RepL.one r1) (by rw [hl]; rfl) (Q := fun x H' => ∃ n : Str, x = .str n ∧ Q (.str n) H') ?_) (fun u2 s2 z => ?_) fun _ _ z => z)
        · rw [eF]
          intro x H' π' g' s' r'
          cases r with
          | str n =>
            cases rep_str r'
            exact ⟨_, rfl, (show GE X W (Rp X.K) π σ H Q (.ok (.str n) μ1) from g) _ H' π' g' s' r'⟩
          | _ => exact (show False from g).elim
        · obtain ⟨x, H', I', rx, n, rfl, q⟩ := z
          obtain ⟨t, rfl⟩ := rx
          exact ⟨n, t, rfl, .str n, H', I', ⟨t, rfl⟩, q⟩
      | exc c ns ds μ1 => rw [eF] at g; exact (show False from g).elim
      | stuck => rw [eF] at g; exact (show False from g).elim
    · rw [if_neg hc] at g; exact (show False from g).elim
  · exact (show False from g).elim
/-- x[i] -/
def dItem (cl : Str) (F : Fn) : D → D → Store → Out D := fun d1 d2 μ => if isC μ cl d1 = true then F [d1, d2] μ else .stuck
theorem SE.ixK (S : Spc X cl "__getitem__" fa fd ps k F) (hl : ps.length = 2) (hf : PySem.W.fnIn X.K fa = true) (tk : Takes X W) (ha : SE X W a m) (hb : SE X W b n) (hs : ∀ v u, subscripted b true v u = runValue (.builtin "lifetime.subscript" ⟨[v, u], []⟩) := by intro _ _; with_unfolding_all rfl) :
    SE X W (.Subscript a b pos) (m2 (dItem cl F) m n) := by
  intro π ρ μ σ H Q sm sl h pins s I
  refine Subscript_ (binT pe_we pe_we I (R := fun x y H2 => ∀ (pins : List (Addr × Obj)) (s : Shared) (v u : Value), Inv X pins σ H2 s → RelV x v → RelV y u → wpAny (model X.prog X.w) X.A (subscriptTail a b v u) (EP X pins σ Q) X.xe s)
    (SE.two ha hb sm sl h fun d1 d2 μ2 x y H2 π2 g s2 l2 r1 r2 h2 pins s v u I rx ry => ?_) fun v u s2 x y H2 I2 rx ry q => q pins s2 v u I2 rx ry)
  unfold dItem at h2
  by_cases hc : isC μ2 cl d1 = true
  · rw [if_pos hc] at h2
    obtain ⟨ns, ds, e⟩ := isC_ok hc
    obtain ⟨pa, ox, od, rfl, rfl, J, _⟩ := own_at s2 r1 e I rx
    obtain ⟨m', Fr⟩ := I.fr
    exact PySem.W.sub_K Fr I.mod.kin J S.mt.at_ hf S.mt.fn (call_a S.fn (S.rm.mono (Nat.le_succ _)).in1 I.env0.in1 tk I S.bd (Paired.cons (a := V.ref pa) rx (.cons ry .nil)) s2 (.cons r1 (.one r2)) (by rw [hl]; rfl) h2) (hs _ _)
  · rw [if_neg hc] at h2; exact h2.elim
/-- x[i] = v -/
def tgSubK (cl : Str) (F : Fn) (mo mi : M D) : D → C := fun d ρ μ => (mo ρ μ).bindS ρ fun o μ1 => (mi ρ μ1).bindS ρ fun i μ2 => if isC μ2 cl o = true then (F [o, i, d] μ2).bindS ρ fun _ μ3 => .nx ρ μ3 else .stuck
theorem SGS.subK (S : Spc X cl "__setitem__" fa fd ps k F) (hl : ps.length = 3) (hq : PySem.W.noSeq X.K (He.ga X.K cl) = true) (tk : Takes X W) (ho : SE X W o mo) (hi : SE X W a mx) (ha : ∀ v, assign (.Subscript o a pos) X.env v = (do
      let ov ← holding [v] (eval o X.env)
      let iv ← holding [v, ov] (eval a X.env)
      standAt pos
      holding [v, ov, iv] (setItem ov iv v)
      release [v, ov, iv] []) := by intro _; rfl) : SGS X W (.Subscript o a pos) (tgSubK cl F mo mx) := fun π ρ μ σ H d v Dn sm sl r h => by
  intro pins s u I ru
  rw [ha]
  refine wpAny_bind (wpAny_holding (thn (ho π ρ μ σ H (fun x H1 => WE X a σ H1 fun y H2 => ∀ (pins : List (Addr × Obj)) (s : Shared) (ov iv : Value), Inv X pins σ H2 s → RelV x ov → RelV y iv → wpAny (model X.prog X.w) X.A (setItem ov iv u) (fun _ s' => ∃ H', Inv X pins σ H' s' ∧ Dn.nx σ H') X.xe s) sm sl (GE.bindS sl h fun d1 μ1 x H1 π1 e1 g1 s1 r1 h1 => ?_) pins s I) fun ov s1 z => ?_))
  · refine hi π1 ρ μ1 σ H1 _ s1 (g1.loc sl) (GE.bindS (g1.loc sl) h1 fun d2 μ2 y H2 π2 e2 g2 s2 r2 h2 pins s ov iv I ro ri => ?_)
    by_cases hc : isC μ2 cl d1 = true
    · rw [if_pos hc] at h2
      obtain ⟨ns, ds, e⟩ := isC_ok hc
      obtain ⟨pa, ox, od, rfl, rfl, J, _⟩ := own_at s2 (g2.rep r1) e I ro
      refine RvC.set_own I.kIn J hq S.mt.at_ S.mt.fn (wpAny_mono (call_a S.fn (S.rm.mono (Nat.le_add_right _ 2)) I.env0 tk I S.bd (Paired.cons (a := V.ref pa) ro (.cons ri (.cons ru .nil))) s2 (.cons (g2.rep r1) (.cons r2 (.one ((g1.trans g2).rep r)))) (by rw [hl]; rfl) (Q := fun _ H' => Dn.nx σ H') (GE.bindS ((g1.trans g2).loc sl) h2 fun d3 μ3 z H3 π3 e3 g3 s3 r3 h3 => h3 σ H3 π3 Gr.refl s3 (((g1.trans g2).trans g3).loc sl))) (fun u2 s2 z => ?_) fun _ _ z => z)
      obtain ⟨v', H', I', _, q⟩ := z
      exact ⟨H', I', q⟩
    · rw [if_neg hc] at h2; exact h2.elim
  · obtain ⟨x, H1, I1, rx, q1⟩ := z
    refine wpAny_bind (wpAny_holding (thn (q1 pins s1 I1) fun iv s2 z => ?_))
    obtain ⟨y, H2, I2, ry, q2⟩ := z
    refine wpAny_bind (wpAny_standAt (wpAny_bind (wpAny_holding (thn (q2 pins s2 ov iv I2 rx ry) fun _ s3 z => ?_))))
    obtain ⟨H3, I3, q3⟩ := z
    exact wpAny_release ⟨σ, H3, I3, q3⟩
/-- v in x, v not in x: the own __contains__ gives True or False -/
def blOut (b : Bool) (o : Out D) : Out D := o.only.bind fun r μ1 => match r with
  | .bl k => .ok (.bl (b ^^ k)) μ1
  | _ => .stuck
theorem blOut_ok {b : Bool} {o : Out D} {π : List Addr} {σ : L2.St} {H : Hp} {Q : VK} (h : GE X W (Rp X.K) π σ H Q (blOut b o)) : GE X W (Rp X.K) π σ H (fun x H' => ∃ k, x = .bl k ∧ Q (.bl (b ^^ k)) H') o := by
  unfold blOut at h
  cases o with
  | ok d μ' =>
    intro v H' π' g s r
    cases d with
    | bl k =>
      cases rep_bl r
      exact ⟨k, rfl, (show GE X W (Rp X.K) π σ H Q (.ok (.bl (b ^^ k)) μ') from h) _ H' π' g s (by unfold Rp Rep; rfl)⟩
    | _ => exact (show False from h).elim
  | exc c ns ds μ' => exact (show False from h).elim
  | stuck => exact (show False from h).elim
def dInK (b : Bool) (cl : Str) (F : Fn) : D → D → Store → Out D := fun d1 d2 μ => if isC μ cl d2 = true then blOut b (F [d2, d1] μ) else .stuck
theorem opb_inK (S : Spc X cl "__contains__" fa fd ps k F) (hl : ps.length = 2) (tk : Takes X W) : OpB X W (compareOp .In) (dInK false cl F) := by
  intro π μ σ H Q d1 d2 x y sm r1 r2 h pins s v u I rx ry
  unfold dInK at h
  by_cases hc : isC μ cl d2 = true
  · rw [if_pos hc] at h
    obtain ⟨ns, ds, e⟩ := isC_ok hc
    obtain ⟨pa, ox, od, rfl, rfl, J, _⟩ := own_at sm r2 e I ry
    obtain ⟨m', Fr⟩ := I.fr
    refine PySem.W.in_K Fr I.mod.kin J S.mt.at_ S.mt.fn (wpAny_mono (call_a S.fn (S.rm.mono (Nat.le_add_right _ 2)) I.env0 tk I S.bd (Paired.cons (a := V.ref pa) ry (.cons rx .nil)) sm (.cons r2 (.one r1)) (by rw [hl]; rfl) (blOut_ok h)) (fun u2 s2 z => ?_) fun _ _ z => z)
    obtain ⟨w, H', I', rw', k, rfl, q⟩ := z
    cases rw'
    refine wpAny_truthy_bool ⟨.bl k, H', I', rfl, ?_⟩
    simpa using q
  · rw [if_neg hc] at h; exact h.elim
theorem opb_notinK (S : Spc X cl "__contains__" fa fd ps k F) (hl : ps.length = 2) (tk : Takes X W) : OpB X W (compareOp .NotIn) (dInK true cl F) := by
  intro π μ σ H Q d1 d2 x y sm r1 r2 h pins s v u I rx ry
  unfold dInK at h
  by_cases hc : isC μ cl d2 = true
  · rw [if_pos hc] at h
    obtain ⟨ns, ds, e⟩ := isC_ok hc
    obtain ⟨pa, ox, od, rfl, rfl, J, _⟩ := own_at sm r2 e I ry
    obtain ⟨m', Fr⟩ := I.fr
    refine PySem.W.notIn_K Fr I.mod.kin J S.mt.at_ S.mt.fn (wpAny_mono (call_a S.fn (S.rm.mono (Nat.le_add_right _ 2)) I.env0 tk I S.bd (Paired.cons (a := V.ref pa) ry (.cons rx .nil)) sm (.cons r2 (.one r1)) (by rw [hl]; rfl) (blOut_ok h)) (fun u2 s2 z => ?_) fun _ _ z => z)
    obtain ⟨w, H', I', rw', k, rfl, q⟩ := z
    cases rw'
    refine wpAny_truthy_bool ⟨.bl (!k), H', I', rfl, ?_⟩
    simpa using q
  · rw [if_neg hc] at h; exact h.elim
/-- the truth of x -/
def mTK (cl : Str) (F : Fn) (m : M D) : M Bool := fun ρ μ => (m ρ μ).bind fun d μ1 => if isC μ1 cl d = true then (F [d] μ1).only.bind outB else .stuck
theorem ST.own (S : Spc X cl "__bool__" fa fd ps k F) (hl : ps.length = 1) (tk : Takes X W) (ha : SE X W a m) (he : ∀ whole, isTrue a X.env whole = (do let v ← whole; standAt a.pos; holding [v] (truthy v)) := by intro _; rfl) : ST X W a (mTK cl F m) := by
  intro π ρ μ σ H Q sm sl h pins s I
  rw [he]
  refine wpAny_bind (thn (ha π ρ μ σ H (fun x H1 => ∀ pins s u, Inv X pins σ H1 s → RelV x u → wpAny (model X.prog X.w) X.A (truthy u) (TP X pins σ Q) X.xe s) sm sl (GE.bind h fun d μ1 x H1 π1 e1 g1 s1 r1 h1 pins s u I ru => ?_) pins s I) fun u s1 z => ?_)
  · by_cases hc : isC μ1 cl d = true
    · rw [if_pos hc] at h1
      obtain ⟨ns, ds, e⟩ := isC_ok hc
      obtain ⟨pa, ox, od, rfl, rfl, J, _⟩ := own_at s1 r1 e I ru
      obtain ⟨m', Fr⟩ := I.fr
      cases eF : F [d] μ1 with
      | ok r μ2 =>
        rw [eF] at h1
        refine PySem.W.truthy_K Fr I.mod.kin J S.mt.at_ S.mt.fn (wpAny_mono (call_a S.fn (S.rm.mono (Nat.le_add_right _ 2)) I.env0 tk I S.bd (Paired.cons (a := V.ref pa) ru .nil) s1 (RepL.one r1) (by rw [hl]; rfl) (Q := fun x H' => ∃ b, x = .bl b ∧ Q b H') ?_) (fun u2 s2 z => ?_) fun _ _ z => z)
        · rw [eF]
          intro x H' π' g' s' r'
          exact GE.mB (R := RB) r' s' (show GE X W RB π' σ H' Q (outB r μ2) from GE.mono g' h1)
        · obtain ⟨x, H', I', rx, b, rfl, q⟩ := z
          cases rx
          exact ⟨H', I', q⟩
      | exc c ns ds μ2 => rw [eF] at h1; exact (show False from h1).elim
      | stuck => rw [eF] at h1; exact (show False from h1).elim
    · rw [if_neg hc] at h1; exact h1.elim
  · obtain ⟨x, H1, I1, rx, q⟩ := z
    exact wpAny_bind (wpAny_standAt (wpAny_holding (q pins s1 u I1 rx)))
end
end Rv
set_option Elab.async false
set_option linter.all false
set_option maxRecDepth 100000
set_option maxHeartbeats 1000000
/-! Rv15: == and != of instances; methods without arguments; try without an exception. -/
namespace Rv
open PySem PySem.Spec L2
open PyProof.Rows hiding St

section
variable {X : Cx} {W : WX} {e a b c o tg : Expr} {es rest : List Expr} {m n mo mx : M D} {ms : M (List D)} {pos pos' p p1 apos cpos : Pos} {x f : Str} {F RF : Fn} {cl rc : Str} {k : Nat} {fa : Addr} {fd : FuncData} {ps : List Str}
theorem looks_ref {M : Model} {h : Heap} {a : Addr} {o : Obj} {t : Value} (e : h.get? a = some o) (ht : o.cls = t) : PySem.W.Looks M h (typeOf (.ref a)) t := ht ▸ (PySem.W.Looks.ld e).andThen .now
/-- the type of what stands for d -/
theorem looks_tg {π : List Addr} {μ : Store} {σ : L2.St} {H : Hp} {d : D} {v : V} {u : Value} {t : Tg} {pins : List (Addr × Obj)} {s : Shared} {M : Model} (sm : SimM X.K π μ H) (r : Rp X.K π H d v) (h : tgOf μ d = some t) (I : Inv X pins σ H s) (rx : RelV v u) : PySem.W.Looks M s.heap (typeOf u) (tgV X.K t) := by
  have ow : ∀ {c : Str} {a : Addr} {dx : Addr} {fs : List (Str × V)}, H a = some (.ins (He.ga X.K c) dx fs) → PySem.W.Looks M s.heap (typeOf (.ref a)) (tgV X.K (.c c)) := fun {c a dx fs} hi => by
    obtain ⟨mA, Ob, _⟩ := ins_get I.hok hi
    obtain ⟨od, J, _⟩ := Ob.look
    exact J.type
  have dc : ∀ {a : Addr} {kvs : List (Key × V)}, H a = some (.dK kvs) → PySem.W.Looks M s.heap (typeOf (.ref a)) (.type "dict") := fun {a kvs} hi => by
    obtain ⟨_, _, _, _, o, _, _, e, ex, _⟩ := (show ObjOk X.prog X.w H s.heap a (.dK kvs) from I.hok a _ hi)
    exact looks_ref e ex.1
  have ls : ∀ {a : Addr} {us : List V}, H a = some (.lst us) → PySem.W.Looks M s.heap (typeOf (.ref a)) (.type "list") := fun {a us} hi => by
    obtain ⟨_, _, n, _, e⟩ := (show ObjOk X.prog X.w H s.heap a (.lst us) from I.hok a _ hi)
    exact looks_ref e rfl
  cases d with
  | non => cases rep_non r; cases h; cases rx; exact .of_pure rfl
  | bl b => cases rep_bl r; cases h; cases rx; exact .of_pure rfl
  | int i => cases rep_int r; cases h; obtain ⟨t, rfl⟩ := rx; exact .of_pure rfl
  | str z => cases rep_str r; cases h; obtain ⟨t, rfl⟩ := rx; exact .of_pure rfl
  | tup ds =>
    cases h
    obtain ⟨p, vs, rfl, hp, _⟩ := asT_view (ds := ds) r rfl
    cases rx
    obtain ⟨its, _, ⟨o, e, ec, _⟩, _⟩ := I.tuple hp
    exact looks_ref e ec
  | lst ds =>
    cases h
    unfold Rp Rep at r
    obtain ⟨p, vs, rfl, hp, _⟩ := r
    cases rx
    exact ls (off_sub _ _ hp)
  | dct ks ds =>
    cases h
    unfold Rp Rep at r
    obtain ⟨p, kvs, rfl, hp, _⟩ := r
    cases rx
    exact dc (off_sub _ _ hp)
  | obj c ns ds =>
    cases h
    unfold Rp Rep at r
    obtain ⟨p, dx, fs, rfl, hp, _⟩ := r
    cases rx
    exact ow (off_some hp).2
  | ref j =>
    unfold tgOf at h
    dsimp only at h
    unfold Rp Rep at r
    obtain ⟨a, k1, rfl⟩ := r
    cases rx
    cases hm : μ[j]? with
    | none => rw [hm] at h; cases h
    | some m =>
      rw [hm] at h
      have q := sm.obj j a m k1 hm
      cases m with
      | lst ds => cases h; obtain ⟨vs, q1, _⟩ := q; exact ls q1
      | dct ks ds => cases h; obtain ⟨vs, q1, _⟩ := q; exact dc q1
      | ins c ns ds => cases h; obtain ⟨dx, fs, q1, _⟩ := q; exact ow q1
  | cls c => cases h
  | ty n => cases h
  | scr ns => cases h
  | exn c ns ds => cases h
/-- no class of these stands below cl -/
def notB (K : PySem.W.Frag) (cl : Str) (ts : List Tg) : Bool := ts.all fun t => decide (PySem.W.subIn K (tgV K t) (.ref (He.ga K cl)) = some false)
def tgIn (μ : Store) (cl : Str) (ts : List Tg) (d : D) : Bool := match tgOf μ d with
  | some t => decide (t = .c cl) || decide (t ∈ ts)
  | none => false
theorem tgIn_ok {K : PySem.W.Frag} {ts : List Tg} {μ : Store} {d : D} (hn : notB K cl ts = true) (h : tgIn μ cl ts d = true) : ∃ t, tgOf μ d = some t ∧ (tgV K t = .ref (He.ga K cl) ∨ PySem.W.subIn K (tgV K t) (.ref (He.ga K cl)) = some false) := by
  unfold tgIn at h
  split at h
  · rename_i t e
    refine ⟨t, e, ?_⟩
    rcases Bool.or_eq_true_iff.mp h with h | h
    · have := of_decide_eq_true h
      subst this
      exact .inl rfl
    · exact .inr (of_decide_eq_true (List.all_eq_true.mp hn t (of_decide_eq_true h)))
  · cases h
def eqOB (K : PySem.W.Frag) (cl : Str) : Bool := He.eqO (PySem.W.findIn K (.ref (He.ga K cl)) "__ne__") (some (some (.builtin "object.__ne__"))) && decide (PySem.W.mroIn K (He.ga K cl) (.type "object") = some true)
def eqUB (K : PySem.W.Frag) (cl : Str) : Bool := He.eqO (PySem.W.findIn K (.ref (He.ga K cl)) "__eq__") (some (some (.builtin "object.__eq__"))) && eqOB K cl
theorem eqOB_ok {K : PySem.W.Frag} (h : eqOB K cl = true) (mt : Meth K (He.ga K cl) "__eq__" fa) : RvC.EqO K (He.ga K cl) fa := by
  obtain ⟨h1, h2⟩ := He.ba h
  exact ⟨mt.at_, mt.fn, He.eqO_ok h1, of_decide_eq_true h2⟩
theorem eqUB_ok {K : PySem.W.Frag} (h : eqUB K cl = true) : RvC.EqU K (He.ga K cl) := by
  obtain ⟨h1, h2⟩ := He.ba h
  obtain ⟨h3, h4⟩ := He.ba h2
  exact ⟨He.eqO_ok h1, He.eqO_ok h3, of_decide_eq_true h4⟩
theorem cmp_eq_rc {v u : Value} : compareOp .Eq v u = richCompare .Eq v u := by first | rfl | (unfold compareOp; rfl)
theorem cmp_ne_rc {v u : Value} : compareOp .NotEq v u = richCompare .NotEq v u := by first | rfl | (unfold compareOp; rfl)
/-- x == y, x != y: x of a class with an own __eq__ -/
def dEqK (b : Bool) (cl : Str) (ts : List Tg) (F : Fn) : D → D → Store → Out D := fun d1 d2 μ => if isC μ cl d1 = true ∧ tgIn μ cl ts d2 = true then blOut b (F [d1, d2] μ) else .stuck
theorem opb_eqK {ts : List Tg} (S : Spc X cl "__eq__" fa fd ps k F) (hl : ps.length = 2) (hn : notB X.K cl ts = true) (ho : eqOB X.K cl = true) (tk : Takes X W) : OpB X W (compareOp .Eq) (dEqK false cl ts F) := by
  intro π μ σ H Q d1 d2 x y sm r1 r2 h pins s v u I rx ry
  unfold dEqK at h
  by_cases hc : isC μ cl d1 = true ∧ tgIn μ cl ts d2 = true
  · rw [if_pos hc] at h
    obtain ⟨ns, ds, e⟩ := isC_ok hc.1
    obtain ⟨t, et, hnt⟩ := tgIn_ok hn hc.2
    obtain ⟨pa, ox, od, rfl, rfl, J, _⟩ := own_at sm r1 e I rx
    rw [cmp_eq_rc]
    refine RvC.rc_of (.inl rfl) (by have := S.rm.rm.units; omega) I.kIn J (looks_tg sm r2 et I ry) hnt (RvC.try_eqO I.kIn J (eqOB_ok ho S.mt) (wpAny_mono (call_a S.fn (S.rm.mono (Nat.le_add_right _ 2)) I.env0 tk I S.bd (Paired.cons (a := V.ref pa) rx (.cons ry .nil)) sm (.cons r1 (.one r2)) (by rw [hl]; rfl) (blOut_ok h)) (fun u2 s2 z => ?_) fun _ _ z => z))
    obtain ⟨w, H', I', rw', k, rfl, q⟩ := z
    cases rw'
    refine ⟨k, rfl, .bl k, H', I', rfl, ?_⟩
    simpa using q
  · rw [if_neg hc] at h; exact h.elim
theorem opb_neK {ts : List Tg} (S : Spc X cl "__eq__" fa fd ps k F) (hl : ps.length = 2) (hn : notB X.K cl ts = true) (ho : eqOB X.K cl = true) (tk : Takes X W) : OpB X W (compareOp .NotEq) (dEqK true cl ts F) := by
  intro π μ σ H Q d1 d2 x y sm r1 r2 h pins s v u I rx ry
  unfold dEqK at h
  by_cases hc : isC μ cl d1 = true ∧ tgIn μ cl ts d2 = true
  · rw [if_pos hc] at h
    obtain ⟨ns, ds, e⟩ := isC_ok hc.1
    obtain ⟨t, et, hnt⟩ := tgIn_ok hn hc.2
    obtain ⟨pa, ox, od, rfl, rfl, J, _⟩ := own_at sm r1 e I rx
    have hu := S.rm.rm.units
    rw [cmp_ne_rc]
    refine RvC.rc_of (.inr rfl) (by omega) I.kIn J (looks_tg sm r2 et I ry) hnt (RvC.try_neO (by omega) I.kIn J (eqOB_ok ho S.mt) (wpAny_mono (call_a S.fn (S.rm.mono (Nat.le_succ _)).in1 I.env0.in1 tk I S.bd (Paired.cons (a := V.ref pa) rx (.cons ry .nil)) sm (.cons r1 (.one r2)) (by rw [hl]; rfl) (blOut_ok h)) (fun u2 s2 z => ?_) fun _ _ z => z))
    obtain ⟨w, H', I', rw', k, rfl, q⟩ := z
    cases rw'
    refine ⟨k, rfl, .bl (!k), H', I', rfl, ?_⟩
    simpa using q
  · rw [if_neg hc] at h; exact h.elim
/-- x == y, x != y: x of a class cl without an own __eq__ (two are one thing where they stand at one place); y may be of the class rc with one -/
def dEqU (b : Bool) (cl rc : Str) (ts : List Tg) (RF : Fn) : D → D → Store → Out D := fun d1 d2 μ => if isC μ cl d1 = true ∧ tgIn μ cl ts d2 = true then (match d2 with
  | .non => .ok (.bl b) μ
  | .tup _ => .ok (.bl b) μ
  | d2 => if isC μ rc d2 = true then blOut b (RF [d2, d1] μ) else (match d1, d2 with
    | .ref i, .ref j => if i ≠ j ∧ isC μ cl (.ref j) = true then .ok (.bl b) μ else .stuck
    | _, _ => .stuck)) else .stuck
theorem opb_eqU {op : CmpOp} {b : Bool} {ts : List Tg} (hop : (op = .Eq ∧ b = false) ∨ (op = .NotEq ∧ b = true)) (S : Spc X rc "__eq__" fa fd ps k RF) (hl : ps.length = 2) (hn : notB X.K cl ts = true) (hU : eqUB X.K cl = true) (ho : eqOB X.K rc = true) (hst : PySem.W.subIn X.K (.ref (He.ga X.K cl)) (.type "tuple") = some false) (hne : He.ga X.K cl ≠ He.ga X.K rc) (tk : Takes X W) :
    OpB X W (compareOp op) (dEqU b cl rc ts RF) := by
  intro π μ σ H Q d1 d2 x y sm r1 r2 h pins s v u I rx ry
  unfold dEqU at h
  by_cases hc : isC μ cl d1 = true ∧ tgIn μ cl ts d2 = true
  · rw [if_pos hc] at h
    obtain ⟨ns, ds, e⟩ := isC_ok hc.1
    obtain ⟨t, et, hnt⟩ := tgIn_ok hn hc.2
    obtain ⟨pa, ox, od, rfl, rfl, J, jc⟩ := own_at sm r1 e I rx
    have hu := S.rm.rm.units
    have jt : ox.cls ≠ .type "tuple" := by rw [jc]; exact fun z => nomatch z
    have U := eqUB_ok hU
    -- the reading of the first try, then of the second
    have main : RvC.Apart pa u s → wpAny (model X.prog X.w) X.A (tryCompare u (cmpInfo op).2.2 (.ref pa)) (fun r s2 => match r with
        | some v => EP X pins σ Q v s2
        | none => wpAny (model X.prog X.w) X.A (isSame (.ref pa) u) (fun k s3 => EP X pins σ Q (.bool (if op = .Eq then k else !k)) s3) X.xe s2) X.xe s → wpAny (model X.prog X.w) X.A (richCompare op (.ref pa) u) (EP X pins σ Q) X.xe s := fun ap z => by
      refine RvC.rc_of (hop.imp And.left And.left) (by omega) I.kIn J (looks_tg sm r2 et I ry) hnt ?_
      rcases hop with ⟨rfl, rfl⟩ | ⟨rfl, rfl⟩
      · exact RvC.try_eqU I.kIn J U ap z
      · exact RvC.try_neU (by omega) I.kIn J U ap z
    have fin : Q (.bl b) H → RvC.Apart pa u s → wpAny (model X.prog X.w) X.A (isSame (.ref pa) u) (fun k s3 => EP X pins σ Q (.bool (if op = .Eq then k else !k)) s3) X.xe s := fun q ap => by
      refine ap _ _ _ _ ⟨.bl b, H, I, ?_, q⟩
      rcases hop with ⟨rfl, rfl⟩ | ⟨rfl, rfl⟩ <;> rfl
    have ecmp : compareOp op (.ref pa) u = richCompare op (.ref pa) u := by
      rcases hop with ⟨rfl, rfl⟩ | ⟨rfl, rfl⟩
      · exact cmp_eq_rc
      · exact cmp_ne_rc
    rw [ecmp]
    split at h
    · cases rep_non r2
      cases ry
      have q : Q (.bl b) H := h _ H π Gr.refl sm (by unfold Rp Rep; rfl)
      refine main RvC.apart_none ?_
      rcases hop with ⟨rfl, rfl⟩ | ⟨rfl, rfl⟩
      · exact RvC.decl_none_eq _ _ (fin q RvC.apart_none)
      · exact RvC.decl_none_ne _ _ (fin q RvC.apart_none)
    · rename_i ys
      have q : Q (.bl b) H := h _ H π Gr.refl sm (by unfold Rp Rep; rfl)
      obtain ⟨p, vs, rfl, hp, _⟩ := asT_view (ds := ys) r2 rfl
      obtain rfl : u = Value.ref p := ry
      obtain ⟨its, _, ⟨o, e1, ec, _⟩, _⟩ := I.tuple hp
      have ap : RvC.Apart pa (.ref p) s := RvC.apart_ref (fun z => by
        subst z
        have q2 := Option.some.inj (J.at_.symm.trans e1)
        rw [q2] at jt
        exact jt ec) J.at_ jt e1
      refine main ap ?_
      rcases hop with ⟨rfl, rfl⟩ | ⟨rfl, rfl⟩
      · exact RvC.decl_tup_eq I.kIn J hst ⟨o, e1, ec⟩ _ _ (fin q ap)
      · exact RvC.decl_tup_ne I.kIn J hst ⟨o, e1, ec⟩ _ _ (fin q ap)
    · rename_i d2' n1 n2
      by_cases hr : isC μ rc d2 = true
      · rw [if_pos hr] at h
        obtain ⟨ns2, ds2, e2⟩ := isC_ok hr
        obtain ⟨pb, oy, oe, rfl, rfl, J2, jc2⟩ := own_at sm r2 e2 I ry
        have ap : RvC.Apart pa (.ref pb) s := RvC.apart_ref (fun z => by
          subst z
          have q2 := Option.some.inj (J.at_.symm.trans J2.at_)
          rw [q2, jc2] at jc
          exact hne (Value.ref.inj jc).symm) J.at_ jt J2.at_
        refine main ap ?_
        rcases hop with ⟨rfl, rfl⟩ | ⟨rfl, rfl⟩
        · refine RvC.try_eqO I.kIn J2 (eqOB_ok ho S.mt) (wpAny_mono (call_a S.fn (S.rm.mono (Nat.le_add_right _ 2)) I.env0 tk I S.bd (Paired.cons (a := V.ref pb) ry (.cons rx .nil)) sm (.cons r2 (.one r1)) (by rw [hl]; rfl) (blOut_ok h)) (fun u2 s2 z => ?_) fun _ _ z => z)
          obtain ⟨w, H', I', rw', k, rfl, q⟩ := z
          cases rw'
          refine ⟨k, rfl, .bl k, H', I', rfl, ?_⟩
          simpa using q
        · refine RvC.try_neO (by omega) I.kIn J2 (eqOB_ok ho S.mt) (wpAny_mono (call_a S.fn (S.rm.mono (Nat.le_succ _)).in1 I.env0.in1 tk I S.bd (Paired.cons (a := V.ref pb) ry (.cons rx .nil)) sm (.cons r2 (.one r1)) (by rw [hl]; rfl) (blOut_ok h)) (fun u2 s2 z => ?_) fun _ _ z => z)
          obtain ⟨w, H', I', rw', k, rfl, q⟩ := z
          cases rw'
          refine ⟨k, rfl, .bl (!k), H', I', rfl, ?_⟩
          simpa using q
      · rw [if_neg hr] at h
        split at h
        · rename_i i j
          by_cases hij : i ≠ j ∧ isC μ cl (.ref j) = true
          · rw [if_pos hij] at h
            obtain ⟨ns2, ds2, e2⟩ := isC_ok hij.2
            have r1' := r1
            have r2' := r2
            obtain ⟨pb, oy, oe, rfl, rfl, J2, jc2⟩ := own_at sm r2 e2 I ry
            unfold Rp Rep at r1' r2'
            obtain ⟨a1, h1, h1'⟩ := r1'
            obtain ⟨a2, h2, h2'⟩ := r2'
            cases h1'
            cases h2'
            have ne : pa ≠ pb := fun z => by
              subst z
              obtain ⟨l1, e3⟩ := List.getElem?_eq_some_iff.mp h1
              obtain ⟨l2, e4⟩ := List.getElem?_eq_some_iff.mp h2
              exact hij.1 ((List.getElem_inj sm.nd).mp (e3.trans e4.symm))
            have q : Q (.bl b) H := h _ H π Gr.refl sm (by unfold Rp Rep; rfl)
            have ap : RvC.Apart pa (.ref pb) s := RvC.apart_ref ne J.at_ jt J2.at_
            have ap2 : RvC.Apart pb (.ref pa) s := RvC.apart_ref (Ne.symm ne) J2.at_ (by rw [jc2]; exact fun z => nomatch z) J.at_
            refine main ap ?_
            rcases hop with ⟨rfl, rfl⟩ | ⟨rfl, rfl⟩
            · exact RvC.try_eqU I.kIn J2 U ap2 (fin q ap)
            · exact RvC.try_neU (by omega) I.kIn J2 U ap2 (fin q ap)
          · rw [if_neg hij] at h; exact h.elim
        · exact h.elim
  · rw [if_neg hc] at h; exact h.elim

/-! ### methods and classes without arguments -/
def mMeth0 (cl g : Str) (F : Fn) (m : M D) : M D := fun ρ μ => (m ρ μ).bind fun d μ1 => match asI μ1 d with
  | some (c, ns, _) => if c = cl ∧ g ∉ ns then F [d] μ1 else .stuck
  | none => .stuck
/-! ### try, no exception raised -/
theorem takes0 : Takes X.nox W0 := fun u s' x => by
  obtain ⟨_, _, _, _, _, _, _, _, _, _, _, _, _, _, _, _, w⟩ := x
  exact w
theorem takesB {scope : Scope} {s : Shared} {H : Hp} {C : Addr} {al : List (Str × Addr)} {fp : List Addr} : Takes (Cx.in_ X scope s H C al fp) W0 := fun u s' x => by
  obtain ⟨_, _, _, _, _, _, _, _, _, _, _, _, _, _, _, _, w⟩ := x
  exact w
def OutS.only : OutS → OutS
  | .exc _ _ _ _ _ => .stuck
  | o => o
def cTry (c : C) : C := fun ρ μ => (c ρ μ).only
theorem SS.tryNo {body : List Stmt} {cb : C} {h0 : ExceptHandler} {hs : List ExceptHandler} (hb : SSs X.nox W0 body cb) : SS X W (.Try body (h0 :: hs) [] [] pos) (cTry cb) := fun π ρ μ σ H Dn sm sl h => by
  refine WS.of (ps_try_thru0 (PSs.mk (fun pins s σ H Dn I h => (h : WSs X.nox body Dn σ H) pins s I))) (hb π ρ μ σ H Dn sm sl ?_)
  unfold cTry at h
  cases e : cb ρ μ with
  | nx ρ' μ' => rw [e] at h; exact h
  | ret d μ' => rw [e] at h; exact h
  | brk ρ' μ' => rw [e] at h; exact h
  | ct ρ' μ' => rw [e] at h; exact h
  | exc c ns ds ρ' μ' => rw [e] at h; exact (show False from h).elim
  | stuck => rw [e] at h; exact h
end
end Rv
set_option Elab.async false
set_option linter.all false
set_option maxRecDepth 100000
set_option maxHeartbeats 1000000
/-! Rv16: a, b, c = x, y, z. -/
namespace Rv
open PySem PySem.Spec L2
open PyProof.Rows hiding St

section
variable {X : Cx} {W : WX} {a b c : Expr} {ms : M (List D)} {pos : Pos}
theorem repL3 {K : PySem.W.Frag} {H : Hp} {π : List Addr} {d1 d2 d3 : D} {vs : List V} (r : RepL K H π [d1, d2, d3] vs) : ∃ u v w, vs = [u, v, w] ∧ Rep K H π d1 u ∧ Rep K H π d2 v ∧ Rep K H π d3 w := by
  obtain ⟨u, t, rfl, h1, h2⟩ := r.uncons
  obtain ⟨v, w, rfl, h3, h4⟩ := repL2 h2
  exact ⟨u, v, w, rfl, h1, h3, h4⟩
theorem vals3 {x y z : V} {us : List Value} (r : Vals [x, y, z] us) : ∃ u v w, us = [u, v, w] ∧ RelV x u ∧ RelV y v ∧ RelV z w := by
  cases r with
  | cons r1 r2 =>
    obtain ⟨v, w, rfl, h1, h2⟩ := vals2 r2
    exact ⟨_, v, w, rfl, r1, h1, h2⟩
def cPar3 (i j k : Nat) (ms : M (List D)) : C := fun ρ μ => (ms ρ μ).bindS ρ fun ds μ1 => match ds with
  | [d1, d2, d3] => .nx (((ρ.set k (some d3)).set j (some d2)).set i (some d1)) μ1
  | _ => .stuck
theorem SS.par3 {x y z : Str} {px py pz pt pt2 : Pos} {kt k2} (i j k : Nat) (hc : X.calm = true) (hN : X.N.Nodup) (hi : X.N[i]? = some x) (hj : X.N[j]? = some y) (hk : X.N[k]? = some z) (hx : X.env.scope.names.lookup x = some .local) (hy : X.env.scope.names.lookup y = some .local) (hz : X.env.scope.names.lookup z = some .local)
    (ha : SA X W [a, b, c] ms) (hw : swappedStores [.Tuple [.Name x px, .Name y py, .Name z pz] kt pt] (.Tuple [a, b, c] k2 pt2) X.env = pure (some [x, y, z])) (hs : swapsWithSole [.Tuple [.Name x px, .Name y py, .Name z pz] kt pt] (.Tuple [a, b, c] k2 pt2) pos.line X.env = pure false := by rfl) :
    SS X W (.Assign [.Tuple [.Name x px, .Name y py, .Name z pz] kt pt] (.Tuple [a, b, c] k2 pt2) pos) (cPar3 i j k ms) := fun π ρ μ σ H Dn sm sl q pins s I => by
  rw [exec_Assign_arm]
  refine wpAny_bind (wpAny_standAt ?_)
  rw [hs]
  refine wpAny_bind (wpAny_pure ?_)
  rw [if_neg (by decide)]
  refine wpAny_bind (Tuple_ (thn (ha π ρ μ σ H (fun vs H1 => ∃ u v w, vs = [u, v, w] ∧ Dn.nx (((σ.set k (some w)).set j (some v)).set i (some u)) H1) sm sl (GE.bindS sl q fun ds μ1 vs H1 π1 e1 g1 s1 r1 h1 => ?_) _ pins s I) fun us s1 z => ?_))
  · split at h1
    · obtain ⟨u, v, w, rfl, ru, rv, rw'⟩ := repL3 r1
      exact ⟨u, v, w, rfl, h1 _ H1 π1 Gr.refl s1 ((((g1.loc sl).set rw' k).set rv j).set ru i)⟩
    · exact h1.elim
  · obtain ⟨vs, H1, I1, r1, u, v, w, rfl, q1⟩ := z
    obtain ⟨u1, u2, u3, rfl, ru, rv, rw'⟩ := vals3 r1
    refine wpAny_newObj_type ?_ (by show 3 ≤ sizeLine; decide)
    have I2 : Inv X pins σ H1 { s1 with heap := s1.heap.push { cls := .type "tuple", data := .seq [u1, u2, u3].toArray } } := I1.kept (t' := s1.toks) fun b o e => Heap.get?_push_of_some _ e
    rw [hw]
    refine wpAny_bind (wpAny_pure ?_)
    show wpAny (model X.prog X.w) X.A (do rule "assign.swapped-stores"; let items ← unpackItems (.ref s1.heap.objs.size) 3 none; assignInOrder [fun v => bindName X.env z v, fun v => bindName X.env y v, fun v => bindName X.env x v] items.reverse; pure Flow.next) _ _ _
    refine wpAny_bind (wpAny_rule (wpAny_bind (unpackItems_tuple (items := #[u1, u2, u3]) (I.ok.hd hc) (IsTup.new s1.heap _) fun h' hx' => ?_)))
    have I3 := I2.kept (h' := h') (t' := s1.toks) fun b o e => hx' b o (Nat.ne_of_lt (Heap.lt_size e)) e
    show wpAny _ _ (assignInOrder [fun v => bindName X.env z v, fun v => bindName X.env y v, fun v => bindName X.env x v] [u3, u2, u1] >>= fun _ => pure Flow.next) _ _ _
    refine wpAny_bind (assignInOrder_cons (wpAny_bindName (store_ok I3 hN hk (.inl hz) rw' (fun s2 I4 => ?_) (.inr hz))))
    refine assignInOrder_cons (wpAny_bindName (store_ok I4 hN hj (.inl hy) rv (fun s3 I5 => ?_) (.inr hy)))
    exact assignInOrder_cons (wpAny_bindName (store_ok I5 hN hi (.inl hx) ru (fun s4 I6 => assignInOrder_nil (wpAny_pure ⟨_, H1, I6, q1⟩)) (.inr hx)))
end
end Rv
set_option Elab.async false
set_option linter.all false
set_option maxRecDepth 100000
set_option maxHeartbeats 1000000
/-! RvZ: a law's end: the law's def is called with the script. -/
namespace Rv
open PySem PySem.Spec L2
open PyProof.Rows hiding St

theorem cx_no {P : Program} {w : World} {outer : List Env} {H : Hp} {s : Shared} {e : Value} {s' : Shared} (h : L2.CX P w outer H s (fun _ _ _ => False) e s') : False := by
  obtain ⟨_, _, _, _, _, _, _, _, _, _, _, _, z⟩ := h
  exact z
section
variable {P : Program} {w : World} {K : PySem.W.Frag} {mg mb : Str → Option Value} {k : Nat} {fa a : Addr} {fd : FuncData} {x : Str} {G : Fn} {s : Shared} {us : List Value} {ns : List Int}
theorem law_q (KX : K.In s.heap) (nG : s.heap.Ns mainGlobals mg) (nB : s.heap.Ns builtinsNs mb) (nb : ∀ x : Str, x ≠ "__name__" → mb x = bootBuiltins x) (nl : s.heap.NoLimit) (g0 : s.gens = #[]) (ea : s.heap.get? a = some { cls := .type "list", data := .seq us.toArray }) (hi : IntsAre us ns) (hl : ns.length ≤ sizeLine) (hr : RoomQ k callerA)
    (F : ∀ base : Heap, K.In base → base.Ns mainGlobals mg → FnQ P w K mg base k fa fd [x] G) (hb : ∀ (s : Shared) (u : Value), BindsTo s fd ⟨[u], []⟩ [(x, u)]) (hG : ∃ μ', G [.scr ns] [] = .ok (.bl true) μ') :
    codeAny (model P w) callerA (.call (.ref fa) ⟨[.ref a], []⟩) (fun r s' => r = .ok (.ret (.bool true)) ∧ OldK s.heap s'.heap ∧ s'.os = s.os ∧ AllBare s'.gens) s := by
  obtain ⟨μ', hG⟩ := hG
  have rv := vals_ints hi
  -- H tells of nothing but the script
  have go : ∀ H : Hp, (∀ b, b ≠ a → H b = none) → (H a = none ∨ H a = some (.ext fun h => h.get? a = some { cls := .type "list", data := .seq us.toArray })) → (H a ≠ none → K.lookup a = none) → ScrAt K H a ns →
      codeAny (model P w) callerA (.call (.ref fa) ⟨[.ref a], []⟩) (fun r s' => r = .ok (.ret (.bool true)) ∧ OldK s.heap s'.heap ∧ s'.os = s.os ∧ AllBare s'.gens) s := by
    intro H hN hA hK hS
    have hok : HOk P w H s.heap := fun b u e => by
      by_cases q : b = a
      · subst q
        rcases hA with z | z
        · rw [z] at e; cases e
        · rw [z] at e
          cases e
          exact ⟨ea, ⟨_, ea⟩, fun h1 h2 p q => q _ p⟩
      · rw [hN b q] at e; cases e
    have inB : ∀ {b : Addr} {o : Obj}, s.heap.get? b = some o → (b = a → H b = none) → (hidT s.heap H).get? b = some o := fun {b o} e n => hidT_get e (by
      by_cases q : b = a
      · exact n q
      · exact hN b q)
    have nsB : ∀ {b : Addr} {m : Str → Option Value}, s.heap.Ns b m → (hidT s.heap H).Ns b m := fun {b m} z => by
      obtain ⟨o, es, ep, e, d, r⟩ := z
      refine ⟨o, es, ep, inB e fun q => ?_, d, r⟩
      subst q
      rw [ea] at e
      cases e
      have d' : Data.seq us.toArray _ = Data.dict es ep := d
      cases d'
    have kB : K.In (hidT s.heap H) := fun b o e => inB (KX b o e) fun q => by
      subst q
      cases z : H b with
      | none => rfl
      | some u => rw [hK (by rw [z]; exact fun y => nomatch y)] at e; cases e
    have md : Mod K mg (hidT s.heap H) := ⟨kB, nsB nG, ⟨mb, nsB nB, nb⟩, by
      obtain ⟨mc, h1, h2⟩ := nl
      exact ⟨mc, nsB h1, h2⟩⟩
    have ev : Env0 P w K mg (hidT s.heap H) callerA [] s H := ⟨rfl, md, fun b o e => of_hidT e, Nat.le_of_eq (hidT_size _ _), trivial, fun b z => (by cases (show b ∈ ([] : List Addr) from z)), hok, .of_eq g0⟩
    have sp : spG K 1 G [.ref a] H (fun v H' => v = .bl true ∧ ∀ o, H a = some o → H' a = some o) (fun _ _ _ => False) := by
      refine ⟨[], [], [.scr ns], rfl, ⟨List.nodup_nil, rfl, fun n a m h1 _ => by cases h1⟩, ?_, ?_⟩
      · refine RepL.one ?_
        unfold Rep
        refine ⟨a, rfl, ?_⟩
        have e0 : off [] H = H := by
          funext b
          exact off_ne (by simp)
        rw [e0]
        exact hS
      · rw [hG]
        intro v H' π' gr sm r
        refine ⟨rep_bl r, fun o z => ?_⟩
        exact (off_some (gr.keep a _ (show off [] H a = some o by rw [off_ne (by simp)]; exact z))).2
    refine codeAny_mono ((F _ kB (nsB nG)).run callerA [] s H ⟨[.ref a], []⟩ [.ref a] [.ref a] _ _ hr ev (hb s (.ref a)) (.cons rfl .nil) sp) fun r s' z => ?_
    cases r with
    | error e => exact (cx_no z).elim
    | ok fl =>
      cases fl with
      | ret u =>
        obtain ⟨v, H', os, bare, un, ok', rv', e1, e2⟩ := z
        subst e1
        obtain rfl : u = Value.bool true := rv'
        refine ⟨rfl, OldK.of_keep fun b o e => ?_, os, bare⟩
        cases q : H b with
        | none => exact un.keep b o e q (fun y => by cases (show b ∈ ([] : List Addr) from y)) (by simp)
        | some u =>
          have eb : b = a := Classical.byContradiction fun n => by rw [hN b n] at q; cases q
          subst eb
          rcases hA with z | z
          · rw [z] at q; cases q
          · have e2 := e2 _ z
            obtain ⟨p1, _, _⟩ := (show ObjOk P w H' s'.heap b (.ext fun h => h.get? b = some { cls := .type "list", data := .seq us.toArray }) from ok' b _ e2)
            rw [ea] at e
            cases e
            exact p1
      | next => exact z.elim
      | brk => exact z.elim
      | cont => exact z.elim
  cases hk : K.lookup a with
  | some o =>
    have e := KX a o hk
    rw [ea] at e
    cases e
    exact go (fun _ => none) (fun _ _ => rfl) (.inl rfl) (fun z => absurd rfl z) (.inl ⟨_, us.toArray, _, hk, rfl, rfl, rfl, by
      have := rv.length
      rw [List.length_map] at this
      rw [List.size_toArray]
      omega, by simpa using rv⟩)
  | none =>
    exact go (fun b => if b = a then some (.ext fun h => h.get? a = some { cls := .type "list", data := .seq us.toArray }) else none) (fun b n => if_neg n) (.inr (if_pos rfl)) (fun _ => hk) (.inr ⟨us, if_pos rfl, rv, hl⟩)
/-- the law's end over a head by facts -/
theorem walk_q {l : PySem.W.OpenLaw} {n k : Nat} {q : Program} {loose : List Str} {XP : (Str → Option Value) → Heap → Prop} {YP : World → Heap → Prop} {d : DefRec} {x : Str} (hn : l.most = some n) (hn2 : n ≤ sizeLine) (hdf : d.params.defaults = []) (hr : RoomQ k callerA)
    (F : ∀ (w : World) (mg : Str → Option Value) (fa : Addr) (h : Heap), YP w h → h.Ns mainGlobals mg → mg d.name = some (.ref fa) → ∃ (K : PySem.W.Frag) (fd : FuncData) (G : Fn), K.In h ∧ (∀ (s : Shared) (u : Value), BindsTo s fd ⟨[u], []⟩ [(x, u)]) ∧
      (∀ ns : List Int, ns.length ≤ n → ∃ μ', G [.scr ns] [] = .ok (.bl true) μ') ∧ ∀ base : Heap, K.In base → base.Ns mainGlobals mg → FnQ l.prog w K mg base k fa fd [x] G) :
    PySem.W.WalkO q loose XP YP l.row.toRowW d [] (fun f vs => PySem.call f vs) := by
  refine Att.attach_call hn hdf fun w s0 s1 mg mb fa o pm cd doc a vs ns GG Y ho hd hcd hmg hobj hints hlen hg => ?_
  obtain ⟨K, fd, G, KX, hb, hG, hF⟩ := F w mg fa _ Y GG.T.g hmg
  exact law_q KX GG.T.g GG.T.b GG.T.builtins GG.T.nolimit hg hobj hints (Nat.le_trans hlen hn2) hr hF hb (hG ns hlen)
end
end Rv
set_option Elab.async false
set_option linter.all false
set_option maxRecDepth 100000
set_option maxHeartbeats 1000000
/-! Rv17: facts of the text, read behind the top. -/
namespace Rv
open PySem PySem.Spec L2
open PyProof.Rows hiding St

/-! ### defs by an address -/
structure DefA where
  adr : PySem.W.Frag → Addr
  name : Str
  qual : Str
  st : Stmt
  dfl : List He.Dv := []
  kwd : List (Str × He.Dv) := []
def fnAt (K : PySem.W.Frag) (a : Addr) : He.FnW := match K.lookup a with
  | some ⟨_, _, .func fd, _⟩ => some (fd.name, fd.qualname, fd.params, fd.body, fd.scope, fd.globals, fd.closure, fd.builtins)
  | _ => none
def DefA.val (d : DefA) : He.FnW := some (d.name, d.qual, defArgs d.st, .stmts (defBody d.st), defScope d.st, mainGlobals, [], builtinsNs)
def DefA.dvs (K : PySem.W.Frag) (d : DefA) : List V := d.dfl.map (He.Dv.v K)
def DefA.kws (K : PySem.W.Frag) (d : DefA) : List (Str × V) := d.kwd.map fun q => (q.1, q.2.v K)
def DefA.ok (K : PySem.W.Frag) (d : DefA) : Bool := PySem.W.keepIn K (.ref (d.adr K)) && (match K.lookup (d.adr K) with
  | some ⟨_, _, .func fd, _⟩ => PySem.W.codeIn K fd.code d.qual && (He.dflB K fd.defaults (d.dvs K) && He.kwdB K fd.kwdefaults (d.kws K))
  | _ => false)
/-- the i-th default of the def at p, if it is an object -/
def dfA (p : PySem.W.Frag → Addr) (i : Nat) (K : PySem.W.Frag) : Addr := match K.lookup (p K) with
  | some ⟨_, _, .func fd, _⟩ => (match fd.defaults with
    | .ref T => (match K.lookup T with
      | some ⟨_, _, .seq its _, _⟩ => (match its.toList[i]? with
        | some (.ref a) => a
        | _ => 0)
      | _ => 0)
    | _ => 0)
  | _ => 0
abbrev FnD (K : PySem.W.Frag) (d : DefA) (fd : FuncData) : Prop := FunD K d.name d.qual (defArgs d.st) (defBody d.st) (defScope d.st) (d.dvs K) (d.kws K) (d.adr K) fd
theorem DefA.funD {K : PySem.W.Frag} {d : DefA} (e : fnAt K (d.adr K) = d.val) (c : d.ok K = true) : ∃ fd, FnD K d fd := by
  obtain ⟨kp, c2⟩ := He.ba c
  unfold fnAt at e
  cases q : K.lookup (d.adr K) with
  | none => rw [q] at c2; cases c2
  | some o =>
    obtain ⟨oc, od, dt, osl⟩ := o
    rw [q] at c2 e
    cases dt with
    | func fd =>
      obtain ⟨m1, m2, m3, m4, m5, m6, m7, m8, m9, m10, m11, m12, m13, m14, m15⟩ := fd
      have e2 : (some (m1, m2, m3, m4, m5, m6, m7, m15) : He.FnW) = some (d.name, d.qual, defArgs d.st, .stmts (defBody d.st), defScope d.st, mainGlobals, [], builtinsNs) := e
      simp only [Option.some.injEq, Prod.mk.injEq] at e2
      obtain ⟨h1, h2, h3, h4, h5, h6, h7, h8⟩ := e2
      subst h1 h2 h3 h4 h5 h6 h7 h8
      obtain ⟨k1, k2⟩ := He.ba (show (PySem.W.codeIn K m13 d.qual && (He.dflB K m8 (d.dvs K) && He.kwdB K m9 (d.kws K))) = true from c2)
      obtain ⟨k3, k4⟩ := He.ba k2
      exact ⟨_, ⟨oc, od, m8, m9, m10, m11, m12, m13, m14, osl, rfl, q, k1, He.dflB_ok k3, He.kwdB_ok k4⟩, kp⟩
    | _ => cases c2
/-! ### the hook -/
abbrev AlA : Type := Bool × List He.FnW
abbrev Facts := List (PySem.W.Frag → Bool)
def obsA (fs : Facts) (ds : List DefA) (K : PySem.W.Frag) : AlA := ((fs.all fun f => f K) && ds.all fun d => d.ok K, ds.map fun d => fnAt K (d.adr K))
def valA (ds : List DefA) : AlA := (true, ds.map DefA.val)
def SaysA (fs : Facts) (ds : List DefA) (K : PySem.W.Frag) : Prop := obsA fs ds K = valA ds
/-- all that stands, from n on to m, the first k ahead -/
def rngA : Nat → Nat → List Addr
  | _, 0 => []
  | a, m + 1 => a :: rngA (a + 1) m
def obsAG (n : Nat) (fs : Facts) (ds : List DefA) (g : Addr → Option Obj) : AlA := obsA fs ds (He.frG g (rngA 0 n))
def hookA (fs : Facts) (ds : List DefA) : PySem.W.Hook where
  α := AlA
  obs := fun s => obsAG s.heap.objs.size fs ds s.heap.get?
  val := fun _ => valA ds
  says := fun _ h => ∃ K : PySem.W.Frag, K.In h ∧ SaysA fs ds K
  of := fun _ _ e => ⟨_, He.frG_in, e⟩
  keeps := fun _ _ _ z k => let ⟨K, hK, c⟩ := z; ⟨K, PySem.W.Frag.In.keeps hK k, c⟩
theorem obsAG_eq {n : Nat} {fs : Facts} {ds : List DefA} {g : Addr → Option Obj} {s : Shared} (h : ∀ a, g a = s.heap.get? a) (e : n = s.heap.objs.size) : obsAG n fs ds g = (hookA fs ds).obs s := by
  have z : g = s.heap.get? := funext h
  subst e z
  rfl
section
variable {fs : Facts} {ds : List DefA} {K : PySem.W.Frag}
theorem SaysA.fact (c : SaysA fs ds K) (i : Nat) {f : PySem.W.Frag → Bool} (h : fs[i]? = some f := by rfl) : f K = true :=
  List.all_eq_true.mp (He.ba (congrArg (fun z : AlA => z.1) c : ((fs.all fun f => f K) && ds.all fun d => d.ok K) = true)).1 f (List.mem_of_getElem? h)
theorem SaysA.def_ (c : SaysA fs ds K) (i : Nat) {d : DefA} (h : ds[i]? = some d := by rfl) : ∃ fd, FnD K d fd := by
  have k := (He.ba (congrArg (fun z : AlA => z.1) c : ((fs.all fun f => f K) && ds.all fun d => d.ok K) = true)).2
  have e : ds.map (fun d => fnAt K (d.adr K)) = ds.map DefA.val := congrArg (fun z : AlA => z.2) c
  have e2 : (ds.map fun d => fnAt K (d.adr K))[i]? = (ds.map DefA.val)[i]? := by rw [e]
  rw [List.getElem?_map, List.getElem?_map, h] at e2
  exact DefA.funD (Option.some.inj e2) (List.all_eq_true.mp k d (List.mem_of_getElem? h))
end
/-! ### facts -/
def fFa (f : He.Fa) : PySem.W.Frag → Bool := fun K => f.ok K
/-- an address: a module's name, a class's name, a getter, a classmethod's def -/
def aG (x : Str) : PySem.W.Frag → Addr := fun K => He.ga K x
def aM (c m : Str) : PySem.W.Frag → Addr := fun K => He.ma K (He.ga K c) m
def aR (T : String) (c m : Str) : PySem.W.Frag → Addr := fun K => match PySem.W.recIn K (aM c m K) T with
  | some (.ref g :: _) => g
  | _ => 0
def recB (K : PySem.W.Frag) (T : String) (c m : Str) : Bool := match PySem.W.recIn K (aM c m K) T with
  | some (.ref _ :: _) => true
  | _ => false
theorem recB_ok {K : PySem.W.Frag} {T : String} {c m : Str} (h : recB K T c m = true) : ∃ rest, PySem.W.recIn K (aM c m K) T = some (.ref (aR T c m K) :: rest) := by
  unfold recB at h
  unfold aR
  split at h
  · rename_i g rest e
    rw [e]
    exact ⟨rest, rfl⟩
  · cases h
def propB (c f : Str) : PySem.W.Frag → Bool := fun K => He.eqO (PySem.W.findIn K (.ref (He.ga K c)) f) (some (some (.ref (aM c f K)))) && (He.eqO (PySem.W.specialIn K (.ref (aM c f K)) "__get__") (some (some (.builtin "property.__get__"))) &&
  (decide (PySem.W.takesIn K (.ref (aM c f K)) = some true) && recB K "property" c f))
theorem propB_ok {K : PySem.W.Frag} {c f : Str} (h : propB c f K = true) : PropOf K (He.ga K c) f (aM c f K) (aR "property" c f K) := by
  obtain ⟨h1, h⟩ := He.ba h
  obtain ⟨h2, h⟩ := He.ba h
  obtain ⟨h3, h4⟩ := He.ba h
  exact ⟨He.eqO_ok h1, He.eqO_ok h2, of_decide_eq_true h3, recB_ok h4⟩
def creadB (c : Str) : PySem.W.Frag → Bool := fun K => PySem.W.readsIn K (He.ga K c) (.type "type") && He.eqO (PySem.W.specialIn K (.ref (He.ga K c)) "__getattribute__") (some (some (.builtin "type.__getattribute__")))
theorem creadB_ok {K : PySem.W.Frag} {c : Str} (h : creadB c K = true) : ClX.CRead K (He.ga K c) (.type "type") := by
  obtain ⟨h1, h2⟩ := He.ba h
  exact ⟨h1, He.eqO_ok h2⟩
def cmetB (c m : Str) : PySem.W.Frag → Bool := fun K => (match PySem.W.findCls K (.ref (He.ga K c)) (.type "type") m with
  | some (.get (.builtin s) (.ref p) .none (.ref C)) => decide (s = "classmethod.__get__") && (decide (p = aM c m K) && decide (C = He.ga K c))
  | _ => false) && (recB K "classmethod" c m && PySem.W.fnIn K (aR "classmethod" c m K))
theorem cmetB_ok {K : PySem.W.Frag} {c m : Str} (h : cmetB c m K = true) : ClX.CMet K (He.ga K c) (.type "type") m (aM c m K) (aR "classmethod" c m K) := by
  obtain ⟨h1, h⟩ := He.ba h
  obtain ⟨h2, h3⟩ := He.ba h
  refine ⟨?_, recB_ok h2, h3⟩
  cases e : PySem.W.findCls K (.ref (He.ga K c)) (.type "type") m with
  | none => rw [e] at h1; cases h1
  | some r =>
    rw [e] at h1
    cases r with
    | val v => cases h1
    | get g a ob tp =>
      cases g with
      | builtin s =>
        cases a with
        | ref p =>
          cases ob with
          | none =>
            cases tp with
            | ref C =>
              obtain ⟨k1, k⟩ := He.ba (show (decide (s = "classmethod.__get__") && (decide (p = aM c m K) && decide (C = He.ga K c))) = true from h1)
              obtain ⟨k2, k3⟩ := He.ba k
              rw [of_decide_eq_true k1, of_decide_eq_true k2, of_decide_eq_true k3]
            | _ => cases h1
          | _ => cases h1
        | _ => cases h1
      | _ => cases h1
def fnB (a : PySem.W.Frag → Addr) : PySem.W.Frag → Bool := fun K => PySem.W.fnIn K (a K)
def noSeqB (c : Str) : PySem.W.Frag → Bool := fun K => PySem.W.noSeq K (He.ga K c)
def subTB (c : Str) (T : String) (b : Bool) : PySem.W.Frag → Bool := fun K => decide (PySem.W.subIn K (.ref (He.ga K c)) (.type T) = some b)
def neB (c d : Str) : PySem.W.Frag → Bool := fun K => decide (He.ga K c ≠ He.ga K d)
/-! ### binding -/
section
variable {K : PySem.W.Frag} {x qual : Str} {params : Arguments} {body : List Stmt} {scope : Scope} {dvs : List V} {kws : List (Str × V)} {f : Addr} {fd : FuncData} {ps : List Str}
/-- every parameter is written -/
theorem FunD.full (F : FunD K x qual params body scope [] kws f fd) (h : ∀ (kV doc pm : Value) (an : Option Addr) (cdv ct : Value) (us : List Value), us.length = ps.length → bindArgs (PySem.W.fnOf x qual params body scope .none kV doc pm an cdv ct) ⟨us, []⟩ = pure (ps.zip us)) : Binds K fd ps [] := F.bindsN h
/-- the same where the last parameters have defaults (none is used) -/
theorem FunD.fullD (F : FunD K x qual params body scope dvs kws f fd) (hd : dvs ≠ []) (n : Nat) (hn : n = ps.length)
    (h : ∀ (T : Addr) (kV doc pm : Value) (an : Option Addr) (cdv ct : Value) (us its : List Value), us.length = n → its.length = dvs.length →
      ∃ k, bindArgs (PySem.W.fnOf x qual params body scope (.ref T) kV doc pm an cdv ct) ⟨us, []⟩ = seqItems? (.ref T) >>= k ∧ k (some its.toArray) = pure (ps.zip us)) : Binds K fd ps [] := by
  obtain ⟨ds, v, b⟩ := F.binds1 (ps := ps) n dvs.length hd (by omega) fun T kV doc pm an cdv ct us its h1 h2 => by
    obtain ⟨k, e1, e2⟩ := h T kV doc pm an cdv ct us its h1 h2
    refine ⟨k, e1, ?_⟩
    rw [e2, List.drop_eq_nil_of_le (by omega), List.append_nil]
  rw [List.drop_length] at v
  cases v
  exact b
theorem FunD.fullK (F : FunD K x qual params body scope [] kws f fd) (j : Nat) (ks : List Str) (h : ∀ (kV doc pm : Value) (an : Option Addr) (cdv ct : Value) (us ws : List Value), us.length = j → ws.length = ks.length → bindArgs (PySem.W.fnOf x qual params body scope .none kV doc pm an cdv ct) ⟨us, ks.zip ws⟩ = pure (ps.zip (us ++ ws))) : BindsK K fd ps j ks [] := by
  obtain ⟨oc, od, dV, kV, doc, pm, an, cdv, ct, osl, rfl, _, _, hD, _⟩ := F.ex
  rcases hD with ⟨_, rfl⟩ | ⟨e, _⟩
  · intro s us ws hK l1 l2
    rw [List.append_nil]
    exact .of_eq (h kV doc pm an cdv ct us ws l1 l2)
  · exact absurd rfl e
theorem FunD.fullA (F : FunD K x qual params body scope [] kws f fd) (h : ∀ (kV doc pm : Value) (an : Option Addr) (cdv ct : Value) (us : List Value), us.length = ps.length → bindArgs (PySem.W.fnOf x qual params body scope .none kV doc pm an cdv ct) ⟨us, []⟩ = pure (ps.zip us)) (s : Shared) (us : List Value) (hl : us.length = ps.length) : BindsTo s fd ⟨us, []⟩ (ps.zip us) := F.bindsA h s us hl
end
/-! ### a def's body's context -/
section
variable {P : Program} {w : World} {K : PySem.W.Frag} {mg : Str → Option Value} {base : Heap} {N : List Str} {qual : Str} {scope : Scope} {f : Addr} {cdv : Value} {A : Around} {outer : List Env} {s : Shared} {H : Hp} {E : XK}
abbrev BX (P : Program) (w : World) (K : PySem.W.Frag) (mg : Str → Option Value) (base : Heap) (N : List Str) (qual : Str) (scope : Scope) (f : Addr) (cdv : Value) (A : Around) (outer : List Env) (s : Shared) (H : Hp) (E : XK) : Cx := cxOf (L2.CX P w) P w K mg base N qual scope f cdv A outer s H E
abbrev BW (E : XK) : WX := fun c d _ H' => E c d H'
theorem tk_cx : Takes (BX P w K mg base N qual scope f cdv A outer s H E) (BW E) := takes_of rfl rfl rfl rfl
theorem po_cx : PassesOwn (model (BX P w K mg base N qual scope f cdv A outer s H E).prog (BX P w K mg base N qual scope f cdv A outer s H E).w) (BX P w K mg base N qual scope f cdv A outer s H E).A (BX P w K mg base N qual scope f cdv A outer s H E).env (BX P w K mg base N qual scope f cdv A outer s H E).xe := passes_of rfl
end
end Rv
set_option Elab.async false
set_option linter.all false
set_option maxRecDepth 100000
/-! P1: what an outcome is wanted to be, and how that goes through the mirrors. -/
namespace Rv
open PySem PySem.Spec L2
open PyProof.Rows hiding St

def Out.wp {α : Type} (o : Out α) (Q : α → Store → Prop) : Prop := match o with
  | .ok a μ => Q a μ
  | _ => False
def OutS.wp (o : OutS) (N : Env' → Store → Prop) (T : D → Store → Prop) : Prop := match o with
  | .nx ρ μ => N ρ μ
  | .ret d μ => T d μ
  | _ => False
section
variable {α β : Type} {Q Q' : α → Store → Prop} {N N' : Env' → Store → Prop} {T T' : D → Store → Prop} {ρ : Env'} {μ : Store}
theorem Out.wp_ok {a : α} : (Out.ok a μ).wp Q = Q a μ := rfl
theorem Out.wp_stuck : (Out.stuck : Out α).wp Q = False := rfl
theorem Out.wp_mono {o : Out α} (h : o.wp Q) (q : ∀ a μ, Q a μ → Q' a μ) : o.wp Q' := by
  cases o with
  | ok a μ => exact q a μ h
  | _ => exact h.elim
theorem OutS.wp_mono {o : OutS} (h : o.wp N T) (n : ∀ ρ μ, N ρ μ → N' ρ μ) (t : ∀ d μ, T d μ → T' d μ) : o.wp N' T' := by
  cases o with
  | nx ρ μ => exact n ρ μ h
  | ret d μ => exact t d μ h
  | _ => exact h.elim
theorem Out.wp_bind {o : Out β} {f : β → Store → Out α} : (o.bind f).wp Q = o.wp fun b μ => (f b μ).wp Q := by cases o <;> rfl
theorem Out.wp_only {o : Out α} : o.only.wp Q = o.wp Q := by cases o <;> rfl
theorem Out.wp_bindS {o : Out α} {f : α → Store → OutS} : (o.bindS ρ f).wp N T = o.wp fun a μ => (f a μ).wp N T := by cases o <;> rfl
theorem OutS.wp_nx : (OutS.nx ρ μ).wp N T = N ρ μ := rfl
theorem OutS.wp_ret {d : D} : (OutS.ret d μ).wp N T = T d μ := rfl
theorem OutS.wp_stuck : OutS.stuck.wp N T = False := rfl
theorem OutS.wp_bind {o : OutS} {f : C} : (o.bind f).wp N T = o.wp (fun ρ μ => (f ρ μ).wp N T) T := by cases o <;> rfl
theorem OutS.wp_only {o : OutS} : o.only.wp N T = o.wp N T := by cases o <;> rfl
theorem Out.wp_ite {c : Prop} [Decidable c] {o p : Out α} : (if c then o else p).wp Q = if c then o.wp Q else p.wp Q := by split <;> rfl
theorem OutS.wp_ite {c : Prop} [Decidable c] {o p : OutS} : (if c then o else p).wp N T = if c then o.wp N T else p.wp N T := by split <;> rfl
theorem ite_false_eq {c : Prop} [Decidable c] {p : Prop} : (if c then p else False) = (c ∧ p) := by
  split
  · rename_i h; simp [h]
  · rename_i h; simp [h]
theorem Out.wp_eq {o : Out α} {a : α} (h : o = .ok a μ) : o.wp Q = Q a μ := by rw [h]; rfl
theorem Out.eq_of {o : Out α} {a : α} (h : o.wp fun b ν => b = a ∧ ν = μ) : o = .ok a μ := by
  cases o with
  | ok b ν => obtain ⟨rfl, rfl⟩ := h; rfl
  | _ => exact h.elim
theorem Out.ex_of {o : Out α} (h : o.wp Q) : ∃ a μ, o = .ok a μ ∧ Q a μ := by
  cases o with
  | ok b ν => exact ⟨b, ν, rfl, h⟩
  | _ => exact h.elim
/-! ### the store -/
def low1 (n : Nat) (m : MO) : Prop := MO.low n m = true
/-- what stands has no name of what is new -/
def WF (μ : Store) : Prop := ∀ m ∈ μ, MO.low μ.length m = true
theorem kept_self {n : Nat} (h : n = μ.length) (L : Store) : kept n μ (μ ++ L) = true := by
  subst h
  unfold kept
  rw [List.take_left, decide_eq_true rfl]
  rfl
theorem kept_low {n : Nat} {μ' : Store} (h : ∀ m ∈ μ'.take n, MO.low n m = true) : kept n μ μ' = true := by
  unfold kept
  rw [List.all_eq_true.mpr h, Bool.or_true]
end
/-! ### regions -/
section
variable {Q : D → Store → Prop} {μ μ' : Store} {o : OutS} {d : D}
/-- behind a region: what a return gives -/
def RQ (μ : Store) (Q : D → Store → Prop) : D → Store → Prop := fun d μ' => kept μ.length μ μ' = true ∧ D.low μ.length (frz μ.length μ' d) = true ∧ Q (frz μ.length μ' d) (μ'.take μ.length)
def NQ (μ : Store) (Q : D → Store → Prop) : Env' → Store → Prop := fun _ μ' => kept μ.length μ μ' = true ∧ Q .non (μ'.take μ.length)
theorem region_wp (h : o.wp (NQ μ Q) (RQ μ Q)) : (region μ o).wp Q := by
  cases o with
  | nx ρ μ' =>
    obtain ⟨h1, h2⟩ := h
    show (if kept μ.length μ μ' = true then Out.ok D.non (μ'.take μ.length) else .stuck).wp Q
    rw [if_pos h1]
    exact h2
  | ret d μ' =>
    obtain ⟨h1, h2, h3⟩ := h
    show (if (kept μ.length μ μ' && D.low μ.length (frz μ.length μ' d)) = true then Out.ok (frz μ.length μ' d) (μ'.take μ.length) else .stuck).wp Q
    rw [h1, h2]
    exact h3
  | _ => exact h.elim
theorem runF_wp {n : Nat} {c : C} {ds : List D} (h : (c (begin n ds) μ).wp (NQ μ Q) (RQ μ Q)) : (runF n c ds μ).wp Q := region_wp h
/-- the store is not touched, no new thing is made that is kept, a value without names comes -/
theorem RQ.pure (L : Store) (h2 : D.low μ.length d = true) (h3 : frz μ.length (μ ++ L) d = d) (q : Q d μ) : RQ μ Q d (μ ++ L) := by
  refine ⟨kept_self rfl L, ?_, ?_⟩
  · rw [h3]; exact h2
  · rw [h3, List.take_left]; exact q
theorem RQ.pure0 (h2 : D.low μ.length d = true) (h3 : frz μ.length μ d = d) (q : Q d μ) : RQ μ Q d μ := by
  have := RQ.pure (Q := Q) (μ := μ) (d := d) [] h2 (by rw [List.append_nil]; exact h3) q
  rw [List.append_nil] at this
  exact this
theorem NQ.pure (ρ : Env') (L : Store) (q : Q .non μ) : NQ μ Q ρ (μ ++ L) := by
  refine ⟨kept_self rfl L, ?_⟩
  rw [List.take_left]; exact q
theorem NQ.pure0 (ρ : Env') (q : Q .non μ) : NQ μ Q ρ μ := by
  have := NQ.pure (Q := Q) (μ := μ) ρ [] q
  rw [List.append_nil] at this
  exact this
end
/-! ### mirrors, applied -/
section
variable {ρ : Env'} {μ : Store} {Q : D → Store → Prop} {N : Env' → Store → Prop} {T : D → Store → Prop}
theorem mC_ap {d : D} : mC d ρ μ = .ok d μ := rfl
theorem cSeq_ap {a b : C} : (cSeq a b ρ μ) = (a ρ μ).bind b := rfl
theorem cNil_ap : cNil ρ μ = .nx ρ μ := rfl
theorem cRet_ap {m : M D} : cRet m ρ μ = (m ρ μ).bindS ρ fun d μ1 => .ret d μ1 := rfl
theorem cRetN_ap : cRetN ρ μ = .ret .non μ := rfl
theorem cExpr_ap {m : M D} : cExpr m ρ μ = (m ρ μ).bindS ρ fun _ μ1 => .nx ρ μ1 := rfl
theorem cIf_ap {t : M Bool} {a b : C} : cIf t a b ρ μ = (t ρ μ).bindS ρ fun k μ1 => if k = true then a ρ μ1 else b ρ μ1 := rfl
theorem cSet_ap {i : Nat} {m : M D} : cSet i m ρ μ = (m ρ μ).bindS ρ fun d μ1 => .nx (ρ.set i (some d)) μ1 := rfl
theorem cFor_ap {mi : MI} {g : TgM} {b : C} : cFor mi g b ρ μ = (mi ρ μ).bindS ρ fun p μ1 => forGo p.1 g b p.2 ρ μ1 := rfl
theorem cTry_ap {c : C} : cTry c ρ μ = (c ρ μ).only := rfl
theorem cAsg_ap {g : D → C} {m : M D} : cAsg g m ρ μ = (m ρ μ).bindS ρ fun d μ1 => g d ρ μ1 := rfl
theorem cPar_ap {i j : Nat} {ms : M (List D)} : cPar i j ms ρ μ = (ms ρ μ).bindS ρ fun ds μ1 => match ds with
  | [d1, d2] => .nx ((ρ.set i (some d1)).set j (some d2)) μ1
  | _ => .stuck := rfl
theorem cPar3_ap {i j k : Nat} {ms : M (List D)} : cPar3 i j k ms ρ μ = (ms ρ μ).bindS ρ fun ds μ1 => match ds with
  | [d1, d2, d3] => .nx (((ρ.set k (some d3)).set j (some d2)).set i (some d1)) μ1
  | _ => .stuck := rfl
theorem m1_ap {f : D → Store → Out D} {a : M D} : m1 f a ρ μ = (a ρ μ).bind f := rfl
theorem m2_ap {f : D → D → Store → Out D} {a b : M D} : m2 f a b ρ μ = (a ρ μ).bind fun x μ1 => (b ρ μ1).bind fun y μ2 => f x y μ2 := rfl
theorem mT_ap {m : M D} : mT m ρ μ = (m ρ μ).bind fun d μ' => match truth μ' d with
  | some b => .ok b μ'
  | none => .stuck := rfl
theorem mB_ap {m : M D} : mB m ρ μ = (m ρ μ).bind outB := rfl
theorem tAndM_ap {t u : M Bool} : tAndM t u ρ μ = (t ρ μ).bind fun b μ' => if b = true then u ρ μ' else .ok false μ' := rfl
theorem tOrM_ap {t u : M Bool} : tOrM t u ρ μ = (t ρ μ).bind fun b μ' => if b = true then .ok true μ' else u ρ μ' := rfl
theorem tNotM_ap {t : M Bool} : tNotM t ρ μ = (t ρ μ).bind fun b μ' => .ok (!b) μ' := rfl
theorem mAnd_ap {m n : M D} : mAnd m n ρ μ = (m ρ μ).bind fun d μ' => match d with
  | .bl true => n ρ μ'
  | .bl false => .ok (.bl false) μ'
  | _ => .stuck := rfl
theorem mOr_ap {m n : M D} : mOr m n ρ μ = (m ρ μ).bind fun d μ' => match d with
  | .bl true => .ok (.bl true) μ'
  | .bl false => n ρ μ'
  | _ => .stuck := rfl
theorem mIf_ap {t : M Bool} {m n : M D} : mIf t m n ρ μ = (t ρ μ).bind fun b μ' => if b = true then m ρ μ' else n ρ μ' := rfl
theorem maNil_ap : maNil ρ μ = .ok [] μ := rfl
theorem maCons_ap {m : M D} {ms : M (List D)} : maCons m ms ρ μ = (m ρ μ).bind fun d μ1 => (ms ρ μ1).bind fun ds μ2 => .ok (d :: ds) μ2 := rfl
theorem maStar_ap {m : M D} {ms : M (List D)} : maStar m ms ρ μ = (m ρ μ).bind fun d μ1 => match asQ μ1 d with
  | some xs => (ms ρ μ1).bind fun ds μ2 => .ok (xs ++ ds) μ2
  | none => .stuck := rfl
theorem mTup_ap {ms : M (List D)} : mTup ms ρ μ = (ms ρ μ).bind fun ds μ1 => if ds.length ≤ maxL then .ok (.tup ds) μ1 else .stuck := rfl
theorem mFz_ap {m : M (List D)} : mFz m ρ μ = (m ρ μ).bind fun ds μ1 => .ok (.lst ds) μ1 := rfl
theorem mNw_ap {m : M (List D)} : mNw m ρ μ = (m ρ μ).bind fun ds μ1 => .ok (.ref μ1.length) (μ1 ++ [.lst ds]) := rfl
theorem mLen_ap {ms : M (List D)} : mLen ms ρ μ = (ms ρ μ).bind fun ds μ1 => if ds.length ≤ maxL then .ok ds μ1 else .stuck := rfl
theorem moNone_ap : moNone ρ μ = .ok none μ := rfl
theorem moSome_ap {m : M D} : moSome m ρ μ = (m ρ μ).bind fun d μ1 => match d with
  | .int i => .ok (some i) μ1
  | _ => .stuck := rfl
theorem mSl_ap {m : M D} {lo hi : M (Option Int)} : mSl m lo hi ρ μ = (m ρ μ).bind fun d μ1 => (lo ρ μ1).bind fun l μ2 => (hi ρ μ2).bind fun h μ3 => dSl d l h μ3 := rfl
theorem mCall_ap {F : Fn} {ms : M (List D)} : mCall F ms ρ μ = (ms ρ μ).bind F := rfl
theorem mCallB_ap {F : Fn} {ms : M (List D)} : mCallB F ms ρ μ = (ms ρ μ).bind fun ds μ1 => (F ds μ1).only := rfl
theorem mCallK_ap {F : List D → List D → Store → Out D} {ms mk : M (List D)} : mCallK F ms mk ρ μ = (ms ρ μ).bind fun ds μ1 => (mk ρ μ1).bind fun es μ2 => F ds es μ2 := rfl
theorem mCMeth_ap {cl : Str} {F : Fn} {ms : M (List D)} : mCMeth cl F ms ρ μ = (ms ρ μ).bind fun ds μ2 => F (.cls cl :: ds) μ2 := rfl
theorem mApp_ap {m n : M D} : mApp m n ρ μ = (m ρ μ).bind fun d1 μ1 => match asL μ1 d1 with
  | some _ => (n ρ μ1).bind fun d2 μ2 => fApp d1 d2 μ2
  | none => .stuck := rfl
theorem mM1_ap {f : List Nat → D → Store → Out D} {m n : M D} : mM1 f m n ρ μ = (m ρ μ).bind fun d μ1 => match d with
  | .str s => (n ρ μ1).bind fun y μ2 => (f s y μ2).only
  | _ => .stuck := rfl
theorem mIt_ap {m : M D} : mIt m ρ μ = (m ρ μ).bind fun d μ1 => oOut (itD μ1 d) μ1 := rfl
theorem mI_ap {k : List D → Store → Out (Lv × List D)} {ms : M (List D)} : mI k ms ρ μ = (ms ρ μ).bind k := rfl
theorem mLc_ap {mi : MI} {vs : List Nat} {g : TgM} {t : M Bool} {m : M D} : mLc mi vs g t m ρ μ = (mi ρ μ).bind fun p μ1 => if p.2.length ≤ maxL then (lcGo p.1 g t m (wipeM ρ vs) p.2 μ1).only else .stuck := rfl
theorem mFmt_ap {m : M D} : mFmt m ρ μ = (m ρ μ).bind fun d μ1 => match d with
  | .str s => if s.length ≤ maxL then .ok (.str s) μ1 else .stuck
  | .int i => if i.natAbs.log2 < 1920 then .ok (.str (ofS (toString i))) μ1 else .stuck
  | _ => .stuck := rfl
theorem joinGo_nil {acc : List Nat} : joinGo [] acc ρ μ = .ok (.str acc) μ := rfl
theorem joinGo_cons {m : M D} {l : List (M D)} {acc : List Nat} : joinGo (m :: l) acc ρ μ = (m ρ μ).bind fun d μ1 => match d with
  | .str s => if acc.length + s.length ≤ maxL then joinGo l (acc ++ s) ρ μ1 else .stuck
  | _ => .stuck := rfl
theorem mChain_ap {f g : D → D → Store → Out D} {m n o : M D} : mChain f g m n o ρ μ = (m ρ μ).bind fun x μ1 => (n ρ μ1).bind fun y μ2 => (f x y μ2).only.bind fun z μ3 => match z with
  | .bl true => (o ρ μ3).bind fun w μ4 => (g y w μ4).only
  | .bl false => .ok (.bl false) μ3
  | _ => .stuck := rfl
theorem tgP_ap {g : TgM} {d : D} : tgP g d ρ μ = match g d ρ with
  | some ρ' => .nx ρ' μ
  | none => .stuck := rfl
theorem tgSub_ap {mo mi : M D} {d : D} : tgSub mo mi d ρ μ = (mo ρ μ).bindS ρ fun o μ1 => (mi ρ μ1).bindS ρ fun i μ2 => match dSet o i d μ2 with
  | some μ3 => .nx ρ μ3
  | none => .stuck := rfl
theorem cFld_ap {cl f : Str} {mo m : M D} : cFld cl f mo m ρ μ = (m ρ μ).bindS ρ fun d μ1 => (mo ρ μ1).bindS ρ fun o μ2 => match dSetF cl f o d μ2 with
  | some μ3 => .nx ρ μ3
  | none => .stuck := rfl
theorem mVar_ap {i : Nat} : mVar i ρ μ = match ρ[i]? with
  | some (some d) => .ok d μ
  | _ => .stuck := rfl
end
/-! ### loops -/
section
variable {g : TgM} {b : C} {I : Nat → Env' → Store → Prop} {N : Env' → Store → Prop} {T : D → Store → Prop}
/-- a round ends by going on, or by continue -/
def OutS.wpL (o : OutS) (L N : Env' → Store → Prop) (T : D → Store → Prop) : Prop := match o with
  | .nx ρ μ => L ρ μ
  | .ct ρ μ => L ρ μ
  | .brk ρ μ => N ρ μ
  | .ret d μ => T d μ
  | _ => False
theorem OutS.wpL_of {o : OutS} {L N : Env' → Store → Prop} (h : o.wp L T) : o.wpL L N T := by cases o <;> first | exact h | exact h.elim
theorem forGo_wp : ∀ {ds : List D} {k : Nat} {ρ : Env'} {μ : Store}, I k ρ μ →
    (∀ i d ρ μ, ds[i]? = some d → I (k + i) ρ μ → ∃ ρ1, g d ρ = some ρ1 ∧ (b ρ1 μ).wpL (I (k + i + 1)) N T) → (∀ ρ μ, I (k + ds.length) ρ μ → N ρ μ) → (forGo none g b ds ρ μ).wp N T
  | [], k, ρ, μ, h0, _, he => by
    show (if lvOk none μ = true then OutS.nx ρ μ else .stuck).wp N T
    exact he _ _ h0
  | d :: ds, k, ρ, μ, h0, hs, he => by
    obtain ⟨ρ1, e1, h1⟩ := hs 0 d ρ μ rfl h0
    have ih : ∀ ρ2 μ2, I (k + 1) ρ2 μ2 → (forGo none g b ds ρ2 μ2).wp N T := fun ρ2 μ2 h2 => forGo_wp (k := k + 1) h2 (fun i d ρ μ e hi => by
      have := hs (i + 1) d ρ μ e (by rw [show k + (i + 1) = k + 1 + i by omega]; exact hi)
      rw [show k + 1 + i + 1 = k + (i + 1) + 1 by omega]
      exact this) fun ρ μ hn => he ρ μ (by rw [List.length_cons, show k + (ds.length + 1) = k + 1 + ds.length by omega]; exact hn)
    unfold forGo
    rw [if_pos (show lvOk none μ = true from rfl), e1]
    dsimp only
    cases q : b ρ1 μ with
    | nx ρ2 μ2 => rw [q] at h1; exact ih _ _ h1
    | ct ρ2 μ2 => rw [q] at h1; exact ih _ _ h1
    | brk ρ2 μ2 => rw [q] at h1; exact h1
    | ret d μ2 => rw [q] at h1; exact h1
    | exc c ns ds ρ2 μ2 => rw [q] at h1; exact h1.elim
    | stuck => rw [q] at h1; exact h1.elim
/-- a list comprehension whose parts leave the store as it is -/
theorem lcGo_pure {t : M Bool} {m : M D} {ρ0 : Env'} {p : D → Bool} {f : D → D} {μ : Store} : ∀ {ds : List D}, (∀ d ∈ ds, ∃ ρ1, g d ρ0 = some ρ1 ∧ t ρ1 μ = .ok (p d) μ ∧ (p d = true → m ρ1 μ = .ok (f d) μ)) → lcGo none g t m ρ0 ds μ = .ok ((ds.filter p).map f) μ
  | [], _ => rfl
  | d :: ds, h => by
    obtain ⟨ρ1, e1, e2, e3⟩ := h d (List.mem_cons_self ..)
    have ih := lcGo_pure (ds := ds) fun x hx => h x (List.mem_cons_of_mem _ hx)
    show (if lvOk none μ = true then (match g d ρ0 with
      | none => Out.stuck
      | some ρ1 => (t ρ1 μ).bind fun k μ1 => if k = true then (m ρ1 μ1).bind fun y μ2 => (lcGo none g t m ρ0 ds μ2).bind fun ys μ3 => .ok (y :: ys) μ3 else lcGo none g t m ρ0 ds μ1) else .stuck) = _
    rw [e1]
    show ((t ρ1 μ).bind fun k μ1 => if k = true then (m ρ1 μ1).bind fun y μ2 => (lcGo none g t m ρ0 ds μ2).bind fun ys μ3 => .ok (y :: ys) μ3 else lcGo none g t m ρ0 ds μ1) = _
    rw [e2]
    show (if p d = true then (m ρ1 μ).bind fun y μ2 => (lcGo none g t m ρ0 ds μ2).bind fun ys μ3 => .ok (y :: ys) μ3 else lcGo none g t m ρ0 ds μ) = _
    cases q : p d with
    | true =>
      rw [if_pos rfl, e3 q]
      show ((lcGo none g t m ρ0 ds μ).bind fun ys μ3 => .ok (f d :: ys) μ3) = _
      rw [ih, List.filter_cons_of_pos q]
      rfl
    | false =>
      rw [if_neg (by simp), ih, List.filter_cons_of_neg (by simp [q])]
/-- the same over items that come from others -/
theorem lcGo_map {α : Type} {t : M Bool} {m : M D} {ρ0 : Env'} {h : α → D} {p : α → Bool} {f : α → D} {μ : Store} : ∀ {xs : List α}, (∀ x ∈ xs, ∃ ρ1, g (h x) ρ0 = some ρ1 ∧ t ρ1 μ = .ok (p x) μ ∧ (p x = true → m ρ1 μ = .ok (f x) μ)) → lcGo none g t m ρ0 (xs.map h) μ = .ok ((xs.filter p).map f) μ
  | [], _ => rfl
  | d :: ds, hh => by
    obtain ⟨ρ1, e1, e2, e3⟩ := hh d (List.mem_cons_self ..)
    have ih := lcGo_map (xs := ds) fun x hx => hh x (List.mem_cons_of_mem _ hx)
    rw [List.map_cons]
    unfold lcGo
    rw [if_pos (show lvOk none μ = true from rfl), e1]
    dsimp only
    rw [e2]
    show (if p d = true then (m ρ1 μ).bind fun y μ2 => (lcGo none g t m ρ0 (ds.map h) μ2).bind fun ys μ3 => .ok (y :: ys) μ3 else lcGo none g t m ρ0 (ds.map h) μ) = _
    cases q : p d with
    | true =>
      rw [if_pos rfl, e3 q]
      show ((lcGo none g t m ρ0 (ds.map h) μ).bind fun ys μ3 => .ok (f d :: ys) μ3) = _
      rw [ih, List.filter_cons_of_pos q]
      rfl
    | false =>
      rw [if_neg (by simp), ih, List.filter_cons_of_neg (by simp [q])]
end
end Rv
set_option Elab.async false
set_option linter.all false
set_option maxRecDepth 100000
/-! P2: operations on the values, for simp. -/
namespace Rv
open PySem PySem.Spec L2
open PyProof.Rows hiding St
section
variable {μ : Store} {p : Nat} {ds es : List D} {Q : D → Store → Prop}
theorem asL_ref (h : μ[p]? = some (.lst ds)) : asL μ (.ref p) = some ds := by
  show (match μ[p]? with
    | some (.lst ds) => some ds
    | _ => none) = _
  rw [h]
theorem dIx_ref {i : Int} {x : D} (h : μ[p]? = some (.lst ds)) (e : atI ds i = some x) : dIx (.ref p) (.int i) μ = .ok x μ := by
  show (match asQ μ (.ref p) with
      | some ds => (match atI ds i with
        | some d => Out.ok d μ
        | none => .stuck)
      | none => .stuck) = _
  rw [show asQ μ (.ref p) = some ds from asL_ref h]
  dsimp only
  rw [e]
theorem dIx_lst {i : Int} {x : D} (e : atI ds i = some x) : dIx (.lst ds) (.int i) μ = .ok x μ := by
  show (match atI ds i with
        | some d => Out.ok d μ
        | none => .stuck) = _
  rw [e]
theorem dIx_tup {i : Int} {x : D} (e : atI ds i = some x) : dIx (.tup ds) (.int i) μ = .ok x μ := by
  show (match atI ds i with
        | some d => Out.ok d μ
        | none => .stuck) = _
  rw [e]
theorem dIx_str {i : Int} {s : List Nat} {c : Nat} (l : s.length ≤ maxL) (e : atI s i = some c) : dIx (.str s) (.int i) μ = .ok (.str [c]) μ := by
  show (if s.length ≤ maxL then (match atI s i with
      | some c => Out.ok (D.str [c]) μ
      | none => .stuck) else .stuck) = _
  rw [if_pos l, e]
theorem atI_nat {α : Type} {xs : List α} {i : Nat} (h : i < xs.length) : atI xs (i : Int) = xs[i]? := by
  unfold atI ixN
  rw [if_pos (by omega), if_pos (by omega)]
  rfl
theorem atI_int {α : Type} {xs : List α} {i : Int} (h0 : 0 ≤ i) (h : i < xs.length) : atI xs i = xs[i.toNat]? := by
  unfold atI ixN
  rw [if_pos (by omega), if_pos (by omega)]
  rfl
theorem ixN_int {n : Nat} {i : Int} (h0 : 0 ≤ i) (h : i < n) : ixN n i = some i.toNat := by
  unfold ixN
  rw [if_pos (by omega), if_pos (by omega)]
theorem dSet_ref {i : Int} {d : D} (h : μ[p]? = some (.lst ds)) (h0 : 0 ≤ i) (h1 : i < ds.length) : dSet (.ref p) (.int i) d μ = some (μ.set p (.lst (ds.set i.toNat d))) := by
  show (match μ[p]? with
    | some (.lst ds) => (ixN ds.length i).map fun q => μ.set p (.lst (ds.set q d))
    | _ => none) = _
  rw [h]
  dsimp only
  rw [ixN_int h0 h1]
  rfl
theorem dAdd_int {i j : Int} : dPlus (.int i) (.int j) μ = .ok (.int (i + j)) μ := rfl
theorem dAdd_str {s t : List Nat} : dPlus (.str s) (.str t) μ = if s.length + t.length ≤ maxL then .ok (.str (s ++ t)) μ else .stuck := rfl
theorem dAdd_tup : dPlus (.tup ds) (.tup es) μ = if ds.length + es.length ≤ maxL then .ok (.tup (ds ++ es)) μ else .stuck := rfl
theorem dAdd_lst : dPlus (.lst ds) (.lst es) μ = if ds.length + es.length ≤ maxL then .ok (.lst (ds ++ es)) μ else .stuck := rfl
theorem dSub_int {i j : Int} : dSub (.int i) (.int j) μ = .ok (.int (i - j)) μ := rfl
theorem dTimes_int {i j : Int} : dTimes (.int i) (.int j) μ = if (-(2 ^ 64) < i ∧ i < 2 ^ 64) ∨ (-(2 ^ 64) < j ∧ j < 2 ^ 64) then .ok (.int (i * j)) μ else .stuck := rfl
theorem dDiv_int {i j : Int} : dDiv (.int i) (.int j) μ = if 0 < j ∧ j < 1073741824 then .ok (.int (i / j)) μ else .stuck := rfl
theorem dMod_int {i j : Int} : dMod (.int i) (.int j) μ = if 0 < j then .ok (.int (i % j)) μ else .stuck := rfl
theorem fInt_int {i : Int} : fInt [.int i] μ = .ok (.int i) μ := rfl
theorem fDivmod_int {i j : Int} : fDivmod [.int i, .int j] μ = if 0 < j ∧ j < 1073741824 then .ok (.tup [.int (i / j), .int (i % j)]) μ else .stuck := rfl
theorem dLt_int {i j : Int} : dLt (.int i) (.int j) μ = .ok (.bl (decide (i < j))) μ := rfl
theorem dLe_int {i j : Int} : dLe (.int i) (.int j) μ = .ok (.bl (decide (i ≤ j))) μ := rfl
theorem dGt_int {i j : Int} : dGt (.int i) (.int j) μ = .ok (.bl (decide (j < i))) μ := rfl
theorem dGe_int {i j : Int} : dGe (.int i) (.int j) μ = .ok (.bl (decide (j ≤ i))) μ := rfl
theorem dEq_int {i j : Int} : dEq (.int i) (.int j) μ = .ok (.bl (decide (i = j))) μ := rfl
theorem dNe_int {i j : Int} : dNe (.int i) (.int j) μ = .ok (.bl (!decide (i = j))) μ := rfl
theorem dEq_str {i j : List Nat} : dEq (.str i) (.str j) μ = .ok (.bl (decide (i = j))) μ := rfl
theorem dNe_str {i j : List Nat} : dNe (.str i) (.str j) μ = .ok (.bl (!decide (i = j))) μ := rfl
theorem outB_bl {b : Bool} : outB (.bl b) μ = .ok b μ := rfl
theorem arity_ap {n : Nat} {F : Fn} : arity n F [] ds μ = if ds.length = n then F ds μ else .stuck := by
  show (if ds.length + 0 = n then F (ds ++ []) μ else .stuck) = _
  rw [List.append_nil, Nat.add_zero]
theorem arity1_ap {n : Nat} {F : Fn} : arity1 n F [] ds μ = if ds.length + 1 = n then F ds μ else .stuck := by
  show (if ds.length + 0 + 1 = n then F (ds ++ []) μ else .stuck) = _
  rw [List.append_nil, Nat.add_zero]
theorem arity1K_ap {n j k : Nat} {F : Fn} : arity1K n j k F [] ds es μ = if ds.length = j ∧ es.length = k ∧ j + k + 1 = n then F (ds ++ es) μ else .stuck := by
  show (if ds.length = j ∧ es.length = k ∧ j + k + 0 + 1 = n then F (ds ++ es ++ []) μ else .stuck) = _
  rw [List.append_nil, Nat.add_zero]
theorem tgT_ap {n : Nat} {gs : List D → C} {ρ : Env'} : tgT n gs (.tup ds) ρ μ = if ds.length = n then gs ds ρ μ else .stuck := rfl
theorem tgsC_ap {g : D → C} {gs : List D → C} {d : D} {ρ : Env'} : tgsC g gs (d :: ds) ρ μ = (g d ρ μ).bind (gs ds) := rfl
theorem tgsN_ap {ρ : Env'} : tgsN [] ρ μ = .nx ρ μ := rfl
theorem gN_ap {i : Nat} {d : D} {ρ : Env'} : gN i d ρ = some (ρ.set i (some d)) := rfl
theorem fLen_str {s : List Nat} : fLen [.str s] μ = if s.length ≤ maxL then .ok (.int s.length) μ else .stuck := by
  show (match (if s.length ≤ maxL then some s.length else none) with
    | some n => Out.ok (D.int n) μ
    | none => .stuck) = _
  by_cases h : s.length ≤ maxL
  · rw [if_pos h, if_pos h]
  · rw [if_neg h, if_neg h]
theorem fLen_lst : fLen [.lst ds] μ = .ok (.int ds.length) μ := rfl
theorem fLen_tup : fLen [.tup ds] μ = .ok (.int ds.length) μ := rfl
theorem fLen_ref (h : μ[p]? = some (.lst ds)) : fLen [.ref p] μ = .ok (.int ds.length) μ := by
  show (match (asL μ (.ref p)).map List.length with
    | some n => Out.ok (D.int n) μ
    | none => .stuck) = _
  rw [asL_ref h]
  rfl
end
end Rv
set_option Elab.async false
set_option linter.all false
set_option maxRecDepth 100000
/-! P3: one step each through the mirrors. -/
namespace Rv
open PySem PySem.Spec L2
open PyProof.Rows hiding St
section
variable {ρ : Env'} {μ : Store} {Q : D → Store → Prop} {QB : Bool → Store → Prop} {QL : List D → Store → Prop} {N : Env' → Store → Prop} {T : D → Store → Prop} {a b c : C} {m n o : M D} {t u : M Bool} {ms mk : M (List D)} {d : D} {ds : List D} {i j k : Nat} {x y : Int} {F : Fn} {g : TgM} {r s : List Nat} {cl f : Str}
theorem s_seq (h : (a ρ μ).wp (fun ρ μ => (b ρ μ).wp N T) T) : (cSeq a b ρ μ).wp N T := by rw [cSeq_ap, OutS.wp_bind]; exact h
theorem s_nil (h : N ρ μ) : (cNil ρ μ).wp N T := h
theorem s_ret (h : (m ρ μ).wp T) : (cRet m ρ μ).wp N T := by rw [cRet_ap, Out.wp_bindS]; exact h
theorem s_retN (h : T .non μ) : (cRetN ρ μ).wp N T := h
theorem s_expr (h : (m ρ μ).wp fun _ μ => N ρ μ) : (cExpr m ρ μ).wp N T := by rw [cExpr_ap, Out.wp_bindS]; exact h
theorem s_if (h : (t ρ μ).wp fun k μ1 => (if k = true then a ρ μ1 else b ρ μ1).wp N T) : (cIf t a b ρ μ).wp N T := by rw [cIf_ap, Out.wp_bindS]; exact h
theorem s_ifT {o p : OutS} (h : o.wp N T) : (if true = true then o else p).wp N T := h
theorem s_ifF {o p : OutS} (h : p.wp N T) : (if false = true then o else p).wp N T := h
theorem s_set (h : (m ρ μ).wp fun d μ1 => N (ρ.set i (some d)) μ1) : (cSet i m ρ μ).wp N T := by rw [cSet_ap, Out.wp_bindS]; exact h
theorem s_for {mi : MI} (h : (mi ρ μ).wp fun p μ1 => (forGo p.1 g b p.2 ρ μ1).wp N T) : (cFor mi g b ρ μ).wp N T := by rw [cFor_ap, Out.wp_bindS]; exact h
theorem s_try (h : (a ρ μ).wp N T) : (cTry a ρ μ).wp N T := by rw [cTry_ap, OutS.wp_only]; exact h
theorem s_asg {g : D → C} (h : (m ρ μ).wp fun d μ1 => (g d ρ μ1).wp N T) : (cAsg g m ρ μ).wp N T := by rw [cAsg_ap, Out.wp_bindS]; exact h
theorem s_par (h : (ms ρ μ).wp fun ds μ1 => ∃ d1 d2, ds = [d1, d2] ∧ N ((ρ.set i (some d1)).set j (some d2)) μ1) : (cPar i j ms ρ μ).wp N T := by
  rw [cPar_ap, Out.wp_bindS]
  refine Out.wp_mono h fun ds μ1 q => ?_
  obtain ⟨d1, d2, rfl, q⟩ := q
  exact q
theorem s_par3 (h : (ms ρ μ).wp fun ds μ1 => ∃ d1 d2 d3, ds = [d1, d2, d3] ∧ N (((ρ.set k (some d3)).set j (some d2)).set i (some d1)) μ1) : (cPar3 i j k ms ρ μ).wp N T := by
  rw [cPar3_ap, Out.wp_bindS]
  refine Out.wp_mono h fun ds μ1 q => ?_
  obtain ⟨d1, d2, d3, rfl, q⟩ := q
  exact q
theorem s_C (h : Q d μ) : (mC d ρ μ).wp Q := h
theorem s_var (e : ρ[i]? = some (some d)) (h : Q d μ) : (mVar i ρ μ).wp Q := by rw [mVar_ap, e]; exact h
theorem s_m1 {f : D → Store → Out D} (h : (m ρ μ).wp fun d μ => (f d μ).wp Q) : (m1 f m ρ μ).wp Q := by rw [m1_ap, Out.wp_bind]; exact h
theorem s_m2 {f : D → D → Store → Out D} (h : (m ρ μ).wp fun d μ => (n ρ μ).wp fun e μ => (f d e μ).wp Q) : (m2 f m n ρ μ).wp Q := by
  rw [m2_ap, Out.wp_bind]
  refine Out.wp_mono h fun d μ q => ?_
  rw [Out.wp_bind]
  exact q
theorem s_T (h : (m ρ μ).wp fun d μ => ∃ b, truth μ d = some b ∧ QB b μ) : (mT m ρ μ).wp QB := by
  rw [mT_ap, Out.wp_bind]
  refine Out.wp_mono h fun d μ q => ?_
  obtain ⟨b, e, q⟩ := q
  rw [e]
  exact q
theorem s_B (h : (m ρ μ).wp fun d μ => ∃ b, d = .bl b ∧ QB b μ) : (mB m ρ μ).wp QB := by
  rw [mB_ap, Out.wp_bind]
  refine Out.wp_mono h fun d μ q => ?_
  obtain ⟨b, rfl, q⟩ := q
  exact q
theorem s_andM (h : (t ρ μ).wp fun b μ => if b = true then (u ρ μ).wp QB else QB false μ) : (tAndM t u ρ μ).wp QB := by
  rw [tAndM_ap, Out.wp_bind]
  refine Out.wp_mono h fun b μ q => ?_
  cases b <;> exact q
theorem s_orM (h : (t ρ μ).wp fun b μ => if b = true then QB true μ else (u ρ μ).wp QB) : (tOrM t u ρ μ).wp QB := by
  rw [tOrM_ap, Out.wp_bind]
  refine Out.wp_mono h fun b μ q => ?_
  cases b <;> exact q
theorem s_notM (h : (t ρ μ).wp fun b μ => QB (!b) μ) : (tNotM t ρ μ).wp QB := by rw [tNotM_ap, Out.wp_bind]; exact h
theorem s_and (h : (m ρ μ).wp fun d μ => ∃ b, d = .bl b ∧ (if b = true then (n ρ μ).wp Q else Q (.bl false) μ)) : (mAnd m n ρ μ).wp Q := by
  rw [mAnd_ap, Out.wp_bind]
  refine Out.wp_mono h fun d μ q => ?_
  obtain ⟨b, rfl, q⟩ := q
  cases b <;> exact q
theorem s_or (h : (m ρ μ).wp fun d μ => ∃ b, d = .bl b ∧ (if b = true then Q (.bl true) μ else (n ρ μ).wp Q)) : (mOr m n ρ μ).wp Q := by
  rw [mOr_ap, Out.wp_bind]
  refine Out.wp_mono h fun d μ q => ?_
  obtain ⟨b, rfl, q⟩ := q
  cases b <;> exact q
theorem s_ite (h : (t ρ μ).wp fun b μ => if b = true then (m ρ μ).wp Q else (n ρ μ).wp Q) : (mIf t m n ρ μ).wp Q := by
  rw [mIf_ap, Out.wp_bind]
  refine Out.wp_mono h fun b μ q => ?_
  cases b <;> exact q
theorem s_pT {p q : Prop} (h : p) : if true = true then p else q := h
theorem s_pF {p q : Prop} (h : q) : if false = true then p else q := h
theorem s_aN (h : QL [] μ) : (maNil ρ μ).wp QL := h
theorem s_aC (h : (m ρ μ).wp fun d μ => (ms ρ μ).wp fun ds μ => QL (d :: ds) μ) : (maCons m ms ρ μ).wp QL := by
  rw [maCons_ap, Out.wp_bind]
  refine Out.wp_mono h fun d μ q => ?_
  rw [Out.wp_bind]
  exact q
theorem s_aS (h : (m ρ μ).wp fun d μ => ∃ xs, asQ μ d = some xs ∧ (ms ρ μ).wp fun ds μ => QL (xs ++ ds) μ) : (maStar m ms ρ μ).wp QL := by
  rw [maStar_ap, Out.wp_bind]
  refine Out.wp_mono h fun d μ q => ?_
  obtain ⟨xs, e, q⟩ := q
  rw [e]
  dsimp only
  rw [Out.wp_bind]
  exact q
theorem s_tup (h : (ms ρ μ).wp fun ds μ => ds.length ≤ maxL ∧ Q (.tup ds) μ) : (mTup ms ρ μ).wp Q := by
  rw [mTup_ap, Out.wp_bind]
  refine Out.wp_mono h fun d μ q => ?_
  rw [if_pos q.1]
  exact q.2
theorem s_fz (h : (ms ρ μ).wp fun ds μ => Q (.lst ds) μ) : (mFz ms ρ μ).wp Q := by rw [mFz_ap, Out.wp_bind]; exact h
theorem s_nw (h : (ms ρ μ).wp fun ds μ => Q (.ref μ.length) (μ ++ [.lst ds])) : (mNw ms ρ μ).wp Q := by rw [mNw_ap, Out.wp_bind]; exact h
theorem s_len (h : (ms ρ μ).wp fun ds μ => ds.length ≤ maxL ∧ QL ds μ) : (mLen ms ρ μ).wp QL := by
  rw [mLen_ap, Out.wp_bind]
  refine Out.wp_mono h fun d μ q => ?_
  rw [if_pos q.1]
  exact q.2
theorem s_slN {Q : Option Int → Store → Prop} (h : Q none μ) : (moNone ρ μ).wp Q := h
theorem s_slS {Q : Option Int → Store → Prop} (h : (m ρ μ).wp fun d μ => ∃ i, d = .int i ∧ Q (some i) μ) : (moSome m ρ μ).wp Q := by
  rw [moSome_ap, Out.wp_bind]
  refine Out.wp_mono h fun d μ q => ?_
  obtain ⟨i, rfl, q⟩ := q
  exact q
theorem s_sl {lo hi : M (Option Int)} (h : (m ρ μ).wp fun d μ => (lo ρ μ).wp fun l μ => (hi ρ μ).wp fun h μ => (dSl d l h μ).wp Q) : (mSl m lo hi ρ μ).wp Q := by
  rw [mSl_ap, Out.wp_bind]
  refine Out.wp_mono h fun d μ q => ?_
  rw [Out.wp_bind]
  refine Out.wp_mono q fun d μ q => ?_
  rw [Out.wp_bind]
  exact q
theorem s_call (h : (ms ρ μ).wp fun ds μ => (F ds μ).wp Q) : (mCall F ms ρ μ).wp Q := by rw [mCall_ap, Out.wp_bind]; exact h
theorem s_callB (h : (ms ρ μ).wp fun ds μ => (F ds μ).wp Q) : (mCallB F ms ρ μ).wp Q := by
  rw [mCallB_ap, Out.wp_bind]
  refine Out.wp_mono h fun d μ q => ?_
  rw [Out.wp_only]
  exact q
theorem s_callK {F : List D → List D → Store → Out D} (h : (ms ρ μ).wp fun ds μ => (mk ρ μ).wp fun es μ => (F ds es μ).wp Q) : (mCallK F ms mk ρ μ).wp Q := by
  rw [mCallK_ap, Out.wp_bind]
  refine Out.wp_mono h fun d μ q => ?_
  rw [Out.wp_bind]
  exact q
theorem s_callL (e : ρ[i]? = some (some (.cls cl))) (h : (ms ρ μ).wp fun ds μ => (F ds μ).wp Q) : (mCallL i cl F ms ρ μ).wp Q := by
  show (match ρ[i]? with
  | some (some (.cls c')) => if c' = cl then (ms ρ μ).bind F else .stuck
  | _ => Out.stuck).wp Q
  rw [e]
  dsimp only
  rw [if_pos rfl, Out.wp_bind]
  exact h
theorem s_cmeth (h : (ms ρ μ).wp fun ds μ => (F (.cls cl :: ds) μ).wp Q) : (mCMeth cl F ms ρ μ).wp Q := by rw [mCMeth_ap, Out.wp_bind]; exact h
theorem s_meth {g : Str} (h : (m ρ μ).wp fun d μ => ∃ ns ds, asI μ d = some (cl, ns, ds) ∧ g ∉ ns ∧ (ms ρ μ).wp fun ds μ => (F (d :: ds) μ).wp Q) : (mMeth cl g F m ms ρ μ).wp Q := by
  show ((m ρ μ).bind fun d μ1 => match asI μ1 d with
  | some (c, ns, _) => if c = cl ∧ g ∉ ns then (ms ρ μ1).bind fun ds μ2 => F (d :: ds) μ2 else .stuck
  | none => .stuck).wp Q
  rw [Out.wp_bind]
  refine Out.wp_mono h fun d μ q => ?_
  obtain ⟨ns, ds, e, hg, q⟩ := q
  rw [e]
  dsimp only
  rw [if_pos ⟨rfl, hg⟩, Out.wp_bind]
  exact q
theorem s_app (h : (m ρ μ).wp fun d1 μ => ∃ xs, asL μ d1 = some xs ∧ (n ρ μ).wp fun d2 μ => (fApp d1 d2 μ).wp Q) : (mApp m n ρ μ).wp Q := by
  rw [mApp_ap, Out.wp_bind]
  refine Out.wp_mono h fun d μ q => ?_
  obtain ⟨xs, e, q⟩ := q
  rw [e]
  dsimp only
  rw [Out.wp_bind]
  exact q
theorem s_M1 {f : List Nat → D → Store → Out D} (h : (m ρ μ).wp fun d μ => ∃ s, d = .str s ∧ (n ρ μ).wp fun y μ => (f s y μ).wp Q) : (mM1 f m n ρ μ).wp Q := by
  rw [mM1_ap, Out.wp_bind]
  refine Out.wp_mono h fun d μ q => ?_
  obtain ⟨s, rfl, q⟩ := q
  dsimp only
  rw [Out.wp_bind]
  refine Out.wp_mono q fun d μ q => ?_
  rw [Out.wp_only]
  exact q
theorem s_It {QI : Lv × List D → Store → Prop} (h : (m ρ μ).wp fun d μ => ∃ p, itD μ d = some p ∧ QI p μ) : (mIt m ρ μ).wp QI := by
  rw [mIt_ap, Out.wp_bind]
  refine Out.wp_mono h fun d μ q => ?_
  obtain ⟨p, e, q⟩ := q
  rw [e]
  exact q
theorem s_I {QI : Lv × List D → Store → Prop} {kk : List D → Store → Out (Lv × List D)} (h : (ms ρ μ).wp fun ds μ => (kk ds μ).wp QI) : (mI kk ms ρ μ).wp QI := by rw [mI_ap, Out.wp_bind]; exact h
theorem s_lc {mi : MI} {vs : List Nat} (h : (mi ρ μ).wp fun p μ => p.2.length ≤ maxL ∧ (lcGo p.1 g t m (wipeM ρ vs) p.2 μ).wp QL) : (mLc mi vs g t m ρ μ).wp QL := by
  rw [mLc_ap, Out.wp_bind]
  refine Out.wp_mono h fun p μ q => ?_
  rw [if_pos q.1, Out.wp_only]
  exact q.2
theorem s_fmt (h : (m ρ μ).wp fun d μ => ∃ s, d = .str s ∧ s.length ≤ maxL ∧ Q (.str s) μ) : (mFmt m ρ μ).wp Q := by
  rw [mFmt_ap, Out.wp_bind]
  refine Out.wp_mono h fun d μ q => ?_
  obtain ⟨s, rfl, l, q⟩ := q
  dsimp only
  rw [if_pos l]
  exact q
theorem s_jN (h : Q (.str r) μ) : (joinGo [] r ρ μ).wp Q := h
theorem s_jC {l : List (M D)} (h : (m ρ μ).wp fun d μ => ∃ s, d = .str s ∧ r.length + s.length ≤ maxL ∧ (joinGo l (r ++ s) ρ μ).wp Q) : (joinGo (m :: l) r ρ μ).wp Q := by
  rw [joinGo_cons, Out.wp_bind]
  refine Out.wp_mono h fun d μ q => ?_
  obtain ⟨s, rfl, l, q⟩ := q
  dsimp only
  rw [if_pos l]
  exact q
theorem s_tgP (e : g d ρ = some ρ') (h : N ρ' μ) : (tgP g d ρ μ).wp N T := by rw [tgP_ap, e]; exact h
theorem s_tgN (h : N (ρ.set i (some d)) μ) : (tgP (gN i) d ρ μ).wp N T := h
theorem s_tgSub (h : (m ρ μ).wp fun o μ => (n ρ μ).wp fun i μ => ∃ μ3, dSet o i d μ = some μ3 ∧ N ρ μ3) : (tgSub m n d ρ μ).wp N T := by
  rw [tgSub_ap, Out.wp_bindS]
  refine Out.wp_mono h fun o μ q => ?_
  rw [Out.wp_bindS]
  refine Out.wp_mono q fun i μ q => ?_
  obtain ⟨μ3, e, q⟩ := q
  rw [e]
  exact q
theorem s_fld (h : (m ρ μ).wp fun d μ => (n ρ μ).wp fun o μ => ∃ μ3, dSetF cl f o d μ = some μ3 ∧ N ρ μ3) : (cFld cl f n m ρ μ).wp N T := by
  rw [cFld_ap, Out.wp_bindS]
  refine Out.wp_mono h fun o μ q => ?_
  rw [Out.wp_bindS]
  refine Out.wp_mono q fun i μ q => ?_
  obtain ⟨μ3, e, q⟩ := q
  rw [e]
  exact q
theorem s_tgT {gs : List D → C} (e : ds.length = i) (h : (gs ds ρ μ).wp N T) : (tgT i gs (.tup ds) ρ μ).wp N T := by rw [tgT_ap, if_pos e]; exact h
theorem s_tgC {g : D → C} {gs : List D → C} (h : (g d ρ μ).wp (fun ρ μ => (gs ds ρ μ).wp N T) T) : (tgsC g gs (d :: ds) ρ μ).wp N T := by rw [tgsC_ap, OutS.wp_bind]; exact h
theorem s_tgE (h : N ρ μ) : (tgsN [] ρ μ).wp N T := h
theorem s_ok {α : Type} {o : Out α} {v : α} {μ' : Store} {Q : α → Store → Prop} (e : o = .ok v μ') (h : Q v μ') : o.wp Q := by rw [e]; exact h
theorem s_add (h : Q (.int (x + y)) μ) : (dPlus (.int x) (.int y) μ).wp Q := h
theorem s_addS (l : r.length + s.length ≤ maxL) (h : Q (.str (r ++ s)) μ) : (dPlus (.str r) (.str s) μ).wp Q := by rw [dAdd_str, if_pos l]; exact h
theorem s_addT {es : List D} (l : ds.length + es.length ≤ maxL) (h : Q (.tup (ds ++ es)) μ) : (dPlus (.tup ds) (.tup es) μ).wp Q := by rw [dAdd_tup, if_pos l]; exact h
theorem s_addL {es : List D} (l : ds.length + es.length ≤ maxL) (h : Q (.lst (ds ++ es)) μ) : (dPlus (.lst ds) (.lst es) μ).wp Q := by rw [dAdd_lst, if_pos l]; exact h
theorem s_sub (h : Q (.int (x - y)) μ) : (dSub (.int x) (.int y) μ).wp Q := h
theorem s_mul (e : (-(2 ^ 64) < x ∧ x < 2 ^ 64) ∨ (-(2 ^ 64) < y ∧ y < 2 ^ 64)) (h : Q (.int (x * y)) μ) : (dTimes (.int x) (.int y) μ).wp Q := by rw [dTimes_int, if_pos e]; exact h
theorem s_div (e : 0 < y ∧ y < 1073741824) (h : Q (.int (x / y)) μ) : (dDiv (.int x) (.int y) μ).wp Q := by rw [dDiv_int, if_pos e]; exact h
theorem s_mod (e : 0 < y) (h : Q (.int (x % y)) μ) : (dMod (.int x) (.int y) μ).wp Q := by rw [dMod_int, if_pos e]; exact h
theorem s_int (h : Q (.int x) μ) : (fInt [.int x] μ).wp Q := h
theorem s_divmod (e : 0 < y ∧ y < 1073741824) (h : Q (.tup [.int (x / y), .int (x % y)]) μ) : (fDivmod [.int x, .int y] μ).wp Q := by rw [fDivmod_int, if_pos e]; exact h
theorem s_lt (h : Q (.bl (decide (x < y))) μ) : (dLt (.int x) (.int y) μ).wp Q := h
theorem s_le (h : Q (.bl (decide (x ≤ y))) μ) : (dLe (.int x) (.int y) μ).wp Q := h
theorem s_gt (h : Q (.bl (decide (y < x))) μ) : (dGt (.int x) (.int y) μ).wp Q := h
theorem s_ge (h : Q (.bl (decide (y ≤ x))) μ) : (dGe (.int x) (.int y) μ).wp Q := h
theorem s_eqI (h : Q (.bl (decide (x = y))) μ) : (dEq (.int x) (.int y) μ).wp Q := h
theorem s_neI (h : Q (.bl (!decide (x = y))) μ) : (dNe (.int x) (.int y) μ).wp Q := h
theorem s_eqS (h : Q (.bl (decide (r = s))) μ) : (dEq (.str r) (.str s) μ).wp Q := h
theorem s_neS (h : Q (.bl (!decide (r = s))) μ) : (dNe (.str r) (.str s) μ).wp Q := h
theorem s_not {b : Bool} (h : Q (.bl (!b)) μ) : (dNot (.bl b) μ).wp Q := h
theorem s_ar (e : ds.length = i) (h : (F ds μ).wp Q) : (arity i F [] ds μ).wp Q := by rw [arity_ap, if_pos e]; exact h
theorem s_ar1 (e : ds.length + 1 = i) (h : (F ds μ).wp Q) : (arity1 i F [] ds μ).wp Q := by rw [arity1_ap, if_pos e]; exact h
theorem s_ar1K {es : List D} (e : ds.length = j ∧ es.length = k ∧ j + k + 1 = i) (h : (F (ds ++ es) μ).wp Q) : (arity1K i j k F [] ds es μ).wp Q := by rw [arity1K_ap, if_pos e]; exact h
theorem s_lenL (h : Q (.int ds.length) μ) : (fLen [.lst ds] μ).wp Q := h
theorem s_lenT (h : Q (.int ds.length) μ) : (fLen [.tup ds] μ).wp Q := h
theorem s_lenS (l : r.length ≤ maxL) (h : Q (.int r.length) μ) : (fLen [.str r] μ).wp Q := by rw [fLen_str, if_pos l]; exact h
end
end Rv
set_option Elab.async false
set_option linter.all false
set_option maxRecDepth 100000
/-! P4: the store, lists of texts, slices. -/
namespace Rv
open PySem PySem.Spec L2
open PyProof.Rows hiding St
mutual
theorem D.low_mono {n n' : Nat} (hn : n ≤ n') : ∀ {d : D}, D.low n d = true → D.low n' d = true
  | .ref k, h => by
    have : k < n := of_decide_eq_true h
    exact decide_eq_true (Nat.lt_of_lt_of_le this hn)
  | .tup ds, h => D.lowL_mono hn (ds := ds) h
  | .lst ds, h => D.lowL_mono hn (ds := ds) h
  | .dct ks ds, h => D.lowL_mono hn (ds := ds) h
  | .obj c ns ds, h => D.lowL_mono hn (ds := ds) h
  | .non, _ => rfl
  | .bl _, _ => rfl
  | .int _, _ => rfl
  | .str _, _ => rfl
  | .cls _, _ => rfl
  | .ty _, _ => rfl
  | .scr _, _ => rfl
  | .exn c ns ds, h => D.lowL_mono hn (ds := ds) h
theorem D.lowL_mono {n n' : Nat} (hn : n ≤ n') : ∀ {ds : List D}, D.lowL n ds = true → D.lowL n' ds = true
  | [], _ => rfl
  | d :: ds, h => by
    have h : (D.low n d && D.lowL n ds) = true := h
    rw [Bool.and_eq_true] at h
    show (D.low n' d && D.lowL n' ds) = true
    rw [D.low_mono hn h.1, D.lowL_mono hn h.2]
    rfl
end
theorem MO.low_mono {n n' : Nat} (hn : n ≤ n') {m : MO} (h : MO.low n m = true) : MO.low n' m = true := by
  cases m with
  | lst ds => exact D.lowL_mono hn (ds := ds) h
  | dct ks ds => exact D.lowL_mono hn (ds := ds) h
  | ins c ns ds => exact D.lowL_mono hn (ds := ds) h
theorem WF_app {μ L : Store} (wf : WF μ) (h : ∀ m ∈ L, MO.low (μ.length + L.length) m = true) : WF (μ ++ L) := by
  intro m hm
  rw [List.length_append]
  rcases List.mem_append.mp hm with q | q
  · exact MO.low_mono (Nat.le_add_right ..) (wf m q)
  · exact h m q
theorem WF_set {μ : Store} {p : Nat} {m : MO} (wf : WF μ) (hm : MO.low μ.length m = true) : WF (μ.set p m) := by
  intro x hx
  rw [List.length_set]
  rcases List.mem_or_eq_of_mem_set hx with h | h
  · exact wf x h
  · rw [h]; exact hm
theorem self_set {μ : Store} {p : Nat} {m : MO} (h : μ[p]? = some m) : μ = μ.set p m := by
  obtain ⟨hl, e⟩ := List.getElem?_eq_some_iff.mp h
  rw [← e, List.set_getElem_self]
/-! lists of texts -/
abbrev strD (ws : List (List Nat)) : List D := ws.map D.str
theorem low_str {n : Nat} : ∀ {ws : List (List Nat)}, D.lowL n (strD ws) = true
  | [] => rfl
  | w :: ws => low_str (ws := ws)
theorem flDs_str : ∀ {ws : List (List Nat)}, flDs (strD ws) = some (ws.map fun w => V.str (toS w))
  | [] => rfl
  | w :: ws => by
    show (match flD (.str w), flDs (strD ws) with
    | some v, some vs => some (v :: vs)
    | _, _ => none) = _
    rw [flDs_str]
    rfl
theorem inV_str {t : List Nat} : ∀ {ws : List (List Nat)}, inV (.str (toS t)) (ws.map fun w => V.str (toS w)) = decide (t ∈ ws)
  | [] => by simp [inV]
  | w :: ws => by
    have ih : ((ws.map fun w => V.str (toS w)).any fun y => eqV y (.str (toS t))) = decide (t ∈ ws) := inV_str
    show ((toS w == toS t) || (ws.map fun w => V.str (toS w)).any fun y => eqV y (.str (toS t))) = _
    rw [ih]
    by_cases e : w = t
    · subst e
      simp
    · have e2 : (toS w == toS t) = false := by
        rw [beq_eq_false_iff_ne]
        exact fun h => e (toS_inj.mp h)
      have e3 : ¬ t = w := fun h => e h.symm
      rw [e2]
      simp [e3]
theorem inB_str {μ : Store} {t : List Nat} {d : D} {ws : List (List Nat)} (h : asQ μ d = some (strD ws)) : inB μ (.str t) d = some (decide (t ∈ ws)) := by
  have e : (match flD (.str t), (asQ μ d).bind flDs with
    | some v, some vs => some (inV v vs)
    | _, _ => none) = some (decide (t ∈ ws)) := by
    rw [h]
    show (match some (V.str (toS t)), flDs (strD ws) with
    | some v, some vs => some (inV v vs)
    | _, _ => none) = _
    rw [flDs_str]
    show some (inV (.str (toS t)) (ws.map fun w => V.str (toS w))) = _
    rw [inV_str]
  unfold inB
  split
  · rename_i c s
    simp [asQ, asL] at h
  · exact e
theorem dIn_str {μ : Store} {t : List Nat} {d : D} {ws : List (List Nat)} (h : asQ μ d = some (strD ws)) : dIn (.str t) d μ = .ok (.bl (decide (t ∈ ws))) μ := by
  show dB (inB μ (.str t) d) μ = _
  rw [inB_str h]
  rfl
theorem dNotIn_str {μ : Store} {t : List Nat} {d : D} {ws : List (List Nat)} (h : asQ μ d = some (strD ws)) : dNotIn (.str t) d μ = .ok (.bl (!decide (t ∈ ws))) μ := by
  show dB ((inB μ (.str t) d).map not) μ = _
  rw [inB_str h]
  rfl
theorem pigeon {α : Type} [DecidableEq α] : ∀ {C F : List α}, C.Nodup → F.length < C.length → ∃ x ∈ C, x ∉ F
  | [], F, _, h => by simp at h
  | x :: C, F, nd, h => by
    by_cases hx : x ∈ F
    · obtain ⟨n1, n2⟩ := List.nodup_cons.mp nd
      have l : (F.erase x).length < C.length := by
        rw [List.length_erase_of_mem hx]
        have : 0 < F.length := List.length_pos_of_mem hx
        rw [List.length_cons] at h
        omega
      obtain ⟨y, hy, hn⟩ := pigeon n2 l
      refine ⟨y, List.mem_cons_of_mem _ hy, fun q => hn ?_⟩
      have : y ≠ x := fun e => n1 (e ▸ hy)
      exact (List.mem_erase_of_ne this).mpr q
    · exact ⟨x, List.mem_cons_self .., hx⟩
theorem cutD_take {α : Type} {xs : List α} {k : Int} (h : 0 ≤ k) : cutD xs none (some k) = xs.take k.toNat := by
  unfold cutD HT.sIx
  simp only [List.drop_zero, Nat.sub_zero]
  rw [if_neg (by omega)]
  rcases Nat.le_total k.toNat xs.length with q | q
  · rw [Nat.min_eq_left q]
  · rw [Nat.min_eq_right q, List.take_of_length_le (Nat.le_refl _), List.take_of_length_le q]
theorem cutD_drop {α : Type} {xs : List α} {k : Int} (h : 0 ≤ k) : cutD xs (some k) none = xs.drop k.toNat := by
  unfold cutD HT.sIx
  dsimp only
  rw [if_neg (by omega)]
  rcases Nat.le_total k.toNat xs.length with q | q
  · rw [Nat.min_eq_left q, List.take_of_length_le (by rw [List.length_drop]; exact Nat.le_refl _)]
  · rw [Nat.min_eq_right q, List.drop_of_length_le q, List.drop_of_length_le (Nat.le_refl _), List.take_nil]
theorem s_pow {x y : Int} {μ : Store} {Q : D → Store → Prop} (e : 0 ≤ y ∧ y ≤ 1000000 ∧ x.natAbs < 2 ^ 64) (h : Q (.int (x ^ y.toNat)) μ) : (dPow (.int x) (.int y) μ).wp Q := by
  show (if 0 ≤ y ∧ y ≤ 1000000 ∧ x.natAbs < 2 ^ 64 then Out.ok (D.int (x ^ y.toNat)) μ else .stuck).wp Q
  rw [if_pos e]
  exact h
theorem s_neg {x : Int} {μ : Store} {Q : D → Store → Prop} (h : Q (.int (-x)) μ) : (dNeg (.int x) μ).wp Q := h
end Rv
set_option Elab.async false
set_option linter.all false
set_option maxRecDepth 100000
/-! P5: more steps: kinds, chains, new things, fields, getters. -/
namespace Rv
open PySem PySem.Spec L2
open PyProof.Rows hiding St
section
variable {ρ : Env'} {μ : Store} {Q : D → Store → Prop} {d c : D} {F : Fn} {cl f : Str} {ns : List Str} {ds es : List D} {n : Nat}
theorem s_isi {T : Isi} {t u : Tg} {b : Bool} (h1 : tgOf μ d = some t) (h2 : tgC c = some u) (h3 : T.own t = true) (h4 : T.get t u = some b) (q : Q (.bl b) μ) : (fIsi T [d, c] μ).wp Q := by
  show (match tgOf μ d, tgC c with
    | some t, some u => if T.own t then (match T.get t u with
      | some b => Out.ok (D.bl b) μ
      | none => .stuck) else .stuck
    | _, _ => .stuck).wp Q
  rw [h1, h2]
  dsimp only
  rw [if_pos h3, h4]
  exact q
theorem s_chain {g : D → D → Store → Out D} {f : D → D → Store → Out D} {m n o : M D} (h : (m ρ μ).wp fun x μ => (n ρ μ).wp fun y μ => (f x y μ).wp fun z μ => ∃ b, z = .bl b ∧ if b = true then (o ρ μ).wp fun w μ => (g y w μ).wp Q else Q (.bl false) μ) : (mChain f g m n o ρ μ).wp Q := by
  rw [mChain_ap, Out.wp_bind]
  refine Out.wp_mono h fun x μ q => ?_
  rw [Out.wp_bind]
  refine Out.wp_mono q fun y μ q => ?_
  rw [Out.wp_bind, Out.wp_only]
  refine Out.wp_mono q fun z μ q => ?_
  obtain ⟨b, rfl, q⟩ := q
  cases b with
  | true =>
    show ((o ρ μ).bind fun w μ4 => (g y w μ4).only).wp Q
    rw [Out.wp_bind]
    refine Out.wp_mono (show (o ρ μ).wp fun w μ => (g y w μ).wp Q from q) fun w μ q => ?_
    rw [Out.wp_only]
    exact q
  | false => exact q
theorem s_inC {x : Nat} {s : List Nat} (h : Q (.bl (decide (x ∈ s))) μ) : (dIn (.str [x]) (.str s) μ).wp Q := h
theorem s_ninC {x : Nat} {s : List Nat} (h : Q (.bl (!decide (x ∈ s))) μ) : (dNotIn (.str [x]) (.str s) μ).wp Q := h
theorem dBls_true {α : Type} : ∀ {xs : List α}, dBls (xs.map fun _ => D.bl true) = some (xs.map fun _ => true)
  | [] => rfl
  | x :: xs => by
    show (dBls (xs.map fun _ => D.bl true)).map (true :: ·) = _
    rw [dBls_true]
    rfl
theorem fAll_true {α : Type} {xs : List α} : fAll [.lst (xs.map fun _ => D.bl true)] μ = .ok (.bl true) μ := by
  show (match (some (xs.map fun _ => D.bl true)).bind (fun xs => (dBls xs).map fun bs => D.bl (bs.all id)) with
    | some r => Out.ok r μ
    | none => .stuck) = _
  rw [Option.bind_some, dBls_true]
  have : ((xs.map fun _ => true).all id) = true := List.all_eq_true.mpr fun b hb => by
    obtain ⟨_, _, e⟩ := List.mem_map.mp hb
    rw [← e]; rfl
  show Out.ok (D.bl ((xs.map fun _ => true).all id)) μ = _
  rw [this]
/-! new things -/
theorem new_eq {us : List D} (h : F (.ref μ.length :: us) (μ ++ [MO.ins cl [] []]) = .ok .non (μ ++ [MO.ins cl ns ds])) (hl : D.lowL μ.length ds = true) : newF cl false F us μ = .ok (.obj cl ns ds) μ := by
  show made μ false (F (.ref μ.length :: us) (μ ++ [MO.ins cl [] []])) = _
  rw [h]
  show region μ (.ret (.ref μ.length) (μ ++ [MO.ins cl ns ds])) = _
  have hf : frz μ.length (μ ++ [MO.ins cl ns ds]) (.ref μ.length) = .obj cl ns ds := by
    show (if μ.length < μ.length then D.ref μ.length else match (μ ++ [MO.ins cl ns ds])[μ.length]? with
      | some (.lst ds) => .lst ds
      | some (.dct ks ds) => .dct ks ds
      | some (.ins c ns ds) => .obj c ns ds
      | none => .ref μ.length) = _
    rw [if_neg (Nat.lt_irrefl _), List.getElem?_append_right (Nat.le_refl _), Nat.sub_self]
    rfl
  show (if (kept μ.length μ (μ ++ [MO.ins cl ns ds]) && D.low μ.length (frz μ.length (μ ++ [MO.ins cl ns ds]) (.ref μ.length))) = true then Out.ok (frz μ.length (μ ++ [MO.ins cl ns ds]) (.ref μ.length)) ((μ ++ [MO.ins cl ns ds]).take μ.length) else .stuck) = _
  rw [hf, kept_self rfl, List.take_left, show D.low μ.length (.obj cl ns ds) = true from hl]
  rfl
theorem newK_eq {us : List D} (h : F (.ref μ.length :: us) (μ ++ [MO.ins cl [] []]) = .ok .non (μ ++ [MO.ins cl ns ds])) (hl : D.lowL μ.length ds = true) : newF cl true F us μ = .ok (.ref μ.length) (μ ++ [MO.ins cl ns ds]) := by
  show made μ true (F (.ref μ.length :: us) (μ ++ [MO.ins cl [] []])) = _
  rw [h]
  show region1 μ (.ret (.ref μ.length) (μ ++ [MO.ins cl ns ds])) = _
  show (match (μ ++ [MO.ins cl ns ds])[μ.length]? with
    | some m => if (decide (μ.length ≤ μ.length) && (kept μ.length μ (μ ++ [MO.ins cl ns ds]) && MO.low μ.length m)) = true then Out.ok (D.ref μ.length) ((μ ++ [MO.ins cl ns ds]).take μ.length ++ [m]) else .stuck
    | none => .stuck) = _
  rw [List.getElem?_append_right (Nat.le_refl _), Nat.sub_self]
  show (if (decide (μ.length ≤ μ.length) && (kept μ.length μ (μ ++ [MO.ins cl ns ds]) && MO.low μ.length (.ins cl ns ds))) = true then Out.ok (D.ref μ.length) ((μ ++ [MO.ins cl ns ds]).take μ.length ++ [MO.ins cl ns ds]) else .stuck) = _
  rw [kept_self rfl, List.take_left, show MO.low μ.length (.ins cl ns ds) = true from hl, decide_eq_true (Nat.le_refl _)]
  rfl
/-! fields -/
theorem dFld_obj {x : D} (e : fget f ns ds = some x) : dFld cl f (.obj cl ns ds) μ = .ok x μ := by
  show (if cl = cl then (match fget f ns ds with
    | some d => Out.ok d μ
    | none => .stuck) else .stuck) = _
  rw [if_pos rfl, e]
theorem asI_ref {p : Nat} (h : μ[p]? = some (.ins cl ns ds)) : asI μ (.ref p) = some (cl, ns, ds) := by
  show (match μ[p]? with
    | some (.ins c ns ds) => some (c, ns, ds)
    | _ => none) = _
  rw [h]
theorem dFld_ref {p : Nat} {x : D} (h : μ[p]? = some (.ins cl ns ds)) (e : fget f ns ds = some x) : dFld cl f (.ref p) μ = .ok x μ := by
  show (match asI μ (.ref p) with
    | some (c, ns, ds) => if c = cl then (match fget f ns ds with
      | some d => Out.ok d μ
      | none => .stuck) else .stuck
    | none => .stuck) = _
  rw [asI_ref h]
  dsimp only
  rw [if_pos rfl, e]
theorem dProp_eq {x : D} {μ' : Store} (h : asI μ d = some (cl, ns, ds)) (e : F [d] μ = .ok x μ') : dProp cl F d μ = .ok x μ' := by
  show (match asI μ d with
    | some (c, _, _) => if c = cl then (F [d] μ).only else .stuck
    | none => .stuck) = _
  rw [h]
  dsimp only
  rw [if_pos rfl, e]
  rfl
theorem dSetF_ref {p : Nat} (h : μ[p]? = some (.ins cl ns ds)) (l : ns.length < 1000) : dSetF cl f (.ref p) d μ = some (μ.set p (.ins cl (dPutF f d ns ds).1 (dPutF f d ns ds).2)) := by
  show (match μ[p]? with
    | some (.ins c ns ds) => if c = cl ∧ ns.length < 1000 then some (μ.set p (.ins c (dPutF f d ns ds).1 (dPutF f d ns ds).2)) else none
    | _ => none) = _
  rw [h]
  dsimp only
  rw [if_pos ⟨rfl, l⟩]
theorem new_at {m : MO} {L : Store} : (μ ++ m :: L)[μ.length]? = some m := by
  rw [List.getElem?_append_right (Nat.le_refl _), Nat.sub_self]
  rfl
theorem new_set {m m' : MO} {L : Store} : (μ ++ m :: L).set μ.length m' = μ ++ m' :: L := by
  rw [List.set_append_right _ _ (Nat.le_refl _), Nat.sub_self]
  rfl
end
end Rv
set_option Elab.async false
set_option linter.all false
set_option maxRecDepth 100000
/-! P6: tests whose answer is known, comprehensions whose parts change nothing, texts shown. -/
namespace Rv
open PySem PySem.Spec L2
open PyProof.Rows hiding St
section
variable {ρ : Env'} {μ : Store} {Q : D → Store → Prop} {QB : Bool → Store → Prop} {QL : List D → Store → Prop} {N : Env' → Store → Prop} {T : D → Store → Prop} {p : Prop} [Decidable p] {a b : Prop} {o q : OutS}
theorem iD_pos (hp : p) (h : a) : if decide p = true then a else b := by rw [if_pos (decide_eq_true hp)]; exact h
theorem iD_neg (hp : ¬p) (h : b) : if decide p = true then a else b := by rw [if_neg (by simpa using hp)]; exact h
theorem iN_pos (hp : ¬p) (h : a) : if (!decide p) = true then a else b := by rw [if_pos (by simpa using hp)]; exact h
theorem iN_neg (hp : p) (h : b) : if (!decide p) = true then a else b := by rw [if_neg (by simpa using hp)]; exact h
theorem oD_pos (hp : p) (h : o.wp N T) : (if decide p = true then o else q).wp N T := by rw [if_pos (decide_eq_true hp)]; exact h
theorem oD_neg (hp : ¬p) (h : q.wp N T) : (if decide p = true then o else q).wp N T := by rw [if_neg (by simpa using hp)]; exact h
theorem oN_pos (hp : ¬p) (h : o.wp N T) : (if (!decide p) = true then o else q).wp N T := by rw [if_pos (by simpa using hp)]; exact h
theorem oN_neg (hp : p) (h : q.wp N T) : (if (!decide p) = true then o else q).wp N T := by rw [if_neg (by simpa using hp)]; exact h
theorem iB_pos {k : Bool} (hp : k = true) (h : a) : if k = true then a else b := by rw [if_pos hp]; exact h
theorem iB_neg {k : Bool} (hp : k = false) (h : b) : if k = true then a else b := by rw [if_neg (by simp [hp])]; exact h
theorem oB_pos {k : Bool} (hp : k = true) (h : o.wp N T) : (if k = true then o else q).wp N T := by rw [if_pos hp]; exact h
theorem oB_neg {k : Bool} (hp : k = false) (h : q.wp N T) : (if k = true then o else q).wp N T := by rw [if_neg (by simp [hp])]; exact h
end
section
variable {ρ : Env'} {μ : Store} {Q : D → Store → Prop} {QB : Bool → Store → Prop} {QL : List D → Store → Prop} {N : Env' → Store → Prop} {T : D → Store → Prop} {F : Fn} {cl f : Str} {d x : D} {ns : List Str} {ds : List D}
theorem s_prop (e : asI μ d = some (cl, ns, ds)) (h : (F [d] μ).wp Q) : (dProp cl F d μ).wp Q := by
  show (match asI μ d with
    | some (c, _, _) => if c = cl then (F [d] μ).only else .stuck
    | none => .stuck).wp Q
  rw [e]
  dsimp only
  rw [if_pos rfl, Out.wp_only]
  exact h
theorem s_get (e : asI μ d = some (cl, ns, ds)) (g : fget f ns ds = some x) (h : Q x μ) : (dFld cl f d μ).wp Q := by
  show (match asI μ d with
    | some (c, ns, ds) => if c = cl then (match fget f ns ds with
      | some d => Out.ok d μ
      | none => .stuck) else .stuck
    | none => .stuck).wp Q
  rw [e]
  dsimp only
  rw [if_pos rfl, g]
  exact h
theorem s_lcF {α : Type} {mi : MI} {vs : List Nat} {g : TgM} {t : M Bool} {m : M D} (xs : List α) (h : α → D) (p : α → Bool) (f : α → D) (l : xs.length ≤ maxL) (hi : (mi ρ μ).wp fun q ν => q = (none, xs.map h) ∧ ν = μ)
    (hm : ∀ x ∈ xs, ∃ ρ1, g (h x) (wipeM ρ vs) = some ρ1 ∧ ((t ρ1 μ).wp fun b ν => b = p x ∧ ν = μ) ∧ (p x = true → (m ρ1 μ).wp fun d ν => d = f x ∧ ν = μ))
    (q : QL ((xs.filter p).map f) μ) : (mLc mi vs g t m ρ μ).wp QL := by
  refine s_lc (Out.wp_mono hi fun r ν e => ?_)
  obtain ⟨rfl, rfl⟩ := e
  refine ⟨by rw [List.length_map]; exact l, s_ok (lcGo_map fun x hx => ?_) q⟩
  obtain ⟨ρ1, e1, e2, e3⟩ := hm x hx
  exact ⟨ρ1, e1, Out.eq_of e2, fun hp => Out.eq_of (e3 hp)⟩
theorem s_lcM {α : Type} {mi : MI} {vs : List Nat} {g : TgM} {m : M D} (xs : List α) (h : α → D) (f : α → D) (l : xs.length ≤ maxL) (hi : (mi ρ μ).wp fun q ν => q = (none, xs.map h) ∧ ν = μ)
    (hm : ∀ x ∈ xs, ∃ ρ1, g (h x) (wipeM ρ vs) = some ρ1 ∧ (m ρ1 μ).wp fun d ν => d = f x ∧ ν = μ)
    (q : QL (xs.map f) μ) : (mLc mi vs g (fun _ μ => .ok true μ) m ρ μ).wp QL := by
  refine s_lcF xs h (fun _ => true) f l hi (fun x hx => ?_) (by rw [List.filter_eq_self.mpr fun _ _ => rfl]; exact q)
  obtain ⟨ρ1, e1, e2⟩ := hm x hx
  exact ⟨ρ1, e1, ⟨rfl, rfl⟩, fun _ => e2⟩
theorem s_enuT {QI : Lv × List D → Store → Prop} (h : QI (none, enumD ds) μ) : (enuT [.tup ds] μ).wp QI := h
theorem s_zipT {QI : Lv × List D → Store → Prop} {es : List D} (h : QI (none, zipD ds es) μ) : (zipO [.tup ds, .tup es] μ).wp QI := h
theorem s_rngI {n : Int} {QI : Lv × List D → Store → Prop} (e : -(2 ^ 62) ≤ n ∧ n < 2 ^ 62) (h : QI (none, rngD 0 n.toNat) μ) : (rng1 [.int n] μ).wp QI := by
  show (if -(2 ^ 62) ≤ n ∧ n < 2 ^ 62 then Out.ok (none, rngD 0 n.toNat) μ else .stuck).wp QI
  rw [if_pos e]
  exact h
theorem enumD_get {i : Nat} (h : (enumD ds)[i]? = some d) : ∃ x, ds[i]? = some x ∧ d = .tup [.int (i : Nat), x] := by
  unfold enumD at h
  rw [List.getElem?_map] at h
  cases q : (List.range ds.length)[i]? with
  | none => rw [q] at h; cases h
  | some j =>
    rw [q] at h
    obtain ⟨hl, e⟩ := List.getElem?_eq_some_iff.mp q
    rw [List.getElem_range] at e
    rw [List.length_range] at hl
    subst e
    refine ⟨ds[i], List.getElem?_eq_getElem hl, ?_⟩
    have h := (Option.some.inj h).symm
    rw [h]
    show D.tup [D.int (i : Nat), ds.getD i D.non] = _
    rw [List.getD_eq_getElem?_getD, List.getElem?_eq_getElem hl]
    rfl
theorem map_at {α : Type} {xs : List α} {h : α → D} {i : Nat} (e : (xs.map h)[i]? = some d) : ∃ x, xs[i]? = some x ∧ d = h x := by
  rw [List.getElem?_map] at e
  cases q : xs[i]? with
  | none => rw [q] at e; cases e
  | some x =>
    rw [q] at e
    exact ⟨x, rfl, (Option.some.inj e).symm⟩
theorem s_split {c : Nat} {s : List Nat} {ws : List (List Nat)} (e : TL.spl [c] 0 [] s = ws) (hc : c < 256) (l : s.length + 2 ≤ maxL) (q : Q (.lst (strD ws)) μ) : (fSplit s (.str [c]) μ).wp Q := by
  show (if ([c].all (fun n => decide (n < 256)) && decide (s.length + 2 ≤ maxL)) = true then Out.ok (.lst ((TL.spl [c] 0 [] s).map D.str)) μ else .stuck).wp Q
  rw [if_pos (show ([c].all (fun n => decide (n < 256)) && decide (s.length + 2 ≤ maxL)) = true by rw [decide_eq_true l, Bool.and_true]; simp [hc]), e]
  exact q
theorem dStrs_str : ∀ {ws : List (List Nat)}, dStrs (strD ws) = some ws
  | [] => rfl
  | w :: ws => by
    show (dStrs (strD ws)).map (w :: ·) = _
    rw [dStrs_str]
    rfl
theorem s_join {s : List Nat} {ys : List (List Nat)} (e : asQ μ d = some (strD ys)) (l : (ys.map List.length).sum + ys.length * s.length ≤ maxL) (q : Q (.str (TL.joinL s ys)) μ) : (fJoin s d μ).wp Q := by
  show (match (asQ μ d).bind dStrs with
    | some ys => if (ys.map List.length).sum + ys.length * s.length ≤ maxL then Out.ok (D.str (TL.joinL s ys)) μ else .stuck
    | none => .stuck).wp Q
  rw [e, Option.bind_some, dStrs_str]
  dsimp only
  rw [if_pos l]
  exact q
theorem sum_len {k : Nat} : ∀ {ys : List (List Nat)}, (∀ y ∈ ys, y.length ≤ k) → (ys.map List.length).sum ≤ k * ys.length
  | [], _ => by simp
  | y :: ys, h => by
    have h1 := h y (List.mem_cons_self ..)
    have h2 := sum_len (ys := ys) fun z hz => h z (List.mem_cons_of_mem _ hz)
    rw [List.map_cons, List.sum_cons, List.length_cons, Nat.mul_add, Nat.mul_one]
    omega
theorem joinL_len {s : List Nat} : ∀ {ys : List (List Nat)}, (TL.joinL s ys).length ≤ (ys.map List.length).sum + ys.length * s.length
  | [] => by simp [TL.joinL]
  | [y] => by simp [TL.joinL]
  | y :: z :: r => by
    have ih := joinL_len (s := s) (ys := z :: r)
    show (y ++ (s ++ TL.joinL s (z :: r))).length ≤ _
    rw [List.length_append, List.length_append, List.map_cons, List.sum_cons, List.length_cons (a := y), Nat.add_mul, Nat.one_mul]
    omega
/-! ints in a list -/
abbrev intD (ws : List Int) : List D := ws.map D.int
theorem flDs_int : ∀ {ws : List Int}, flDs (intD ws) = some (ws.map V.int)
  | [] => rfl
  | w :: ws => by
    show (match flD (.int w), flDs (intD ws) with
    | some v, some vs => some (v :: vs)
    | _, _ => none) = _
    rw [flDs_int]
    rfl
theorem inV_int {t : Int} : ∀ {ws : List Int}, inV (.int t) (ws.map V.int) = decide (t ∈ ws)
  | [] => by simp [inV]
  | w :: ws => by
    have ih : ((ws.map V.int).any fun y => eqV y (.int t)) = decide (t ∈ ws) := inV_int
    show ((w == t) || (ws.map V.int).any fun y => eqV y (.int t)) = _
    rw [ih]
    by_cases e : w = t
    · subst e
      simp
    · have e2 : (w == t) = false := by rw [beq_eq_false_iff_ne]; exact e
      have e3 : ¬ t = w := fun h => e h.symm
      rw [e2]
      simp [e3]
theorem inB_int {t : Int} {ws : List Int} (h : asQ μ d = some (intD ws)) : inB μ (.int t) d = some (decide (t ∈ ws)) := by
  show (match flD (.int t), (asQ μ d).bind flDs with
    | some v, some vs => some (inV v vs)
    | _, _ => none) = _
  rw [h]
  show (match some (V.int t), flDs (intD ws) with
    | some v, some vs => some (inV v vs)
    | _, _ => none) = _
  rw [flDs_int]
  show some (inV (.int t) (ws.map V.int)) = _
  rw [inV_int]
theorem s_inI {t : Int} (ws : List Int) (h : asQ μ d = some (intD ws)) (q : Q (.bl (decide (t ∈ ws))) μ) : (dIn (.int t) d μ).wp Q := by
  show (dB (inB μ (.int t) d) μ).wp Q
  rw [inB_int h]
  exact q
theorem s_inS {t : List Nat} (ws : List (List Nat)) (h : asQ μ d = some (strD ws)) (q : Q (.bl (decide (t ∈ ws))) μ) : (dIn (.str t) d μ).wp Q := s_ok (dIn_str h) q
theorem s_ninS {t : List Nat} (ws : List (List Nat)) (h : asQ μ d = some (strD ws)) (q : Q (.bl (!decide (t ∈ ws))) μ) : (dNotIn (.str t) d μ).wp Q := s_ok (dNotIn_str h) q
/-! regions -/
theorem NQ_new {m m' : MO} (wf : WF μ) (hl : MO.low (μ.length + 1) m' = true) (q : Q .non (μ ++ [m'])) : NQ (μ ++ [m]) Q ρ (μ ++ [m']) := by
  have hn : (μ ++ [m]).length = μ.length + 1 := by simp
  refine ⟨kept_low fun x hx => ?_, ?_⟩
  · rw [hn] at hx ⊢
    rcases List.mem_append.mp (List.mem_of_mem_take hx) with h | h
    · exact MO.low_mono (Nat.le_succ _) (wf x h)
    · rw [List.mem_singleton.mp h]; exact hl
  · rw [hn, List.take_of_length_le (by simp)]
    exact q
/-- a field of a new thing -/
theorem s_fldN {cl f : Str} {n m : M D} {ns' : List Str} {ds' : List D} (ν : Store) (h : (m ρ μ).wp fun d μ' => μ' = ν ++ [.ins cl ns ds] ∧ ((n ρ (ν ++ [.ins cl ns ds])).wp fun o μ'' => o = .ref ν.length ∧ μ'' = ν ++ [.ins cl ns ds]) ∧ ns.length < 1000 ∧ dPutF f d ns ds = (ns', ds') ∧ N ρ (ν ++ [.ins cl ns' ds'])) : (cFld cl f n m ρ μ).wp N T := by
  refine s_fld (Out.wp_mono h fun d μ' q => ?_)
  obtain ⟨rfl, q1, q2, q3, q4⟩ := q
  refine Out.wp_mono q1 fun o μ'' q => ?_
  obtain ⟨rfl, rfl⟩ := q
  refine ⟨_, dSetF_ref (new_at (L := [])) q2, ?_⟩
  rw [q3, new_set]
  exact q4
end
/-! ### what repr shows -/
mutual
def rb : PyData → Nat
  | .none => 4
  | .bool _ => 5
  | .int _ => 1921
  | .str x => 10 * x.length + 2
  | .list xs => rbL xs + 2
  | .tuple xs => rbL xs + 3
  | .dict _ => 0
def rbL : List PyData → Nat
  | [] => 0
  | x :: xs => rb x + 2 + rbL xs
end
mutual
def rOk : PyData → Bool
  | .none => true
  | .bool _ => true
  | .int i => decide (i.natAbs.log2 < 1920)
  | .str x => x.cps.toList.all fun c => decide (c < 16 ^ 8)
  | .list xs => rOkL xs
  | .tuple xs => rOkL xs
  | .dict _ => false
def rOkL : List PyData → Bool
  | [] => true
  | x :: xs => rOk x && rOkL xs
end
theorem textFrom_le : ∀ (ts : List Str) (k : Nat) (acc : Str), (textFrom k acc ts).length ≤ acc.length + piled ts
  | [], k, acc => Nat.le_refl _
  | t :: r, k, acc => by
    have h := textFrom_le r (k + 1) (acc ++ (if k > 0 then ", " else "" : String) ++ t)
    have e : (acc ++ (if k > 0 then ", " else "" : String) ++ t).length = acc.length + (if k > 0 then 2 else 0) + t.length := by
      rw [strLen_append, strLen_append]
      split <;> rfl
    rw [e] at h
    have hp : piled (t :: r) = t.length + 2 + piled r := by simp [piled]
    rw [hp]
    show (textFrom (k + 1) _ r).length ≤ _
    have : (if k > 0 then 2 else 0 : Nat) ≤ 2 := by split <;> omega
    omega
theorem listText_le (ts : List Str) : (listText ts).length ≤ piled ts + 2 := by
  unfold listText
  rw [strLen_append]
  have h := textFrom_le ts 0 "["
  have e1 : ("[" : Str).length = 1 := rfl
  have e2 : ("]" : Str).length = 1 := rfl
  rw [e1] at h
  rw [e2]
  omega
theorem tupleText_le (ts : List Str) : (tupleText ts).length ≤ piled ts + 3 := by
  unfold tupleText
  rw [strLen_append, strLen_append]
  have e1 : ("(" : Str).length = 1 := rfl
  have e2 : ((if (ts.length == 1) = true then ",)" else ")" : String) : Str).length ≤ 2 := by
    split
    · exact Nat.le_refl _
    · exact Nat.le_succ _
  rw [e1]
  cases ts with
  | nil =>
    have e3 : (Str.join ", " []).length = 0 := rfl
    rw [e3]
    omega
  | cons t r =>
    have := join_length_add (t :: r) (by simp)
    omega
mutual
theorem shown_le : ∀ {p : PyData}, rOk p = true → p.shown.length ≤ rb p ∧ p.showable = true ∧ p.hasDict = false
  | .none, _ => ⟨Nat.le_refl _, rfl, rfl⟩
  | .bool b, _ => ⟨by cases b; exact Nat.le_refl _; exact Nat.le_succ _, rfl, rfl⟩
  | .int i, h => by
    have h : i.natAbs.log2 < 1920 := of_decide_eq_true h
    exact ⟨int_text_len_1921 h, decide_eq_true h, rfl⟩
  | .str x, h => ⟨StrLaws.reprText_len x fun c hc => by
      have := List.all_eq_true.mp (show (x.cps.toList.all fun c => decide (c < 16 ^ 8)) = true from h) c hc
      exact of_decide_eq_true this, rfl, rfl⟩
  | .list xs, h => by
    obtain ⟨h1, h2, h3⟩ := shownL_le (xs := xs) h
    refine ⟨?_, h2, h3⟩
    show (listText (PyData.shownAll xs)).length ≤ rbL xs + 2
    have := listText_le (PyData.shownAll xs)
    omega
  | .tuple xs, h => by
    obtain ⟨h1, h2, h3⟩ := shownL_le (xs := xs) h
    refine ⟨?_, h2, h3⟩
    show (tupleText (PyData.shownAll xs)).length ≤ rbL xs + 3
    have := tupleText_le (PyData.shownAll xs)
    omega
  | .dict _, h => by cases h
theorem shownL_le : ∀ {xs : List PyData}, rOkL xs = true → piled (PyData.shownAll xs) ≤ rbL xs ∧ PyData.showableAll xs = true ∧ PyData.hasDictAll xs = false
  | [], _ => ⟨Nat.le_refl _, rfl, rfl⟩
  | x :: xs, h => by
    have h : (rOk x && rOkL xs) = true := h
    rw [Bool.and_eq_true] at h
    obtain ⟨a1, a2, a3⟩ := shown_le h.1
    obtain ⟨b1, b2, b3⟩ := shownL_le h.2
    refine ⟨?_, ?_, ?_⟩
    · show piled (x.shown :: PyData.shownAll xs) ≤ rb x + 2 + rbL xs
      have hp : piled (x.shown :: PyData.shownAll xs) = x.shown.length + 2 + piled (PyData.shownAll xs) := by simp [piled]
      omega
    · show (x.showable && PyData.showableAll xs) = true
      rw [a2, b2]; rfl
    · show (x.hasDict || PyData.hasDictAll xs) = false
      rw [a3, b3]; rfl
end
theorem s_repr {μ : Store} {ds : List D} {ps : List PyData} {Q : D → Store → Prop} (e : pydL μ ds = some ps) (h1 : rOkL ps = true) (h2 : rbL ps + 2 ≤ maxL) (h3 : PyData.depthAll ps ≤ 59) (q : Q (.str (ofS (PyData.list ps).shown)) μ) : (fRepr [.lst ds] μ).wp Q := by
  have e' : pyd μ (.lst ds) = some (.list ps) := by
    show (pydL μ ds).map PyData.list = _
    rw [e]; rfl
  obtain ⟨a1, a2, a3⟩ := shown_le (p := .list ps) h1
  have hl : (PyData.list ps).shown.length ≤ maxL := Nat.le_trans a1 h2
  have hd : (PyData.list ps).depth ≤ 60 := by
    show PyData.depthAll ps + 1 ≤ 60
    omega
  show (match pyd μ (.lst ds) with
    | some p => (match D.lst ds with
      | .int i => if i.natAbs.log2 < 1920 then Out.ok (D.str (ofS (toString i))) μ else .stuck
      | _ => if (p.showable && !p.hasDict) && (decide (p.shown.length ≤ maxL) && decide (p.depth ≤ 60)) then (match D.lst ds with
        | .tup _ => Out.ok (D.str (ofS p.shown)) μ
        | .lst _ => Out.ok (D.str (ofS p.shown)) μ
        | .ref _ => Out.ok (D.str (ofS p.shown)) μ
        | _ => .stuck) else .stuck)
    | none => .stuck).wp Q
  rw [e']
  dsimp only
  rw [a2, a3, decide_eq_true hl, decide_eq_true hd]
  exact q
/-! bool lists, compared -/
def blD (bs : List Bool) : List D := bs.map D.bl
theorem pydL_bl {μ : Store} : ∀ {bs : List Bool}, pydL μ (blD bs) = some (bs.map PyData.bool)
  | [] => rfl
  | b :: bs => by
    show (match some (PyData.bool b), pydL μ (blD bs) with
    | some p, some ps => some (p :: ps)
    | _, _ => none) = _
    rw [pydL_bl]
    rfl
theorem eqv_bl : ∀ {bs cs : List Bool}, PyData.eqvAll (bs.map PyData.bool) (cs.map PyData.bool) = decide (bs = cs)
  | [], [] => rfl
  | [], c :: cs => by simp [PyData.eqvAll]
  | b :: bs, [] => by simp [PyData.eqvAll]
  | b :: bs, c :: cs => by
    show ((b == c) && PyData.eqvAll (bs.map PyData.bool) (cs.map PyData.bool)) = _
    rw [eqv_bl]
    cases b <;> cases c <;> simp
theorem shaped_bl : ∀ {bs : List Bool}, SeqAt.shaped (.list (bs.map PyData.bool)) = true := by
  intro bs
  have h1 : ∀ {bs : List Bool}, PyData.canLayAll0 (bs.map PyData.bool) = true := by
    intro bs
    induction bs with
    | nil => rfl
    | cons b bs ih => exact ih
  have h2 : ∀ {bs : List Bool}, PyData.depthAll (bs.map PyData.bool) = 0 := by
    intro bs
    induction bs with
    | nil => rfl
    | cons b bs ih =>
      show max 0 (PyData.depthAll (bs.map PyData.bool)) = 0
      rw [ih]; rfl
  unfold SeqAt.shaped
  rw [show PyData.canLay0 (.list (bs.map PyData.bool)) = true from h1, show PyData.depth (.list (bs.map PyData.bool)) = 1 by show PyData.depthAll _ + 1 = 1; rw [h2]]
  rfl
theorem eqB_bl {μ : Store} {bs cs : List Bool} : eqB μ (.lst (blD bs)) (.lst (blD cs)) = some (decide (bs = cs)) := by
  have e1 : ∀ bs : List Bool, pyd μ (.lst (blD bs)) = some (.list (bs.map PyData.bool)) := fun bs => by
    show (pydL μ (blD bs)).map PyData.list = _
    rw [pydL_bl]; rfl
  show (match pyd μ (.lst (blD bs)), pyd μ (.lst (blD cs)) with
    | some p, some q => if SeqAt.shaped p && SeqAt.shaped q then some (PyData.eqv p q) else none
    | _, _ => none) = _
  rw [e1, e1]
  dsimp only
  rw [shaped_bl, shaped_bl]
  show some (PyData.eqvAll _ _) = _
  rw [eqv_bl]
theorem s_eqBl {μ : Store} {bs cs : List Bool} {Q : D → Store → Prop} (q : Q (.bl (decide (bs = cs))) μ) : (dEq (.lst (blD bs)) (.lst (blD cs)) μ).wp Q := by
  show (dB (eqB μ (.lst (blD bs)) (.lst (blD cs))) μ).wp Q
  rw [eqB_bl]
  exact q
theorem s_neBl {μ : Store} {bs cs : List Bool} {Q : D → Store → Prop} (q : Q (.bl (!decide (bs = cs))) μ) : (dNe (.lst (blD bs)) (.lst (blD cs)) μ).wp Q := by
  show (dB ((eqB μ (.lst (blD bs)) (.lst (blD cs))).map not) μ).wp Q
  rw [eqB_bl]
  exact q
end Rv
set_option Elab.async false
set_option linter.all false
set_option maxRecDepth 100000
/-! P7: special methods, loops unrolled, stores with a tail. -/
namespace Rv
open PySem PySem.Spec L2
open PyProof.Rows hiding St
section
variable {ρ : Env'} {μ μ' : Store} {Q : D → Store → Prop} {QB : Bool → Store → Prop} {QL : List D → Store → Prop} {N : Env' → Store → Prop} {T : D → Store → Prop} {F : Fn} {cl f : Str} {d d1 d2 x : D} {ns : List Str} {ds : List D} {k b : Bool} {m : M D} {g : TgM} {t : M Bool} {c : C}
theorem isC_of (e : asI μ d = some (cl, ns, ds)) : isC μ cl d = true := by
  show (match asI μ d with
    | some (c, _, _) => decide (c = cl)
    | none => false) = true
  rw [e]
  exact decide_eq_true rfl
theorem s_notN (e : (match d with | .non => false | _ => true) = k) (q : Q (.bl k) μ) : (dNotN d .non μ).wp Q := by
  have h : dNotN d .non μ = .ok (.bl k) μ := by rw [← e]; rfl
  rw [h]
  exact q
theorem s_isN (e : (match d with | .non => true | _ => false) = k) (q : Q (.bl k) μ) : (dIsN d .non μ).wp Q := by
  have h : dIsN d .non μ = .ok (.bl k) μ := by rw [← e]; rfl
  rw [h]
  exact q
theorem s_lenK {n : Int} (h : isC μ cl d = true) (e : F [d] μ = .ok (.int n) μ) (hn : 0 ≤ n ∧ n < 2 ^ 63) (q : Q (.int n) μ) : (fLenK cl F [d] μ).wp Q := by
  show (if isC μ cl d = true then (F [d] μ).only.bind fun r μ1 => (match r with
    | .int n => if 0 ≤ n ∧ n < 2 ^ 63 then Out.ok (D.int n) μ1 else .stuck
    | _ => .stuck) else .stuck).wp Q
  rw [if_pos h, e]
  show (if 0 ≤ n ∧ n < 2 ^ 63 then Out.ok (D.int n) μ else .stuck).wp Q
  rw [if_pos hn]
  exact q
theorem s_itemK (h : isC μ cl d1 = true) (q : (F [d1, d2] μ).wp Q) : (dItem cl F d1 d2 μ).wp Q := by
  show (if isC μ cl d1 = true then F [d1, d2] μ else .stuck).wp Q
  rw [if_pos h]
  exact q
theorem s_inK (h : isC μ cl d2 = true) (e : F [d2, d1] μ = .ok (.bl k) μ) (q : Q (.bl (b ^^ k)) μ) : (dInK b cl F d1 d2 μ).wp Q := by
  show (if isC μ cl d2 = true then blOut b (F [d2, d1] μ) else .stuck).wp Q
  rw [if_pos h, e]
  exact q
theorem s_eqK {ts : List Tg} (h1 : isC μ cl d1 = true) (h2 : tgIn μ cl ts d2 = true) (e : F [d1, d2] μ = .ok (.bl k) μ) (q : Q (.bl (b ^^ k)) μ) : (dEqK b cl ts F d1 d2 μ).wp Q := by
  show (if isC μ cl d1 = true ∧ tgIn μ cl ts d2 = true then blOut b (F [d1, d2] μ) else .stuck).wp Q
  rw [if_pos ⟨h1, h2⟩, e]
  exact q
theorem s_TK (h : (m ρ μ).wp fun d μ => isC μ cl d = true ∧ ∃ k, F [d] μ = .ok (.bl k) μ ∧ QB k μ) : (mTK cl F m ρ μ).wp QB := by
  show ((m ρ μ).bind fun d μ1 => if isC μ1 cl d = true then (F [d] μ1).only.bind outB else .stuck).wp QB
  rw [Out.wp_bind]
  refine Out.wp_mono h fun d μ q => ?_
  obtain ⟨h1, k, e, q⟩ := q
  rw [if_pos h1, e]
  exact q
theorem s_lcN (q : QL [] μ) : (lcGo none g t m ρ [] μ).wp QL := q
theorem s_lcC {ρ1 : Env'} (e : g d ρ = some ρ1) (h : (t ρ1 μ).wp fun k μ1 => if k = true then (m ρ1 μ1).wp fun y μ2 => (lcGo none g t m ρ ds μ2).wp fun ys μ3 => QL (y :: ys) μ3 else (lcGo none g t m ρ ds μ1).wp QL) : (lcGo none g t m ρ (d :: ds) μ).wp QL := by
  show (if lvOk none μ = true then (match g d ρ with
    | none => Out.stuck
    | some ρ1 => (t ρ1 μ).bind fun k μ1 => if k = true then (m ρ1 μ1).bind fun y μ2 => (lcGo none g t m ρ ds μ2).bind fun ys μ3 => .ok (y :: ys) μ3 else lcGo none g t m ρ ds μ1) else .stuck).wp QL
  rw [if_pos (show lvOk none μ = true from rfl), e]
  dsimp only
  rw [Out.wp_bind]
  refine Out.wp_mono h fun k μ1 q => ?_
  cases k with
  | true =>
    rw [if_pos rfl] at q ⊢
    rw [Out.wp_bind]
    refine Out.wp_mono q fun y μ2 q => ?_
    rw [Out.wp_bind]
    exact q
  | false =>
    rw [if_neg (by decide)] at q ⊢
    exact q
/-- the same where nothing is asked -/
theorem s_lcC1 {ρ1 : Env'} (e : g d ρ = some ρ1) (h : (m ρ1 μ).wp fun y μ2 => (lcGo none g (fun _ μ => .ok true μ) m ρ ds μ2).wp fun ys μ3 => QL (y :: ys) μ3) : (lcGo none g (fun _ μ => .ok true μ) m ρ (d :: ds) μ).wp QL :=
  s_lcC e (by
    show (if true = true then (m ρ1 μ).wp (fun y μ2 => (lcGo none g (fun _ μ => .ok true μ) m ρ ds μ2).wp fun ys μ3 => QL (y :: ys) μ3) else (lcGo none g (fun _ μ => .ok true μ) m ρ ds μ).wp QL)
    rw [if_pos rfl]
    exact h)
theorem s_forN (h : N ρ μ) : (forGo none g c [] ρ μ).wp N T := h
theorem s_forC {ρ1 : Env'} (e : g d ρ = some ρ1) (h : (c ρ1 μ).wpL (fun ρ μ => (forGo none g c ds ρ μ).wp N T) N T) : (forGo none g c (d :: ds) ρ μ).wp N T := by
  unfold forGo
  rw [if_pos (show lvOk none μ = true from rfl), e]
  dsimp only
  cases q : c ρ1 μ with
  | nx ρ2 μ2 => rw [q] at h; exact h
  | ct ρ2 μ2 => rw [q] at h; exact h
  | brk ρ2 μ2 => rw [q] at h; exact h
  | ret d μ2 => rw [q] at h; exact h
  | exc c ns ds ρ2 μ2 => rw [q] at h; exact h.elim
  | stuck => rw [q] at h; exact h.elim
theorem s_rng1' {n : Int} {QI : Lv × List D → Store → Prop} (e : -(2 ^ 62) ≤ n ∧ n < 2 ^ 62) (h : QI (none, (List.range n.toNat).map fun (i : Nat) => D.int (i : Nat)) μ) : (rng1 [.int n] μ).wp QI := by
  refine s_rngI e ?_
  have : rngD 0 n.toNat = (List.range n.toNat).map fun (i : Nat) => D.int (i : Nat) := by
    unfold rngD
    refine List.map_congr_left fun i _ => ?_
    rw [Int.zero_add]
  rw [this]
  exact h
/-! stores with a tail -/
theorem T_at {A L : Store} {n j : Nat} (h : A.length = n) : (A ++ L)[n + j]? = L[j]? := by
  subst h
  rw [List.getElem?_append_right (by omega), Nat.add_sub_cancel_left]
theorem T_set {A L : Store} {n j : Nat} {m : MO} (h : A.length = n) : (A ++ L).set (n + j) m = A ++ L.set j m := by
  subst h
  rw [List.set_append_right _ _ (by omega), Nat.add_sub_cancel_left]
theorem s_setAt {P : Store → Prop} {p : Nat} {ds : List D} {j : Int} (h : μ[p]? = some (.lst ds)) (h0 : 0 ≤ j) (h1 : j < ds.length) (q : P (μ.set p (.lst (ds.set j.toNat d)))) : ∃ μ3, dSet (.ref p) (.int j) d μ = some μ3 ∧ P μ3 := ⟨_, dSet_ref h h0 h1, q⟩
end
/-! zip as a range -/
theorem zip_range {α β : Type} {xs : List α} {ys : List β} (a : α) (b : β) (h : xs.length = ys.length) : xs.zip ys = (List.range xs.length).map fun i => (xs.getD i a, ys.getD i b) := by
  refine List.ext_getElem (by simp [h]) fun i h1 h2 => ?_
  simp only [List.length_zip, List.length_map, List.length_range] at h1 h2
  simp only [List.getElem_zip, List.getElem_map, List.getElem_range, List.getD_eq_getElem?_getD]
  rw [List.getElem?_eq_getElem (by omega), List.getElem?_eq_getElem (by omega)]
  rfl
theorem zip_fst {α β γ : Type} {xs : List α} {ys : List β} (f : α → γ) (h : xs.length = ys.length) : (xs.zip ys).map (fun p => f p.1) = xs.map f := by
  show (xs.zip ys).map (f ∘ Prod.fst) = _
  rw [← List.map_map, List.map_fst_zip (by omega)]
theorem zip_snd {α β γ : Type} {xs : List α} {ys : List β} (f : β → γ) (h : xs.length = ys.length) : (xs.zip ys).map (fun p => f p.2) = ys.map f := by
  show (xs.zip ys).map (f ∘ Prod.snd) = _
  rw [← List.map_map, List.map_snd_zip (by omega)]
theorem filt_range {α β γ : Type} {xs : List α} {ys : List β} (a : α) (b : β) (h : xs.length = ys.length) (p : β → Bool) (f : α → γ) :
    ((List.range xs.length).filter (fun i => p (ys.getD i b))).map (fun i => f (xs.getD i a)) = ((xs.zip ys).filter fun q => p q.2).map fun q => f q.1 := by
  rw [zip_range a b h, List.filter_map, List.map_map]
  rfl
theorem filt_zip_len {α β : Type} {xs : List α} {ys : List β} (h : xs.length = ys.length) (p : β → Bool) : ((xs.zip ys).filter fun q => p q.2).length = (ys.filter p).length := by
  have : ys = (xs.zip ys).map Prod.snd := (List.map_snd_zip (by omega)).symm
  conv => rhs; rw [this, List.filter_map, List.length_map]
  rfl
/-! bounds of what is shown -/
theorem rbL_le {k : Nat} : ∀ {ps : List PyData}, (∀ p ∈ ps, rb p ≤ k) → rbL ps ≤ (k + 2) * ps.length
  | [], _ => Nat.zero_le _
  | p :: ps, h => by
    have h1 := h p (List.mem_cons_self ..)
    have h2 := rbL_le (ps := ps) fun q hq => h q (List.mem_cons_of_mem _ hq)
    show rb p + 2 + rbL ps ≤ (k + 2) * (ps.length + 1)
    rw [Nat.mul_add, Nat.mul_one]
    omega
theorem rOkL_all : ∀ {ps : List PyData}, (∀ p ∈ ps, rOk p = true) → rOkL ps = true
  | [], _ => rfl
  | p :: ps, h => by
    show (rOk p && rOkL ps) = true
    rw [h p (List.mem_cons_self ..), rOkL_all (ps := ps) fun q hq => h q (List.mem_cons_of_mem _ hq)]
    rfl
theorem depthL_le {k : Nat} : ∀ {ps : List PyData}, (∀ p ∈ ps, p.depth ≤ k) → PyData.depthAll ps ≤ k
  | [], _ => Nat.zero_le _
  | p :: ps, h => by
    have h1 := h p (List.mem_cons_self ..)
    have h2 := depthL_le (ps := ps) fun q hq => h q (List.mem_cons_of_mem _ hq)
    show max p.depth (PyData.depthAll ps) ≤ k
    omega
theorem log_of {i : Int} (h : -(10 ^ 40) < i ∧ i < 10 ^ 40) : i.natAbs.log2 < 1920 := by
  have h1 : i.natAbs < 10 ^ 40 := by omega
  by_cases h0 : i.natAbs = 0
  · rw [h0]; decide
  · refine (Nat.log2_lt h0).mpr (Nat.lt_trans h1 ?_)
    exact Nat.lt_of_lt_of_le (show 10 ^ 40 < 2 ^ 200 by decide) (Nat.pow_le_pow_right (by decide) (by decide))
end Rv
set_option Elab.async false
set_option linter.all false
set_option maxRecDepth 100000
/-! P8: further steps. -/
namespace Rv
open PySem PySem.Spec L2
open PyProof.Rows hiding St
section
variable {ρ : Env'} {μ μ' : Store} {Q : D → Store → Prop} {QB : Bool → Store → Prop} {QL : List D → Store → Prop} {N : Env' → Store → Prop} {T : D → Store → Prop} {F : Fn} {cl f : Str} {d d1 d2 x : D} {ns : List Str} {ds : List D} {k b : Bool} {m n : M D} {g : TgM} {t : M Bool} {c : C}
theorem s_tgSubK (h : (m ρ μ).wp fun o μ => (n ρ μ).wp fun i μ => isC μ cl o = true ∧ (F [o, i, d] μ).wp fun _ μ => N ρ μ) : (tgSubK cl F m n d ρ μ).wp N T := by
  show ((m ρ μ).bindS ρ fun o μ1 => (n ρ μ1).bindS ρ fun i μ2 => if isC μ2 cl o = true then (F [o, i, d] μ2).bindS ρ fun _ μ3 => .nx ρ μ3 else .stuck).wp N T
  rw [Out.wp_bindS]
  refine Out.wp_mono h fun o μ q => ?_
  rw [Out.wp_bindS]
  refine Out.wp_mono q fun i μ q => ?_
  rw [if_pos q.1, Out.wp_bindS]
  exact q.2
theorem s_timesB (n : Nat) {i : Int} (e : i = n) (hn : n ≤ 1000) (q : Q (.lst (blD (List.replicate n b))) μ) : (dTimes (.lst [.bl b]) (.int i) μ).wp Q := by
  subst e
  have h : -(2 ^ 63) ≤ (n : Int) ∧ (n : Int) < 2 ^ 63 ∧ [D.bl b].length * (n : Int).toNat ≤ maxL := by
    refine ⟨by omega, by omega, ?_⟩
    simp only [List.length_cons, List.length_nil, Int.toNat_natCast]
    show _ ≤ 16777216
    omega
  have e1 : dTimes (.lst [.bl b]) (.int n) μ = .ok (.lst (repD (n : Int).toNat [D.bl b])) μ := by
    unfold dTimes asL
    exact if_pos h
  rw [e1]
  have e2 : repD (n : Int).toNat [D.bl b] = blD (List.replicate n b) := by
    rw [Int.toNat_natCast]
    unfold repD blD
    rw [List.flatten_replicate_singleton, List.map_replicate]
  rw [e2]
  exact q
theorem runF1_wp {n : Nat} (h : (c (begin n ds) μ).wp (fun _ _ => False) fun d μ' => ∃ k m, d = .ref k ∧ μ'[k]? = some m ∧ μ.length ≤ k ∧ kept μ.length μ μ' = true ∧ MO.low μ.length m = true ∧ Q (.ref μ.length) (μ'.take μ.length ++ [m])) : (runF1 n c ds μ).wp Q := by
  show (region1 μ (c (begin n ds) μ)).wp Q
  cases e : c (begin n ds) μ with
  | ret d μ' =>
    rw [e] at h
    obtain ⟨k, m, rfl, h1, h2, h3, h4, q⟩ := h
    show (match μ'[k]? with
      | some m => if (decide (μ.length ≤ k) && (kept μ.length μ μ' && MO.low μ.length m)) = true then Out.ok (D.ref μ.length) (μ'.take μ.length ++ [m]) else .stuck
      | none => .stuck).wp Q
    rw [h1]
    dsimp only
    rw [decide_eq_true h2, h3, h4]
    exact q
  | nx ρ μ' => rw [e] at h; exact h.elim
  | brk ρ μ' => rw [e] at h; exact h.elim
  | ct ρ μ' => rw [e] at h; exact h.elim
  | exc c ns ds ρ μ' => rw [e] at h; exact h.elim
  | stuck => rw [e] at h; exact h.elim
theorem s_lenC {zs : List Int} (h : Q (.int zs.length) μ) : (fLen [.scr zs] μ).wp Q := h
theorem s_min2 {i j : Int} (h : Q (.int (if j < i then j else i)) μ) : (fMin2 [.int i, .int j] μ).wp Q := h
theorem s_max2 {i j : Int} (h : Q (.int (if j > i then j else i)) μ) : (fMax2 [.int i, .int j] μ).wp Q := h
theorem s_abs {i : Int} (h : Q (.int (if i < 0 then -i else i)) μ) : (fAbs [.int i] μ).wp Q := h
theorem s_slC {zs : List Int} {lo hi : Option Int} (h : Q (.lst ((cutD zs lo hi).map D.int)) μ) : (dSl (.scr zs) lo hi μ).wp Q := h
theorem s_ixC {zs : List Int} {i k : Int} (e : atI zs i = some k) (h : Q (.int k) μ) : (dIx (.scr zs) (.int i) μ).wp Q := by
  show (match atI zs i with
      | some k => Out.ok (D.int k) μ
      | none => .stuck).wp Q
  rw [e]
  exact h
theorem eqU_non {rc : Str} {ts : List Tg} (h1 : isC μ cl d1 = true) (h2 : tgIn μ cl ts .non = true) : dEqU b cl rc ts F d1 .non μ = .ok (.bl b) μ := by
  unfold dEqU
  rw [if_pos ⟨h1, h2⟩]
theorem eqU_tup {rc : Str} {ts : List Tg} (h1 : isC μ cl d1 = true) (h2 : tgIn μ cl ts (.tup ds) = true) : dEqU b cl rc ts F d1 (.tup ds) μ = .ok (.bl b) μ := by
  unfold dEqU
  rw [if_pos ⟨h1, h2⟩]
theorem eqU_obj {rc : Str} {ts : List Tg} (h1 : isC μ cl d1 = true) (h2 : tgIn μ cl ts (.obj rc ns ds) = true) (e : F [.obj rc ns ds, d1] μ = .ok (.bl k) μ) : dEqU b cl rc ts F d1 (.obj rc ns ds) μ = .ok (.bl (b ^^ k)) μ := by
  unfold dEqU
  rw [if_pos ⟨h1, h2⟩]
  dsimp only
  rw [if_pos (show isC μ rc (.obj rc ns ds) = true from decide_eq_true rfl), e]
  rfl
theorem eqU_ref {rc : Str} {ts : List Tg} {i j : Nat} (h1 : isC μ cl (.ref i) = true) (h2 : tgIn μ cl ts (.ref j) = true) (h3 : isC μ rc (.ref j) = false) (h4 : i ≠ j) (h5 : isC μ cl (.ref j) = true) : dEqU b cl rc ts F (.ref i) (.ref j) μ = .ok (.bl b) μ := by
  unfold dEqU
  rw [if_pos ⟨h1, h2⟩]
  dsimp only
  rw [if_neg (by rw [h3]; decide), if_pos ⟨h4, h5⟩]
theorem tgIn_of {ts : List Tg} {t : Tg} (h : tgOf μ d = some t) (e : t = .c cl ∨ t ∈ ts) : tgIn μ cl ts d = true := by
  unfold tgIn
  rw [h]
  dsimp only
  rcases e with e | e
  · rw [decide_eq_true e]
    rfl
  · rw [decide_eq_true e, Bool.or_true]
/-! values worked out by themselves, one lemma an operation -/
variable {v e : D}
theorem v_ix (h : dIx d1 d2 μ = .ok v μ') (q : Q v μ') : (dIx d1 d2 μ).wp Q := s_ok h q
theorem v_isi {S : Isi} (h : fIsi S ds μ = .ok v μ') (q : Q v μ') : (fIsi S ds μ).wp Q := s_ok h q
theorem v_in (h : dIn d1 d2 μ = .ok v μ') (q : Q v μ') : (dIn d1 d2 μ).wp Q := s_ok h q
theorem v_nin (h : dNotIn d1 d2 μ = .ok v μ') (q : Q v μ') : (dNotIn d1 d2 μ).wp Q := s_ok h q
theorem v_isN (h : dIsN d1 d2 μ = .ok v μ') (q : Q v μ') : (dIsN d1 d2 μ).wp Q := s_ok h q
theorem v_notN (h : dNotN d1 d2 μ = .ok v μ') (q : Q v μ') : (dNotN d1 d2 μ).wp Q := s_ok h q
theorem v_tup (h : fTuple ds μ = .ok v μ') (q : Q v μ') : (fTuple ds μ).wp Q := s_ok h q
theorem v_fld (h : dFld cl f d μ = .ok v μ') (q : Q v μ') : (dFld cl f d μ).wp Q := s_ok h q
theorem v_len (h : fLen ds μ = .ok v μ') (q : Q v μ') : (fLen ds μ).wp Q := s_ok h q
theorem le_maxL {n : Nat} (h : n ≤ 16777216) : n ≤ maxL := h
end
end Rv
set_option Elab.async false
set_option linter.all false
set_option maxRecDepth 100000
set_option maxHeartbeats 4000000
/-! Rv18: exceptions as values: classes of exceptions, their making, their fields, isinstance. -/
namespace PySem
namespace XV
open PySem.W PySem.HandSPX PySem.Calls PyProof.Rows Builtin Builtin.ObjectAttr

/-! ### type.__call__ with keywords on such a class -/
section
variable {M : Model} {A : Around} {E : Value → Shared → Prop} {h : Heap} {g : Array GenState} {d : Drawn} {t : Nat} {os : OsState}
variable {nm q : Str} {C N : Addr} {bs bm bmB : List Value} {hdct : Bool} {sn : List Str} {sub : List Value} {ab : Bool} {col : Option Bool} {dd : Option Addr} {k0 k1 k2 k3 k5 : Option Value} {B newId initId : String} {kw : List (Str × Value)}
theorem check_new_kw (F : ExcBaseFacts B newId initId bmB) (hT : ∀ X : String, bm.contains (.type X) = bmB.contains (.type X)) {rest : List Value} {Q : Unit → Shared → Prop}
    (hC : h.get? C = some (excClassObj nm q C N bs bm hdct sn sub ab col dd k0 k1 k2 k3 k5 newId)) (hq : Q () ⟨h, g, d, t, os⟩) : wpAny M A (checkBuiltinCall newId ⟨.ref C :: rest, kw⟩) Q E ⟨h, g, d, t, os⟩ := by
  have hcont : (Value.ref C :: bm).contains (.type B) = true := by rw [List.contains_cons, hT, F.hasB, Bool.or_true]
  have hstar := F.noStar
  simp only [checkBuiltinCall, F.newKind, F.newSplit, F.newRow]
  repeat (first | refine wpAny_loadPart_at hC ?_ | (refine wpAny_isSubtype_exc hC ?_; rw [hcont]) | refine wpAny_staticBase_exc hC ?_ | refine wpAny_madeBy_exc hC ?_ | simp only [bne_self_eq_false, Bool.false_eq_true, if_false] | wp_step)
  exact hq
end
section
variable {prog : Program} {w : World} {A : Around} {E : Value → Shared → Prop} {R : Result → Shared → Prop} {h : Heap} {g : Array GenState} {d : Drawn} {t : Nat} {os : OsState}
variable {nm q : Str} {C N : Addr} {bs bm bmB : List Value} {hdct : Bool} {sn : List Str} {sub : List Value} {ab : Bool} {col : Option Bool} {dd : Option Addr} {k0 k1 k2 k3 k5 : Option Value} {B newId initId : String} {kw : List (Str × Value)}
theorem new_kw (F : ExcBaseFacts B newId initId bmB) (hT : ∀ X : String, bm.contains (.type X) = bmB.contains (.type X)) {rest : List Value}
    (hC : h.get? C = some (excClassObj nm q C N bs bm hdct sn sub ab col dd k0 k1 k2 k3 k5 newId))
    (hq : R (.ok (.ret (.ref (h.objs.size + 1)))) ⟨(h.push { cls := .type "tuple", data := .seq rest.toArray }).push
      { cls := .ref C, data := .fields #[.ref h.objs.size, .none, .none, .none, .bool false, .none] }, g, d, t, os⟩) (hrest : rest.length ≤ sizeLine) :
    codeAny (model prog w) A (.builtin newId ⟨.ref C :: rest, kw⟩) R ⟨h, g, d, t, os⟩ := by
  have hends := F.ends
  have hcB : (Value.ref C :: bm).contains (.type B) = true := by rw [List.contains_cons, hT, F.hasB, Bool.or_true]
  have hcA : (Value.ref C :: bm).contains (.type "AttributeError") = false := by rw [List.contains_cons, hT, F.noAttr]; rfl
  have hcN : (Value.ref C :: bm).contains (.type "NameError") = false := by rw [List.contains_cons, hT, F.noName]; rfl
  refine codeAny_builtinAt F.entry ?_
  unfold Builtin.«BaseException.__new__»
  refine wpAt_bind ?_
  show wpAt _ _ _ (stack >>= _) _ _ _
  refine wpAt_bind (wpAt_stack fun p below => wpAt_of_wpAny ?_)
  wp_walk
  refine wpAt_of_wpAny ?_
  rw [F.owner]
  repeat (first | with_reducible refine wpAny_madeHere_exc F.canon hC ?_ | with_reducible refine wpAny_loadPart_at hC ?_ | (with_reducible refine wpAny_isSubtype_exc hC ?_; first | rw [hcB] | rw [hcA] | rw [hcN]) | wp_step)
  show R _ _
  rw [Heap.size_push]
  exact hq
theorem type_call_kw (F : ExcBaseFacts B newId initId bmB) (hT : ∀ X : String, bm.contains (.type X) = bmB.contains (.type X)) {rest : List Value} {fI : Addr} {Q : Fin → Shared → Prop}
    (hC : h.get? C = some (excClassObj nm q C N bs bm hdct sn sub ab col dd k0 k1 k2 k3 k5 newId))
    (hi : W.Looks (model prog w) h (typeLookup (.ref C) "__init__") (some (.ref fI))) (hb : ∀ self, W.Looks (model prog w) h (bindSpecial (.ref fI) self) (.ref fI, [self])) (hrest : rest.length ≤ sizeLine)
    (hq : codeAny (model prog w) A (.call (.ref fI) ⟨.ref (h.objs.size + 1) :: rest, kw⟩)
      (fun r s' => match r with | .ok (.ret v) => v = .none ∧ Q (.done (.ret (.ref (h.objs.size + 1)))) s' | .ok _ => False | .error e => E e s')
      ⟨(h.push (W.kdv_tup rest)).push (excO C h.objs.size), g, d, t, os⟩) :
    wpAny (model prog w) A (Builtin.«type.__call__» ⟨.ref C :: rest, kw⟩) Q E ⟨h, g, d, t, os⟩ := by
  repeat (first | with_reducible refine wpAny_loadPart_at hC ?_ | with_reducible refine wpAny_madeBy_exc hC ?_ | wp_step)
  refine codeAny_call_builtin_code (Code.quiet_builtin _ F.quiet) (check_new_kw F hT hC ?_)
  refine new_kw F hT hC ?_ hrest
  show wpAny _ _ _ _ _ _
  have k : ∀ b o, h.get? b = some o → ((h.push (W.kdv_tup rest)).push (excO C h.objs.size)).get? b = some o := fun b o e => Heap.get?_push_of_some _ (Heap.get?_push_of_some _ e)
  have hC₁ := k _ _ hC
  have hget : ((h.push (W.kdv_tup rest)).push (excO C h.objs.size)).get? (h.objs.size + 1) = some (excO C h.objs.size) := by heap_get
  have hcC : (Value.ref C :: bm).contains (.ref C) = true := by simp
  have i1 := hi.keeps k
  have b1 := (hb (.ref (h.objs.size + 1))).keeps k
  unfold isInstance
  repeat (first | with_reducible refine wpAny_loadPart_at hget ?_ | (with_reducible refine wpAny_isSubtype_exc hC₁ ?_; rw [hcC]) | wp_step)
  show wpAny _ _ (typeLookup (.ref C) _) _ _ _
  refine i1.at ?_
  refine wpAny_holding (wpAny_bind (b1.at ?_))
  refine wpAny_bind (wpAny_call (codeAny_mono hq fun r s' z => ?_))
  rcases r with e | (v | _ | _ | _) <;> first | exact z | exact z.elim | skip
  obtain ⟨rfl, z⟩ := z
  first
    | exact wpAny_pure (wpAny_pure z)
    | (wp_walk; exact z)
theorem call_kw (F : ExcBaseFacts B newId initId bmB) (hT : ∀ X : String, bm.contains (.type X) = bmB.contains (.type X)) {rest : List Value} {fI : Addr}
    (hC : h.get? C = some (excClassObj nm q C N bs bm hdct sn sub ab col dd k0 k1 k2 k3 k5 newId))
    (hi : W.Looks (model prog w) h (typeLookup (.ref C) "__init__") (some (.ref fI))) (hb : ∀ self, W.Looks (model prog w) h (bindSpecial (.ref fI) self) (.ref fI, [self])) (hrest : rest.length ≤ sizeLine)
    (hq : codeAny (model prog w) (A.under (.builtin "type.__call__" ⟨.ref C :: rest, kw⟩)) (.call (.ref fI) ⟨.ref (h.objs.size + 1) :: rest, kw⟩) (W.InitBack (h.objs.size + 1) R)
      ⟨(h.push (W.kdv_tup rest)).push (excO C h.objs.size), g, d, t, os⟩) :
    codeAny (model prog w) A (.call (.ref C) ⟨rest, kw⟩) R ⟨h, g, d, t, os⟩ := by
  have f1 := tc_lookup
  have f2 := tc_bind (.ref C)
  have hTy : (⟨h, g, d, t, os⟩ : Shared).TypeIs (.ref C) "type" := ⟨_, hC, rfl⟩
  refine codeAny_of_tree ?_
  show wpAny _ _ (callAny (.ref C) _) _ _ _
  repeat (any_goals (first | assumption | with_reducible refine wpAny_loadPart_at hC ?_ | wp_step))
  refine ⟨rfl, ?_⟩
  refine codeAny_call_builtin_at (Code.quiet_builtin _ (by decide +kernel)) entry_typeCall (wpAny_check_type_call_sub hC (type_call_kw F hT hC hi hb hrest ?_))
  refine codeAny_mono hq fun r s' z => ?_
  rcases r with e | (v | _ | _ | _) <;> exact z
end
/-! ### self.f = v, the first one -/
theorem osa_first {prog : Program} {w : World} {A : Around} {R : Result → Shared → Prop} {hp : Heap} {g : Array GenState} {d : Drawn} {t : Nat} {os : OsState} {K : Frag} {x C t1 : Addr} {B : String} {bmB : List Value} {name : Str} {tk : Tok} {v : Value}
    (SF : StoreFacts B bmB "object.__setattr__" "object") (X : K.In hp) (hx : hp.get? x = some (excObj C t1 none .none)) (ho : excOver K C bmB = true) (hh : hasDictIn K C = true) (ha : findIn K (.ref C) name = some none)
    (hq : ∀ h' tk' dx, (∀ b o, b ≠ x → hp.get? b = some o → h'.get? b = some o) → hp.objs.size ≤ dx → dx ≠ x → h'.get? x = some (excObj C t1 (some dx) .none) →
      h'.Ns1 dx (fun y => if y = name then some v else none) → R (.ok (.ret .none)) ⟨h', g, d, tk', os⟩) :
    codeAny (model prog w) A (.call (.builtin "object.__setattr__") ⟨[.ref x, .str name tk, v], []⟩) R ⟨hp, g, d, t, os⟩ := by
  have hxs : x ≠ hp.objs.size := Nat.ne_of_lt (Heap.lt_size hx)
  have hxs' : hp.objs.size ≠ x := Ne.symm hxs
  have tk0 : takerIn K C name = some none := by unfold takerIn; rw [ha]; rfl
  refine osa_openX (s := ⟨hp, g, d, t, os⟩) (od := none) (r := none) SF X ⟨hx, rfl, rfl, trivial⟩ ho tk0 fun b => ?_
  obtain ⟨cd, hc, hd'⟩ := any_some hh
  refine wpAny_bind (wpAny_pure (wpAny_bind (instanceDict_exc hx (looks_clsIn X hc) hd' ?_)))
  show wpAny _ _ (storeInDict hp.objs.size (.str name tk) name v) _ _ _
  refine store_in_new ?_ fun h' tk' hn' hs => ?_
  · exact ⟨_, #[], _, (Heap.get?_update_ne _ _ _ _ hxs').trans (Heap.get?_push_at rfl rfl), rfl, fun e he => absurd he (by simp), fun _ => rfl⟩
  · have hx₁ : (hp.push (dictOf [] 0)).get? x = some (excObj C t1 none .none) := Heap.get?_push_of_some _ hx
    refine hq h' tk' hp.objs.size (fun b o hb ho => ?_) (Nat.le_refl _) hxs' ?_ hn'
    · exact (hs.2 b (Nat.ne_of_lt (Heap.lt_size ho))).trans ((Heap.get?_update_ne _ _ _ _ hb).trans (Heap.get?_push_of_some _ ho))
    · exact (hs.2 x hxs).trans (Heap.get?_update_self _ hx₁ rfl)
end XV
end PySem
set_option Elab.async false
set_option linter.all false
set_option maxRecDepth 100000
set_option maxHeartbeats 4000000
/-! Rv19: exceptions as values, over data. -/
namespace Rv
open PySem PySem.Spec L2
open PyProof.Rows hiding St

/-! ### the classes -/
/-- the built-in class below which an own class of exceptions stands -/
inductive ExB where
  | v | l | a
  deriving DecidableEq
def ExB.B : ExB → String
  | .v => "ValueError" | .l => "LookupError" | .a => "ArithmeticError"
def ExB.nw : ExB → String
  | .v => "ValueError.__new__" | .l => "LookupError.__new__" | .a => "ArithmeticError.__new__"
def ExB.ini : ExB → String
  | .v => "ValueError.__init__" | .l => "LookupError.__init__" | .a => "ArithmeticError.__init__"
def ExB.bm (b : ExB) : List Value := [.type b.B, .type "Exception", .type "BaseException", .type "object"]
theorem ExB.F : ∀ b : ExB, ExcBaseFacts b.B b.nw b.ini b.bm
  | .v => PySem.F.excBase_ValueError
  | .l => PySem.F.excBase_LookupError
  | .a => PySem.F.excBase_ArithmeticError
theorem ExB.SF : ∀ b : ExB, StoreFacts b.B b.bm "object.__setattr__" "object"
  | .v => PySem.F.store_ValueError
  | .l => PySem.F.store_LookupError
  | .a => PySem.F.store_ArithmeticError
structure ExCls (K : PySem.W.Frag) (C : Addr) (b : ExB) : Prop where
  init : PySem.W.excInitIn K C b.bm b.nw = true
  over : PySem.W.excOver K C b.bm = true
  sa : PySem.W.findIn K (.ref C) "__setattr__" = some (some (.builtin "object.__setattr__"))
  ga : PySem.W.findIn K (.ref C) "__getattribute__" = some (some (.builtin "BaseException.__getattribute__"))
  gg : PySem.W.findIn K (.ref C) "__getattr__" = some none
  sub : PySem.W.subIn K (.ref C) (.type "BaseException") = some true
  ty : PySem.W.typeIn K (.ref C) = some (.type "type")
  keep : PySem.W.keepIn K (.ref C) = true
  dct : PySem.W.hasDictIn K C = true
  ca : PySem.W.findIn K (.ref C) "__class__" = some (some (.builtin "object.__class__"))
  cn : PySem.W.specialIn K (.builtin "object.__class__") "__get__" = some (some (.builtin "getset_descriptor.__get__"))
  ct : PySem.W.takesIn K (.builtin "object.__class__") = some true
  mro : PySem.W.mroIn K C (.type "object") = some true
def exClsB (K : PySem.W.Frag) (C : Addr) (b : ExB) : Bool :=
  (PySem.W.excInitIn K C b.bm b.nw && PySem.W.excOver K C b.bm) && ((He.eqO (PySem.W.findIn K (.ref C) "__setattr__") (some (some (.builtin "object.__setattr__"))) && (He.eqO (PySem.W.findIn K (.ref C) "__getattribute__") (some (some (.builtin "BaseException.__getattribute__"))) &&
    He.eqO (PySem.W.findIn K (.ref C) "__getattr__") (some none))) && ((decide (PySem.W.subIn K (.ref C) (.type "BaseException") = some true) && decide (PySem.W.typeIn K (.ref C) = some (.type "type"))) && ((PySem.W.keepIn K (.ref C) && PySem.W.hasDictIn K C) &&
    ((He.eqO (PySem.W.findIn K (.ref C) "__class__") (some (some (.builtin "object.__class__"))) && He.eqO (PySem.W.specialIn K (.builtin "object.__class__") "__get__") (some (some (.builtin "getset_descriptor.__get__")))) &&
    (decide (PySem.W.takesIn K (.builtin "object.__class__") = some true) && decide (PySem.W.mroIn K C (.type "object") = some true))))))
theorem exClsB_ok {K : PySem.W.Frag} {C : Addr} {b : ExB} (h : exClsB K C b = true) : ExCls K C b := by
  obtain ⟨h1, h2⟩ := He.ba h
  obtain ⟨a1, a2⟩ := He.ba h1
  obtain ⟨h3, h4⟩ := He.ba h2
  obtain ⟨b1, b2⟩ := He.ba h3
  obtain ⟨b2, b3⟩ := He.ba b2
  obtain ⟨h5, h6⟩ := He.ba h4
  obtain ⟨c1, c2⟩ := He.ba h5
  obtain ⟨h7, h8⟩ := He.ba h6
  obtain ⟨d1, d2⟩ := He.ba h7
  obtain ⟨h9, h10⟩ := He.ba h8
  obtain ⟨e1, e2⟩ := He.ba h9
  obtain ⟨f1, f2⟩ := He.ba h10
  exact ⟨a1, a2, He.eqO_ok b1, He.eqO_ok b2, He.eqO_ok b3, of_decide_eq_true c1, of_decide_eq_true c2, d1, d2, He.eqO_ok e1, He.eqO_ok e2, of_decide_eq_true f1, of_decide_eq_true f2⟩

/-! ### self.f = y in an __init__ -/
section
variable {X : Cx} {pins : List (Addr × Obj)} {σ : L2.St} {H : Hp} {s : Shared} {a C dx : Addr} {b : ExB} {f : Str} {y : V} {u : Value} {Q : Unit → Shared → Prop} {E : Value → Shared → Prop} {A : Around}
theorem xst_new (T : ExCls X.K C b) (I : Inv X pins σ H s) (e : H a = some (exo a C none)) (hno : PySem.W.findIn X.K (.ref C) f = some none) (ry : RelV y u)
    (h : ∀ dx s', H dx = none → dx ≠ a → Inv X pins σ (upd (upd H dx (exd dx [(f, y)])) a (exo a C (some dx))) s' → Q () s') : wpAny (model X.prog X.w) A (setAttr (.ref a) f u) Q E s := by
  obtain ⟨t1, ho⟩ := exo_at I.hok e
  obtain ⟨hp, g, d, t, os⟩ := s
  refine PySem.W.set_plain I.kIn (ox := { cls := .ref C, dict := none, data := .fields #[.ref t1, .none, .none, .none, .bool false, .none] }) (od := none) ⟨ho, rfl, rfl, trivial⟩ T.sa ?_
  refine PySem.XV.osa_first b.SF I.kIn ho T.over T.dct hno (fun h' tk' dx k dn dne hx hn => ?_)
  have hnd : H dx = none := I.hok.fresh dn
  have nd : ∀ {b : Addr} {o : Obj}, hp.get? b = some o → b ≠ dx := fun {b o} q => Nat.ne_of_lt (Nat.lt_of_lt_of_le (Heap.lt_size q) dn)
  have na : ∀ {b : Addr}, H b = none → b ≠ a := fun {b} n z => by
    rw [z, e] at n
    cases n
  have Un1 : Un X.fs [] H (upd (upd H dx (exd dx [(f, y)])) a (exo a C (some dx))) hp h' := {
    keep := fun b o q n _ _ => k b o (na n) q
    slot := fun b o q n _ _ => ⟨o.slots, k b o (na n) q⟩
    free := fun b o q n _ => by rw [upd_ne (na n), upd_ne (nd q)]; exact n
    there := fun b o q _ => by
      by_cases hb : b = a
      · exact ⟨_, by rw [hb]; exact hx⟩
      · exact ⟨o, k b o hb q⟩
    tups := fun b xs q => by rw [upd_ne (at_ne e q exo_tup), upd_ne (ne_of_none q hnd)]; exact q
    frzs := fun b o v q => by rw [upd_ne (at_ne e q exo_frz), upd_ne (ne_of_none q hnd)]; exact q
    tbls := fun b ps q => ⟨#[], by rw [upd_ne (at_ne e q exo_tbl), upd_ne (ne_of_none q hnd), q]; simp⟩ }
  refine h dx _ hnd dne (I.un (t' := tk') Un1 fun b o q => ?_)
  by_cases hb : b = a
  · subst hb
    rw [upd_same] at q
    cases q
    exact exo_ok hx
  · rw [upd_ne hb] at q
    by_cases hd : b = dx
    · subst hd
      rw [upd_same] at q
      cases q
      exact exd_ok hn (relO_put (fs := []) ry fun g => True.intro)
    · rw [upd_ne hd] at q
      exact (I.hok b o q).stay (fun c v hc z => k c v (by
          rcases hc with hc | hc
          · rw [hc]
            exact hb
          · exact at_ne e hc exo_own) z)
        (fun c hc => by rw [upd_ne (at_ne e hc exo_own), upd_ne (ne_of_none hc hnd)]; exact hc) (fun c xs hc => by rw [upd_ne (at_ne e hc exo_tup), upd_ne (ne_of_none hc hnd)]; exact hc)
end
/-- the class at C may be given the field f by its own __init__ -/
def TakesF (K : PySem.W.Frag) (C : Addr) (f : Str) : Prop := (∃ b, ExCls K C b) ∧ PySem.W.findIn K (.ref C) f = some none
/-- the promise of def __init__(self, x): self.f = x -/
def spI1 (K : PySem.W.Frag) (f : Str) : Sp := fun vs H Q _ => ∃ a y C, vs = [.ref a, y] ∧ TakesF K C f ∧ H a = some (exo a C none) ∧ ∀ dx, H dx = none → dx ≠ a → Q .non (upd (upd H dx (exd dx [(f, y)])) a (exo a C (some dx)))
/-- .. of def __init__(self): pass -/
def spI0 : Sp := fun vs H Q _ => ∃ a, vs = [.ref a] ∧ Q .non H
section
variable {P : Program} {w : World} {K : PySem.W.Frag} {mg : Str → Option Value} {base : Heap} {CX : CXT} {k : Nat} {fI : Addr} {fd : FuncData} {qual f g : Str} {params : Arguments} {scope : Scope}
theorem init1 {p1 p2 p3 p4 : Pos} (FD : FunD K "__init__" qual params [.Assign [.Attribute (.Name "self" p1) f p2] (.Name g p3) p4] scope [] [] fI fd) (S : FnScope ["self", g] ["self", g] scope) (v1 : Vis scope "self") (v2 : Vis scope g)
    (d2 : (g == ("__debug__" : Str)) = false) (c2 : (g == ("__classdict__" : Str)) = false) : FnOk P w K mg base CX (k + 1) fI fd ["self", g] (spI1 K f) := by
  refine FD.ok S (fun vs H Q E h => ?_) fun cdv A outer s H vs Q E hr h => ?_
  · obtain ⟨a, y, C, rfl, _⟩ := h
    rfl
  obtain ⟨a, y, C, rfl, ⟨⟨b, T⟩, hno⟩, ea, q⟩ := h
  refine ⟨fun D σ H => σ[0]? = some (some (.ref a)) ∧ σ[1]? = some (some y) ∧ H a = some (exo a C none) ∧ ∀ dx, H dx = none → dx ≠ a → D.nx σ (upd (upd H dx (exd dx [(f, y)])) a (exo a C (some dx))), pss_one ⟨fun pins s σ H D I h => ?_⟩, rfl, rfl, ea, q⟩
  obtain ⟨h0, h1, ea, q⟩ := h
  refine plainObj_wpAny_Assign_Attribute (thn ((pe_var (X := cxOf CX P w K mg base ["self", g] qual scope fI cdv A outer _ _ E) (i := 1) (x := g) rfl v2 d2 c2).run pins s σ H (fun v H1 => v = y ∧ H1 = H) I ⟨y, h1, rfl, rfl⟩) fun v s1 z => ?_) (by rfl)
  obtain ⟨v', H1, I1, r1, rfl, rfl⟩ := z
  refine thn ((pe_var (X := cxOf CX P w K mg base ["self", g] qual scope fI cdv A outer _ _ E) (i := 0) (x := "self") rfl v1 (by decide) (by decide)).run pins s1 σ H1 (fun v H2 => v = .ref a ∧ H2 = H1) I1 ⟨_, h0, rfl, rfl⟩) fun u s2 z => ?_
  obtain ⟨x', H2, I2, r2, rfl, rfl⟩ := z
  obtain rfl : u = Value.ref a := r2
  exact xst_new T I2 ea hno r1 fun dx s' n ne J => ⟨σ, _, J, q dx n ne⟩
theorem init0 {p1 : Pos} (FD : FunD K "__init__" qual params [.Pass p1] scope [] [] fI fd) (S : FnScope ["self"] ["self"] scope) : FnOk P w K mg base CX (k + 1) fI fd ["self"] spI0 := by
  refine FD.ok S (fun vs H Q E h => ?_) fun cdv A outer s H vs Q E hr h => ?_
  · obtain ⟨a, rfl, _⟩ := h
    rfl
  obtain ⟨a, rfl, q⟩ := h
  exact ⟨_, pss_one ps_pass, q⟩
end
/-! ### an exception made -/
section
variable {X : Cx} {W : WX} {k : Nat} {c f g : Str} {b : ExB} {fI : Addr} {fd : FuncData}
def fExn (c f : Str) : Fn := fun ds μ => match ds with
  | [d] => .ok (.exn c [f] [d]) μ
  | _ => .stuck
def fExnK (c f : Str) : List D → List D → Store → Out D := fun ds es μ => match ds, es with
  | [], [d] => .ok (.exn c [f] [d]) μ
  | _, _ => .stuck
def fExn0 (c : Str) : Fn := fun ds μ => match ds with
  | [] => .ok (.exn c [] []) μ
  | _ => .stuck
theorem rp_exn {K : PySem.W.Frag} {π : List Addr} {μ : Store} {H : Hp} {a dx : Addr} {d : D} {v : V} (sm : SimM K π μ H) (ha : H a = none) (hd : H dx = none) (ne : dx ≠ a) (r : Rp K π H d v) :
    let H3 := upd (upd (upd H a (exo a (He.ga K c) none)) dx (exd dx [(f, v)])) a (exo a (He.ga K c) (some dx))
    SimM K π μ H3 ∧ Gr π H π H3 ∧ Rp K π H3 (.exn c [f] [d]) (.ref a) := by
  intro H3
  have k3 : ∀ q o, H q = some o → H3 q = some o := fun q o e => by
    have n1 : q ≠ a := ne_of_none e ha
    have n2 : q ≠ dx := ne_of_none e hd
    show upd (upd (upd H a _) dx _) a _ q = some o
    rw [upd_ne n1, upd_ne n2, upd_ne n1]
    exact e
  obtain ⟨s3, g3⟩ := sm.grow k3
  refine ⟨s3, g3, ?_⟩
  unfold Rp Rep
  refine ⟨a, some dx, [(f, v)], rfl, ?_, fun dx' e => ?_, (fun e => nomatch e), rfl, RepL.one (g3.rep r)⟩
  · rw [off_ne (sm.in_ ha)]
    exact upd_same
  · cases e
    rw [off_ne (sm.in_ hd)]
    show upd (upd (upd H a _) dx _) a _ dx = _
    rw [upd_ne ne, upd_same]
/-- how it is made: us, kw the arguments, u what the field becomes -/
theorem exn_q {pins : List (Addr × Obj)} {s : Shared} {us : List Value} {kw : List (Str × Value)} {u : Value} {v : V} {d : D} {π : List Addr} {μ : Store} {σ : L2.St} {H : Hp} {Q : VK} (T : ExCls X.K (He.ga X.K c) b) (hno : PySem.W.findIn X.K (.ref (He.ga X.K c)) f = some none)
    (iC : PySem.W.findIn X.K (.ref (He.ga X.K c)) "__init__" = some (some (.ref fI))) (tI : PySem.W.typeIn X.K (.ref fI) = some (.type "function"))
    (F1 : FnOk X.prog X.w X.K X.mg X.base (L2.CX X.prog X.w) k fI fd ["self", g] (spI1 X.K f)) (hr : RoomQ (k + 1) X.A) (tk : Takes X W) (I : Inv X pins σ H s) (hz : us.length ≤ 1000)
    (bd : ∀ (s : Shared) (a : Value), X.K.In s.heap → BindsTo s fd ⟨a :: us, kw⟩ ([("self" : Str), g].zip [a, u])) (rv : RelV v u) (sm : SimM X.K π μ H) (r : Rp X.K π H d v) (h : GE X W (Rp X.K) π σ H Q (.ok (.exn c [f] [d]) μ)) :
    codeAny (model X.prog X.w) X.A (.call (.ref (He.ga X.K c)) ⟨us, kw⟩) (RP X pins σ Q) s := by
  obtain ⟨nm, N, q, bs, bm, hd, sn, sub, ab, col, dd, k0, k1, k2, k3, k5, hC, hT⟩ := PySem.W.excInit_of I.kIn T.init
  obtain ⟨hp, gg, dr, tok, os⟩ := s
  have hsz : hp.objs.size ≤ hp.objs.size + 1 := Nat.le_succ _
  have hn : H (hp.objs.size + 1) = none := I.hok.fresh hsz
  have kk : ∀ b o, hp.get? b = some o → ((hp.push (PySem.W.kdv_tup us)).push (PySem.HandSPX.excO (He.ga X.K c) hp.objs.size)).get? b = some o := fun b o e => Heap.get?_push_of_some _ (Heap.get?_push_of_some _ e)
  have hget : ((hp.push (PySem.W.kdv_tup us)).push (PySem.HandSPX.excO (He.ga X.K c) hp.objs.size)).get? (hp.objs.size + 1) = some (PySem.HandSPX.excO (He.ga X.K c) hp.objs.size) := by heap_get
  have I2 : Inv X pins σ (upd H (hp.objs.size + 1) (exo (hp.objs.size + 1) (He.ga X.K c) none)) ⟨(hp.push (PySem.W.kdv_tup us)).push (PySem.HandSPX.excO (He.ga X.K c) hp.objs.size), gg, dr, tok, os⟩ :=
    I.laid (t' := tok) (a := hp.objs.size + 1) (o := exo (hp.objs.size + 1) (He.ga X.K c) none) (h' := (hp.push (PySem.W.kdv_tup us)).push (PySem.HandSPX.excO (He.ga X.K c) hp.objs.size)) kk hsz (exo_ok hget)
  have hus : us.length ≤ sizeLine := by rw [sizeLine_eq]; omega
  refine PySem.XV.call_kw b.F hT hC (PySem.W.looks_findIn I.kIn iC) (fun self => PySem.W.bind_fn I.kIn self tI) hus (codeAny_mono (F1.run _ X.stack _ _ ⟨Value.ref (hp.objs.size + 1) :: us, kw⟩ [Value.ref (hp.objs.size + 1), u] [.ref (hp.objs.size + 1), v]
    (fun v' H' => v' = .non ∧ Q (.ref (hp.objs.size + 1)) H') (fun c d H' => W c d σ H') (hr.make _ us kw).rm (I2.env0.make _ us kw) (bd _ _ I2.kIn) (Paired.cons (a := V.ref (hp.objs.size + 1)) rfl (.cons rv .nil)) ⟨_, _, _, rfl, ⟨⟨b, T⟩, hno⟩, upd_same, fun dx n ne => ?_⟩) fun r s' hq => ?_)
  · have hd : H dx = none := by
      rw [upd_ne ne] at n
      exact n
    obtain ⟨s3, g3, r3⟩ := rp_exn (c := c) (f := f) sm hn hd ne r
    exact ⟨rfl, h _ _ π g3 s3 r3⟩
  · have z := back_q (Q := fun v' H' => v' = .non ∧ Q (.ref (hp.objs.size + 1)) H') tk I2 hq
    cases r with
    | error e => exact z
    | ok fl => cases fl with
      | ret u =>
        obtain ⟨v', H', I3, rv', ev, q3⟩ := z
        subst ev
        exact ⟨rv', ⟨V.ref (hp.objs.size + 1), H', I3, rfl, q3⟩⟩
      | _ => exact z.elim
theorem callee_exn (T : ExCls X.K (He.ga X.K c) b) (hno : PySem.W.findIn X.K (.ref (He.ga X.K c)) f = some none) (iC : PySem.W.findIn X.K (.ref (He.ga X.K c)) "__init__" = some (some (.ref fI))) (tI : PySem.W.typeIn X.K (.ref fI) = some (.type "function"))
    (F1 : FnOk X.prog X.w X.K X.mg X.base (L2.CX X.prog X.w) k fI fd ["self", g] (spI1 X.K f)) (hr : RoomQ (k + 1) X.A) (tk : Takes X W) (bd : Binds X.K fd ["self", g] []) : Callee X W (.ref (He.ga X.K c)) (fExn c f) := by
  intro π μ σ H Q pins s us vs ds I rv sm rl h
  unfold fExn at h
  split at h
  · obtain ⟨v, rfl, r1⟩ := repL1 rl
    obtain ⟨u, rfl, ru⟩ := vals1 rv
    refine exn_q (u := u) T hno iC tI F1 hr tk I (by simp) (fun s a kin => ?_) ru sm r1 h
    exact bd s [a, u] kin rfl
  · exact h.elim
theorem callee_exnK (T : ExCls X.K (He.ga X.K c) b) (hno : PySem.W.findIn X.K (.ref (He.ga X.K c)) f = some none) (iC : PySem.W.findIn X.K (.ref (He.ga X.K c)) "__init__" = some (some (.ref fI))) (tI : PySem.W.typeIn X.K (.ref fI) = some (.type "function"))
    (F1 : FnOk X.prog X.w X.K X.mg X.base (L2.CX X.prog X.w) k fI fd ["self", g] (spI1 X.K f)) (hr : RoomQ (k + 1) X.A) (tk : Takes X W) (bd : BindsK X.K fd ["self", g] 1 [g] []) : CalleeK X W (.ref (He.ga X.K c)) [g] (fExnK c f) := by
  intro π μ σ H Q pins s us ws vs zs ds es I rv rz sm rl re h
  unfold fExnK at h
  split at h
  · have e0 : vs = [] := by
      have := rl.length
      exact List.length_eq_zero_iff.mp this
    subst e0
    have e1 : us = [] := by
      have := rv.length
      exact List.length_eq_zero_iff.mp this.symm
    subst e1
    obtain ⟨v, rfl, r1⟩ := repL1 re
    obtain ⟨u, rfl, ru⟩ := vals1 rz
    refine exn_q (u := u) T hno iC tI F1 hr tk I (by simp) (fun s a kin => ?_) ru sm r1 h
    exact bd s [a] [u] kin rfl rfl
  · exact h.elim
theorem callee_exn0 (T : ExCls X.K (He.ga X.K c) b) (iC : PySem.W.findIn X.K (.ref (He.ga X.K c)) "__init__" = some (some (.ref fI))) (tI : PySem.W.typeIn X.K (.ref fI) = some (.type "function"))
    (F1 : FnOk X.prog X.w X.K X.mg X.base (L2.CX X.prog X.w) k fI fd ["self"] spI0) (hr : RoomQ (k + 1) X.A) (tk : Takes X W) (bd : Binds X.K fd ["self"] []) : Callee X W (.ref (He.ga X.K c)) (fExn0 c) := by
  intro π μ σ H Q pins s us vs ds I rv sm rl h
  unfold fExn0 at h
  split at h
  · have e0 : vs = [] := by
      have := rl.length
      exact List.length_eq_zero_iff.mp this
    subst e0
    have e1 : us = [] := by
      have := rv.length
      exact List.length_eq_zero_iff.mp this.symm
    subst e1
    obtain ⟨nm, N, q, bs, bm, hd, sn, sub, ab, col, dd, k0, k1, k2, k3, k5, hC, hT⟩ := PySem.W.excInit_of I.kIn T.init
    obtain ⟨hp, gg, dr, tok, os⟩ := s
    have hsz : hp.objs.size ≤ hp.objs.size + 1 := Nat.le_succ _
    have hn : H (hp.objs.size + 1) = none := I.hok.fresh hsz
    have kk : ∀ b o, hp.get? b = some o → ((hp.push (PySem.W.kdv_tup [])).push (PySem.HandSPX.excO (He.ga X.K c) hp.objs.size)).get? b = some o := fun b o e => Heap.get?_push_of_some _ (Heap.get?_push_of_some _ e)
    have hget : ((hp.push (PySem.W.kdv_tup [])).push (PySem.HandSPX.excO (He.ga X.K c) hp.objs.size)).get? (hp.objs.size + 1) = some (PySem.HandSPX.excO (He.ga X.K c) hp.objs.size) := by heap_get
    have I2 : Inv X pins σ (upd H (hp.objs.size + 1) (exo (hp.objs.size + 1) (He.ga X.K c) none)) ⟨(hp.push (PySem.W.kdv_tup [])).push (PySem.HandSPX.excO (He.ga X.K c) hp.objs.size), gg, dr, tok, os⟩ :=
      I.laid (t' := tok) (a := hp.objs.size + 1) (o := exo (hp.objs.size + 1) (He.ga X.K c) none) (h' := (hp.push (PySem.W.kdv_tup [])).push (PySem.HandSPX.excO (He.ga X.K c) hp.objs.size)) kk hsz (exo_ok hget)
    refine PySem.XV.call_kw b.F hT hC (PySem.W.looks_findIn I.kIn iC) (fun self => PySem.W.bind_fn I.kIn self tI) (by simp) (codeAny_mono (F1.run _ X.stack _ _ ⟨[Value.ref (hp.objs.size + 1)], []⟩ [Value.ref (hp.objs.size + 1)] [.ref (hp.objs.size + 1)]
      (fun v' H' => v' = .non ∧ Q (.ref (hp.objs.size + 1)) H') (fun c d H' => W c d σ H') (hr.make _ [] []).rm (I2.env0.make _ [] []) (bd _ _ I2.kIn rfl) (Paired.cons (a := V.ref (hp.objs.size + 1)) rfl .nil) ⟨_, rfl, rfl, ?_⟩) fun r s' hq => ?_)
    · refine h _ _ π (Gr.new hn) (sm.new hn) ?_
      unfold Rp Rep
      refine ⟨_, none, [], rfl, ?_, (fun dx e => nomatch e), fun _ => rfl, rfl, RepL.nil⟩
      rw [off_ne (sm.in_ hn)]
      exact upd_same
    · have z := back_q (Q := fun v' H' => v' = .non ∧ Q (.ref (hp.objs.size + 1)) H') tk I2 hq
      cases r with
      | error e => exact z
      | ok fl => cases fl with
        | ret u =>
          obtain ⟨v', H', I3, rv', ev, q3⟩ := z
          subst ev
          exact ⟨rv', ⟨V.ref (hp.objs.size + 1), H', I3, rfl, q3⟩⟩
        | _ => exact z.elim
  · exact h.elim
end
/-! ### a field read, isinstance -/
abbrev Exs := List (Str × ExB)
def Exs.ok (K : PySem.W.Frag) (S : Exs) : Bool := S.all fun p => exClsB K (He.ga K p.1) p.2
theorem Exs.at {K : PySem.W.Frag} {S : Exs} {c : Str} (h : S.ok K = true) (m : c ∈ S.map (·.1)) : ∃ b, ExCls K (He.ga K c) b := by
  obtain ⟨p, hp, rfl⟩ := List.mem_map.mp m
  exact ⟨_, exClsB_ok (List.all_eq_true.mp h p hp)⟩
/-- no class of these has f of its own -/
def Exs.noF (K : PySem.W.Frag) (S : Exs) (f : Str) : Bool := S.all fun p => He.eqO (PySem.W.findIn K (.ref (He.ga K p.1)) f) (some none)
def dXf (S : Exs) (f : Str) (d : D) (μ : Store) : Out D := match d with
  | .exn c ns ds => if c ∈ S.map (·.1) then (match fget f ns ds with
    | some x => .ok x μ
    | none => .stuck) else .stuck
  | _ => .stuck
theorem fget_look {K : PySem.W.Frag} {H : Hp} {π : List Addr} {f : Str} {x : D} : ∀ {fs : List (Str × V)} {ds : List D}, RepL K H π ds (fs.map (·.2)) → fget f (fs.map (·.1)) ds = some x → ∃ v, fs.lookup f = some v ∧ Rep K H π x v
  | [], ds, r, h => by
    cases ds <;> simp [fget] at h
  | (n, v) :: fs, [], r, h => by simp [fget] at h
  | (n, v) :: fs, d :: ds, r, h => by
    obtain ⟨v', r', e, h1, h2⟩ := RepL.uncons r
    cases e
    simp only [List.map_cons, fget] at h
    by_cases e : f = n
    · rw [if_pos e] at h
      cases h
      subst e
      exact ⟨v, by simp [List.lookup], h1⟩
    · rw [if_neg e] at h
      obtain ⟨u, e1, e2⟩ := fget_look h2 h
      refine ⟨u, ?_, e2⟩
      have : (f == n) = false := beq_eq_false_iff_ne.mpr e
      simp only [List.lookup, this]
      exact e1
section
variable {X : Cx} {W : WX} {e : Expr} {m : M D} {f : Str} {pos : Pos} {S : Exs}
theorem SE.xf (hS : S.ok X.K = true) (hno : S.noF X.K f = true) (he : SE X W e m) (hb : attributeBase e f X.env (eval e X.env) = eval e X.env := by rfl) : SE X W (.Attribute e f pos) (Rv.m1 (dXf S f) m) := by
  intro π ρ μ σ H Q sm sl h pins s I
  refine attr_of hb (thn (he π ρ μ σ H (fun v H1 => ∀ pins s u, Inv X pins σ H1 s → RelV v u → wpAny (model X.prog X.w) X.A (getAttr u f true) (EP X pins σ Q) X.xe s) sm sl (GE.bind h fun d μ1 v H1 π1 e1 g1 s1 r1 h1 pins s u I1 ru => ?_) pins s I) fun u s1 z => ?_)
  · unfold dXf at h1
    split at h1
    · rename_i c ns ds
      by_cases hc : c ∈ S.map (·.1)
      · rw [if_pos hc] at h1
        split at h1
        · rename_i x ef
          obtain ⟨b, T⟩ := Exs.at hS hc
          obtain ⟨p, hp, ec⟩ := List.mem_map.mp hc
          have hn := He.eqO_ok (List.all_eq_true.mp hno p hp)
          rw [ec] at hn
          unfold Rp Rep at r1
          obtain ⟨a, d, fs, rfl, k2, k3, k4, rfl, k6⟩ := r1
          obtain rfl : u = Value.ref a := ru
          obtain ⟨v, l, rx⟩ := fget_look k6 ef
          cases d with
          | none => rw [k4 rfl] at l; simp at l
          | some dx =>
            have hx := k3 dx rfl
            obtain ⟨t0, ho⟩ := exo_at I1.hok (off_some k2).2
            obtain ⟨mA, hns, hr⟩ := exd_at I1.hok (off_some hx).2
            obtain ⟨od, hod, hl⟩ := lookIn_ns (hns : s.heap.Ns1 dx mA)
            obtain ⟨w, hw, rw'⟩ := RelO.some_of (v := v) (o := mA f) (by rw [← l]; exact hr f)
            have J : PySem.W.InstAt s.heap a { cls := .ref (He.ga X.K c), dict := some dx, data := .fields #[.ref t0, .none, .none, .none, .bool false, .none] } (He.ga X.K c) (some od) := ⟨ho, rfl, rfl, hod⟩
            exact HandSPX.exc_get I1.kIn J T.ga T.gg T.sub (PySem.W.findObj_own T.dct hn rfl (by rw [hl, hw])) (handed_of rw') ⟨v, H1, I1.tok _, rw', h1 v H1 π1 Gr.refl s1 rx⟩
        · exact h1.elim
      · rw [if_neg hc] at h1; exact h1.elim
    · exact h1.elim
  · obtain ⟨v, H1, I1, ru, q⟩ := z
    exact q pins s1 u I1 ru
end
/-- isinstance of exceptions: what each class stands under, of all that is asked -/
structure IsE where
  exs : Exs
  ask : List Tg
  anc : List (Str × List Tg)
def IsE.of (S : IsE) (c : Str) : List Tg := (S.anc.lookup c).getD []
def IsE.ok (K : PySem.W.Frag) (S : IsE) : Bool := S.exs.ok K && S.exs.all fun p => S.ask.all fun u => decide (PySem.W.kitOne K (.ref (He.ga K p.1)) (tgV K u) = some (decide (u ∈ S.of p.1)))
def fIsiE (S : IsE) (T : Isi) : Fn := fun ds μ => match ds with
  | [.exn c _ _, u] => (match tgC u with
    | some t => if c ∈ S.exs.map (·.1) ∧ t ∈ S.ask then .ok (.bl (decide (t ∈ S.of c))) μ else .stuck
    | none => .stuck)
  | ds => fIsi T ds μ
theorem kitE {K : PySem.W.Frag} {b : ExB} {x D : Addr} {ox : Obj} {od : Option Obj} (T : ExCls K D b) : PySem.W.KitX K (.ref x) (.ref D) (fun h => PySem.W.InstAt h x ox D od) where
  ty := fun _ _ _ I => I.type
  it := fun _ _ X _ => by
    obtain ⟨cdD, hcD, _⟩ := PySem.W.any_some T.dct
    unfold PySem.W.clsIn at hcD
    split at hcD
    · rename_i c' d' cd' sl' ho
      intro A' Q' E' s' k q
      unfold isType loadHead
      exact wpAny_bind (wpAny_loadPart (k _ _ (X _ _ ho)) (wpAny_pure q))
    · cases hcD
  ne := fun h tp dd its n sl X htp => by
    obtain ⟨cdD, hcD, _⟩ := PySem.W.any_some T.dct
    refine Bool.eq_false_iff.mpr fun q => ?_
    have e : D = tp := Value.ref.inj (beq_iff_eq.mp q)
    subst e
    unfold PySem.W.clsIn at hcD
    split at hcD
    · rename_i c' d' cd' sl' ho
      have z := (X _ _ ho).symm.trans htp
      cases z
    · cases hcD
  ca := fun X I k => PySem.W.kx_classE X I T.ga T.gg T.sub (PySem.W.findObj_dataE (by obtain ⟨cd, hc, _⟩ := PySem.W.any_some T.dct; rw [hc]; rfl) T.ca T.cn T.ct) T.mro k
theorem cd_isiE {X : Cx} {W : WX} {S : IsE} {T : Isi} (hS : S.ok X.K = true) (h : T.ok X.K = true) : CallD X W (.builtin "isinstance") (fIsiE S T) := by
  intro π μ σ H Q ds vs sm rl g σ' pins s us I rv
  by_cases hd : ∃ c ns es u, ds = [.exn c ns es, u]
  · obtain ⟨c, ns, es, u, rfl⟩ := hd
    obtain ⟨d, μ', e, q⟩ := GE.only g
    simp only [fIsiE] at e
    split at e
    · rename_i t et
      by_cases hc : c ∈ S.exs.map (·.1) ∧ t ∈ S.ask
      · rw [if_pos hc] at e
        cases e
        obtain ⟨h1, h2⟩ := He.ba hS
        obtain ⟨b, TC⟩ := Exs.at h1 hc.1
        obtain ⟨p, hp, ep⟩ := List.mem_map.mp hc.1
        have kk := of_decide_eq_true (List.all_eq_true.mp (List.all_eq_true.mp h2 p hp) t hc.2)
        rw [ep] at kk
        obtain ⟨v, w, rfl, r1, r2⟩ := repL2 rl
        obtain ⟨u1, u2, rfl, ru1, ru2⟩ := vals2 rv
        unfold Rep at r1
        obtain ⟨a, d, fs, rfl, k2, k3, k4, rfl, k6⟩ := r1
        obtain rfl : u1 = Value.ref a := ru1
        obtain ⟨t0, ho⟩ := exo_at I.hok (off_some k2).2
        have hc2 : u2 = tgV X.K t := by
          cases u with
          | cls c => cases et; unfold Rep at r2; subst r2; exact ru2
          | ty n => cases et; unfold Rep at r2; subst r2; exact ru2
          | _ => cases et
        subst hc2
        have J : ∃ od, PySem.W.InstAt s.heap a { cls := .ref (He.ga X.K c), dict := d, data := .fields #[.ref t0, .none, .none, .none, .bool false, .none] } (He.ga X.K c) od := by
          cases d with
          | none => exact ⟨none, ho, rfl, rfl, trivial⟩
          | some dx =>
            obtain ⟨mA, hns, hr⟩ := exd_at I.hok (off_some (k3 dx rfl)).2
            obtain ⟨od, hod, hl⟩ := lookIn_ns (hns : s.heap.Ns1 dx mA)
            exact ⟨some od, ho, rfl, rfl, hod⟩
        obtain ⟨od, J⟩ := J
        exact PySem.W.kia_one (kitE TC) I.kIn J kk (fun z => nomatch z) fun tk => ⟨.bl _, H, I.kept (t' := tk) fun _ _ z => z, rfl, q _ H π Gr.refl sm rfl⟩
      · rw [if_neg hc] at e; cases e
    · cases e
  · have e : fIsiE S T ds μ = fIsi T ds μ := by
      unfold fIsiE
      split
      · exact absurd ⟨_, _, _, _, rfl⟩ hd
      · rfl
    rw [e] at g
    exact cd_isi h π μ σ H Q ds vs sm rl g σ' pins s us I rv
end Rv
set_option Elab.async false
set_option linter.all false
set_option maxRecDepth 100000
set_option maxHeartbeats 4000000
/-! Rv20: a dict of one pair, text * int, repr of any data. -/
namespace Rv
open PySem PySem.Spec L2
open PyProof.Rows hiding St

/-! ### {k: v} -/
def keyD : D → Option Dk
  | .int i => some (.int i)
  | .str s => some (.str s)
  | _ => none
def mDict1 (mk mv : M D) : M D := fun ρ μ => match mk ρ (μ ++ [.dct [] []]) with
  | .ok k μ1 => (match mv ρ μ1 with
    | .ok v μ2 => (match keyD k with
      | some k => if μ2 = μ ++ [.dct [] []] ∧ D.low μ.length v = true then .ok (.dct [k] [v]) μ else .stuck
      | none => .stuck)
    | _ => .stuck)
  | _ => .stuck
section
variable {X : Cx} {W : WX} {ek ev : Expr} {mk mv : M D} {pos : Pos}
theorem SE.dict1 (hk : SE X W ek mk) (hv : SE X W ev mv) : SE X W (.Dict [some ek] [ev] pos) (mDict1 mk mv) := by
  intro π ρ μ σ H Q sm sl h
  refine WE.of (pe_disp (pps_cons pe_we pe_we pps_nil) rfl rfl (by simp) (by simp)) fun p hp => ?_
  show WE X ek σ (upd H p (.dK [])) fun x H1 => WE X ev σ H1 fun y H2 => _
  have hp0 : p ∉ π := sm.in_ hp
  obtain ⟨s0, g0⟩ := sm.push (m := .dct [] []) (o := .dK []) hp ⟨[], rfl, rfl, RepL.nil⟩
  unfold mDict1 at h
  cases q1 : mk ρ (μ ++ [.dct [] []]) with
  | ok d1 μ1 =>
    rw [q1] at h
    dsimp only at h
    cases q2 : mv ρ μ1 with
    | ok d2 μ2 =>
      rw [q2] at h
      dsimp only at h
      cases ek' : keyD d1 with
      | none => rw [ek'] at h; exact h.elim
      | some k =>
        rw [ek'] at h
        dsimp only at h
        by_cases hc : μ2 = μ ++ [.dct [] []] ∧ D.low μ.length d2 = true
        · rw [if_pos hc] at h
          obtain ⟨rfl, hlow⟩ := hc
          refine hk _ ρ _ σ _ _ s0 (g0.loc sl) ?_
          rw [q1]
          intro x H1 π1 g1 s1 r1
          refine hv π1 ρ μ1 σ H1 _ s1 (g1.loc (g0.loc sl)) ?_
          rw [q2]
          intro y H2 π2 g2 s2 r2
          have g02 := g0.trans (g1.trans g2)
          obtain ⟨t, ht⟩ := (g1.trans g2).pre
          have e2 : π2 = π ++ [p] := by
            have l1 := s2.len
            have l2 := sm.len
            rw [ht] at l1
            simp only [List.length_append, List.length_cons, List.length_nil] at l1
            have : t = [] := List.length_eq_zero_iff.mp (by omega)
            rw [ht, this, List.append_nil]
          subst e2
          have k2 : H2 p = some (.dK []) := by
            obtain ⟨kvs, o1, o2, o3⟩ := s2.obj μ.length p (.dct [] []) (by rw [← sm.len]; simp) (by simp)
            have : kvs = [] := List.map_eq_nil_iff.mp o2
            rw [o1, this]
          have hx : x = kV (dk k) := by
            have r1 := g2.rep r1
            cases d1 <;> simp only [keyD] at ek' <;> first | cases ek' | skip
            · rw [rep_int r1]; rfl
            · rw [rep_str r1]; rfl
          refine ⟨k2, [(dk k, y)], by rw [hx]; rfl, by simp, ?_⟩
          have tk : (π ++ [p]).take μ.length = π := by rw [← sm.len, List.take_left]
          have up : ∀ b o, off (π ++ [p]) H2 b = some o → off π (upd H2 p (.dK [(dk k, y)])) b = some o := fun b o e => by
            obtain ⟨n1, n2⟩ := off_some e
            simp only [List.mem_append, List.mem_singleton, not_or] at n1
            rw [off_ne n1.1, upd_ne n1.2]
            exact n2
          refine h (.ref p) (upd H2 p (.dK [(dk k, y)])) π ⟨⟨[], by simp⟩, fun b o e => ?_⟩ ⟨sm.nd, sm.len, fun n a m h1 h2 => ?_⟩ ?_
          · exact up b o (g02.keep b o e)
          · have na : a ≠ p := fun e => hp0 (e ▸ List.mem_of_getElem? h1)
            have q := s2.obj n a m (by rw [List.getElem?_append_left (List.getElem?_eq_some_iff.mp h1).1]; exact h1) (by rw [List.getElem?_append_left (List.getElem?_eq_some_iff.mp h2).1]; exact h2)
            have hb : MO.low μ.length m = true := (sm.obj n a m h1 h2).low (Nat.le_of_eq sm.len)
            have q2 := q.take hb
            rw [tk] at q2
            rw [upd_ne na]
            exact q2.mono up fun _ _ h => h
          · unfold Rp Rep
            refine ⟨p, [(dk k, y)], rfl, by rw [off_ne hp0, upd_same], rfl, ?_⟩
            have q := Rep.take hlow r2
            rw [tk] at q
            exact RepL.one (q.mono up fun _ _ h => h)
        · rw [if_neg hc] at h; exact h.elim
    | exc c ns ds μ' => rw [q2] at h; exact h.elim
    | stuck => rw [q2] at h; exact h.elim
  | exc c ns ds μ' => rw [q1] at h; exact h.elim
  | stuck => rw [q1] at h; exact h.elim
end
/-! ### text * int -/
def dTimesS : D → D → Store → Out D := fun d1 d2 μ => match d1, d2 with
  | .str s, .int k => if 1 < k ∧ k < 1000 ∧ s.length < 1000 ∧ 0 < s.length then .ok (.str ((List.replicate k.toNat s).flatten)) μ else .stuck
  | _, _ => dTimes d1 d2 μ
theorem mul_flat (s : List Nat) : ∀ (n : Nat) (acc : Array Nat), ((List.replicate n s.toArray).foldl (· ++ ·) acc).toList = acc.toList ++ (List.replicate n s).flatten
  | 0, acc => by simp
  | n + 1, acc => by
    rw [List.replicate_succ, List.foldl_cons, mul_flat s n, List.replicate_succ, List.flatten_cons]
    simp
theorem opb_timesS {X : Cx} {W : WX} : OpB X W (binaryOp .Mult) dTimesS := by
  intro π μ σ H Q d1 d2 x y sm r1 r2 h
  unfold dTimesS at h
  split at h
  · rename_i s k
    by_cases hc : 1 < k ∧ k < 1000 ∧ s.length < 1000 ∧ 0 < s.length
    · rw [if_pos hc] at h
      cases rep_str r1
      cases rep_int r2
      obtain ⟨c1, c2, c3, c4⟩ := hc
      intro pins st v u I rv ru
      obtain ⟨t, rfl⟩ := rv
      obtain ⟨t2, rfl⟩ := ru
      have hm : Txt.mul (toS s) k = toS ((List.replicate k.toNat s).flatten) := by
        unfold Txt.mul
        rw [if_neg (by omega), if_neg (by intro e; simp only [Bool.or_eq_true, beq_iff_eq, toS_length] at e; omega)]
        refine TL.ext_tl ?_
        show ((List.replicate k.toNat s.toArray).foldl (· ++ ·) #[]).toList = (List.replicate k.toNat s).flatten
        rw [mul_flat]
        simp
      refine SB.mul ⟨?_, ?_, ?_⟩ fun t' k' => ?_
      · simp only [Bool.or_eq_false_iff, decide_eq_false_iff_not]
        omega
      · intro _ _
        rw [toS_length]
        have : (1000 : Int) ≤ (2 ^ 63 - 1) / k := (Int.le_ediv_iff_mul_le (by omega)).mpr (by omega)
        omega
      · intro _ _
        rw [toS_length]
        refine decide_eq_false ?_
        have h1 : s.length * k.toNat ≤ 1000 * 1000 := Nat.mul_le_mul (by omega) (by omega)
        have : sizeLine = 16777216 := sizeLine_eq
        omega
      · rw [hm]
        exact ⟨.str (toS ((List.replicate k.toNat s).flatten)), H, I.tok _, ⟨t', rfl⟩, h _ H π Gr.refl sm rfl⟩
    · rw [if_neg hc] at h; exact h.elim
  · exact opb_times π μ σ H Q _ _ x y sm r1 r2 h
/-! ### repr of any data -/
/-- the table of modules is a dict: no list stands there -/
def sysB (K : PySem.W.Frag) : Bool := match K.lookup sysModules with
  | some o => decide (o.cls = .type "dict")
  | none => false
theorem sys_list {K : PySem.W.Frag} {h : Heap} {a : Addr} {o : Obj} (hs : sysB K = true) (X : K.In h) (e : h.get? a = some o) (c : o.cls = .type "list") : a ≠ sysModules := fun z => by
  subst z
  unfold sysB at hs
  cases q : K.lookup sysModules with
  | none => rw [q] at hs; cases hs
  | some o2 =>
    rw [q] at hs
    have hs := of_decide_eq_true hs
    have e2 := X _ _ q
    rw [e] at e2
    cases e2
    rw [c] at hs
    exact absurd (Value.type.inj hs) (by decide)
def dkP : Dk → PyData
  | .int i => .int i
  | .str s => .str (toS s)
mutual
def pyx0 : D → Option PyData
  | .non => some .none
  | .bl b => some (.bool b)
  | .int i => some (.int i)
  | .str s => some (.str (toS s))
  | .tup ds => (pyx0L ds).map .tuple
  | .lst ds => (pyx0L ds).map .list
  | .dct ks ds => (pyx0L ds).map fun ps => .dict ((ks.map dkP).zip ps)
  | _ => none
def pyx0L : List D → Option (List PyData)
  | [] => some []
  | d :: ds => match pyx0 d, pyx0L ds with
    | some p, some ps => some (p :: ps)
    | _, _ => none
end
mutual
def pyx (μ : Store) : D → Option PyData
  | .non => some .none
  | .bl b => some (.bool b)
  | .int i => some (.int i)
  | .str s => some (.str (toS s))
  | .tup ds => (pyxL μ ds).map .tuple
  | .lst ds => (pyxL μ ds).map .list
  | .dct ks ds => (pyxL μ ds).map fun ps => .dict ((ks.map dkP).zip ps)
  | .ref k => match μ[k]? with
    | some (.lst ds) => (pyx0L ds).map .list
    | some (.dct ks ds) => (pyx0L ds).map fun ps => .dict ((ks.map dkP).zip ps)
    | _ => none
  | _ => none
def pyxL (μ : Store) : List D → Option (List PyData)
  | [] => some []
  | d :: ds => match pyx μ d, pyxL μ ds with
    | some p, some ps => some (p :: ps)
    | _, _ => none
end
section
variable {X : Cx} {W : WX} {pins : List (Addr × Obj)} {σ : L2.St} {H : Hp} {s : Shared} {π : List Addr} {μ : Store}
abbrev RdS (h : Heap) (u : Value) (p : PyData) : Prop := ∃ as, Reads h u p as ∧ sysModules ∉ as
abbrev RdSL (h : Heap) (us : List Value) (ps : List PyData) : Prop := ∃ as, ReadsAll h us ps as ∧ sysModules ∉ as
theorem rdL (hs : sysB X.K = true) (I : Inv X pins σ H s) {a : Addr} {vs : List V} {ps : List PyData} (h : SqL X.K H a vs) (r : ∀ us, Vals vs us → RdSL s.heap us ps) : RdS s.heap (.ref a) (.list ps) := by
  obtain ⟨its, rv, ⟨o, n, ho, hc, _, hd⟩, _⟩ := I.list h
  obtain ⟨as, q1, q2⟩ := r its rv
  refine ⟨_, Reads.list ho hc hd (by simpa using q1), fun z => ?_⟩
  rcases List.mem_cons.mp z with z | z
  · exact sys_list hs I.kIn ho hc z.symm
  · exact q2 z
theorem rdT (I : Inv X pins σ H s) {a : Addr} {vs : List V} {ps : List PyData} (h : SqT X.K H a vs) (r : ∀ us, Vals vs us → RdSL s.heap us ps) : RdS s.heap (.ref a) (.tuple ps) := by
  obtain ⟨its, rv, ⟨o, ho, hc, n, hd⟩, _⟩ := I.tuple h
  obtain ⟨as, q1, q2⟩ := r its rv
  exact ⟨_, Reads.tuple ho hc hd (by simpa using q1), q2⟩
theorem keys_rd {h : Heap} {P : Program} {w : World} : ∀ {es : List DictEntry} {kvs : List (Key × V)} {xs : List (Key × Value)} {ks : List Dk}, kvs.map (·.1) = ks.map dk → KV kvs xs → Pairs (mixKind P w) es xs → ReadsAll h (es.map (·.key)) (ks.map dkP) [] ∧ ∃ us, es.map (·.val) = us ∧ Vals (kvs.map (·.2)) us
  | _, _, _, ks, e, r, p => by
    cases p with
    | nil =>
      cases r
      cases ks with
      | nil => exact ⟨.nil, [], rfl, .nil⟩
      | cons k ks => cases e
    | cons hk hv hp =>
      cases r with
      | @cons a b as bs h1 h2 =>
        cases ks with
        | nil => cases e
        | cons k ks =>
          rw [List.map_cons, List.map_cons] at e
          injection e with e1 e2
          obtain ⟨q1, us, q2, q3⟩ := keys_rd (h := h) e2 h2 hp
          refine ⟨?_, _, rfl, ?_⟩
          · rw [List.map_cons, List.map_cons, show ([] : List Addr) = [] ++ [] from rfl]
            refine ReadsAll.cons ?_ q1
            have hk' := hk
            rw [← h1.1, e1] at hk'
            rcases keyIs_shape hk' with ⟨i, t, e3, e4⟩ | ⟨x, t, e3, e4⟩
            · cases k with
              | int j => cases e3; rw [e4]; exact Reads.int _ _
              | str z => cases e3
            · cases k with
              | int j => cases e3
              | str z => cases e3; rw [e4]; exact Reads.str _ _
          · rw [List.map_cons, List.map_cons]
            refine .cons ?_ ?_
            · rw [hv]; exact h1.2
            · rw [q2]; exact q3
theorem rdD (I : Inv X pins σ H s) {a : Addr} {kvs : List (Key × V)} {ks : List Dk} {ps : List PyData} (h : H a = some (.dK kvs)) (ek : kvs.map (·.1) = ks.map dk) (hl : ps.length = ks.length) (r : ∀ us, Vals (kvs.map (·.2)) us → RdSL s.heap us ps) : RdS s.heap (.ref a) (.dict ((ks.map dkP).zip ps)) := by
  obtain ⟨_, hsm, vs, rv, o, es, ep, ho, hx, hd, _, hp, _⟩ := dk_of I.hok h
  obtain ⟨q1, us, q2, q3⟩ := keys_rd (h := s.heap) ek rv hp
  obtain ⟨as, q4, q5⟩ := r us q3
  have z1 : ((ks.map dkP).zip ps).map (·.1) = ks.map dkP := List.map_fst_zip (by rw [List.length_map]; omega)
  have z2 : ((ks.map dkP).zip ps).map (·.2) = ps := List.map_snd_zip (by rw [List.length_map]; omega)
  refine ⟨_, Reads.dict ho hx.1 hd (by rw [z1]; exact q1) (by rw [z2, q2]; exact q4), fun z => ?_⟩
  simp only [List.mem_cons, List.mem_append, List.append_nil, List.not_mem_nil, or_false] at z
  rcases z with z | z
  · rw [← z] at hsm
    simp at hsm
  · exact q5 z
theorem pyx0L_len : ∀ {ds : List D} {ps : List PyData}, pyx0L ds = some ps → ps.length = ds.length
  | [], ps, h => by unfold pyx0L at h; cases h; rfl
  | d :: ds, ps, h => by
    unfold pyx0L at h
    split at h
    · rename_i p ps' e1 e2
      cases h
      rw [List.length_cons, List.length_cons, pyx0L_len e2]
    · cases h
theorem pyxL_len : ∀ {ds : List D} {ps : List PyData}, pyxL μ ds = some ps → ps.length = ds.length
  | [], ps, h => by unfold pyxL at h; cases h; rfl
  | d :: ds, ps, h => by
    unfold pyxL at h
    split at h
    · rename_i p ps' e1 e2
      cases h
      rw [List.length_cons, List.length_cons, pyxL_len e2]
    · cases h
theorem dct_len {kvs : List (Key × V)} {ks : List Dk} {ds : List D} {H : Hp} (e : kvs.map (·.1) = ks.map dk) (r : RepL X.K H π ds (kvs.map (·.2))) : ds.length = ks.length := by
  have h1 := congrArg List.length e
  have h2 := r.length
  simp only [List.length_map] at h1 h2
  omega
mutual
theorem rd_of0 (hs : sysB X.K = true) (I : Inv X pins σ H s) : ∀ {d : D} {v : V} {u : Value} {p : PyData}, Rp X.K π H d v → RelV v u → pyx0 d = some p → RdS s.heap u p
  | .non, _, _, _, r, ru, h => by cases rep_non r; cases h; cases ru; exact ⟨_, Reads.none, by simp⟩
  | .bl b, _, _, _, r, ru, h => by cases rep_bl r; cases h; cases ru; exact ⟨_, Reads.bool b, by simp⟩
  | .int i, _, _, _, r, ru, h => by cases rep_int r; cases h; obtain ⟨t, rfl⟩ := ru; exact ⟨_, Reads.int i t, by simp⟩
  | .str x, _, _, _, r, ru, h => by cases rep_str r; cases h; obtain ⟨t, rfl⟩ := ru; exact ⟨_, Reads.str _ t, by simp⟩
  | .tup ds, _, _, _, r, ru, h => by
    unfold pyx0 at h
    obtain ⟨ps, h1, h2⟩ := Option.map_eq_some_iff.mp h
    cases h2
    obtain ⟨a, vs, rfl, h3, h4⟩ := asT_view (ds := ds) r rfl
    cases ru
    exact rdT I h3 fun us rv => rd_of0L hs I h4 rv h1
  | .lst ds, _, _, _, r, ru, h => by
    unfold pyx0 at h
    obtain ⟨ps, h1, h2⟩ := Option.map_eq_some_iff.mp h
    cases h2
    unfold Rp Rep at r
    obtain ⟨a, vs, rfl, h3, h4⟩ := r
    cases ru
    exact rdL hs I (SqL.of (off_sub _ _ h3)) fun us rv => rd_of0L hs I h4 rv h1
  | .dct ks ds, _, _, _, r, ru, h => by
    unfold pyx0 at h
    obtain ⟨ps, h1, h2⟩ := Option.map_eq_some_iff.mp h
    cases h2
    unfold Rp Rep at r
    obtain ⟨a, kvs, rfl, h3, h4, h5⟩ := r
    cases ru
    exact rdD I (off_sub _ _ h3) h4 (by rw [pyx0L_len h1]; exact dct_len h4 h5) fun us rv => rd_of0L hs I h5 rv h1
  | .obj _ _ _, _, _, _, _, _, h => by unfold pyx0 at h; cases h
  | .ref _, _, _, _, _, _, h => by unfold pyx0 at h; cases h
  | .cls _, _, _, _, _, _, h => by unfold pyx0 at h; cases h
  | .ty _, _, _, _, _, _, h => by unfold pyx0 at h; cases h
  | .scr _, _, _, _, _, _, h => by unfold pyx0 at h; cases h
  | .exn _ _ _, _, _, _, _, _, h => by unfold pyx0 at h; cases h
theorem rd_of0L (hs : sysB X.K = true) (I : Inv X pins σ H s) : ∀ {ds : List D} {vs : List V} {us : List Value} {ps : List PyData}, RpL X.K π H ds vs → Vals vs us → pyx0L ds = some ps → RdSL s.heap us ps
  | [], _, _, _, r, rv, h => by
    unfold RpL RepL at r
    unfold pyx0L at h
    subst r
    cases h
    cases rv
    exact ⟨_, .nil, by simp⟩
  | d :: ds, _, _, _, r, rv, h => by
    obtain ⟨v, t, rfl, h2, h3⟩ := RepL.uncons r
    unfold pyx0L at h
    split at h
    · rename_i p ps e1 e2
      cases h
      cases rv with
      | cons ra rb =>
        obtain ⟨as, q1, q2⟩ := rd_of0 hs I h2 ra e1
        obtain ⟨bs, q3, q4⟩ := rd_of0L hs I h3 rb e2
        exact ⟨_, .cons q1 q3, by rw [List.mem_append]; exact fun z => z.elim q2 q4⟩
    · cases h
end
mutual
theorem rd_of (hs : sysB X.K = true) (I : Inv X pins σ H s) (sm : SimM X.K π μ H) : ∀ {d : D} {v : V} {u : Value} {p : PyData}, Rp X.K π H d v → RelV v u → pyx μ d = some p → RdS s.heap u p
  | .non, _, _, _, r, ru, h => by cases rep_non r; cases h; cases ru; exact ⟨_, Reads.none, by simp⟩
  | .bl b, _, _, _, r, ru, h => by cases rep_bl r; cases h; cases ru; exact ⟨_, Reads.bool b, by simp⟩
  | .int i, _, _, _, r, ru, h => by cases rep_int r; cases h; obtain ⟨t, rfl⟩ := ru; exact ⟨_, Reads.int i t, by simp⟩
  | .str x, _, _, _, r, ru, h => by cases rep_str r; cases h; obtain ⟨t, rfl⟩ := ru; exact ⟨_, Reads.str _ t, by simp⟩
  | .tup ds, _, _, _, r, ru, h => by
    unfold pyx at h
    obtain ⟨ps, h1, h2⟩ := Option.map_eq_some_iff.mp h
    cases h2
    obtain ⟨a, vs, rfl, h3, h4⟩ := asT_view (ds := ds) r rfl
    cases ru
    exact rdT I h3 fun us rv => rd_ofL hs I sm h4 rv h1
  | .lst ds, _, _, _, r, ru, h => by
    unfold pyx at h
    obtain ⟨ps, h1, h2⟩ := Option.map_eq_some_iff.mp h
    cases h2
    unfold Rp Rep at r
    obtain ⟨a, vs, rfl, h3, h4⟩ := r
    cases ru
    exact rdL hs I (SqL.of (off_sub _ _ h3)) fun us rv => rd_ofL hs I sm h4 rv h1
  | .dct ks ds, _, _, _, r, ru, h => by
    unfold pyx at h
    obtain ⟨ps, h1, h2⟩ := Option.map_eq_some_iff.mp h
    cases h2
    unfold Rp Rep at r
    obtain ⟨a, kvs, rfl, h3, h4, h5⟩ := r
    cases ru
    exact rdD I (off_sub _ _ h3) h4 (by rw [pyxL_len h1]; exact dct_len h4 h5) fun us rv => rd_ofL hs I sm h5 rv h1
  | .ref k, _, _, _, r, ru, h => by
    unfold pyx at h
    have r' := r
    unfold Rp Rep at r'
    obtain ⟨a, k1, rfl⟩ := r'
    cases ru
    split at h
    · rename_i ds e
      obtain ⟨ps, h1, h2⟩ := Option.map_eq_some_iff.mp h
      cases h2
      obtain ⟨vs, q1, q2⟩ := sm.obj k a _ k1 e
      exact rdL hs I (SqL.of q1) fun us rv => rd_of0L hs I q2 rv h1
    · rename_i ks ds e
      obtain ⟨ps, h1, h2⟩ := Option.map_eq_some_iff.mp h
      cases h2
      obtain ⟨kvs, q1, q2, q3⟩ := sm.obj k a _ k1 e
      exact rdD I q1 q2 (by rw [pyx0L_len h1]; exact dct_len q2 q3) fun us rv => rd_of0L hs I q3 rv h1
    · cases h
  | .obj _ _ _, _, _, _, _, _, h => by unfold pyx at h; cases h
  | .cls _, _, _, _, _, _, h => by unfold pyx at h; cases h
  | .ty _, _, _, _, _, _, h => by unfold pyx at h; cases h
  | .scr _, _, _, _, _, _, h => by unfold pyx at h; cases h
  | .exn _ _ _, _, _, _, _, _, h => by unfold pyx at h; cases h
theorem rd_ofL (hs : sysB X.K = true) (I : Inv X pins σ H s) (sm : SimM X.K π μ H) : ∀ {ds : List D} {vs : List V} {us : List Value} {ps : List PyData}, RpL X.K π H ds vs → Vals vs us → pyxL μ ds = some ps → RdSL s.heap us ps
  | [], _, _, _, r, rv, h => by
    unfold RpL RepL at r
    unfold pyxL at h
    subst r
    cases h
    cases rv
    exact ⟨_, .nil, by simp⟩
  | d :: ds, _, _, _, r, rv, h => by
    obtain ⟨v, t, rfl, h2, h3⟩ := RepL.uncons r
    unfold pyxL at h
    split at h
    · rename_i p ps e1 e2
      cases h
      cases rv with
      | cons ra rb =>
        obtain ⟨as, q1, q2⟩ := rd_of hs I sm h2 ra e1
        obtain ⟨bs, q3, q4⟩ := rd_ofL hs I sm h3 rb e2
        exact ⟨_, .cons q1 q3, by rw [List.mem_append]; exact fun z => z.elim q2 q4⟩
    · cases h
end
end
/-- repr of any data -/
def fReprX : Fn := fun ds μ => match ds with
  | [d] => (match pyx μ d with
    | some p => if (p.showable = true ∧ p.shown.length ≤ maxL) ∧ p.depth ≤ 60 then .ok (.str (ofS p.shown)) μ else .stuck
    | none => .stuck)
  | _ => .stuck
theorem cd_reprX {X : Cx} {W : WX} {k : Nat} (hr : RoomQ k X.A) (hs : sysB X.K = true) : CallD X W (.builtin "repr") fReprX := by
  intro π μ σ H Q ds vs sm rl g σ' pins s us I rv
  obtain ⟨d, μ', e, q⟩ := GE.only g
  unfold fReprX at e
  split at e
  · rename_i d1
    obtain ⟨v, rfl, r1⟩ := repL1 rl
    split at e
    · rename_i p ep
      by_cases c : (p.showable = true ∧ p.shown.length ≤ maxL) ∧ p.depth ≤ 60
      · rw [if_pos c] at e
        cases e
        obtain ⟨⟨c1, c3⟩, c4⟩ := c
        obtain ⟨u, rfl, ru⟩ := vals1 rv
        have fin : ∀ (h' : Heap) (t : Tok) (tk : Nat), (∀ b o, s.heap.get? b = some o → h'.get? b = some o) → EP X pins σ' Q (.str p.shown t) { s with heap := h', toks := tk } := fun h' t tk k =>
          ⟨.str p.shown, H, I.kept k, ⟨t, rfl⟩, q _ H π Gr.refl sm (by unfold Rp Rep; rw [toS_ofS])⟩
        have hz : p.shown.length ≤ sizeLine := by rw [sizeLine_eq]; exact c3
        obtain ⟨as, hR, hn⟩ := rd_of hs I sm r1 ru ep
        have hu := hr.rm.units
        cases u with
        | none => cases hR; exact P.repr_of_none (fin _ _ _ fun _ _ h => h)
        | bool b => cases hR; exact P.repr_of_bool (fin _ _ _ fun _ _ h => h)
        | int i t => cases hR; exact P.repr_of_int (of_decide_eq_true c1) (fin _ _ _ fun _ _ h => h)
        | str x t => cases hR; exact P.repr_of_str (fin _ _ _ fun _ _ h => h) hz
        | ref a => exact PySem.repr_of_reads' hR c1 (fun _ => hn) hr.gd (by omega) (fun _ _ h => h) (fun h' u tk hk => fin h' u tk hk) hz
        | _ => cases hR
      · rw [if_neg c] at e; cases e
    · cases e
  · cases e
/-! ### great divisors -/
theorem divp_small {i j : Int} (h0 : 0 < j) (h : j.natAbs.log2 < 9000) : CDivP i j := by
  refine ⟨h0, ?_⟩
  exact PyProof.noPylong_of_log2 h
def fDivmodW : Fn := fun ds μ => match ds with
  | [.int i, .int j] => if 0 < j ∧ j.natAbs.log2 < 9000 then .ok (.tup [.int (i / j), .int (i % j)]) μ else .stuck
  | _ => .stuck
theorem cd_divmodW {X : Cx} {W : WX} : CallD X W (.builtin "divmod") fDivmodW := .of call_divmodW fun π μ H Q ds vs d μ' sm rl e q => by
  unfold fDivmodW at e
  split at e
  · rename_i i j
    by_cases c : 0 < j ∧ j.natAbs.log2 < 9000
    · rw [if_pos c] at e
      cases e
      obtain ⟨v, w, rfl, rv, rw'⟩ := repL2 rl
      refine ⟨i, j, by rw [rep_int rv, rep_int rw'], divp_small c.1 c.2, fun p hp => q _ _ π (Gr.new hp) (sm.new hp) (rp_tup sm hp (.cons (d := .int (i / j)) (v := .int (i / j)) rfl (.cons (d := .int (i % j)) (v := .int (i % j)) rfl RepL.nil)))⟩
    · rw [if_neg c] at e; cases e
  · cases e
end Rv
set_option Elab.async false
set_option linter.all false
set_option maxRecDepth 100000
set_option maxHeartbeats 4000000
/-! Rv21: a walk over the script itself. -/
namespace Rv
open PySem PySem.Spec L2
open PyProof.Rows hiding St
/-- the script's list, walked -/
def Itx (K : PySem.W.Frag) (a : Addr) (ns : List Int) : It :=
  ⟨fun i H => ScrAt K H a ns ∧ i < ns.length, fun i H x H' => H' = H ∧ ∃ k, ns[i]? = some k ∧ x = .int k, fun i H => ScrAt K H a ns ∧ ns.length ≤ i⟩
theorem turn_scr {P : Program} {w : World} {K : PySem.W.Frag} {tg : Expr} (a it : Addr) (ns : List Int) : Turn P w K tg (Itx K a ns) [it] it (fun i h => h.IsListIter it a i) where
  mem := by simp
  obj := fun i h st b hb => by
    have e : b = it := by simpa using hb
    subst e
    obtain ⟨o, e, c, d⟩ := st
    exact ⟨o, e, fun v z => by rw [d] at z; cases z⟩
  keep := fun i h h' st k => st.at fun o e => k it (by simp) o e
  item := by
    intro X hP hw hK hc i pins s σ H E I hf st hg
    subst hP hw hK
    obtain ⟨hq, hi⟩ := hg
    obtain ⟨H2, hq2, I2⟩ := scr_inv I hq
    obtain ⟨its, rv, p, hz⟩ := I2.list hq2
    obtain ⟨u, hu, ru⟩ := rv.get (show (ns.map V.int)[i]? = some (.int ns[i]) by rw [List.getElem?_map, List.getElem?_eq_getElem hi]; rfl)
    obtain ⟨f0, f1, f2, f3, f4, f5⟩ := hf it (by simp)
    refine wpAny_pyNext_list_item st p.isList (x := u) (by simpa using hu) fun h' st' sb => ?_
    have I1 : Inv X pins σ H { s with heap := h' } := I.turned (t' := s.toks) (fun b o hb e => (sb.2 b hb).trans e) f0 f1 f3 f4 f5
    obtain ⟨o, e, c, d⟩ := id st'
    exact ⟨u, rfl, go_of (s := { s with heap := h' }) e c d (by decide) ⟨.int ns[i], H, I1, ru, ⟨rfl, ns[i], List.getElem?_eq_getElem hi, rfl⟩, st', fun b hb => (hf b hb).1⟩⟩
  done := by
    intro X hP hw hK hc i pins s σ H E I hf st hg
    subst hP hw hK
    obtain ⟨hq, hx⟩ := hg
    obtain ⟨H2, hq2, I2⟩ := scr_inv I hq
    obtain ⟨its, rv, p, hz⟩ := I2.list hq2
    obtain ⟨f0, f1, f2, f3, f4, f5⟩ := hf it (by simp)
    have hl := rv.length
    rw [List.length_map] at hl
    exact wpAny_pyNext_list_end (I.ok.hd hc) st p.isList (by simp; omega) fun h' eb => ⟨rfl, I.turned (t' := s.toks) (fun b o hb e => eb b o hb e) f0 f1 f3 f4 f5⟩
  self := fun _ _ _ _ _ st h => wpAny_pyIter_listiter st h
theorem ScrAt.mono {K : PySem.W.Frag} {H H' : Hp} {a : Addr} {ns : List Int} (h : ScrAt K H a ns) (k : ∀ b o, H b = some o → H' b = some o) : ScrAt K H' a ns := by
  rcases h with h | ⟨us, h1, h2⟩
  · exact .inl h
  · exact .inr ⟨us, k _ _ h1, h2⟩
theorem wlk_scr {K : PySem.W.Frag} {π1 : List Addr} {H1 : Hp} {a : Addr} {ns : List Int} (h : ScrAt K (off π1 H1) a ns) : Wlk K π1 H1 (Itx K a ns) none (ns.map D.int) where
  go := fun i π μ L H hi g s ok sub => by
    rw [List.length_map] at hi
    exact ⟨(h.mono g.keep).mono fun b o e => sub b o (off_sub _ _ e), hi⟩
  stop := fun π μ L H g s ok sub => ⟨(h.mono g.keep).mono fun b o e => sub b o (off_sub _ _ e), by rw [List.length_map]; exact Nat.le_refl _⟩
  yld := fun i x π μ L H H2 hi g s ok sub y => by
    obtain ⟨rfl, k, e, rfl⟩ := y
    refine ⟨.int k, L, ?_, Gr.refl, s, ?_, sub, fun _ _ z => z, fun _ _ => rfl⟩
    · rw [List.getElem?_map, e]; rfl
    · unfold Rp Rep; rfl
def itX (μ : Store) (d : D) : Option (Lv × List D) := match d with
  | .scr ns => some (none, ns.map D.int)
  | d => itD μ d
def mItX (m : M D) : MI := fun ρ μ => (m ρ μ).bind fun d μ1 => oOut (itX μ1 d) μ1
section
variable {X : Cx} {W : WX} {e tg : Expr} {m : M D}
theorem SA.cons4 {a b c d : Expr} {es : List Expr} {m1 m2 m3 m4 : M D} {ms : M (List D)} (h1 : SE X W a m1) (h2 : SE X W b m2) (h3 : SE X W c m3) (h4 : SE X W d m4) (hr : SA X W es ms)
    (hs1 : starEach (a :: b :: c :: d :: es) X.env = (false, eval a X.env) :: starEach (b :: c :: d :: es) X.env := by rfl) (hs2 : starEach (b :: c :: d :: es) X.env = (false, eval b X.env) :: starEach (c :: d :: es) X.env := by rfl)
    (hs3 : starEach (c :: d :: es) X.env = (false, eval c X.env) :: starEach (d :: es) X.env := by rfl) (hs4 : starEach (d :: es) X.env = (false, eval d X.env) :: starEach es X.env := by rfl) : SA X W (a :: b :: c :: d :: es) (maCons m1 (maCons m2 (maCons m3 (maCons m4 ms)))) :=
  SA.cons h1 (SA.cons h2 (SA.cons h3 (SA.cons h4 hr hs4) hs3) hs2) hs1
theorem SI.valX (ha : SE X W e m) : SI X W tg e (mItX m) := fun π ρ μ σ H R sm sl g pins s I => by
  refine thn (ha π ρ μ σ H (fun v H1 => (∃ a ns, v = .ref a ∧ ScrAt X.K H1 a ns ∧ R (Itx X.K a ns) H1) ∨ (∃ a xs, v = .ref a ∧ SqL X.K H1 a xs ∧ R (Itl X.K a) H1) ∨ (∃ a xs, v = .ref a ∧ SqT X.K H1 a xs ∧ R (Itt X.K a) H1) ∨ ∃ z, v = .str z ∧ R (Its z) H1) sm sl (GE.bind g fun d μ1 v H1 π1 e1 g1 s1 r1 h1 => ?_) pins s I) fun v s1 z => ?_
  · cases q : itX μ1 d with
    | none => rw [q] at h1; exact h1.elim
    | some p =>
      rw [q] at h1
      unfold itX at q
      split at q
      · rename_i ns
        cases q
        unfold Rp Rep at r1
        obtain ⟨a, rfl, h2⟩ := r1
        have hs : ScrAt X.K (off π1 H1) a ns := h2
        exact .inl ⟨a, ns, rfl, hs.mono off_sub, h1 _ H1 π1 Gr.refl s1 (wlk_scr hs)⟩
      refine .inr ?_
      unfold itD at q
      split at q
      · rename_i ds
        cases q
        obtain ⟨a, us, rfl, k1, k2, k3⟩ := asT_vw r1
        exact .inr (.inl ⟨a, us, rfl, k1, h1 _ H1 π1 Gr.refl s1 (wlk_tup k3)⟩)
      · rename_i z hx
        cases q
        cases rep_str r1
        refine .inr (.inr ⟨_, rfl, h1 (Its (toS z)) H1 π1 Gr.refl s1 ?_⟩)
        show Wlk X.K π1 H1 (Its (toS z)) none (signs z)
        rw [signs_rng]
        exact wlk_fn (f := fun i => .str ⟨#[z.getD i 0]⟩) (walk_str (z := toS z)) (fun i H x H' hi y => by
          obtain ⟨y1, c, y2, y3⟩ := y
          refine ⟨y1, ?_⟩
          rw [y3]
          have : z[i]? = some c := by
            have := y2
            rw [← Array.getElem?_toList] at this
            exact this
          rw [List.getD_eq_getElem?_getD, this]
          rfl) (fun i π H => by unfold Rep; rfl)
      · obtain ⟨lv, ds⟩ := p
        obtain ⟨k0, a, us, rfl, k1, k2, k3⟩ := asLv_view s1 r1 q
        exact .inl ⟨a, us, rfl, SqL.of k1, h1 _ H1 π1 Gr.refl s1 (wlk_list k3)⟩
  · obtain ⟨v', H1, I1, r1, q⟩ := z
    rcases q with ⟨a, ns, rfl, hq, q⟩ | ⟨a, xs, rfl, hq, q⟩ | ⟨a, xs, rfl, hq, q⟩ | ⟨z, rfl, q⟩
    · cases r1
      obtain ⟨H2, hq2, I2⟩ := scr_inv I1 hq
      obtain ⟨its, rv, pl, hz⟩ := I2.list hq2
      exact wpAny_pyIter_list pl.isList (pi_one (tk := s1.toks) I1 _ (turn_scr a _ ns) ⟨_, Heap.get?_push_size _ rfl, rfl, rfl⟩ q)
    · cases r1
      obtain ⟨its, rv, pl, hz⟩ := I1.list hq
      exact wpAny_pyIter_list pl.isList (pi_one (tk := s1.toks) I1 _ (turn_list a _) ⟨_, Heap.get?_push_size _ rfl, rfl, rfl⟩ q)
    · cases r1
      obtain ⟨its, rv, pl, hz⟩ := I1.tuple hq
      exact wpAny_pyIter_tuple (show s1.heap.IsTuple a its.toArray from pl) (pi_one (tk := s1.toks) I1 _ (turn_tuple a _) ⟨_, Heap.get?_push_size _ rfl, rfl, rfl⟩ q)
    · obtain ⟨t, rfl⟩ := r1
      cases ha : z.cps.all (· < 128)
      · exact wpAny_pyIter_wide ha (pi_one (tk := s1.toks) I1 _ (turn_str _ z t "str_iterator" (.inr rfl)) ⟨_, Heap.get?_push_size _ rfl, rfl, rfl⟩ q)
      · exact wpAny_pyIter_ascii ha (pi_one (tk := s1.toks) I1 _ (turn_str _ z t "str_ascii_iterator" (.inl rfl)) ⟨_, Heap.get?_push_size _ rfl, rfl, rfl⟩ q)
end
end Rv
set_option Elab.async false
set_option linter.all false
set_option maxRecDepth 100000
/-! P9: values of any kind shown, a dict of one pair, wide divisors. -/
namespace Rv
open PySem PySem.Spec L2
open PyProof.Rows hiding St
mutual
theorem pyx_of0 {μ : Store} : ∀ {d : D} {p : PyData}, pyx0 d = some p → pyx μ d = some p
  | .non, _, h => by unfold pyx0 at h; unfold pyx; exact h
  | .bl _, _, h => by unfold pyx0 at h; unfold pyx; exact h
  | .int _, _, h => by unfold pyx0 at h; unfold pyx; exact h
  | .str _, _, h => by unfold pyx0 at h; unfold pyx; exact h
  | .tup ds, _, h => by
    unfold pyx0 at h
    obtain ⟨ps, h1, h2⟩ := Option.map_eq_some_iff.mp h
    unfold pyx
    rw [pyxL_of0 h1]
    exact congrArg some h2
  | .lst ds, _, h => by
    unfold pyx0 at h
    obtain ⟨ps, h1, h2⟩ := Option.map_eq_some_iff.mp h
    unfold pyx
    rw [pyxL_of0 h1]
    exact congrArg some h2
  | .dct ks ds, _, h => by
    unfold pyx0 at h
    obtain ⟨ps, h1, h2⟩ := Option.map_eq_some_iff.mp h
    unfold pyx
    rw [pyxL_of0 h1]
    exact congrArg some h2
  | .obj _ _ _, _, h => by unfold pyx0 at h; cases h
  | .ref _, _, h => by unfold pyx0 at h; cases h
  | .cls _, _, h => by unfold pyx0 at h; cases h
  | .ty _, _, h => by unfold pyx0 at h; cases h
  | .scr _, _, h => by unfold pyx0 at h; cases h
  | .exn _ _ _, _, h => by unfold pyx0 at h; cases h
theorem pyxL_of0 {μ : Store} : ∀ {ds : List D} {ps : List PyData}, pyx0L ds = some ps → pyxL μ ds = some ps
  | [], _, h => by unfold pyx0L at h; unfold pyxL; exact h
  | d :: ds, _, h => by
    unfold pyx0L at h
    split at h
    · rename_i p ps e1 e2
      unfold pyxL
      rw [pyx_of0 e1, pyxL_of0 e2]
      exact h
    · cases h
end
section
variable {ρ : Env'} {μ μ' : Store} {Q : D → Store → Prop} {d k v : D} {ds : List D} {ps : List PyData} {p : PyData} {mk mv : M D} {k' : Dk} {i j : Int}
theorem s_reprX (e : pyxL μ ds = some ps) (h1 : PyData.showableAll ps = true) (h2 : piled (PyData.shownAll ps) + 2 ≤ maxL) (h3 : PyData.depthAll ps ≤ 59) (q : Q (.str (ofS (PyData.list ps).shown)) μ) : (fReprX [.lst ds] μ).wp Q := by
  have e' : pyx μ (.lst ds) = some (.list ps) := by
    unfold pyx
    rw [e]; rfl
  have hl : (PyData.list ps).shown.length ≤ maxL := Nat.le_trans (listText_le (PyData.shownAll ps)) h2
  have hd : (PyData.list ps).depth ≤ 60 := by
    show PyData.depthAll ps + 1 ≤ 60
    omega
  refine s_ok (v := .str (ofS (PyData.list ps).shown)) (μ' := μ) ?_ q
  unfold fReprX
  dsimp only
  rw [e']
  dsimp only
  rw [if_pos ⟨⟨h1, hl⟩, hd⟩]
theorem pyxL_rep (h : pyx μ d = some p) : ∀ n : Nat, pyxL μ (List.replicate n d) = some (List.replicate n p)
  | 0 => by unfold pyxL; rfl
  | n + 1 => by
    rw [List.replicate_succ]
    unfold pyxL
    rw [h, pyxL_rep h n]
    rfl
theorem rep_all (h : p.showable = true) : ∀ n : Nat, PyData.showableAll (List.replicate n p) = true
  | 0 => rfl
  | n + 1 => by
    rw [List.replicate_succ]
    show (p.showable && PyData.showableAll (List.replicate n p)) = true
    rw [h, rep_all h n]
    rfl
theorem rep_piled {m : Nat} (h : p.shown.length ≤ m) : ∀ n : Nat, piled (PyData.shownAll (List.replicate n p)) ≤ (m + 2) * n
  | 0 => Nat.le_refl _
  | n + 1 => by
    rw [List.replicate_succ]
    have ih := rep_piled h n
    have hp : piled (p.shown :: PyData.shownAll (List.replicate n p)) = p.shown.length + 2 + piled (PyData.shownAll (List.replicate n p)) := by simp [piled]
    show piled (p.shown :: PyData.shownAll (List.replicate n p)) ≤ _
    rw [hp, Nat.mul_add, Nat.mul_one]
    omega
theorem rep_depth {m : Nat} (h : p.depth ≤ m) : ∀ n : Nat, PyData.depthAll (List.replicate n p) ≤ m
  | 0 => Nat.zero_le _
  | n + 1 => by
    rw [List.replicate_succ]
    have ih := rep_depth h n
    show max p.depth (PyData.depthAll (List.replicate n p)) ≤ m
    omega
/-- a value of any kind that may be shown -/
def Odd (d : D) : Prop := ∃ p, pyx0 d = some p ∧ p.showable = true ∧ p.shown.length ≤ 10000 ∧ p.depth ≤ 20 ∧ ∀ n, D.low n d = true
theorem s_reprR {n : Nat} (e : pyx0 d = some p) (h1 : p.showable = true) (h2 : p.shown.length ≤ 10000) (h3 : p.depth ≤ 20) (hn : n ≤ 100) (q : Q (.str (ofS (PyData.list (List.replicate n p)).shown)) μ) : (fReprX [.lst (List.replicate n d)] μ).wp Q := by
  refine s_reprX (pyxL_rep (pyx_of0 e) n) (rep_all h1 n) ?_ ?_ q
  · have := rep_piled h2 n
    refine le_maxL ?_
    have : (10000 + 2) * n ≤ (10000 + 2) * 100 := Nat.mul_le_mul_left _ hn
    omega
  · have := rep_depth h3 n
    omega
theorem s_dict1 (h1 : mk ρ (μ ++ [.dct [] []]) = .ok k (μ ++ [.dct [] []])) (h2 : mv ρ (μ ++ [.dct [] []]) = .ok v (μ ++ [.dct [] []])) (h3 : keyD k = some k') (h4 : D.low μ.length v = true) (q : Q (.dct [k'] [v]) μ) : (mDict1 mk mv ρ μ).wp Q := by
  refine s_ok (v := .dct [k'] [v]) (μ' := μ) ?_ q
  unfold mDict1
  rw [h1]
  dsimp only
  rw [h2]
  dsimp only
  rw [h3]
  dsimp only
  rw [if_pos ⟨rfl, h4⟩]
theorem s_ItX {m : M D} {QI : Lv × List D → Store → Prop} (h : (m ρ μ).wp fun d μ => ∃ p, itX μ d = some p ∧ QI p μ) : (mItX m ρ μ).wp QI := by
  show ((m ρ μ).bind fun d μ1 => oOut (itX μ1 d) μ1).wp QI
  rw [Out.wp_bind]
  refine Out.wp_mono h fun d μ q => ?_
  obtain ⟨p, e, q⟩ := q
  rw [e]
  exact q
theorem s_divmodW (e : 0 < j ∧ j < 10 ^ 40) (q : Q (.tup [.int (i / j), .int (i % j)]) μ) : (fDivmodW [.int i, .int j] μ).wp Q := by
  refine s_ok (v := .tup [.int (i / j), .int (i % j)]) (μ' := μ) ?_ q
  have hl : j.natAbs.log2 < 1920 := log_of ⟨by omega, e.2⟩
  show (if 0 < j ∧ j.natAbs.log2 < 9000 then Out.ok (D.tup [.int (i / j), .int (i % j)]) μ else .stuck) = _
  rw [if_pos ⟨e.1, by omega⟩]
theorem dXf_at {S : Exs} {c f : Str} (h : c ∈ S.map (·.1)) : dXf S f (.exn c [f] [d]) μ = .ok d μ := by
  show (if c ∈ S.map (·.1) then (match fget f [f] [d] with
      | some x => Out.ok x μ
      | none => .stuck) else .stuck) = _
  rw [if_pos h]
  have : fget f [f] [d] = some d := by
    show (if f = f then some d else _) = _
    rw [if_pos rfl]
  rw [this]
theorem timesR {n : Nat} (hn : n ≤ 1000) : dTimes (.lst [d]) (.int n) μ = .ok (.lst (List.replicate n d)) μ := by
  have h : -(2 ^ 63) ≤ (n : Int) ∧ (n : Int) < 2 ^ 63 ∧ [d].length * (n : Int).toNat ≤ maxL := by
    refine ⟨by omega, by omega, ?_⟩
    simp only [List.length_cons, List.length_nil, Int.toNat_natCast]
    show _ ≤ 16777216
    omega
  have e1 : dTimes (.lst [d]) (.int n) μ = .ok (.lst (repD (n : Int).toNat [d])) μ := by
    unfold dTimes asL
    exact if_pos h
  rw [e1]
  have e2 : repD (n : Int).toNat [d] = List.replicate n d := by
    rw [Int.toNat_natCast]
    unfold repD
    rw [List.flatten_replicate_singleton]
  rw [e2]
end
end Rv
set_option Elab.async false
set_option linter.all false
set_option maxRecDepth 100000
set_option maxHeartbeats 4000000
/-! printed by gen.py: the mirrors of ringvotes_k01_constants_and_errors and that they are right. -/
namespace G
open PySem PySem.Spec L2 Rv
open PyProof.Rows hiding St
def top (i : Nat) : Stmt := PySem.Challenge.pw_ringvotes_k01_constants_and_errors.main.body.getD i (.Pass ⟨0, 0, 0, 0⟩)
def mem (i j : Nat) : Stmt := match top i with
  | .ClassDef _ _ _ b _ _ _ _ _ _ _ => b.getD j (.Pass ⟨0, 0, 0, 0⟩)
  | _ => .Pass ⟨0, 0, 0, 0⟩
def isiT : Isi where
  cs := []
  tab := []
def exsT : Exs := [(("BadValue" : Str), ExB.v), (("BadName" : Str), ExB.l), (("NoAnswer" : Str), ExB.a), (("InvalidName" : Str), ExB.v), (("InvalidEnd" : Str), ExB.v), (("InvalidFlag" : Str), ExB.v), (("InvalidText" : Str), ExB.v), (("InvalidNumber" : Str), ExB.v), (("InvalidFaults" : Str), ExB.v), (("InvalidFlow" : Str), ExB.v), (("InvalidWorld" : Str), ExB.v), (("InvalidReading" : Str), ExB.v), (("InvalidWish" : Str), ExB.v), (("InvalidIndex" : Str), ExB.v), (("NotAMeter" : Str), ExB.v), (("NotANet" : Str), ExB.v), (("NotASum" : Str), ExB.v), (("NotARule" : Str), ExB.v), (("NotAnEntry" : Str), ExB.v), (("InvalidPipes" : Str), ExB.v), (("InvalidMeters" : Str), ExB.v), (("InvalidTerms" : Str), ExB.v), (("InvalidRows" : Str), ExB.v), (("InvalidReadings" : Str), ExB.v), (("InvalidOffers" : Str), ExB.v), (("InvalidWishes" : Str), ExB.v), (("InvalidPrices" : Str), ExB.v), (("UnknownName" : Str), ExB.l), (("OtherMeters" : Str), ExB.l), (("InUse" : Str), ExB.l), (("TooMany" : Str), ExB.a), (("NoWorld" : Str), ExB.a), (("NothingToUndo" : Str), ExB.a), (("Broken" : Str), ExB.a)]
def iseT : IsE where
  exs := exsT
  ask := [Tg.c "BadValue", Tg.c "BadName", Tg.c "NoAnswer", Tg.c "InvalidName", Tg.c "InvalidEnd", Tg.c "InvalidFlag", Tg.c "InvalidText", Tg.c "InvalidNumber", Tg.c "InvalidFaults", Tg.c "InvalidFlow", Tg.c "InvalidWorld", Tg.c "InvalidReading", Tg.c "InvalidWish", Tg.c "InvalidIndex", Tg.c "NotAMeter", Tg.c "NotANet", Tg.c "NotASum", Tg.c "NotARule", Tg.c "NotAnEntry", Tg.c "InvalidPipes", Tg.c "InvalidMeters", Tg.c "InvalidTerms", Tg.c "InvalidRows", Tg.c "InvalidReadings", Tg.c "InvalidOffers", Tg.c "InvalidWishes", Tg.c "InvalidPrices", Tg.c "UnknownName", Tg.c "OtherMeters", Tg.c "InUse", Tg.c "TooMany", Tg.c "NoWorld", Tg.c "NothingToUndo", Tg.c "Broken", Tg.b "ValueError", Tg.b "LookupError", Tg.b "ArithmeticError"]
  anc := [(("BadValue" : Str), [Tg.c "BadValue", Tg.b "ValueError"]), (("BadName" : Str), [Tg.c "BadName", Tg.b "LookupError"]), (("NoAnswer" : Str), [Tg.c "NoAnswer", Tg.b "ArithmeticError"]), (("InvalidName" : Str), [Tg.c "InvalidName", Tg.c "BadValue", Tg.b "ValueError"]), (("InvalidEnd" : Str), [Tg.c "InvalidEnd", Tg.c "BadValue", Tg.b "ValueError"]), (("InvalidFlag" : Str), [Tg.c "InvalidFlag", Tg.c "BadValue", Tg.b "ValueError"]), (("InvalidText" : Str), [Tg.c "InvalidText", Tg.c "BadValue", Tg.b "ValueError"]), (("InvalidNumber" : Str), [Tg.c "InvalidNumber", Tg.c "BadValue", Tg.b "ValueError"]), (("InvalidFaults" : Str), [Tg.c "InvalidFaults", Tg.c "BadValue", Tg.b "ValueError"]), (("InvalidFlow" : Str), [Tg.c "InvalidFlow", Tg.c "BadValue", Tg.b "ValueError"]), (("InvalidWorld" : Str), [Tg.c "InvalidWorld", Tg.c "BadValue", Tg.b "ValueError"]), (("InvalidReading" : Str), [Tg.c "InvalidReading", Tg.c "BadValue", Tg.b "ValueError"]), (("InvalidWish" : Str), [Tg.c "InvalidWish", Tg.c "BadValue", Tg.b "ValueError"]), (("InvalidIndex" : Str), [Tg.c "InvalidIndex", Tg.c "BadValue", Tg.b "ValueError"]), (("NotAMeter" : Str), [Tg.c "NotAMeter", Tg.c "BadValue", Tg.b "ValueError"]), (("NotANet" : Str), [Tg.c "NotANet", Tg.c "BadValue", Tg.b "ValueError"]), (("NotASum" : Str), [Tg.c "NotASum", Tg.c "BadValue", Tg.b "ValueError"]), (("NotARule" : Str), [Tg.c "NotARule", Tg.c "BadValue", Tg.b "ValueError"]), (("NotAnEntry" : Str), [Tg.c "NotAnEntry", Tg.c "BadValue", Tg.b "ValueError"]), (("InvalidPipes" : Str), [Tg.c "InvalidPipes", Tg.c "BadValue", Tg.b "ValueError"]), (("InvalidMeters" : Str), [Tg.c "InvalidMeters", Tg.c "BadValue", Tg.b "ValueError"]), (("InvalidTerms" : Str), [Tg.c "InvalidTerms", Tg.c "BadValue", Tg.b "ValueError"]), (("InvalidRows" : Str), [Tg.c "InvalidRows", Tg.c "BadValue", Tg.b "ValueError"]), (("InvalidReadings" : Str), [Tg.c "InvalidReadings", Tg.c "BadValue", Tg.b "ValueError"]), (("InvalidOffers" : Str), [Tg.c "InvalidOffers", Tg.c "BadValue", Tg.b "ValueError"]), (("InvalidWishes" : Str), [Tg.c "InvalidWishes", Tg.c "BadValue", Tg.b "ValueError"]), (("InvalidPrices" : Str), [Tg.c "InvalidPrices", Tg.c "BadValue", Tg.b "ValueError"]), (("UnknownName" : Str), [Tg.c "UnknownName", Tg.c "BadName", Tg.b "LookupError"]), (("OtherMeters" : Str), [Tg.c "OtherMeters", Tg.c "BadName", Tg.b "LookupError"]), (("InUse" : Str), [Tg.c "InUse", Tg.c "BadName", Tg.b "LookupError"]), (("TooMany" : Str), [Tg.c "TooMany", Tg.c "NoAnswer", Tg.b "ArithmeticError"]), (("NoWorld" : Str), [Tg.c "NoWorld", Tg.c "NoAnswer", Tg.b "ArithmeticError"]), (("NothingToUndo" : Str), [Tg.c "NothingToUndo", Tg.c "NoAnswer", Tg.b "ArithmeticError"]), (("Broken" : Str), [Tg.c "Broken", Tg.c "NoAnswer", Tg.b "ArithmeticError"])]
def N__law_well : List Str := ["_law_cells", "_law_k", "_law_cell", "_law_other"]
def c__law_well : C := cSeq (cSet 2 (mIf (mB (m2 (dLt) (mVar 1) (mCallB fLen (maCons (mVar 0) (maNil))))) (m2 dIx (mVar 0) (mVar 1)) (m2 dTimes (m2 dTimes (mC (.int 90017)) (m2 dPlus (mVar 1) (mC (.int 3)))) (m2 dPlus (mVar 1) (mC (.int 5)))))) (cSeq (cIf (mB (m2 (dGe) (mVar 1) (mCallB fLen (maCons (mVar 0) (maNil))))) (cFor (mItX (mVar 0)) (gN 3) (cSet 2 (m2 dMod (mCallB fInt (maCons (m2 dPlus (m2 dTimes (mVar 2) (mC (.int 52711))) (mVar 3)) (maNil))) (mC (.int 2147483629))))) (cNil)) (cRet (mNw (mLen (maCons (m2 dMod (mCallB fInt (maCons (mVar 2) (maNil))) (mC (.int 2147483629))) (maCons (mIf (mB (m2 (dGe) (mCallB fAbs (maCons (mVar 2) (maNil))) (m2 dPow (mC (.int 10)) (mC (.int 18))))) (mCallB fAbs (maCons (mVar 2) (maNil))) (mC (.int 0))) (maCons (mC (.int 0)) (maNil))))))))
def F__law_well : Fn := runF1 4 c__law_well
def D__law_well : DefA := { adr := aG "_law_well", name := "_law_well", qual := "_law_well", st := top 43 }
def D_InvalidName___init__ : DefA := { adr := aM "InvalidName" "__init__", name := "__init__", qual := "InvalidName.__init__", st := mem 4 0 }
def D_InvalidEnd___init__ : DefA := { adr := aM "InvalidEnd" "__init__", name := "__init__", qual := "InvalidEnd.__init__", st := mem 5 0 }
def D_InvalidFlag___init__ : DefA := { adr := aM "InvalidFlag" "__init__", name := "__init__", qual := "InvalidFlag.__init__", st := mem 6 0 }
def D_InvalidText___init__ : DefA := { adr := aM "InvalidText" "__init__", name := "__init__", qual := "InvalidText.__init__", st := mem 7 0 }
def D_InvalidNumber___init__ : DefA := { adr := aM "InvalidNumber" "__init__", name := "__init__", qual := "InvalidNumber.__init__", st := mem 8 0 }
def D_InvalidFaults___init__ : DefA := { adr := aM "InvalidFaults" "__init__", name := "__init__", qual := "InvalidFaults.__init__", st := mem 9 0 }
def D_InvalidFlow___init__ : DefA := { adr := aM "InvalidFlow" "__init__", name := "__init__", qual := "InvalidFlow.__init__", st := mem 10 0 }
def D_InvalidWorld___init__ : DefA := { adr := aM "InvalidWorld" "__init__", name := "__init__", qual := "InvalidWorld.__init__", st := mem 11 0 }
def D_InvalidReading___init__ : DefA := { adr := aM "InvalidReading" "__init__", name := "__init__", qual := "InvalidReading.__init__", st := mem 12 0 }
def D_InvalidWish___init__ : DefA := { adr := aM "InvalidWish" "__init__", name := "__init__", qual := "InvalidWish.__init__", st := mem 13 0 }
def D_InvalidIndex___init__ : DefA := { adr := aM "InvalidIndex" "__init__", name := "__init__", qual := "InvalidIndex.__init__", st := mem 14 0 }
def D_NotAMeter___init__ : DefA := { adr := aM "NotAMeter" "__init__", name := "__init__", qual := "NotAMeter.__init__", st := mem 15 0 }
def D_NotANet___init__ : DefA := { adr := aM "NotANet" "__init__", name := "__init__", qual := "NotANet.__init__", st := mem 16 0 }
def D_NotASum___init__ : DefA := { adr := aM "NotASum" "__init__", name := "__init__", qual := "NotASum.__init__", st := mem 17 0 }
def D_NotARule___init__ : DefA := { adr := aM "NotARule" "__init__", name := "__init__", qual := "NotARule.__init__", st := mem 18 0 }
def D_NotAnEntry___init__ : DefA := { adr := aM "NotAnEntry" "__init__", name := "__init__", qual := "NotAnEntry.__init__", st := mem 19 0 }
def D_UnknownName___init__ : DefA := { adr := aM "UnknownName" "__init__", name := "__init__", qual := "UnknownName.__init__", st := mem 28 0 }
def D_OtherMeters___init__ : DefA := { adr := aM "OtherMeters" "__init__", name := "__init__", qual := "OtherMeters.__init__", st := mem 29 0 }
def N__law_given : List Str := ["_law_odd", "_law_some", "_law_more"]
def c__law_given : C := cSeq (cSet 1 (mFz (mLen (maCons (mCall (fExn "InvalidName" "given") (maCons (mVar 0) (maNil))) (maCons (mCall (fExn "InvalidEnd" "given") (maCons (mVar 0) (maNil))) (maCons (mCall (fExn "InvalidFlag" "given") (maCons (mVar 0) (maNil))) (maCons (mCall (fExn "InvalidText" "given") (maCons (mVar 0) (maNil))) (maCons (mCall (fExn "InvalidNumber" "given") (maCons (mVar 0) (maNil))) (maNil))))))))) (cSeq (cSet 1 (m2 dPlus (mVar 1) (mFz (mLen (maCons (mCall (fExn "InvalidFaults" "given") (maCons (mVar 0) (maNil))) (maCons (mCall (fExn "InvalidFlow" "given") (maCons (mVar 0) (maNil))) (maCons (mCall (fExn "InvalidWorld" "given") (maCons (mVar 0) (maNil))) (maCons (mCall (fExn "InvalidReading" "given") (maCons (mVar 0) (maNil))) (maCons (mCall (fExn "InvalidWish" "given") (maCons (mVar 0) (maNil))) (maNil)))))))))) (cSeq (cSet 1 (m2 dPlus (mVar 1) (mFz (mLen (maCons (mCall (fExn "InvalidIndex" "given") (maCons (mVar 0) (maNil))) (maCons (mCall (fExn "NotAMeter" "given") (maCons (mVar 0) (maNil))) (maCons (mCall (fExn "NotANet" "given") (maCons (mVar 0) (maNil))) (maCons (mCall (fExn "NotASum" "given") (maCons (mVar 0) (maNil))) (maCons (mCall (fExn "NotARule" "given") (maCons (mVar 0) (maNil))) (maCons (mCall (fExn "NotAnEntry" "given") (maCons (mVar 0) (maNil))) (maNil))))))))))) (cSeq (cSet 2 (mFz (mLen (maCons (mCallK (fExnK "InvalidName" "given") maNil (maCons (mVar 0) (maNil))) (maCons (mCallK (fExnK "InvalidEnd" "given") maNil (maCons (mVar 0) (maNil))) (maCons (mCallK (fExnK "InvalidFlag" "given") maNil (maCons (mVar 0) (maNil))) (maCons (mCallK (fExnK "InvalidText" "given") maNil (maCons (mVar 0) (maNil))) (maNil)))))))) (cSeq (cSet 2 (m2 dPlus (mVar 2) (mFz (mLen (maCons (mCallK (fExnK "InvalidNumber" "given") maNil (maCons (mVar 0) (maNil))) (maCons (mCallK (fExnK "InvalidFaults" "given") maNil (maCons (mVar 0) (maNil))) (maCons (mCallK (fExnK "InvalidFlow" "given") maNil (maCons (mVar 0) (maNil))) (maNil)))))))) (cSeq (cSet 2 (m2 dPlus (mVar 2) (mFz (mLen (maCons (mCallK (fExnK "InvalidWorld" "given") maNil (maCons (mVar 0) (maNil))) (maCons (mCallK (fExnK "InvalidReading" "given") maNil (maCons (mVar 0) (maNil))) (maCons (mCallK (fExnK "InvalidWish" "given") maNil (maCons (mVar 0) (maNil))) (maNil)))))))) (cSeq (cSet 2 (m2 dPlus (mVar 2) (mFz (mLen (maCons (mCallK (fExnK "InvalidIndex" "given") maNil (maCons (mVar 0) (maNil))) (maCons (mCallK (fExnK "NotAMeter" "given") maNil (maCons (mVar 0) (maNil))) (maCons (mCallK (fExnK "NotANet" "given") maNil (maCons (mVar 0) (maNil))) (maCons (mCallK (fExnK "NotASum" "given") maNil (maCons (mVar 0) (maNil))) (maNil))))))))) (cSeq (cSet 2 (m2 dPlus (mVar 2) (mFz (mLen (maCons (mCallK (fExnK "NotARule" "given") maNil (maCons (mVar 0) (maNil))) (maCons (mCallK (fExnK "NotAnEntry" "given") maNil (maCons (mVar 0) (maNil))) (maNil))))))) (cRet (mFz (mLen (maCons (m2 dPlus (mVar 1) (mFz (mLen (maCons (mCall (fExn "UnknownName" "given") (maCons (mVar 0) (maNil))) (maCons (mCall (fExn "OtherMeters" "given") (maCons (mVar 0) (maNil))) (maNil)))))) (maCons (m2 dPlus (mVar 2) (mFz (mLen (maCons (mCallK (fExnK "UnknownName" "given") maNil (maCons (mVar 0) (maNil))) (maCons (mCallK (fExnK "OtherMeters" "given") maNil (maCons (mVar 0) (maNil))) (maNil)))))) (maNil)))))))))))))
def F__law_given : Fn := runF 3 c__law_given
def D__law_given : DefA := { adr := aG "_law_given", name := "_law_given", qual := "_law_given", st := top 46 }
def N__law_sorts : List Str := ["_law_e", "_law_some", "_law_at"]
def c__law_sorts : C := cSeq (cSet 1 (mFz (mLen (maCons (mCallB (fIsiE iseT isiT) (maCons (mVar 0) (maCons (mC (.cls "InvalidName")) (maNil)))) (maCons (mCallB (fIsiE iseT isiT) (maCons (mVar 0) (maCons (mC (.cls "InvalidEnd")) (maNil)))) (maCons (mCallB (fIsiE iseT isiT) (maCons (mVar 0) (maCons (mC (.cls "InvalidFlag")) (maNil)))) (maNil))))))) (cSeq (cSet 1 (m2 dPlus (mVar 1) (mFz (mLen (maCons (mCallB (fIsiE iseT isiT) (maCons (mVar 0) (maCons (mC (.cls "InvalidText")) (maNil)))) (maCons (mCallB (fIsiE iseT isiT) (maCons (mVar 0) (maCons (mC (.cls "InvalidNumber")) (maNil)))) (maCons (mCallB (fIsiE iseT isiT) (maCons (mVar 0) (maCons (mC (.cls "InvalidFaults")) (maNil)))) (maNil)))))))) (cSeq (cSet 1 (m2 dPlus (mVar 1) (mFz (mLen (maCons (mCallB (fIsiE iseT isiT) (maCons (mVar 0) (maCons (mC (.cls "InvalidFlow")) (maNil)))) (maCons (mCallB (fIsiE iseT isiT) (maCons (mVar 0) (maCons (mC (.cls "InvalidWorld")) (maNil)))) (maCons (mCallB (fIsiE iseT isiT) (maCons (mVar 0) (maCons (mC (.cls "InvalidReading")) (maNil)))) (maNil)))))))) (cSeq (cSet 1 (m2 dPlus (mVar 1) (mFz (mLen (maCons (mCallB (fIsiE iseT isiT) (maCons (mVar 0) (maCons (mC (.cls "InvalidWish")) (maNil)))) (maCons (mCallB (fIsiE iseT isiT) (maCons (mVar 0) (maCons (mC (.cls "InvalidIndex")) (maNil)))) (maCons (mCallB (fIsiE iseT isiT) (maCons (mVar 0) (maCons (mC (.cls "NotAMeter")) (maNil)))) (maNil)))))))) (cSeq (cSet 1 (m2 dPlus (mVar 1) (mFz (mLen (maCons (mCallB (fIsiE iseT isiT) (maCons (mVar 0) (maCons (mC (.cls "NotANet")) (maNil)))) (maCons (mCallB (fIsiE iseT isiT) (maCons (mVar 0) (maCons (mC (.cls "NotASum")) (maNil)))) (maCons (mCallB (fIsiE iseT isiT) (maCons (mVar 0) (maCons (mC (.cls "NotARule")) (maNil)))) (maNil)))))))) (cSeq (cSet 1 (m2 dPlus (mVar 1) (mFz (mLen (maCons (mCallB (fIsiE iseT isiT) (maCons (mVar 0) (maCons (mC (.cls "NotAnEntry")) (maNil)))) (maCons (mCallB (fIsiE iseT isiT) (maCons (mVar 0) (maCons (mC (.cls "UnknownName")) (maNil)))) (maCons (mCallB (fIsiE iseT isiT) (maCons (mVar 0) (maCons (mC (.cls "OtherMeters")) (maNil)))) (maNil)))))))) (cSeq (cSet 1 (m2 dPlus (mVar 1) (mFz (mLen (maCons (mCallB (fIsiE iseT isiT) (maCons (mVar 0) (maCons (mC (.cls "InvalidPipes")) (maNil)))) (maCons (mCallB (fIsiE iseT isiT) (maCons (mVar 0) (maCons (mC (.cls "InvalidMeters")) (maNil)))) (maCons (mCallB (fIsiE iseT isiT) (maCons (mVar 0) (maCons (mC (.cls "InvalidTerms")) (maNil)))) (maNil)))))))) (cSeq (cSet 1 (m2 dPlus (mVar 1) (mFz (mLen (maCons (mCallB (fIsiE iseT isiT) (maCons (mVar 0) (maCons (mC (.cls "InvalidRows")) (maNil)))) (maCons (mCallB (fIsiE iseT isiT) (maCons (mVar 0) (maCons (mC (.cls "InvalidReadings")) (maNil)))) (maCons (mCallB (fIsiE iseT isiT) (maCons (mVar 0) (maCons (mC (.cls "InvalidOffers")) (maNil)))) (maNil)))))))) (cSeq (cSet 1 (m2 dPlus (mVar 1) (mFz (mLen (maCons (mCallB (fIsiE iseT isiT) (maCons (mVar 0) (maCons (mC (.cls "InvalidWishes")) (maNil)))) (maCons (mCallB (fIsiE iseT isiT) (maCons (mVar 0) (maCons (mC (.cls "InvalidPrices")) (maNil)))) (maCons (mCallB (fIsiE iseT isiT) (maCons (mVar 0) (maCons (mC (.cls "InUse")) (maNil)))) (maNil)))))))) (cSeq (cSet 1 (m2 dPlus (mVar 1) (mFz (mLen (maCons (mCallB (fIsiE iseT isiT) (maCons (mVar 0) (maCons (mC (.cls "Broken")) (maNil)))) (maCons (mCallB (fIsiE iseT isiT) (maCons (mVar 0) (maCons (mC (.cls "TooMany")) (maNil)))) (maCons (mCallB (fIsiE iseT isiT) (maCons (mVar 0) (maCons (mC (.cls "NoWorld")) (maNil)))) (maNil)))))))) (cSeq (cSet 1 (m2 dPlus (mVar 1) (mFz (mLen (maCons (mCallB (fIsiE iseT isiT) (maCons (mVar 0) (maCons (mC (.cls "NothingToUndo")) (maNil)))) (maNil)))))) (cRet (mFz (mLc (mI rng1 (maCons (mC (.int 31)) (maNil))) [2] (gN 2) (mT (m2 dIx (mVar 1) (mVar 2))) (mVar 2))))))))))))))
def F__law_sorts : Fn := runF 3 c__law_sorts
def D__law_sorts : DefA := { adr := aG "_law_sorts", name := "_law_sorts", qual := "_law_sorts", st := top 48 }
def N__law_bases : List Str := ["_law_e", "_law_own"]
def c__law_bases : C := cSeq (cSet 1 (mFz (mLen (maCons (mCallB (fIsiE iseT isiT) (maCons (mVar 0) (maCons (mC (.cls "BadValue")) (maNil)))) (maCons (mCallB (fIsiE iseT isiT) (maCons (mVar 0) (maCons (mC (.cls "BadName")) (maNil)))) (maCons (mCallB (fIsiE iseT isiT) (maCons (mVar 0) (maCons (mC (.cls "NoAnswer")) (maNil)))) (maNil))))))) (cRet (mFz (mLen (maCons (mVar 1) (maCons (mFz (mLen (maCons (mCallB (fIsiE iseT isiT) (maCons (mVar 0) (maCons (mC (.ty "ValueError")) (maNil)))) (maCons (mCallB (fIsiE iseT isiT) (maCons (mVar 0) (maCons (mC (.ty "LookupError")) (maNil)))) (maCons (mCallB (fIsiE iseT isiT) (maCons (mVar 0) (maCons (mC (.ty "ArithmeticError")) (maNil)))) (maNil)))))) (maNil))))))
def F__law_bases : Fn := runF 2 c__law_bases
def D__law_bases : DefA := { adr := aG "_law_bases", name := "_law_bases", qual := "_law_bases", st := top 49 }
def N__law_fits : List Str := ["_law_e", "_law_at", "_law_base", "_law_due"]
def c__law_fits : C := cSeq (cSet 2 (mIf (tOrM (mB (m2 (dLt) (mVar 1) (mC (.int 16)))) (mB (mChain (dLt) (dLt) (mC (.int 17)) (mVar 1) (mC (.int 26))))) (mC (.int 0)) (mIf (tOrM (mB (m2 (dLt) (mVar 1) (mC (.int 18)))) (mB (m2 (dEq) (mVar 1) (mC (.int 26))))) (mC (.int 1)) (mC (.int 2))))) (cSeq (cSet 3 (mFz (mLen (maCons (m2 (dEq) (mVar 2) (mC (.int 0))) (maCons (m2 (dEq) (mVar 2) (mC (.int 1))) (maCons (m2 (dEq) (mVar 2) (mC (.int 2))) (maNil))))))) (cRet (mAnd (m2 (dEq) (mCall (arity 1 F__law_sorts []) (maCons (mVar 0) (maNil))) (mFz (mLen (maCons (mVar 1) (maNil))))) (m2 (dEq) (mCall (arity 1 F__law_bases []) (maCons (mVar 0) (maNil))) (mFz (mLen (maCons (mVar 3) (maCons (mVar 3) (maNil)))))))))
def F__law_fits : Fn := runF 4 c__law_fits
def D__law_fits : DefA := { adr := aG "_law_fits", name := "_law_fits", qual := "_law_fits", st := top 50 }
def D_InvalidPipes___init__ : DefA := { adr := aM "InvalidPipes" "__init__", name := "__init__", qual := "InvalidPipes.__init__", st := mem 20 0 }
def D_InvalidMeters___init__ : DefA := { adr := aM "InvalidMeters" "__init__", name := "__init__", qual := "InvalidMeters.__init__", st := mem 21 0 }
def D_InvalidTerms___init__ : DefA := { adr := aM "InvalidTerms" "__init__", name := "__init__", qual := "InvalidTerms.__init__", st := mem 22 0 }
def D_InvalidRows___init__ : DefA := { adr := aM "InvalidRows" "__init__", name := "__init__", qual := "InvalidRows.__init__", st := mem 23 0 }
def D_InvalidReadings___init__ : DefA := { adr := aM "InvalidReadings" "__init__", name := "__init__", qual := "InvalidReadings.__init__", st := mem 24 0 }
def D_InvalidOffers___init__ : DefA := { adr := aM "InvalidOffers" "__init__", name := "__init__", qual := "InvalidOffers.__init__", st := mem 25 0 }
def D_InvalidWishes___init__ : DefA := { adr := aM "InvalidWishes" "__init__", name := "__init__", qual := "InvalidWishes.__init__", st := mem 26 0 }
def D_InvalidPrices___init__ : DefA := { adr := aM "InvalidPrices" "__init__", name := "__init__", qual := "InvalidPrices.__init__", st := mem 27 0 }
def D_InUse___init__ : DefA := { adr := aM "InUse" "__init__", name := "__init__", qual := "InUse.__init__", st := mem 30 0 }
def D_Broken___init__ : DefA := { adr := aM "Broken" "__init__", name := "__init__", qual := "Broken.__init__", st := mem 34 0 }
def N__law_indexed : List Str := ["_law_odd", "_law_some", "_law_more"]
def c__law_indexed : C := cSeq (cSet 1 (mFz (mLen (maCons (mCall (fExn "InvalidPipes" "index") (maCons (mVar 0) (maNil))) (maCons (mCall (fExn "InvalidMeters" "index") (maCons (mVar 0) (maNil))) (maCons (mCall (fExn "InvalidTerms" "index") (maCons (mVar 0) (maNil))) (maCons (mCall (fExn "InvalidRows" "index") (maCons (mVar 0) (maNil))) (maCons (mCall (fExn "InvalidReadings" "index") (maCons (mVar 0) (maNil))) (maNil))))))))) (cSeq (cSet 1 (m2 dPlus (mVar 1) (mFz (mLen (maCons (mCall (fExn "InvalidOffers" "index") (maCons (mVar 0) (maNil))) (maCons (mCall (fExn "InvalidWishes" "index") (maCons (mVar 0) (maNil))) (maCons (mCall (fExn "InvalidPrices" "index") (maCons (mVar 0) (maNil))) (maCons (mCall (fExn "InUse" "index") (maCons (mVar 0) (maNil))) (maCons (mCall (fExn "Broken" "index") (maCons (mVar 0) (maNil))) (maNil)))))))))) (cSeq (cSet 2 (mFz (mLen (maCons (mCallK (fExnK "InvalidPipes" "index") maNil (maCons (mVar 0) (maNil))) (maCons (mCallK (fExnK "InvalidMeters" "index") maNil (maCons (mVar 0) (maNil))) (maCons (mCallK (fExnK "InvalidTerms" "index") maNil (maCons (mVar 0) (maNil))) (maCons (mCallK (fExnK "InvalidRows" "index") maNil (maCons (mVar 0) (maNil))) (maNil)))))))) (cSeq (cSet 2 (m2 dPlus (mVar 2) (mFz (mLen (maCons (mCallK (fExnK "InvalidReadings" "index") maNil (maCons (mVar 0) (maNil))) (maCons (mCallK (fExnK "InvalidOffers" "index") maNil (maCons (mVar 0) (maNil))) (maCons (mCallK (fExnK "InvalidWishes" "index") maNil (maCons (mVar 0) (maNil))) (maNil)))))))) (cSeq (cSet 2 (m2 dPlus (mVar 2) (mFz (mLen (maCons (mCallK (fExnK "InvalidPrices" "index") maNil (maCons (mVar 0) (maNil))) (maCons (mCallK (fExnK "InUse" "index") maNil (maCons (mVar 0) (maNil))) (maCons (mCallK (fExnK "Broken" "index") maNil (maCons (mVar 0) (maNil))) (maNil)))))))) (cRet (mFz (mLen (maCons (mVar 1) (maCons (mVar 2) (maNil))))))))))
def F__law_indexed : Fn := runF 3 c__law_indexed
def D__law_indexed : DefA := { adr := aG "_law_indexed", name := "_law_indexed", qual := "_law_indexed", st := top 47 }
def D_TooMany___init__ : DefA := { adr := aM "TooMany" "__init__", name := "__init__", qual := "TooMany.__init__", st := mem 31 0 }
def D_NoWorld___init__ : DefA := { adr := aM "NoWorld" "__init__", name := "__init__", qual := "NoWorld.__init__", st := mem 32 0 }
def D_NothingToUndo___init__ : DefA := { adr := aM "NothingToUndo" "__init__", name := "__init__", qual := "NothingToUndo.__init__", st := mem 33 0 }
def N__law_right : List Str := ["_law_odd", "_law_row", "_law_at", "_law_e", "_law_told", "_law_rest"]
def c__law_right : C := cSeq (cFor (mIt (mCall (arity 1 F__law_given []) (maCons (mVar 0) (maNil)))) (gN 1) (cSeq (cIf (tNotM (mT (mCallB fAll (maCons (mFz (mLc (mI rng1 (maCons (mC (.int 18)) (maNil))) [2] (gN 2) (fun _ μ => .ok true μ) (mCall (arity 2 F__law_fits []) (maCons (m2 dIx (mVar 1) (mVar 2)) (maCons (mVar 2) (maNil)))))) (maNil))))) (cRet (mC (.bl false))) (cNil)) (cIf (mB (m2 (dNe) (mCallB fReprX (maCons (mFz (mLc (mIt (mVar 1)) [3] (gN 3) (fun _ μ => .ok true μ) (m1 (dXf exsT "given") (mVar 3)))) (maNil))) (mCallB fReprX (maCons (m2 dTimes (mFz (mLen (maCons (mVar 0) (maNil)))) (mC (.int 18))) (maNil))))) (cRet (mC (.bl false))) (cNil)))) (cSeq (cFor (mIt (mCall (arity 1 F__law_indexed []) (maCons (mVar 0) (maNil)))) (gN 1) (cSeq (cIf (tNotM (mT (mCallB fAll (maCons (mFz (mLc (mI rng1 (maCons (mC (.int 10)) (maNil))) [2] (gN 2) (fun _ μ => .ok true μ) (mCall (arity 2 F__law_fits []) (maCons (m2 dIx (mVar 1) (mVar 2)) (maCons (m2 dPlus (mC (.int 18)) (mVar 2)) (maNil)))))) (maNil))))) (cRet (mC (.bl false))) (cNil)) (cIf (mB (m2 (dNe) (mCallB fReprX (maCons (mFz (mLc (mIt (mVar 1)) [3] (gN 3) (fun _ μ => .ok true μ) (m1 (dXf exsT "index") (mVar 3)))) (maNil))) (mCallB fReprX (maCons (m2 dTimes (mFz (mLen (maCons (mVar 0) (maNil)))) (mC (.int 10))) (maNil))))) (cRet (mC (.bl false))) (cNil)))) (cSeq (cSet 4 (mFz (mLen (maCons (m1 (dXf exsT "limit") (mCall (fExn "TooMany" "limit") (maCons (mVar 0) (maNil)))) (maCons (m1 (dXf exsT "limit") (mCallK (fExnK "TooMany" "limit") maNil (maCons (mVar 0) (maNil)))) (maCons (m1 (dXf exsT "most") (mCall (fExn "NoWorld" "most") (maCons (mVar 0) (maNil)))) (maCons (m1 (dXf exsT "most") (mCallK (fExnK "NoWorld" "most") maNil (maCons (mVar 0) (maNil)))) (maNil)))))))) (cSeq (cIf (mB (m2 (dNe) (mCallB fReprX (maCons (mVar 4) (maNil))) (mCallB fReprX (maCons (m2 dTimes (mFz (mLen (maCons (mVar 0) (maNil)))) (mC (.int 4))) (maNil))))) (cRet (mC (.bl false))) (cNil)) (cSeq (cSet 5 (mFz (mLen (maCons (mCall (arity 2 F__law_fits []) (maCons (mCall (fExn "TooMany" "limit") (maCons (mVar 0) (maNil))) (maCons (mC (.int 28)) (maNil)))) (maCons (mCall (arity 2 F__law_fits []) (maCons (mCall (fExn "NoWorld" "most") (maCons (mVar 0) (maNil))) (maCons (mC (.int 29)) (maNil)))) (maCons (mCall (arity 2 F__law_fits []) (maCons (mCall (fExn0 "NothingToUndo") maNil) (maCons (mC (.int 30)) (maNil)))) (maNil))))))) (cRet (mCallB fAll (maCons (m2 dPlus (mVar 5) (mFz (mLen (maCons (mCall (arity 2 F__law_fits []) (maCons (mCallK (fExnK "TooMany" "limit") maNil (maCons (mVar 0) (maNil))) (maCons (mC (.int 28)) (maNil)))) (maCons (mCall (arity 2 F__law_fits []) (maCons (mCallK (fExnK "NoWorld" "most") maNil (maCons (mVar 0) (maNil))) (maCons (mC (.int 29)) (maNil)))) (maNil)))))) (maNil))))))))
def F__law_right : Fn := runF 6 c__law_right
def D__law_right : DefA := { adr := aG "_law_right", name := "_law_right", qual := "_law_right", st := top 51 }
def N__law_dip : List Str := ["_law_well_here", "_law_many", "_law_digit", "_law_mixed"]
def c__law_dip : C := cSeq (cAsg (tgSub (mVar 0) (mC (.int 2))) (m2 dPlus (m2 dIx (mVar 0) (mC (.int 2))) (mC (.int 1)))) (cSeq (cIf (mB (m2 (dGt) (m2 dIx (mVar 0) (mC (.int 1))) (mC (.int 0)))) (cSeq (cAsg (tgT 2 (tgsC (tgSub (mVar 0) (mC (.int 1))) (tgsC (tgP (gN 2)) (tgsN)))) (mCallB fDivmodW (maCons (m2 dIx (mVar 0) (mC (.int 1))) (maCons (mVar 1) (maNil))))) (cRet (mVar 2))) (cNil)) (cSeq (cAsg (tgSub (mVar 0) (mC (.int 0))) (m2 dMod (mCallB fInt (maCons (m2 dPlus (m2 dPlus (m2 dTimes (m2 dIx (mVar 0) (mC (.int 0))) (mC (.int 69621))) (m2 dTimes (m2 dTimes (mC (.int 31)) (m2 dIx (mVar 0) (mC (.int 2)))) (m2 dIx (mVar 0) (mC (.int 2))))) (mC (.int 40503))) (maNil))) (mC (.int 2147483629)))) (cSeq (cSet 3 (m2 dMod (mCallB fInt (maCons (m2 dTimes (m2 dIx (mVar 0) (mC (.int 0))) (m2 dPlus (m2 dMod (mCallB fInt (maCons (m2 dIx (mVar 0) (mC (.int 0))) (maNil))) (mC (.int 30011))) (mC (.int 17)))) (maNil))) (mC (.int 2147483587)))) (cRet (m2 dMod (mCallB fInt (maCons (m2 dDiv (mVar 3) (mC (.int 64))) (maNil))) (mVar 1))))))
def F__law_dip : Fn := runF 4 c__law_dip
def D__law_dip : DefA := { adr := aG "_law_dip", name := "_law_dip", qual := "_law_dip", st := top 44 }
def N__law_any : List Str := ["_law_well_here", "_law_at", "_law_much", "_law_some"]
def c__law_any : C := cSeq (cSet 1 (mCall (arity 2 F__law_dip []) (maCons (mVar 0) (maCons (mC (.int 21)) (maNil))))) (cSeq (cSet 2 (m2 dTimes (m2 dSub (mC (.int 1)) (m2 dTimes (mC (.int 2)) (mCall (arity 2 F__law_dip []) (maCons (mVar 0) (maCons (mC (.int 2)) (maNil)))))) (mCall (arity 2 F__law_dip []) (maCons (mVar 0) (maCons (m2 dPow (mC (.int 10)) (mC (.int 39))) (maNil)))))) (cSeq (cSet 3 (mFz (mLen (maCons (mC .non) (maCons (mC (.bl true)) (maCons (mC (.bl false)) (maCons (mC (.int 0)) (maCons (mC (.int 1)) (maCons (m1 dNeg (mC (.int 1))) (maCons (mVar 2) (maCons (mC (.str [])) (maCons (mC (.str [97])) (maCons (mC (.str [110, 111, 32, 110, 97, 109, 101])) (maCons (mTup (maNil)) (maCons (mTup (maCons (mC (.str [97])) (maCons (mC .non) (maNil)))) (maCons (mTup (maCons (mC (.int 1)) (maCons (mFz (mLen (maCons (mC (.int 2)) (maNil)))) (maNil)))) (maCons (mFz (mLen (maNil))) (maCons (mFz (mLen (maCons (mC (.bl true)) (maNil)))) (maCons (mC (.dct [] [])) (maNil)))))))))))))))))))) (cSeq (cSet 3 (m2 dPlus (mVar 3) (mFz (mLen (maCons (mDict1 (mC (.str [97])) (mC (.int 1))) (maCons (mDict1 (mC (.int 1)) (mTup (maCons (mC (.str [98])) (maNil)))) (maCons (mFz (mLen (maCons (mFz (mLen (maNil))) (maCons (mC (.dct [] [])) (maNil))))) (maCons (m2 dTimesS (mC (.str [120])) (mC (.int 40))) (maCons (mTup (maCons (mTup (maNil)) (maCons (mTup (maCons (mTup (maNil)) (maNil))) (maNil)))) (maNil)))))))))) (cRet (m2 dIx (mVar 3) (mVar 1))))))
def F__law_any : Fn := runF 4 c__law_any
def D__law_any : DefA := { adr := aG "_law_any", name := "_law_any", qual := "_law_any", st := top 45 }
def N_law : List Str := ["_law_cells", "_law_told", "_law_k", "_law_well_here", "_law_turn"]
def c_law : C := cSeq (cSet 1 (mFz (mLen (maCons (mC (.int 12)) (maCons (mC (.int 12)) (maCons (mC (.int 8)) (maCons (mC (.int 10)) (maCons (mC (.int 3)) (maCons (mC (.int 6)) (maCons (mC (.int 1000)) (maNil))))))))))) (cSeq (cIf (mB (m2 (dNe) (mCallB fReprX (maCons (mVar 1) (maNil))) (mC (.str [91, 49, 50, 44, 32, 49, 50, 44, 32, 56, 44, 32, 49, 48, 44, 32, 51, 44, 32, 54, 44, 32, 49, 48, 48, 48, 93])))) (cRet (mC (.bl false))) (cNil)) (cSeq (cFor (mI rng1 (maCons (mCallB fMax2 (maCons (mC (.int 2)) (maCons (mCallB fMin2 (maCons (mCallB fLen (maCons (mVar 0) (maNil))) (maCons (mC (.int 6)) (maNil)))) (maNil)))) (maNil))) (gN 2) (cSeq (cSet 3 (mCall (arity 2 F__law_well []) (maCons (mVar 0) (maCons (mVar 2) (maNil))))) (cIf (tNotM (mT (mCallB fAll (maCons (mFz (mLc (mI rng1 (maCons (mC (.int 3)) (maNil))) [4] (gN 4) (fun _ μ => .ok true μ) (mCall (arity 1 F__law_right []) (maCons (mCall (arity 1 F__law_any []) (maCons (mVar 3) (maNil))) (maNil))))) (maNil))))) (cRet (mC (.bl false))) (cNil)))) (cRet (mC (.bl true)))))
def F_law : Fn := runF 5 c_law
def D_law : DefA := { adr := aG "law", name := "law", qual := "law", st := top 52 }
/-! ### facts -/
structure Fx (K : PySem.W.Frag) (mg : Str → Option Value) : Prop where
  i_MOST_PIPES : ∃ t, mg ("MOST_PIPES" : Str) = some (.int 12 t)
  i_MOST_METERS : ∃ t, mg ("MOST_METERS" : Str) = some (.int 12 t)
  i_MOST_ROWS : ∃ t, mg ("MOST_ROWS" : Str) = some (.int 8 t)
  i_MOST_SUMS : ∃ t, mg ("MOST_SUMS" : Str) = some (.int 10 t)
  i_MOST_FAULTS : ∃ t, mg ("MOST_FAULTS" : Str) = some (.int 3 t)
  i_MOST_OFFERS : ∃ t, mg ("MOST_OFFERS" : Str) = some (.int 6 t)
  i_MOST_PAIRS : ∃ t, mg ("MOST_PAIRS" : Str) = some (.int 1000 t)
  b_repr : mg ("repr" : Str) = none
  sys : sysB K = true
  b_len : mg ("len" : Str) = none
  b_min : mg ("min" : Str) = none
  b_max : mg ("max" : Str) = none
  b_range : mg ("range" : Str) = none
  b_int : mg ("int" : Str) = none
  b_abs : mg ("abs" : Str) = none
  g__law_well : mg ("_law_well" : Str) = some (.ref (He.ga K "_law_well"))
  k__law_well : PySem.W.keepIn K (.ref (He.ga K "_law_well")) = true
  ec_InvalidName : exClsB K (He.ga K "InvalidName") .v = true
  ic_InvalidName : He.eqO (PySem.W.findIn K (.ref (He.ga K "InvalidName")) "__init__") (some (some (.ref (aM "InvalidName" "__init__" K)))) = true
  ti_InvalidName : PySem.W.typeIn K (.ref (aM "InvalidName" "__init__" K)) = some (.type "function")
  nf_InvalidName : He.eqO (PySem.W.findIn K (.ref (He.ga K "InvalidName")) "given") (some none) = true
  g_InvalidName : mg ("InvalidName" : Str) = some (.ref (He.ga K "InvalidName"))
  k_InvalidName : PySem.W.keepIn K (.ref (He.ga K "InvalidName")) = true
  ec_InvalidEnd : exClsB K (He.ga K "InvalidEnd") .v = true
  ic_InvalidEnd : He.eqO (PySem.W.findIn K (.ref (He.ga K "InvalidEnd")) "__init__") (some (some (.ref (aM "InvalidEnd" "__init__" K)))) = true
  ti_InvalidEnd : PySem.W.typeIn K (.ref (aM "InvalidEnd" "__init__" K)) = some (.type "function")
  nf_InvalidEnd : He.eqO (PySem.W.findIn K (.ref (He.ga K "InvalidEnd")) "given") (some none) = true
  g_InvalidEnd : mg ("InvalidEnd" : Str) = some (.ref (He.ga K "InvalidEnd"))
  k_InvalidEnd : PySem.W.keepIn K (.ref (He.ga K "InvalidEnd")) = true
  ec_InvalidFlag : exClsB K (He.ga K "InvalidFlag") .v = true
  ic_InvalidFlag : He.eqO (PySem.W.findIn K (.ref (He.ga K "InvalidFlag")) "__init__") (some (some (.ref (aM "InvalidFlag" "__init__" K)))) = true
  ti_InvalidFlag : PySem.W.typeIn K (.ref (aM "InvalidFlag" "__init__" K)) = some (.type "function")
  nf_InvalidFlag : He.eqO (PySem.W.findIn K (.ref (He.ga K "InvalidFlag")) "given") (some none) = true
  g_InvalidFlag : mg ("InvalidFlag" : Str) = some (.ref (He.ga K "InvalidFlag"))
  k_InvalidFlag : PySem.W.keepIn K (.ref (He.ga K "InvalidFlag")) = true
  ec_InvalidText : exClsB K (He.ga K "InvalidText") .v = true
  ic_InvalidText : He.eqO (PySem.W.findIn K (.ref (He.ga K "InvalidText")) "__init__") (some (some (.ref (aM "InvalidText" "__init__" K)))) = true
  ti_InvalidText : PySem.W.typeIn K (.ref (aM "InvalidText" "__init__" K)) = some (.type "function")
  nf_InvalidText : He.eqO (PySem.W.findIn K (.ref (He.ga K "InvalidText")) "given") (some none) = true
  g_InvalidText : mg ("InvalidText" : Str) = some (.ref (He.ga K "InvalidText"))
  k_InvalidText : PySem.W.keepIn K (.ref (He.ga K "InvalidText")) = true
  ec_InvalidNumber : exClsB K (He.ga K "InvalidNumber") .v = true
  ic_InvalidNumber : He.eqO (PySem.W.findIn K (.ref (He.ga K "InvalidNumber")) "__init__") (some (some (.ref (aM "InvalidNumber" "__init__" K)))) = true
  ti_InvalidNumber : PySem.W.typeIn K (.ref (aM "InvalidNumber" "__init__" K)) = some (.type "function")
  nf_InvalidNumber : He.eqO (PySem.W.findIn K (.ref (He.ga K "InvalidNumber")) "given") (some none) = true
  g_InvalidNumber : mg ("InvalidNumber" : Str) = some (.ref (He.ga K "InvalidNumber"))
  k_InvalidNumber : PySem.W.keepIn K (.ref (He.ga K "InvalidNumber")) = true
  ec_InvalidFaults : exClsB K (He.ga K "InvalidFaults") .v = true
  ic_InvalidFaults : He.eqO (PySem.W.findIn K (.ref (He.ga K "InvalidFaults")) "__init__") (some (some (.ref (aM "InvalidFaults" "__init__" K)))) = true
  ti_InvalidFaults : PySem.W.typeIn K (.ref (aM "InvalidFaults" "__init__" K)) = some (.type "function")
  nf_InvalidFaults : He.eqO (PySem.W.findIn K (.ref (He.ga K "InvalidFaults")) "given") (some none) = true
  g_InvalidFaults : mg ("InvalidFaults" : Str) = some (.ref (He.ga K "InvalidFaults"))
  k_InvalidFaults : PySem.W.keepIn K (.ref (He.ga K "InvalidFaults")) = true
  ec_InvalidFlow : exClsB K (He.ga K "InvalidFlow") .v = true
  ic_InvalidFlow : He.eqO (PySem.W.findIn K (.ref (He.ga K "InvalidFlow")) "__init__") (some (some (.ref (aM "InvalidFlow" "__init__" K)))) = true
  ti_InvalidFlow : PySem.W.typeIn K (.ref (aM "InvalidFlow" "__init__" K)) = some (.type "function")
  nf_InvalidFlow : He.eqO (PySem.W.findIn K (.ref (He.ga K "InvalidFlow")) "given") (some none) = true
  g_InvalidFlow : mg ("InvalidFlow" : Str) = some (.ref (He.ga K "InvalidFlow"))
  k_InvalidFlow : PySem.W.keepIn K (.ref (He.ga K "InvalidFlow")) = true
  ec_InvalidWorld : exClsB K (He.ga K "InvalidWorld") .v = true
  ic_InvalidWorld : He.eqO (PySem.W.findIn K (.ref (He.ga K "InvalidWorld")) "__init__") (some (some (.ref (aM "InvalidWorld" "__init__" K)))) = true
  ti_InvalidWorld : PySem.W.typeIn K (.ref (aM "InvalidWorld" "__init__" K)) = some (.type "function")
  nf_InvalidWorld : He.eqO (PySem.W.findIn K (.ref (He.ga K "InvalidWorld")) "given") (some none) = true
  g_InvalidWorld : mg ("InvalidWorld" : Str) = some (.ref (He.ga K "InvalidWorld"))
  k_InvalidWorld : PySem.W.keepIn K (.ref (He.ga K "InvalidWorld")) = true
  ec_InvalidReading : exClsB K (He.ga K "InvalidReading") .v = true
  ic_InvalidReading : He.eqO (PySem.W.findIn K (.ref (He.ga K "InvalidReading")) "__init__") (some (some (.ref (aM "InvalidReading" "__init__" K)))) = true
  ti_InvalidReading : PySem.W.typeIn K (.ref (aM "InvalidReading" "__init__" K)) = some (.type "function")
  nf_InvalidReading : He.eqO (PySem.W.findIn K (.ref (He.ga K "InvalidReading")) "given") (some none) = true
  g_InvalidReading : mg ("InvalidReading" : Str) = some (.ref (He.ga K "InvalidReading"))
  k_InvalidReading : PySem.W.keepIn K (.ref (He.ga K "InvalidReading")) = true
  ec_InvalidWish : exClsB K (He.ga K "InvalidWish") .v = true
  ic_InvalidWish : He.eqO (PySem.W.findIn K (.ref (He.ga K "InvalidWish")) "__init__") (some (some (.ref (aM "InvalidWish" "__init__" K)))) = true
  ti_InvalidWish : PySem.W.typeIn K (.ref (aM "InvalidWish" "__init__" K)) = some (.type "function")
  nf_InvalidWish : He.eqO (PySem.W.findIn K (.ref (He.ga K "InvalidWish")) "given") (some none) = true
  g_InvalidWish : mg ("InvalidWish" : Str) = some (.ref (He.ga K "InvalidWish"))
  k_InvalidWish : PySem.W.keepIn K (.ref (He.ga K "InvalidWish")) = true
  ec_InvalidIndex : exClsB K (He.ga K "InvalidIndex") .v = true
  ic_InvalidIndex : He.eqO (PySem.W.findIn K (.ref (He.ga K "InvalidIndex")) "__init__") (some (some (.ref (aM "InvalidIndex" "__init__" K)))) = true
  ti_InvalidIndex : PySem.W.typeIn K (.ref (aM "InvalidIndex" "__init__" K)) = some (.type "function")
  nf_InvalidIndex : He.eqO (PySem.W.findIn K (.ref (He.ga K "InvalidIndex")) "given") (some none) = true
  g_InvalidIndex : mg ("InvalidIndex" : Str) = some (.ref (He.ga K "InvalidIndex"))
  k_InvalidIndex : PySem.W.keepIn K (.ref (He.ga K "InvalidIndex")) = true
  ec_NotAMeter : exClsB K (He.ga K "NotAMeter") .v = true
  ic_NotAMeter : He.eqO (PySem.W.findIn K (.ref (He.ga K "NotAMeter")) "__init__") (some (some (.ref (aM "NotAMeter" "__init__" K)))) = true
  ti_NotAMeter : PySem.W.typeIn K (.ref (aM "NotAMeter" "__init__" K)) = some (.type "function")
  nf_NotAMeter : He.eqO (PySem.W.findIn K (.ref (He.ga K "NotAMeter")) "given") (some none) = true
  g_NotAMeter : mg ("NotAMeter" : Str) = some (.ref (He.ga K "NotAMeter"))
  k_NotAMeter : PySem.W.keepIn K (.ref (He.ga K "NotAMeter")) = true
  ec_NotANet : exClsB K (He.ga K "NotANet") .v = true
  ic_NotANet : He.eqO (PySem.W.findIn K (.ref (He.ga K "NotANet")) "__init__") (some (some (.ref (aM "NotANet" "__init__" K)))) = true
  ti_NotANet : PySem.W.typeIn K (.ref (aM "NotANet" "__init__" K)) = some (.type "function")
  nf_NotANet : He.eqO (PySem.W.findIn K (.ref (He.ga K "NotANet")) "given") (some none) = true
  g_NotANet : mg ("NotANet" : Str) = some (.ref (He.ga K "NotANet"))
  k_NotANet : PySem.W.keepIn K (.ref (He.ga K "NotANet")) = true
  ec_NotASum : exClsB K (He.ga K "NotASum") .v = true
  ic_NotASum : He.eqO (PySem.W.findIn K (.ref (He.ga K "NotASum")) "__init__") (some (some (.ref (aM "NotASum" "__init__" K)))) = true
  ti_NotASum : PySem.W.typeIn K (.ref (aM "NotASum" "__init__" K)) = some (.type "function")
  nf_NotASum : He.eqO (PySem.W.findIn K (.ref (He.ga K "NotASum")) "given") (some none) = true
  g_NotASum : mg ("NotASum" : Str) = some (.ref (He.ga K "NotASum"))
  k_NotASum : PySem.W.keepIn K (.ref (He.ga K "NotASum")) = true
  ec_NotARule : exClsB K (He.ga K "NotARule") .v = true
  ic_NotARule : He.eqO (PySem.W.findIn K (.ref (He.ga K "NotARule")) "__init__") (some (some (.ref (aM "NotARule" "__init__" K)))) = true
  ti_NotARule : PySem.W.typeIn K (.ref (aM "NotARule" "__init__" K)) = some (.type "function")
  nf_NotARule : He.eqO (PySem.W.findIn K (.ref (He.ga K "NotARule")) "given") (some none) = true
  g_NotARule : mg ("NotARule" : Str) = some (.ref (He.ga K "NotARule"))
  k_NotARule : PySem.W.keepIn K (.ref (He.ga K "NotARule")) = true
  ec_NotAnEntry : exClsB K (He.ga K "NotAnEntry") .v = true
  ic_NotAnEntry : He.eqO (PySem.W.findIn K (.ref (He.ga K "NotAnEntry")) "__init__") (some (some (.ref (aM "NotAnEntry" "__init__" K)))) = true
  ti_NotAnEntry : PySem.W.typeIn K (.ref (aM "NotAnEntry" "__init__" K)) = some (.type "function")
  nf_NotAnEntry : He.eqO (PySem.W.findIn K (.ref (He.ga K "NotAnEntry")) "given") (some none) = true
  g_NotAnEntry : mg ("NotAnEntry" : Str) = some (.ref (He.ga K "NotAnEntry"))
  k_NotAnEntry : PySem.W.keepIn K (.ref (He.ga K "NotAnEntry")) = true
  ec_UnknownName : exClsB K (He.ga K "UnknownName") .l = true
  ic_UnknownName : He.eqO (PySem.W.findIn K (.ref (He.ga K "UnknownName")) "__init__") (some (some (.ref (aM "UnknownName" "__init__" K)))) = true
  ti_UnknownName : PySem.W.typeIn K (.ref (aM "UnknownName" "__init__" K)) = some (.type "function")
  nf_UnknownName : He.eqO (PySem.W.findIn K (.ref (He.ga K "UnknownName")) "given") (some none) = true
  g_UnknownName : mg ("UnknownName" : Str) = some (.ref (He.ga K "UnknownName"))
  k_UnknownName : PySem.W.keepIn K (.ref (He.ga K "UnknownName")) = true
  ec_OtherMeters : exClsB K (He.ga K "OtherMeters") .l = true
  ic_OtherMeters : He.eqO (PySem.W.findIn K (.ref (He.ga K "OtherMeters")) "__init__") (some (some (.ref (aM "OtherMeters" "__init__" K)))) = true
  ti_OtherMeters : PySem.W.typeIn K (.ref (aM "OtherMeters" "__init__" K)) = some (.type "function")
  nf_OtherMeters : He.eqO (PySem.W.findIn K (.ref (He.ga K "OtherMeters")) "given") (some none) = true
  g_OtherMeters : mg ("OtherMeters" : Str) = some (.ref (He.ga K "OtherMeters"))
  k_OtherMeters : PySem.W.keepIn K (.ref (He.ga K "OtherMeters")) = true
  g__law_given : mg ("_law_given" : Str) = some (.ref (He.ga K "_law_given"))
  k__law_given : PySem.W.keepIn K (.ref (He.ga K "_law_given")) = true
  b_isinstance : mg ("isinstance" : Str) = none
  ise : IsE.ok K iseT = true
  isi : Isi.ok K isiT = true
  g_InvalidPipes : mg ("InvalidPipes" : Str) = some (.ref (He.ga K "InvalidPipes"))
  g_InvalidMeters : mg ("InvalidMeters" : Str) = some (.ref (He.ga K "InvalidMeters"))
  g_InvalidTerms : mg ("InvalidTerms" : Str) = some (.ref (He.ga K "InvalidTerms"))
  g_InvalidRows : mg ("InvalidRows" : Str) = some (.ref (He.ga K "InvalidRows"))
  g_InvalidReadings : mg ("InvalidReadings" : Str) = some (.ref (He.ga K "InvalidReadings"))
  g_InvalidOffers : mg ("InvalidOffers" : Str) = some (.ref (He.ga K "InvalidOffers"))
  g_InvalidWishes : mg ("InvalidWishes" : Str) = some (.ref (He.ga K "InvalidWishes"))
  g_InvalidPrices : mg ("InvalidPrices" : Str) = some (.ref (He.ga K "InvalidPrices"))
  g_InUse : mg ("InUse" : Str) = some (.ref (He.ga K "InUse"))
  g_Broken : mg ("Broken" : Str) = some (.ref (He.ga K "Broken"))
  g_TooMany : mg ("TooMany" : Str) = some (.ref (He.ga K "TooMany"))
  g_NoWorld : mg ("NoWorld" : Str) = some (.ref (He.ga K "NoWorld"))
  g_NothingToUndo : mg ("NothingToUndo" : Str) = some (.ref (He.ga K "NothingToUndo"))
  g__law_sorts : mg ("_law_sorts" : Str) = some (.ref (He.ga K "_law_sorts"))
  k__law_sorts : PySem.W.keepIn K (.ref (He.ga K "_law_sorts")) = true
  g_BadValue : mg ("BadValue" : Str) = some (.ref (He.ga K "BadValue"))
  g_BadName : mg ("BadName" : Str) = some (.ref (He.ga K "BadName"))
  g_NoAnswer : mg ("NoAnswer" : Str) = some (.ref (He.ga K "NoAnswer"))
  b_ValueError : mg ("ValueError" : Str) = none
  b_LookupError : mg ("LookupError" : Str) = none
  b_ArithmeticError : mg ("ArithmeticError" : Str) = none
  g__law_bases : mg ("_law_bases" : Str) = some (.ref (He.ga K "_law_bases"))
  k__law_bases : PySem.W.keepIn K (.ref (He.ga K "_law_bases")) = true
  g__law_fits : mg ("_law_fits" : Str) = some (.ref (He.ga K "_law_fits"))
  k__law_fits : PySem.W.keepIn K (.ref (He.ga K "_law_fits")) = true
  b_all : mg ("all" : Str) = none
  exs : Exs.ok K exsT = true
  exno_given : Exs.noF K exsT "given" = true
  ec_InvalidPipes : exClsB K (He.ga K "InvalidPipes") .v = true
  ic_InvalidPipes : He.eqO (PySem.W.findIn K (.ref (He.ga K "InvalidPipes")) "__init__") (some (some (.ref (aM "InvalidPipes" "__init__" K)))) = true
  ti_InvalidPipes : PySem.W.typeIn K (.ref (aM "InvalidPipes" "__init__" K)) = some (.type "function")
  nf_InvalidPipes : He.eqO (PySem.W.findIn K (.ref (He.ga K "InvalidPipes")) "index") (some none) = true
  k_InvalidPipes : PySem.W.keepIn K (.ref (He.ga K "InvalidPipes")) = true
  ec_InvalidMeters : exClsB K (He.ga K "InvalidMeters") .v = true
  ic_InvalidMeters : He.eqO (PySem.W.findIn K (.ref (He.ga K "InvalidMeters")) "__init__") (some (some (.ref (aM "InvalidMeters" "__init__" K)))) = true
  ti_InvalidMeters : PySem.W.typeIn K (.ref (aM "InvalidMeters" "__init__" K)) = some (.type "function")
  nf_InvalidMeters : He.eqO (PySem.W.findIn K (.ref (He.ga K "InvalidMeters")) "index") (some none) = true
  k_InvalidMeters : PySem.W.keepIn K (.ref (He.ga K "InvalidMeters")) = true
  ec_InvalidTerms : exClsB K (He.ga K "InvalidTerms") .v = true
  ic_InvalidTerms : He.eqO (PySem.W.findIn K (.ref (He.ga K "InvalidTerms")) "__init__") (some (some (.ref (aM "InvalidTerms" "__init__" K)))) = true
  ti_InvalidTerms : PySem.W.typeIn K (.ref (aM "InvalidTerms" "__init__" K)) = some (.type "function")
  nf_InvalidTerms : He.eqO (PySem.W.findIn K (.ref (He.ga K "InvalidTerms")) "index") (some none) = true
  k_InvalidTerms : PySem.W.keepIn K (.ref (He.ga K "InvalidTerms")) = true
  ec_InvalidRows : exClsB K (He.ga K "InvalidRows") .v = true
  ic_InvalidRows : He.eqO (PySem.W.findIn K (.ref (He.ga K "InvalidRows")) "__init__") (some (some (.ref (aM "InvalidRows" "__init__" K)))) = true
  ti_InvalidRows : PySem.W.typeIn K (.ref (aM "InvalidRows" "__init__" K)) = some (.type "function")
  nf_InvalidRows : He.eqO (PySem.W.findIn K (.ref (He.ga K "InvalidRows")) "index") (some none) = true
  k_InvalidRows : PySem.W.keepIn K (.ref (He.ga K "InvalidRows")) = true
  ec_InvalidReadings : exClsB K (He.ga K "InvalidReadings") .v = true
  ic_InvalidReadings : He.eqO (PySem.W.findIn K (.ref (He.ga K "InvalidReadings")) "__init__") (some (some (.ref (aM "InvalidReadings" "__init__" K)))) = true
  ti_InvalidReadings : PySem.W.typeIn K (.ref (aM "InvalidReadings" "__init__" K)) = some (.type "function")
  nf_InvalidReadings : He.eqO (PySem.W.findIn K (.ref (He.ga K "InvalidReadings")) "index") (some none) = true
  k_InvalidReadings : PySem.W.keepIn K (.ref (He.ga K "InvalidReadings")) = true
  ec_InvalidOffers : exClsB K (He.ga K "InvalidOffers") .v = true
  ic_InvalidOffers : He.eqO (PySem.W.findIn K (.ref (He.ga K "InvalidOffers")) "__init__") (some (some (.ref (aM "InvalidOffers" "__init__" K)))) = true
  ti_InvalidOffers : PySem.W.typeIn K (.ref (aM "InvalidOffers" "__init__" K)) = some (.type "function")
  nf_InvalidOffers : He.eqO (PySem.W.findIn K (.ref (He.ga K "InvalidOffers")) "index") (some none) = true
  k_InvalidOffers : PySem.W.keepIn K (.ref (He.ga K "InvalidOffers")) = true
  ec_InvalidWishes : exClsB K (He.ga K "InvalidWishes") .v = true
  ic_InvalidWishes : He.eqO (PySem.W.findIn K (.ref (He.ga K "InvalidWishes")) "__init__") (some (some (.ref (aM "InvalidWishes" "__init__" K)))) = true
  ti_InvalidWishes : PySem.W.typeIn K (.ref (aM "InvalidWishes" "__init__" K)) = some (.type "function")
  nf_InvalidWishes : He.eqO (PySem.W.findIn K (.ref (He.ga K "InvalidWishes")) "index") (some none) = true
  k_InvalidWishes : PySem.W.keepIn K (.ref (He.ga K "InvalidWishes")) = true
  ec_InvalidPrices : exClsB K (He.ga K "InvalidPrices") .v = true
  ic_InvalidPrices : He.eqO (PySem.W.findIn K (.ref (He.ga K "InvalidPrices")) "__init__") (some (some (.ref (aM "InvalidPrices" "__init__" K)))) = true
  ti_InvalidPrices : PySem.W.typeIn K (.ref (aM "InvalidPrices" "__init__" K)) = some (.type "function")
  nf_InvalidPrices : He.eqO (PySem.W.findIn K (.ref (He.ga K "InvalidPrices")) "index") (some none) = true
  k_InvalidPrices : PySem.W.keepIn K (.ref (He.ga K "InvalidPrices")) = true
  ec_InUse : exClsB K (He.ga K "InUse") .l = true
  ic_InUse : He.eqO (PySem.W.findIn K (.ref (He.ga K "InUse")) "__init__") (some (some (.ref (aM "InUse" "__init__" K)))) = true
  ti_InUse : PySem.W.typeIn K (.ref (aM "InUse" "__init__" K)) = some (.type "function")
  nf_InUse : He.eqO (PySem.W.findIn K (.ref (He.ga K "InUse")) "index") (some none) = true
  k_InUse : PySem.W.keepIn K (.ref (He.ga K "InUse")) = true
  ec_Broken : exClsB K (He.ga K "Broken") .a = true
  ic_Broken : He.eqO (PySem.W.findIn K (.ref (He.ga K "Broken")) "__init__") (some (some (.ref (aM "Broken" "__init__" K)))) = true
  ti_Broken : PySem.W.typeIn K (.ref (aM "Broken" "__init__" K)) = some (.type "function")
  nf_Broken : He.eqO (PySem.W.findIn K (.ref (He.ga K "Broken")) "index") (some none) = true
  k_Broken : PySem.W.keepIn K (.ref (He.ga K "Broken")) = true
  g__law_indexed : mg ("_law_indexed" : Str) = some (.ref (He.ga K "_law_indexed"))
  k__law_indexed : PySem.W.keepIn K (.ref (He.ga K "_law_indexed")) = true
  exno_index : Exs.noF K exsT "index" = true
  ec_TooMany : exClsB K (He.ga K "TooMany") .a = true
  ic_TooMany : He.eqO (PySem.W.findIn K (.ref (He.ga K "TooMany")) "__init__") (some (some (.ref (aM "TooMany" "__init__" K)))) = true
  ti_TooMany : PySem.W.typeIn K (.ref (aM "TooMany" "__init__" K)) = some (.type "function")
  nf_TooMany : He.eqO (PySem.W.findIn K (.ref (He.ga K "TooMany")) "limit") (some none) = true
  k_TooMany : PySem.W.keepIn K (.ref (He.ga K "TooMany")) = true
  exno_limit : Exs.noF K exsT "limit" = true
  ec_NoWorld : exClsB K (He.ga K "NoWorld") .a = true
  ic_NoWorld : He.eqO (PySem.W.findIn K (.ref (He.ga K "NoWorld")) "__init__") (some (some (.ref (aM "NoWorld" "__init__" K)))) = true
  ti_NoWorld : PySem.W.typeIn K (.ref (aM "NoWorld" "__init__" K)) = some (.type "function")
  nf_NoWorld : He.eqO (PySem.W.findIn K (.ref (He.ga K "NoWorld")) "most") (some none) = true
  k_NoWorld : PySem.W.keepIn K (.ref (He.ga K "NoWorld")) = true
  exno_most : Exs.noF K exsT "most" = true
  ec_NothingToUndo : exClsB K (He.ga K "NothingToUndo") .a = true
  ic_NothingToUndo : He.eqO (PySem.W.findIn K (.ref (He.ga K "NothingToUndo")) "__init__") (some (some (.ref (aM "NothingToUndo" "__init__" K)))) = true
  ti_NothingToUndo : PySem.W.typeIn K (.ref (aM "NothingToUndo" "__init__" K)) = some (.type "function")
  k_NothingToUndo : PySem.W.keepIn K (.ref (He.ga K "NothingToUndo")) = true
  b_divmod : mg ("divmod" : Str) = none
  g__law_dip : mg ("_law_dip" : Str) = some (.ref (He.ga K "_law_dip"))
  k__law_dip : PySem.W.keepIn K (.ref (He.ga K "_law_dip")) = true
  g__law_any : mg ("_law_any" : Str) = some (.ref (He.ga K "_law_any"))
  k__law_any : PySem.W.keepIn K (.ref (He.ga K "_law_any")) = true
  g__law_right : mg ("_law_right" : Str) = some (.ref (He.ga K "_law_right"))
  k__law_right : PySem.W.keepIn K (.ref (He.ga K "_law_right")) = true
  g_law : mg ("law" : Str) = some (.ref (He.ga K "law"))
  d__law_well : ∃ fd, FnD K D__law_well fd
  d_InvalidName___init__ : ∃ fd, FnD K D_InvalidName___init__ fd
  d_InvalidEnd___init__ : ∃ fd, FnD K D_InvalidEnd___init__ fd
  d_InvalidFlag___init__ : ∃ fd, FnD K D_InvalidFlag___init__ fd
  d_InvalidText___init__ : ∃ fd, FnD K D_InvalidText___init__ fd
  d_InvalidNumber___init__ : ∃ fd, FnD K D_InvalidNumber___init__ fd
  d_InvalidFaults___init__ : ∃ fd, FnD K D_InvalidFaults___init__ fd
  d_InvalidFlow___init__ : ∃ fd, FnD K D_InvalidFlow___init__ fd
  d_InvalidWorld___init__ : ∃ fd, FnD K D_InvalidWorld___init__ fd
  d_InvalidReading___init__ : ∃ fd, FnD K D_InvalidReading___init__ fd
  d_InvalidWish___init__ : ∃ fd, FnD K D_InvalidWish___init__ fd
  d_InvalidIndex___init__ : ∃ fd, FnD K D_InvalidIndex___init__ fd
  d_NotAMeter___init__ : ∃ fd, FnD K D_NotAMeter___init__ fd
  d_NotANet___init__ : ∃ fd, FnD K D_NotANet___init__ fd
  d_NotASum___init__ : ∃ fd, FnD K D_NotASum___init__ fd
  d_NotARule___init__ : ∃ fd, FnD K D_NotARule___init__ fd
  d_NotAnEntry___init__ : ∃ fd, FnD K D_NotAnEntry___init__ fd
  d_UnknownName___init__ : ∃ fd, FnD K D_UnknownName___init__ fd
  d_OtherMeters___init__ : ∃ fd, FnD K D_OtherMeters___init__ fd
  d__law_given : ∃ fd, FnD K D__law_given fd
  d__law_sorts : ∃ fd, FnD K D__law_sorts fd
  d__law_bases : ∃ fd, FnD K D__law_bases fd
  d__law_fits : ∃ fd, FnD K D__law_fits fd
  d_InvalidPipes___init__ : ∃ fd, FnD K D_InvalidPipes___init__ fd
  d_InvalidMeters___init__ : ∃ fd, FnD K D_InvalidMeters___init__ fd
  d_InvalidTerms___init__ : ∃ fd, FnD K D_InvalidTerms___init__ fd
  d_InvalidRows___init__ : ∃ fd, FnD K D_InvalidRows___init__ fd
  d_InvalidReadings___init__ : ∃ fd, FnD K D_InvalidReadings___init__ fd
  d_InvalidOffers___init__ : ∃ fd, FnD K D_InvalidOffers___init__ fd
  d_InvalidWishes___init__ : ∃ fd, FnD K D_InvalidWishes___init__ fd
  d_InvalidPrices___init__ : ∃ fd, FnD K D_InvalidPrices___init__ fd
  d_InUse___init__ : ∃ fd, FnD K D_InUse___init__ fd
  d_Broken___init__ : ∃ fd, FnD K D_Broken___init__ fd
  d__law_indexed : ∃ fd, FnD K D__law_indexed fd
  d_TooMany___init__ : ∃ fd, FnD K D_TooMany___init__ fd
  d_NoWorld___init__ : ∃ fd, FnD K D_NoWorld___init__ fd
  d_NothingToUndo___init__ : ∃ fd, FnD K D_NothingToUndo___init__ fd
  d__law_right : ∃ fd, FnD K D__law_right fd
  d__law_dip : ∃ fd, FnD K D__law_dip fd
  d__law_any : ∃ fd, FnD K D__law_any fd
  d_law : ∃ fd, FnD K D_law fd
def fs : Facts := [
  fFa (.int "MOST_PIPES" 12),
  fFa (.int "MOST_METERS" 12),
  fFa (.int "MOST_ROWS" 8),
  fFa (.int "MOST_SUMS" 10),
  fFa (.int "MOST_FAULTS" 3),
  fFa (.int "MOST_OFFERS" 6),
  fFa (.int "MOST_PAIRS" 1000),
  fFa (.free "repr"),
  sysB,
  fFa (.free "len"),
  fFa (.free "min"),
  fFa (.free "max"),
  fFa (.free "range"),
  fFa (.free "int"),
  fFa (.free "abs"),
  fFa (.glo "_law_well"),
  fFa (.keep "_law_well"),
  fun K => exClsB K (He.ga K "InvalidName") .v,
  fun K => He.eqO (PySem.W.findIn K (.ref (He.ga K "InvalidName")) "__init__") (some (some (.ref (aM "InvalidName" "__init__" K)))),
  fun K => decide (PySem.W.typeIn K (.ref (aM "InvalidName" "__init__" K)) = some (.type "function")),
  fun K => He.eqO (PySem.W.findIn K (.ref (He.ga K "InvalidName")) "given") (some none),
  fFa (.glo "InvalidName"),
  fFa (.keep "InvalidName"),
  fun K => exClsB K (He.ga K "InvalidEnd") .v,
  fun K => He.eqO (PySem.W.findIn K (.ref (He.ga K "InvalidEnd")) "__init__") (some (some (.ref (aM "InvalidEnd" "__init__" K)))),
  fun K => decide (PySem.W.typeIn K (.ref (aM "InvalidEnd" "__init__" K)) = some (.type "function")),
  fun K => He.eqO (PySem.W.findIn K (.ref (He.ga K "InvalidEnd")) "given") (some none),
  fFa (.glo "InvalidEnd"),
  fFa (.keep "InvalidEnd"),
  fun K => exClsB K (He.ga K "InvalidFlag") .v,
  fun K => He.eqO (PySem.W.findIn K (.ref (He.ga K "InvalidFlag")) "__init__") (some (some (.ref (aM "InvalidFlag" "__init__" K)))),
  fun K => decide (PySem.W.typeIn K (.ref (aM "InvalidFlag" "__init__" K)) = some (.type "function")),
  fun K => He.eqO (PySem.W.findIn K (.ref (He.ga K "InvalidFlag")) "given") (some none),
  fFa (.glo "InvalidFlag"),
  fFa (.keep "InvalidFlag"),
  fun K => exClsB K (He.ga K "InvalidText") .v,
  fun K => He.eqO (PySem.W.findIn K (.ref (He.ga K "InvalidText")) "__init__") (some (some (.ref (aM "InvalidText" "__init__" K)))),
  fun K => decide (PySem.W.typeIn K (.ref (aM "InvalidText" "__init__" K)) = some (.type "function")),
  fun K => He.eqO (PySem.W.findIn K (.ref (He.ga K "InvalidText")) "given") (some none),
  fFa (.glo "InvalidText"),
  fFa (.keep "InvalidText"),
  fun K => exClsB K (He.ga K "InvalidNumber") .v,
  fun K => He.eqO (PySem.W.findIn K (.ref (He.ga K "InvalidNumber")) "__init__") (some (some (.ref (aM "InvalidNumber" "__init__" K)))),
  fun K => decide (PySem.W.typeIn K (.ref (aM "InvalidNumber" "__init__" K)) = some (.type "function")),
  fun K => He.eqO (PySem.W.findIn K (.ref (He.ga K "InvalidNumber")) "given") (some none),
  fFa (.glo "InvalidNumber"),
  fFa (.keep "InvalidNumber"),
  fun K => exClsB K (He.ga K "InvalidFaults") .v,
  fun K => He.eqO (PySem.W.findIn K (.ref (He.ga K "InvalidFaults")) "__init__") (some (some (.ref (aM "InvalidFaults" "__init__" K)))),
  fun K => decide (PySem.W.typeIn K (.ref (aM "InvalidFaults" "__init__" K)) = some (.type "function")),
  fun K => He.eqO (PySem.W.findIn K (.ref (He.ga K "InvalidFaults")) "given") (some none),
  fFa (.glo "InvalidFaults"),
  fFa (.keep "InvalidFaults"),
  fun K => exClsB K (He.ga K "InvalidFlow") .v,
  fun K => He.eqO (PySem.W.findIn K (.ref (He.ga K "InvalidFlow")) "__init__") (some (some (.ref (aM "InvalidFlow" "__init__" K)))),
  fun K => decide (PySem.W.typeIn K (.ref (aM "InvalidFlow" "__init__" K)) = some (.type "function")),
  fun K => He.eqO (PySem.W.findIn K (.ref (He.ga K "InvalidFlow")) "given") (some none),
  fFa (.glo "InvalidFlow"),
  fFa (.keep "InvalidFlow"),
  fun K => exClsB K (He.ga K "InvalidWorld") .v,
  fun K => He.eqO (PySem.W.findIn K (.ref (He.ga K "InvalidWorld")) "__init__") (some (some (.ref (aM "InvalidWorld" "__init__" K)))),
  fun K => decide (PySem.W.typeIn K (.ref (aM "InvalidWorld" "__init__" K)) = some (.type "function")),
  fun K => He.eqO (PySem.W.findIn K (.ref (He.ga K "InvalidWorld")) "given") (some none),
  fFa (.glo "InvalidWorld"),
  fFa (.keep "InvalidWorld"),
  fun K => exClsB K (He.ga K "InvalidReading") .v,
  fun K => He.eqO (PySem.W.findIn K (.ref (He.ga K "InvalidReading")) "__init__") (some (some (.ref (aM "InvalidReading" "__init__" K)))),
  fun K => decide (PySem.W.typeIn K (.ref (aM "InvalidReading" "__init__" K)) = some (.type "function")),
  fun K => He.eqO (PySem.W.findIn K (.ref (He.ga K "InvalidReading")) "given") (some none),
  fFa (.glo "InvalidReading"),
  fFa (.keep "InvalidReading"),
  fun K => exClsB K (He.ga K "InvalidWish") .v,
  fun K => He.eqO (PySem.W.findIn K (.ref (He.ga K "InvalidWish")) "__init__") (some (some (.ref (aM "InvalidWish" "__init__" K)))),
  fun K => decide (PySem.W.typeIn K (.ref (aM "InvalidWish" "__init__" K)) = some (.type "function")),
  fun K => He.eqO (PySem.W.findIn K (.ref (He.ga K "InvalidWish")) "given") (some none),
  fFa (.glo "InvalidWish"),
  fFa (.keep "InvalidWish"),
  fun K => exClsB K (He.ga K "InvalidIndex") .v,
  fun K => He.eqO (PySem.W.findIn K (.ref (He.ga K "InvalidIndex")) "__init__") (some (some (.ref (aM "InvalidIndex" "__init__" K)))),
  fun K => decide (PySem.W.typeIn K (.ref (aM "InvalidIndex" "__init__" K)) = some (.type "function")),
  fun K => He.eqO (PySem.W.findIn K (.ref (He.ga K "InvalidIndex")) "given") (some none),
  fFa (.glo "InvalidIndex"),
  fFa (.keep "InvalidIndex"),
  fun K => exClsB K (He.ga K "NotAMeter") .v,
  fun K => He.eqO (PySem.W.findIn K (.ref (He.ga K "NotAMeter")) "__init__") (some (some (.ref (aM "NotAMeter" "__init__" K)))),
  fun K => decide (PySem.W.typeIn K (.ref (aM "NotAMeter" "__init__" K)) = some (.type "function")),
  fun K => He.eqO (PySem.W.findIn K (.ref (He.ga K "NotAMeter")) "given") (some none),
  fFa (.glo "NotAMeter"),
  fFa (.keep "NotAMeter"),
  fun K => exClsB K (He.ga K "NotANet") .v,
  fun K => He.eqO (PySem.W.findIn K (.ref (He.ga K "NotANet")) "__init__") (some (some (.ref (aM "NotANet" "__init__" K)))),
  fun K => decide (PySem.W.typeIn K (.ref (aM "NotANet" "__init__" K)) = some (.type "function")),
  fun K => He.eqO (PySem.W.findIn K (.ref (He.ga K "NotANet")) "given") (some none),
  fFa (.glo "NotANet"),
  fFa (.keep "NotANet"),
  fun K => exClsB K (He.ga K "NotASum") .v,
  fun K => He.eqO (PySem.W.findIn K (.ref (He.ga K "NotASum")) "__init__") (some (some (.ref (aM "NotASum" "__init__" K)))),
  fun K => decide (PySem.W.typeIn K (.ref (aM "NotASum" "__init__" K)) = some (.type "function")),
  fun K => He.eqO (PySem.W.findIn K (.ref (He.ga K "NotASum")) "given") (some none),
  fFa (.glo "NotASum"),
  fFa (.keep "NotASum"),
  fun K => exClsB K (He.ga K "NotARule") .v,
  fun K => He.eqO (PySem.W.findIn K (.ref (He.ga K "NotARule")) "__init__") (some (some (.ref (aM "NotARule" "__init__" K)))),
  fun K => decide (PySem.W.typeIn K (.ref (aM "NotARule" "__init__" K)) = some (.type "function")),
  fun K => He.eqO (PySem.W.findIn K (.ref (He.ga K "NotARule")) "given") (some none),
  fFa (.glo "NotARule"),
  fFa (.keep "NotARule"),
  fun K => exClsB K (He.ga K "NotAnEntry") .v,
  fun K => He.eqO (PySem.W.findIn K (.ref (He.ga K "NotAnEntry")) "__init__") (some (some (.ref (aM "NotAnEntry" "__init__" K)))),
  fun K => decide (PySem.W.typeIn K (.ref (aM "NotAnEntry" "__init__" K)) = some (.type "function")),
  fun K => He.eqO (PySem.W.findIn K (.ref (He.ga K "NotAnEntry")) "given") (some none),
  fFa (.glo "NotAnEntry"),
  fFa (.keep "NotAnEntry"),
  fun K => exClsB K (He.ga K "UnknownName") .l,
  fun K => He.eqO (PySem.W.findIn K (.ref (He.ga K "UnknownName")) "__init__") (some (some (.ref (aM "UnknownName" "__init__" K)))),
  fun K => decide (PySem.W.typeIn K (.ref (aM "UnknownName" "__init__" K)) = some (.type "function")),
  fun K => He.eqO (PySem.W.findIn K (.ref (He.ga K "UnknownName")) "given") (some none),
  fFa (.glo "UnknownName"),
  fFa (.keep "UnknownName"),
  fun K => exClsB K (He.ga K "OtherMeters") .l,
  fun K => He.eqO (PySem.W.findIn K (.ref (He.ga K "OtherMeters")) "__init__") (some (some (.ref (aM "OtherMeters" "__init__" K)))),
  fun K => decide (PySem.W.typeIn K (.ref (aM "OtherMeters" "__init__" K)) = some (.type "function")),
  fun K => He.eqO (PySem.W.findIn K (.ref (He.ga K "OtherMeters")) "given") (some none),
  fFa (.glo "OtherMeters"),
  fFa (.keep "OtherMeters"),
  fFa (.glo "_law_given"),
  fFa (.keep "_law_given"),
  fFa (.free "isinstance"),
  fun K => IsE.ok K iseT,
  fun K => Isi.ok K isiT,
  fFa (.glo "InvalidPipes"),
  fFa (.glo "InvalidMeters"),
  fFa (.glo "InvalidTerms"),
  fFa (.glo "InvalidRows"),
  fFa (.glo "InvalidReadings"),
  fFa (.glo "InvalidOffers"),
  fFa (.glo "InvalidWishes"),
  fFa (.glo "InvalidPrices"),
  fFa (.glo "InUse"),
  fFa (.glo "Broken"),
  fFa (.glo "TooMany"),
  fFa (.glo "NoWorld"),
  fFa (.glo "NothingToUndo"),
  fFa (.glo "_law_sorts"),
  fFa (.keep "_law_sorts"),
  fFa (.glo "BadValue"),
  fFa (.glo "BadName"),
  fFa (.glo "NoAnswer"),
  fFa (.free "ValueError"),
  fFa (.free "LookupError"),
  fFa (.free "ArithmeticError"),
  fFa (.glo "_law_bases"),
  fFa (.keep "_law_bases"),
  fFa (.glo "_law_fits"),
  fFa (.keep "_law_fits"),
  fFa (.free "all"),
  fun K => Exs.ok K exsT,
  fun K => Exs.noF K exsT "given",
  fun K => exClsB K (He.ga K "InvalidPipes") .v,
  fun K => He.eqO (PySem.W.findIn K (.ref (He.ga K "InvalidPipes")) "__init__") (some (some (.ref (aM "InvalidPipes" "__init__" K)))),
  fun K => decide (PySem.W.typeIn K (.ref (aM "InvalidPipes" "__init__" K)) = some (.type "function")),
  fun K => He.eqO (PySem.W.findIn K (.ref (He.ga K "InvalidPipes")) "index") (some none),
  fFa (.keep "InvalidPipes"),
  fun K => exClsB K (He.ga K "InvalidMeters") .v,
  fun K => He.eqO (PySem.W.findIn K (.ref (He.ga K "InvalidMeters")) "__init__") (some (some (.ref (aM "InvalidMeters" "__init__" K)))),
  fun K => decide (PySem.W.typeIn K (.ref (aM "InvalidMeters" "__init__" K)) = some (.type "function")),
  fun K => He.eqO (PySem.W.findIn K (.ref (He.ga K "InvalidMeters")) "index") (some none),
  fFa (.keep "InvalidMeters"),
  fun K => exClsB K (He.ga K "InvalidTerms") .v,
  fun K => He.eqO (PySem.W.findIn K (.ref (He.ga K "InvalidTerms")) "__init__") (some (some (.ref (aM "InvalidTerms" "__init__" K)))),
  fun K => decide (PySem.W.typeIn K (.ref (aM "InvalidTerms" "__init__" K)) = some (.type "function")),
  fun K => He.eqO (PySem.W.findIn K (.ref (He.ga K "InvalidTerms")) "index") (some none),
  fFa (.keep "InvalidTerms"),
  fun K => exClsB K (He.ga K "InvalidRows") .v,
  fun K => He.eqO (PySem.W.findIn K (.ref (He.ga K "InvalidRows")) "__init__") (some (some (.ref (aM "InvalidRows" "__init__" K)))),
  fun K => decide (PySem.W.typeIn K (.ref (aM "InvalidRows" "__init__" K)) = some (.type "function")),
  fun K => He.eqO (PySem.W.findIn K (.ref (He.ga K "InvalidRows")) "index") (some none),
  fFa (.keep "InvalidRows"),
  fun K => exClsB K (He.ga K "InvalidReadings") .v,
  fun K => He.eqO (PySem.W.findIn K (.ref (He.ga K "InvalidReadings")) "__init__") (some (some (.ref (aM "InvalidReadings" "__init__" K)))),
  fun K => decide (PySem.W.typeIn K (.ref (aM "InvalidReadings" "__init__" K)) = some (.type "function")),
  fun K => He.eqO (PySem.W.findIn K (.ref (He.ga K "InvalidReadings")) "index") (some none),
  fFa (.keep "InvalidReadings"),
  fun K => exClsB K (He.ga K "InvalidOffers") .v,
  fun K => He.eqO (PySem.W.findIn K (.ref (He.ga K "InvalidOffers")) "__init__") (some (some (.ref (aM "InvalidOffers" "__init__" K)))),
  fun K => decide (PySem.W.typeIn K (.ref (aM "InvalidOffers" "__init__" K)) = some (.type "function")),
  fun K => He.eqO (PySem.W.findIn K (.ref (He.ga K "InvalidOffers")) "index") (some none),
  fFa (.keep "InvalidOffers"),
  fun K => exClsB K (He.ga K "InvalidWishes") .v,
  fun K => He.eqO (PySem.W.findIn K (.ref (He.ga K "InvalidWishes")) "__init__") (some (some (.ref (aM "InvalidWishes" "__init__" K)))),
  fun K => decide (PySem.W.typeIn K (.ref (aM "InvalidWishes" "__init__" K)) = some (.type "function")),
  fun K => He.eqO (PySem.W.findIn K (.ref (He.ga K "InvalidWishes")) "index") (some none),
  fFa (.keep "InvalidWishes"),
  fun K => exClsB K (He.ga K "InvalidPrices") .v,
  fun K => He.eqO (PySem.W.findIn K (.ref (He.ga K "InvalidPrices")) "__init__") (some (some (.ref (aM "InvalidPrices" "__init__" K)))),
  fun K => decide (PySem.W.typeIn K (.ref (aM "InvalidPrices" "__init__" K)) = some (.type "function")),
  fun K => He.eqO (PySem.W.findIn K (.ref (He.ga K "InvalidPrices")) "index") (some none),
  fFa (.keep "InvalidPrices"),
  fun K => exClsB K (He.ga K "InUse") .l,
  fun K => He.eqO (PySem.W.findIn K (.ref (He.ga K "InUse")) "__init__") (some (some (.ref (aM "InUse" "__init__" K)))),
  fun K => decide (PySem.W.typeIn K (.ref (aM "InUse" "__init__" K)) = some (.type "function")),
  fun K => He.eqO (PySem.W.findIn K (.ref (He.ga K "InUse")) "index") (some none),
  fFa (.keep "InUse"),
  fun K => exClsB K (He.ga K "Broken") .a,
  fun K => He.eqO (PySem.W.findIn K (.ref (He.ga K "Broken")) "__init__") (some (some (.ref (aM "Broken" "__init__" K)))),
  fun K => decide (PySem.W.typeIn K (.ref (aM "Broken" "__init__" K)) = some (.type "function")),
  fun K => He.eqO (PySem.W.findIn K (.ref (He.ga K "Broken")) "index") (some none),
  fFa (.keep "Broken"),
  fFa (.glo "_law_indexed"),
  fFa (.keep "_law_indexed"),
  fun K => Exs.noF K exsT "index",
  fun K => exClsB K (He.ga K "TooMany") .a,
  fun K => He.eqO (PySem.W.findIn K (.ref (He.ga K "TooMany")) "__init__") (some (some (.ref (aM "TooMany" "__init__" K)))),
  fun K => decide (PySem.W.typeIn K (.ref (aM "TooMany" "__init__" K)) = some (.type "function")),
  fun K => He.eqO (PySem.W.findIn K (.ref (He.ga K "TooMany")) "limit") (some none),
  fFa (.keep "TooMany"),
  fun K => Exs.noF K exsT "limit",
  fun K => exClsB K (He.ga K "NoWorld") .a,
  fun K => He.eqO (PySem.W.findIn K (.ref (He.ga K "NoWorld")) "__init__") (some (some (.ref (aM "NoWorld" "__init__" K)))),
  fun K => decide (PySem.W.typeIn K (.ref (aM "NoWorld" "__init__" K)) = some (.type "function")),
  fun K => He.eqO (PySem.W.findIn K (.ref (He.ga K "NoWorld")) "most") (some none),
  fFa (.keep "NoWorld"),
  fun K => Exs.noF K exsT "most",
  fun K => exClsB K (He.ga K "NothingToUndo") .a,
  fun K => He.eqO (PySem.W.findIn K (.ref (He.ga K "NothingToUndo")) "__init__") (some (some (.ref (aM "NothingToUndo" "__init__" K)))),
  fun K => decide (PySem.W.typeIn K (.ref (aM "NothingToUndo" "__init__" K)) = some (.type "function")),
  fFa (.keep "NothingToUndo"),
  fFa (.free "divmod"),
  fFa (.glo "_law_dip"),
  fFa (.keep "_law_dip"),
  fFa (.glo "_law_any"),
  fFa (.keep "_law_any"),
  fFa (.glo "_law_right"),
  fFa (.keep "_law_right"),
  fFa (.glo "law")]
def dfs : List DefA := [D__law_well, D_InvalidName___init__, D_InvalidEnd___init__, D_InvalidFlag___init__, D_InvalidText___init__, D_InvalidNumber___init__, D_InvalidFaults___init__, D_InvalidFlow___init__, D_InvalidWorld___init__, D_InvalidReading___init__, D_InvalidWish___init__, D_InvalidIndex___init__, D_NotAMeter___init__, D_NotANet___init__, D_NotASum___init__, D_NotARule___init__, D_NotAnEntry___init__, D_UnknownName___init__, D_OtherMeters___init__, D__law_given, D__law_sorts, D__law_bases, D__law_fits, D_InvalidPipes___init__, D_InvalidMeters___init__, D_InvalidTerms___init__, D_InvalidRows___init__, D_InvalidReadings___init__, D_InvalidOffers___init__, D_InvalidWishes___init__, D_InvalidPrices___init__, D_InUse___init__, D_Broken___init__, D__law_indexed, D_TooMany___init__, D_NoWorld___init__, D_NothingToUndo___init__, D__law_right, D__law_dip, D__law_any, D_law]
theorem fx_of {K : PySem.W.Frag} {h : Heap} {mg : Str → Option Value} (X : K.In h) (G : h.Ns mainGlobals mg) (c : SaysA fs dfs K) : Fx K mg where
  i_MOST_PIPES := He.int_ok X G (c.fact 0 (f := fFa (.int "MOST_PIPES" 12)) rfl)
  i_MOST_METERS := He.int_ok X G (c.fact 1 (f := fFa (.int "MOST_METERS" 12)) rfl)
  i_MOST_ROWS := He.int_ok X G (c.fact 2 (f := fFa (.int "MOST_ROWS" 8)) rfl)
  i_MOST_SUMS := He.int_ok X G (c.fact 3 (f := fFa (.int "MOST_SUMS" 10)) rfl)
  i_MOST_FAULTS := He.int_ok X G (c.fact 4 (f := fFa (.int "MOST_FAULTS" 3)) rfl)
  i_MOST_OFFERS := He.int_ok X G (c.fact 5 (f := fFa (.int "MOST_OFFERS" 6)) rfl)
  i_MOST_PAIRS := He.int_ok X G (c.fact 6 (f := fFa (.int "MOST_PAIRS" 1000)) rfl)
  b_repr := He.free_ok X G (c.fact 7 (f := fFa (.free "repr")) rfl)
  sys := (c.fact 8 (f := sysB) rfl)
  b_len := He.free_ok X G (c.fact 9 (f := fFa (.free "len")) rfl)
  b_min := He.free_ok X G (c.fact 10 (f := fFa (.free "min")) rfl)
  b_max := He.free_ok X G (c.fact 11 (f := fFa (.free "max")) rfl)
  b_range := He.free_ok X G (c.fact 12 (f := fFa (.free "range")) rfl)
  b_int := He.free_ok X G (c.fact 13 (f := fFa (.free "int")) rfl)
  b_abs := He.free_ok X G (c.fact 14 (f := fFa (.free "abs")) rfl)
  g__law_well := He.glo_ok X G (c.fact 15 (f := fFa (.glo "_law_well")) rfl)
  k__law_well := He.keep_ok (c.fact 16 (f := fFa (.keep "_law_well")) rfl)
  ec_InvalidName := (c.fact 17 (f := fun K => exClsB K (He.ga K "InvalidName") .v) rfl)
  ic_InvalidName := (c.fact 18 (f := fun K => He.eqO (PySem.W.findIn K (.ref (He.ga K "InvalidName")) "__init__") (some (some (.ref (aM "InvalidName" "__init__" K))))) rfl)
  ti_InvalidName := of_decide_eq_true (c.fact 19 (f := fun K => decide (PySem.W.typeIn K (.ref (aM "InvalidName" "__init__" K)) = some (.type "function"))) rfl)
  nf_InvalidName := (c.fact 20 (f := fun K => He.eqO (PySem.W.findIn K (.ref (He.ga K "InvalidName")) "given") (some none)) rfl)
  g_InvalidName := He.glo_ok X G (c.fact 21 (f := fFa (.glo "InvalidName")) rfl)
  k_InvalidName := He.keep_ok (c.fact 22 (f := fFa (.keep "InvalidName")) rfl)
  ec_InvalidEnd := (c.fact 23 (f := fun K => exClsB K (He.ga K "InvalidEnd") .v) rfl)
  ic_InvalidEnd := (c.fact 24 (f := fun K => He.eqO (PySem.W.findIn K (.ref (He.ga K "InvalidEnd")) "__init__") (some (some (.ref (aM "InvalidEnd" "__init__" K))))) rfl)
  ti_InvalidEnd := of_decide_eq_true (c.fact 25 (f := fun K => decide (PySem.W.typeIn K (.ref (aM "InvalidEnd" "__init__" K)) = some (.type "function"))) rfl)
  nf_InvalidEnd := (c.fact 26 (f := fun K => He.eqO (PySem.W.findIn K (.ref (He.ga K "InvalidEnd")) "given") (some none)) rfl)
  g_InvalidEnd := He.glo_ok X G (c.fact 27 (f := fFa (.glo "InvalidEnd")) rfl)
  k_InvalidEnd := He.keep_ok (c.fact 28 (f := fFa (.keep "InvalidEnd")) rfl)
  ec_InvalidFlag := (c.fact 29 (f := fun K => exClsB K (He.ga K "InvalidFlag") .v) rfl)
  ic_InvalidFlag := (c.fact 30 (f := fun K => He.eqO (PySem.W.findIn K (.ref (He.ga K "InvalidFlag")) "__init__") (some (some (.ref (aM "InvalidFlag" "__init__" K))))) rfl)
  ti_InvalidFlag := of_decide_eq_true (c.fact 31 (f := fun K => decide (PySem.W.typeIn K (.ref (aM "InvalidFlag" "__init__" K)) = some (.type "function"))) rfl)
  nf_InvalidFlag := (c.fact 32 (f := fun K => He.eqO (PySem.W.findIn K (.ref (He.ga K "InvalidFlag")) "given") (some none)) rfl)
  g_InvalidFlag := He.glo_ok X G (c.fact 33 (f := fFa (.glo "InvalidFlag")) rfl)
  k_InvalidFlag := He.keep_ok (c.fact 34 (f := fFa (.keep "InvalidFlag")) rfl)
  ec_InvalidText := (c.fact 35 (f := fun K => exClsB K (He.ga K "InvalidText") .v) rfl)
  ic_InvalidText := (c.fact 36 (f := fun K => He.eqO (PySem.W.findIn K (.ref (He.ga K "InvalidText")) "__init__") (some (some (.ref (aM "InvalidText" "__init__" K))))) rfl)
  ti_InvalidText := of_decide_eq_true (c.fact 37 (f := fun K => decide (PySem.W.typeIn K (.ref (aM "InvalidText" "__init__" K)) = some (.type "function"))) rfl)
  nf_InvalidText := (c.fact 38 (f := fun K => He.eqO (PySem.W.findIn K (.ref (He.ga K "InvalidText")) "given") (some none)) rfl)
  g_InvalidText := He.glo_ok X G (c.fact 39 (f := fFa (.glo "InvalidText")) rfl)
  k_InvalidText := He.keep_ok (c.fact 40 (f := fFa (.keep "InvalidText")) rfl)
  ec_InvalidNumber := (c.fact 41 (f := fun K => exClsB K (He.ga K "InvalidNumber") .v) rfl)
  ic_InvalidNumber := (c.fact 42 (f := fun K => He.eqO (PySem.W.findIn K (.ref (He.ga K "InvalidNumber")) "__init__") (some (some (.ref (aM "InvalidNumber" "__init__" K))))) rfl)
  ti_InvalidNumber := of_decide_eq_true (c.fact 43 (f := fun K => decide (PySem.W.typeIn K (.ref (aM "InvalidNumber" "__init__" K)) = some (.type "function"))) rfl)
  nf_InvalidNumber := (c.fact 44 (f := fun K => He.eqO (PySem.W.findIn K (.ref (He.ga K "InvalidNumber")) "given") (some none)) rfl)
  g_InvalidNumber := He.glo_ok X G (c.fact 45 (f := fFa (.glo "InvalidNumber")) rfl)
  k_InvalidNumber := He.keep_ok (c.fact 46 (f := fFa (.keep "InvalidNumber")) rfl)
  ec_InvalidFaults := (c.fact 47 (f := fun K => exClsB K (He.ga K "InvalidFaults") .v) rfl)
  ic_InvalidFaults := (c.fact 48 (f := fun K => He.eqO (PySem.W.findIn K (.ref (He.ga K "InvalidFaults")) "__init__") (some (some (.ref (aM "InvalidFaults" "__init__" K))))) rfl)
  ti_InvalidFaults := of_decide_eq_true (c.fact 49 (f := fun K => decide (PySem.W.typeIn K (.ref (aM "InvalidFaults" "__init__" K)) = some (.type "function"))) rfl)
  nf_InvalidFaults := (c.fact 50 (f := fun K => He.eqO (PySem.W.findIn K (.ref (He.ga K "InvalidFaults")) "given") (some none)) rfl)
  g_InvalidFaults := He.glo_ok X G (c.fact 51 (f := fFa (.glo "InvalidFaults")) rfl)
  k_InvalidFaults := He.keep_ok (c.fact 52 (f := fFa (.keep "InvalidFaults")) rfl)
  ec_InvalidFlow := (c.fact 53 (f := fun K => exClsB K (He.ga K "InvalidFlow") .v) rfl)
  ic_InvalidFlow := (c.fact 54 (f := fun K => He.eqO (PySem.W.findIn K (.ref (He.ga K "InvalidFlow")) "__init__") (some (some (.ref (aM "InvalidFlow" "__init__" K))))) rfl)
  ti_InvalidFlow := of_decide_eq_true (c.fact 55 (f := fun K => decide (PySem.W.typeIn K (.ref (aM "InvalidFlow" "__init__" K)) = some (.type "function"))) rfl)
  nf_InvalidFlow := (c.fact 56 (f := fun K => He.eqO (PySem.W.findIn K (.ref (He.ga K "InvalidFlow")) "given") (some none)) rfl)
  g_InvalidFlow := He.glo_ok X G (c.fact 57 (f := fFa (.glo "InvalidFlow")) rfl)
  k_InvalidFlow := He.keep_ok (c.fact 58 (f := fFa (.keep "InvalidFlow")) rfl)
  ec_InvalidWorld := (c.fact 59 (f := fun K => exClsB K (He.ga K "InvalidWorld") .v) rfl)
  ic_InvalidWorld := (c.fact 60 (f := fun K => He.eqO (PySem.W.findIn K (.ref (He.ga K "InvalidWorld")) "__init__") (some (some (.ref (aM "InvalidWorld" "__init__" K))))) rfl)
  ti_InvalidWorld := of_decide_eq_true (c.fact 61 (f := fun K => decide (PySem.W.typeIn K (.ref (aM "InvalidWorld" "__init__" K)) = some (.type "function"))) rfl)
  nf_InvalidWorld := (c.fact 62 (f := fun K => He.eqO (PySem.W.findIn K (.ref (He.ga K "InvalidWorld")) "given") (some none)) rfl)
  g_InvalidWorld := He.glo_ok X G (c.fact 63 (f := fFa (.glo "InvalidWorld")) rfl)
  k_InvalidWorld := He.keep_ok (c.fact 64 (f := fFa (.keep "InvalidWorld")) rfl)
  ec_InvalidReading := (c.fact 65 (f := fun K => exClsB K (He.ga K "InvalidReading") .v) rfl)
  ic_InvalidReading := (c.fact 66 (f := fun K => He.eqO (PySem.W.findIn K (.ref (He.ga K "InvalidReading")) "__init__") (some (some (.ref (aM "InvalidReading" "__init__" K))))) rfl)
  ti_InvalidReading := of_decide_eq_true (c.fact 67 (f := fun K => decide (PySem.W.typeIn K (.ref (aM "InvalidReading" "__init__" K)) = some (.type "function"))) rfl)
  nf_InvalidReading := (c.fact 68 (f := fun K => He.eqO (PySem.W.findIn K (.ref (He.ga K "InvalidReading")) "given") (some none)) rfl)
  g_InvalidReading := He.glo_ok X G (c.fact 69 (f := fFa (.glo "InvalidReading")) rfl)
  k_InvalidReading := He.keep_ok (c.fact 70 (f := fFa (.keep "InvalidReading")) rfl)
  ec_InvalidWish := (c.fact 71 (f := fun K => exClsB K (He.ga K "InvalidWish") .v) rfl)
  ic_InvalidWish := (c.fact 72 (f := fun K => He.eqO (PySem.W.findIn K (.ref (He.ga K "InvalidWish")) "__init__") (some (some (.ref (aM "InvalidWish" "__init__" K))))) rfl)
  ti_InvalidWish := of_decide_eq_true (c.fact 73 (f := fun K => decide (PySem.W.typeIn K (.ref (aM "InvalidWish" "__init__" K)) = some (.type "function"))) rfl)
  nf_InvalidWish := (c.fact 74 (f := fun K => He.eqO (PySem.W.findIn K (.ref (He.ga K "InvalidWish")) "given") (some none)) rfl)
  g_InvalidWish := He.glo_ok X G (c.fact 75 (f := fFa (.glo "InvalidWish")) rfl)
  k_InvalidWish := He.keep_ok (c.fact 76 (f := fFa (.keep "InvalidWish")) rfl)
  ec_InvalidIndex := (c.fact 77 (f := fun K => exClsB K (He.ga K "InvalidIndex") .v) rfl)
  ic_InvalidIndex := (c.fact 78 (f := fun K => He.eqO (PySem.W.findIn K (.ref (He.ga K "InvalidIndex")) "__init__") (some (some (.ref (aM "InvalidIndex" "__init__" K))))) rfl)
  ti_InvalidIndex := of_decide_eq_true (c.fact 79 (f := fun K => decide (PySem.W.typeIn K (.ref (aM "InvalidIndex" "__init__" K)) = some (.type "function"))) rfl)
  nf_InvalidIndex := (c.fact 80 (f := fun K => He.eqO (PySem.W.findIn K (.ref (He.ga K "InvalidIndex")) "given") (some none)) rfl)
  g_InvalidIndex := He.glo_ok X G (c.fact 81 (f := fFa (.glo "InvalidIndex")) rfl)
  k_InvalidIndex := He.keep_ok (c.fact 82 (f := fFa (.keep "InvalidIndex")) rfl)
  ec_NotAMeter := (c.fact 83 (f := fun K => exClsB K (He.ga K "NotAMeter") .v) rfl)
  ic_NotAMeter := (c.fact 84 (f := fun K => He.eqO (PySem.W.findIn K (.ref (He.ga K "NotAMeter")) "__init__") (some (some (.ref (aM "NotAMeter" "__init__" K))))) rfl)
  ti_NotAMeter := of_decide_eq_true (c.fact 85 (f := fun K => decide (PySem.W.typeIn K (.ref (aM "NotAMeter" "__init__" K)) = some (.type "function"))) rfl)
  nf_NotAMeter := (c.fact 86 (f := fun K => He.eqO (PySem.W.findIn K (.ref (He.ga K "NotAMeter")) "given") (some none)) rfl)
  g_NotAMeter := He.glo_ok X G (c.fact 87 (f := fFa (.glo "NotAMeter")) rfl)
  k_NotAMeter := He.keep_ok (c.fact 88 (f := fFa (.keep "NotAMeter")) rfl)
  ec_NotANet := (c.fact 89 (f := fun K => exClsB K (He.ga K "NotANet") .v) rfl)
  ic_NotANet := (c.fact 90 (f := fun K => He.eqO (PySem.W.findIn K (.ref (He.ga K "NotANet")) "__init__") (some (some (.ref (aM "NotANet" "__init__" K))))) rfl)
  ti_NotANet := of_decide_eq_true (c.fact 91 (f := fun K => decide (PySem.W.typeIn K (.ref (aM "NotANet" "__init__" K)) = some (.type "function"))) rfl)
  nf_NotANet := (c.fact 92 (f := fun K => He.eqO (PySem.W.findIn K (.ref (He.ga K "NotANet")) "given") (some none)) rfl)
  g_NotANet := He.glo_ok X G (c.fact 93 (f := fFa (.glo "NotANet")) rfl)
  k_NotANet := He.keep_ok (c.fact 94 (f := fFa (.keep "NotANet")) rfl)
  ec_NotASum := (c.fact 95 (f := fun K => exClsB K (He.ga K "NotASum") .v) rfl)
  ic_NotASum := (c.fact 96 (f := fun K => He.eqO (PySem.W.findIn K (.ref (He.ga K "NotASum")) "__init__") (some (some (.ref (aM "NotASum" "__init__" K))))) rfl)
  ti_NotASum := of_decide_eq_true (c.fact 97 (f := fun K => decide (PySem.W.typeIn K (.ref (aM "NotASum" "__init__" K)) = some (.type "function"))) rfl)
  nf_NotASum := (c.fact 98 (f := fun K => He.eqO (PySem.W.findIn K (.ref (He.ga K "NotASum")) "given") (some none)) rfl)
  g_NotASum := He.glo_ok X G (c.fact 99 (f := fFa (.glo "NotASum")) rfl)
  k_NotASum := He.keep_ok (c.fact 100 (f := fFa (.keep "NotASum")) rfl)
  ec_NotARule := (c.fact 101 (f := fun K => exClsB K (He.ga K "NotARule") .v) rfl)
  ic_NotARule := (c.fact 102 (f := fun K => He.eqO (PySem.W.findIn K (.ref (He.ga K "NotARule")) "__init__") (some (some (.ref (aM "NotARule" "__init__" K))))) rfl)
  ti_NotARule := of_decide_eq_true (c.fact 103 (f := fun K => decide (PySem.W.typeIn K (.ref (aM "NotARule" "__init__" K)) = some (.type "function"))) rfl)
  nf_NotARule := (c.fact 104 (f := fun K => He.eqO (PySem.W.findIn K (.ref (He.ga K "NotARule")) "given") (some none)) rfl)
  g_NotARule := He.glo_ok X G (c.fact 105 (f := fFa (.glo "NotARule")) rfl)
  k_NotARule := He.keep_ok (c.fact 106 (f := fFa (.keep "NotARule")) rfl)
  ec_NotAnEntry := (c.fact 107 (f := fun K => exClsB K (He.ga K "NotAnEntry") .v) rfl)
  ic_NotAnEntry := (c.fact 108 (f := fun K => He.eqO (PySem.W.findIn K (.ref (He.ga K "NotAnEntry")) "__init__") (some (some (.ref (aM "NotAnEntry" "__init__" K))))) rfl)
  ti_NotAnEntry := of_decide_eq_true (c.fact 109 (f := fun K => decide (PySem.W.typeIn K (.ref (aM "NotAnEntry" "__init__" K)) = some (.type "function"))) rfl)
  nf_NotAnEntry := (c.fact 110 (f := fun K => He.eqO (PySem.W.findIn K (.ref (He.ga K "NotAnEntry")) "given") (some none)) rfl)
  g_NotAnEntry := He.glo_ok X G (c.fact 111 (f := fFa (.glo "NotAnEntry")) rfl)
  k_NotAnEntry := He.keep_ok (c.fact 112 (f := fFa (.keep "NotAnEntry")) rfl)
  ec_UnknownName := (c.fact 113 (f := fun K => exClsB K (He.ga K "UnknownName") .l) rfl)
  ic_UnknownName := (c.fact 114 (f := fun K => He.eqO (PySem.W.findIn K (.ref (He.ga K "UnknownName")) "__init__") (some (some (.ref (aM "UnknownName" "__init__" K))))) rfl)
  ti_UnknownName := of_decide_eq_true (c.fact 115 (f := fun K => decide (PySem.W.typeIn K (.ref (aM "UnknownName" "__init__" K)) = some (.type "function"))) rfl)
  nf_UnknownName := (c.fact 116 (f := fun K => He.eqO (PySem.W.findIn K (.ref (He.ga K "UnknownName")) "given") (some none)) rfl)
  g_UnknownName := He.glo_ok X G (c.fact 117 (f := fFa (.glo "UnknownName")) rfl)
  k_UnknownName := He.keep_ok (c.fact 118 (f := fFa (.keep "UnknownName")) rfl)
  ec_OtherMeters := (c.fact 119 (f := fun K => exClsB K (He.ga K "OtherMeters") .l) rfl)
  ic_OtherMeters := (c.fact 120 (f := fun K => He.eqO (PySem.W.findIn K (.ref (He.ga K "OtherMeters")) "__init__") (some (some (.ref (aM "OtherMeters" "__init__" K))))) rfl)
  ti_OtherMeters := of_decide_eq_true (c.fact 121 (f := fun K => decide (PySem.W.typeIn K (.ref (aM "OtherMeters" "__init__" K)) = some (.type "function"))) rfl)
  nf_OtherMeters := (c.fact 122 (f := fun K => He.eqO (PySem.W.findIn K (.ref (He.ga K "OtherMeters")) "given") (some none)) rfl)
  g_OtherMeters := He.glo_ok X G (c.fact 123 (f := fFa (.glo "OtherMeters")) rfl)
  k_OtherMeters := He.keep_ok (c.fact 124 (f := fFa (.keep "OtherMeters")) rfl)
  g__law_given := He.glo_ok X G (c.fact 125 (f := fFa (.glo "_law_given")) rfl)
  k__law_given := He.keep_ok (c.fact 126 (f := fFa (.keep "_law_given")) rfl)
  b_isinstance := He.free_ok X G (c.fact 127 (f := fFa (.free "isinstance")) rfl)
  ise := (c.fact 128 (f := fun K => IsE.ok K iseT) rfl)
  isi := (c.fact 129 (f := fun K => Isi.ok K isiT) rfl)
  g_InvalidPipes := He.glo_ok X G (c.fact 130 (f := fFa (.glo "InvalidPipes")) rfl)
  g_InvalidMeters := He.glo_ok X G (c.fact 131 (f := fFa (.glo "InvalidMeters")) rfl)
  g_InvalidTerms := He.glo_ok X G (c.fact 132 (f := fFa (.glo "InvalidTerms")) rfl)
  g_InvalidRows := He.glo_ok X G (c.fact 133 (f := fFa (.glo "InvalidRows")) rfl)
  g_InvalidReadings := He.glo_ok X G (c.fact 134 (f := fFa (.glo "InvalidReadings")) rfl)
  g_InvalidOffers := He.glo_ok X G (c.fact 135 (f := fFa (.glo "InvalidOffers")) rfl)
  g_InvalidWishes := He.glo_ok X G (c.fact 136 (f := fFa (.glo "InvalidWishes")) rfl)
  g_InvalidPrices := He.glo_ok X G (c.fact 137 (f := fFa (.glo "InvalidPrices")) rfl)
  g_InUse := He.glo_ok X G (c.fact 138 (f := fFa (.glo "InUse")) rfl)
  g_Broken := He.glo_ok X G (c.fact 139 (f := fFa (.glo "Broken")) rfl)
  g_TooMany := He.glo_ok X G (c.fact 140 (f := fFa (.glo "TooMany")) rfl)
  g_NoWorld := He.glo_ok X G (c.fact 141 (f := fFa (.glo "NoWorld")) rfl)
  g_NothingToUndo := He.glo_ok X G (c.fact 142 (f := fFa (.glo "NothingToUndo")) rfl)
  g__law_sorts := He.glo_ok X G (c.fact 143 (f := fFa (.glo "_law_sorts")) rfl)
  k__law_sorts := He.keep_ok (c.fact 144 (f := fFa (.keep "_law_sorts")) rfl)
  g_BadValue := He.glo_ok X G (c.fact 145 (f := fFa (.glo "BadValue")) rfl)
  g_BadName := He.glo_ok X G (c.fact 146 (f := fFa (.glo "BadName")) rfl)
  g_NoAnswer := He.glo_ok X G (c.fact 147 (f := fFa (.glo "NoAnswer")) rfl)
  b_ValueError := He.free_ok X G (c.fact 148 (f := fFa (.free "ValueError")) rfl)
  b_LookupError := He.free_ok X G (c.fact 149 (f := fFa (.free "LookupError")) rfl)
  b_ArithmeticError := He.free_ok X G (c.fact 150 (f := fFa (.free "ArithmeticError")) rfl)
  g__law_bases := He.glo_ok X G (c.fact 151 (f := fFa (.glo "_law_bases")) rfl)
  k__law_bases := He.keep_ok (c.fact 152 (f := fFa (.keep "_law_bases")) rfl)
  g__law_fits := He.glo_ok X G (c.fact 153 (f := fFa (.glo "_law_fits")) rfl)
  k__law_fits := He.keep_ok (c.fact 154 (f := fFa (.keep "_law_fits")) rfl)
  b_all := He.free_ok X G (c.fact 155 (f := fFa (.free "all")) rfl)
  exs := (c.fact 156 (f := fun K => Exs.ok K exsT) rfl)
  exno_given := (c.fact 157 (f := fun K => Exs.noF K exsT "given") rfl)
  ec_InvalidPipes := (c.fact 158 (f := fun K => exClsB K (He.ga K "InvalidPipes") .v) rfl)
  ic_InvalidPipes := (c.fact 159 (f := fun K => He.eqO (PySem.W.findIn K (.ref (He.ga K "InvalidPipes")) "__init__") (some (some (.ref (aM "InvalidPipes" "__init__" K))))) rfl)
  ti_InvalidPipes := of_decide_eq_true (c.fact 160 (f := fun K => decide (PySem.W.typeIn K (.ref (aM "InvalidPipes" "__init__" K)) = some (.type "function"))) rfl)
  nf_InvalidPipes := (c.fact 161 (f := fun K => He.eqO (PySem.W.findIn K (.ref (He.ga K "InvalidPipes")) "index") (some none)) rfl)
  k_InvalidPipes := He.keep_ok (c.fact 162 (f := fFa (.keep "InvalidPipes")) rfl)
  ec_InvalidMeters := (c.fact 163 (f := fun K => exClsB K (He.ga K "InvalidMeters") .v) rfl)
  ic_InvalidMeters := (c.fact 164 (f := fun K => He.eqO (PySem.W.findIn K (.ref (He.ga K "InvalidMeters")) "__init__") (some (some (.ref (aM "InvalidMeters" "__init__" K))))) rfl)
  ti_InvalidMeters := of_decide_eq_true (c.fact 165 (f := fun K => decide (PySem.W.typeIn K (.ref (aM "InvalidMeters" "__init__" K)) = some (.type "function"))) rfl)
  nf_InvalidMeters := (c.fact 166 (f := fun K => He.eqO (PySem.W.findIn K (.ref (He.ga K "InvalidMeters")) "index") (some none)) rfl)
  k_InvalidMeters := He.keep_ok (c.fact 167 (f := fFa (.keep "InvalidMeters")) rfl)
  ec_InvalidTerms := (c.fact 168 (f := fun K => exClsB K (He.ga K "InvalidTerms") .v) rfl)
  ic_InvalidTerms := (c.fact 169 (f := fun K => He.eqO (PySem.W.findIn K (.ref (He.ga K "InvalidTerms")) "__init__") (some (some (.ref (aM "InvalidTerms" "__init__" K))))) rfl)
  ti_InvalidTerms := of_decide_eq_true (c.fact 170 (f := fun K => decide (PySem.W.typeIn K (.ref (aM "InvalidTerms" "__init__" K)) = some (.type "function"))) rfl)
  nf_InvalidTerms := (c.fact 171 (f := fun K => He.eqO (PySem.W.findIn K (.ref (He.ga K "InvalidTerms")) "index") (some none)) rfl)
  k_InvalidTerms := He.keep_ok (c.fact 172 (f := fFa (.keep "InvalidTerms")) rfl)
  ec_InvalidRows := (c.fact 173 (f := fun K => exClsB K (He.ga K "InvalidRows") .v) rfl)
  ic_InvalidRows := (c.fact 174 (f := fun K => He.eqO (PySem.W.findIn K (.ref (He.ga K "InvalidRows")) "__init__") (some (some (.ref (aM "InvalidRows" "__init__" K))))) rfl)
  ti_InvalidRows := of_decide_eq_true (c.fact 175 (f := fun K => decide (PySem.W.typeIn K (.ref (aM "InvalidRows" "__init__" K)) = some (.type "function"))) rfl)
  nf_InvalidRows := (c.fact 176 (f := fun K => He.eqO (PySem.W.findIn K (.ref (He.ga K "InvalidRows")) "index") (some none)) rfl)
  k_InvalidRows := He.keep_ok (c.fact 177 (f := fFa (.keep "InvalidRows")) rfl)
  ec_InvalidReadings := (c.fact 178 (f := fun K => exClsB K (He.ga K "InvalidReadings") .v) rfl)
  ic_InvalidReadings := (c.fact 179 (f := fun K => He.eqO (PySem.W.findIn K (.ref (He.ga K "InvalidReadings")) "__init__") (some (some (.ref (aM "InvalidReadings" "__init__" K))))) rfl)
  ti_InvalidReadings := of_decide_eq_true (c.fact 180 (f := fun K => decide (PySem.W.typeIn K (.ref (aM "InvalidReadings" "__init__" K)) = some (.type "function"))) rfl)
  nf_InvalidReadings := (c.fact 181 (f := fun K => He.eqO (PySem.W.findIn K (.ref (He.ga K "InvalidReadings")) "index") (some none)) rfl)
  k_InvalidReadings := He.keep_ok (c.fact 182 (f := fFa (.keep "InvalidReadings")) rfl)
  ec_InvalidOffers := (c.fact 183 (f := fun K => exClsB K (He.ga K "InvalidOffers") .v) rfl)
  ic_InvalidOffers := (c.fact 184 (f := fun K => He.eqO (PySem.W.findIn K (.ref (He.ga K "InvalidOffers")) "__init__") (some (some (.ref (aM "InvalidOffers" "__init__" K))))) rfl)
  ti_InvalidOffers := of_decide_eq_true (c.fact 185 (f := fun K => decide (PySem.W.typeIn K (.ref (aM "InvalidOffers" "__init__" K)) = some (.type "function"))) rfl)
  nf_InvalidOffers := (c.fact 186 (f := fun K => He.eqO (PySem.W.findIn K (.ref (He.ga K "InvalidOffers")) "index") (some none)) rfl)
  k_InvalidOffers := He.keep_ok (c.fact 187 (f := fFa (.keep "InvalidOffers")) rfl)
  ec_InvalidWishes := (c.fact 188 (f := fun K => exClsB K (He.ga K "InvalidWishes") .v) rfl)
  ic_InvalidWishes := (c.fact 189 (f := fun K => He.eqO (PySem.W.findIn K (.ref (He.ga K "InvalidWishes")) "__init__") (some (some (.ref (aM "InvalidWishes" "__init__" K))))) rfl)
  ti_InvalidWishes := of_decide_eq_true (c.fact 190 (f := fun K => decide (PySem.W.typeIn K (.ref (aM "InvalidWishes" "__init__" K)) = some (.type "function"))) rfl)
  nf_InvalidWishes := (c.fact 191 (f := fun K => He.eqO (PySem.W.findIn K (.ref (He.ga K "InvalidWishes")) "index") (some none)) rfl)
  k_InvalidWishes := He.keep_ok (c.fact 192 (f := fFa (.keep "InvalidWishes")) rfl)
  ec_InvalidPrices := (c.fact 193 (f := fun K => exClsB K (He.ga K "InvalidPrices") .v) rfl)
  ic_InvalidPrices := (c.fact 194 (f := fun K => He.eqO (PySem.W.findIn K (.ref (He.ga K "InvalidPrices")) "__init__") (some (some (.ref (aM "InvalidPrices" "__init__" K))))) rfl)
  ti_InvalidPrices := of_decide_eq_true (c.fact 195 (f := fun K => decide (PySem.W.typeIn K (.ref (aM "InvalidPrices" "__init__" K)) = some (.type "function"))) rfl)
  nf_InvalidPrices := (c.fact 196 (f := fun K => He.eqO (PySem.W.findIn K (.ref (He.ga K "InvalidPrices")) "index") (some none)) rfl)
  k_InvalidPrices := He.keep_ok (c.fact 197 (f := fFa (.keep "InvalidPrices")) rfl)
  ec_InUse := (c.fact 198 (f := fun K => exClsB K (He.ga K "InUse") .l) rfl)
  ic_InUse := (c.fact 199 (f := fun K => He.eqO (PySem.W.findIn K (.ref (He.ga K "InUse")) "__init__") (some (some (.ref (aM "InUse" "__init__" K))))) rfl)
  ti_InUse := of_decide_eq_true (c.fact 200 (f := fun K => decide (PySem.W.typeIn K (.ref (aM "InUse" "__init__" K)) = some (.type "function"))) rfl)
  nf_InUse := (c.fact 201 (f := fun K => He.eqO (PySem.W.findIn K (.ref (He.ga K "InUse")) "index") (some none)) rfl)
  k_InUse := He.keep_ok (c.fact 202 (f := fFa (.keep "InUse")) rfl)
  ec_Broken := (c.fact 203 (f := fun K => exClsB K (He.ga K "Broken") .a) rfl)
  ic_Broken := (c.fact 204 (f := fun K => He.eqO (PySem.W.findIn K (.ref (He.ga K "Broken")) "__init__") (some (some (.ref (aM "Broken" "__init__" K))))) rfl)
  ti_Broken := of_decide_eq_true (c.fact 205 (f := fun K => decide (PySem.W.typeIn K (.ref (aM "Broken" "__init__" K)) = some (.type "function"))) rfl)
  nf_Broken := (c.fact 206 (f := fun K => He.eqO (PySem.W.findIn K (.ref (He.ga K "Broken")) "index") (some none)) rfl)
  k_Broken := He.keep_ok (c.fact 207 (f := fFa (.keep "Broken")) rfl)
  g__law_indexed := He.glo_ok X G (c.fact 208 (f := fFa (.glo "_law_indexed")) rfl)
  k__law_indexed := He.keep_ok (c.fact 209 (f := fFa (.keep "_law_indexed")) rfl)
  exno_index := (c.fact 210 (f := fun K => Exs.noF K exsT "index") rfl)
  ec_TooMany := (c.fact 211 (f := fun K => exClsB K (He.ga K "TooMany") .a) rfl)
  ic_TooMany := (c.fact 212 (f := fun K => He.eqO (PySem.W.findIn K (.ref (He.ga K "TooMany")) "__init__") (some (some (.ref (aM "TooMany" "__init__" K))))) rfl)
  ti_TooMany := of_decide_eq_true (c.fact 213 (f := fun K => decide (PySem.W.typeIn K (.ref (aM "TooMany" "__init__" K)) = some (.type "function"))) rfl)
  nf_TooMany := (c.fact 214 (f := fun K => He.eqO (PySem.W.findIn K (.ref (He.ga K "TooMany")) "limit") (some none)) rfl)
  k_TooMany := He.keep_ok (c.fact 215 (f := fFa (.keep "TooMany")) rfl)
  exno_limit := (c.fact 216 (f := fun K => Exs.noF K exsT "limit") rfl)
  ec_NoWorld := (c.fact 217 (f := fun K => exClsB K (He.ga K "NoWorld") .a) rfl)
  ic_NoWorld := (c.fact 218 (f := fun K => He.eqO (PySem.W.findIn K (.ref (He.ga K "NoWorld")) "__init__") (some (some (.ref (aM "NoWorld" "__init__" K))))) rfl)
  ti_NoWorld := of_decide_eq_true (c.fact 219 (f := fun K => decide (PySem.W.typeIn K (.ref (aM "NoWorld" "__init__" K)) = some (.type "function"))) rfl)
  nf_NoWorld := (c.fact 220 (f := fun K => He.eqO (PySem.W.findIn K (.ref (He.ga K "NoWorld")) "most") (some none)) rfl)
  k_NoWorld := He.keep_ok (c.fact 221 (f := fFa (.keep "NoWorld")) rfl)
  exno_most := (c.fact 222 (f := fun K => Exs.noF K exsT "most") rfl)
  ec_NothingToUndo := (c.fact 223 (f := fun K => exClsB K (He.ga K "NothingToUndo") .a) rfl)
  ic_NothingToUndo := (c.fact 224 (f := fun K => He.eqO (PySem.W.findIn K (.ref (He.ga K "NothingToUndo")) "__init__") (some (some (.ref (aM "NothingToUndo" "__init__" K))))) rfl)
  ti_NothingToUndo := of_decide_eq_true (c.fact 225 (f := fun K => decide (PySem.W.typeIn K (.ref (aM "NothingToUndo" "__init__" K)) = some (.type "function"))) rfl)
  k_NothingToUndo := He.keep_ok (c.fact 226 (f := fFa (.keep "NothingToUndo")) rfl)
  b_divmod := He.free_ok X G (c.fact 227 (f := fFa (.free "divmod")) rfl)
  g__law_dip := He.glo_ok X G (c.fact 228 (f := fFa (.glo "_law_dip")) rfl)
  k__law_dip := He.keep_ok (c.fact 229 (f := fFa (.keep "_law_dip")) rfl)
  g__law_any := He.glo_ok X G (c.fact 230 (f := fFa (.glo "_law_any")) rfl)
  k__law_any := He.keep_ok (c.fact 231 (f := fFa (.keep "_law_any")) rfl)
  g__law_right := He.glo_ok X G (c.fact 232 (f := fFa (.glo "_law_right")) rfl)
  k__law_right := He.keep_ok (c.fact 233 (f := fFa (.keep "_law_right")) rfl)
  g_law := He.glo_ok X G (c.fact 234 (f := fFa (.glo "law")) rfl)
  d__law_well := c.def_ 0 (d := D__law_well) rfl
  d_InvalidName___init__ := c.def_ 1 (d := D_InvalidName___init__) rfl
  d_InvalidEnd___init__ := c.def_ 2 (d := D_InvalidEnd___init__) rfl
  d_InvalidFlag___init__ := c.def_ 3 (d := D_InvalidFlag___init__) rfl
  d_InvalidText___init__ := c.def_ 4 (d := D_InvalidText___init__) rfl
  d_InvalidNumber___init__ := c.def_ 5 (d := D_InvalidNumber___init__) rfl
  d_InvalidFaults___init__ := c.def_ 6 (d := D_InvalidFaults___init__) rfl
  d_InvalidFlow___init__ := c.def_ 7 (d := D_InvalidFlow___init__) rfl
  d_InvalidWorld___init__ := c.def_ 8 (d := D_InvalidWorld___init__) rfl
  d_InvalidReading___init__ := c.def_ 9 (d := D_InvalidReading___init__) rfl
  d_InvalidWish___init__ := c.def_ 10 (d := D_InvalidWish___init__) rfl
  d_InvalidIndex___init__ := c.def_ 11 (d := D_InvalidIndex___init__) rfl
  d_NotAMeter___init__ := c.def_ 12 (d := D_NotAMeter___init__) rfl
  d_NotANet___init__ := c.def_ 13 (d := D_NotANet___init__) rfl
  d_NotASum___init__ := c.def_ 14 (d := D_NotASum___init__) rfl
  d_NotARule___init__ := c.def_ 15 (d := D_NotARule___init__) rfl
  d_NotAnEntry___init__ := c.def_ 16 (d := D_NotAnEntry___init__) rfl
  d_UnknownName___init__ := c.def_ 17 (d := D_UnknownName___init__) rfl
  d_OtherMeters___init__ := c.def_ 18 (d := D_OtherMeters___init__) rfl
  d__law_given := c.def_ 19 (d := D__law_given) rfl
  d__law_sorts := c.def_ 20 (d := D__law_sorts) rfl
  d__law_bases := c.def_ 21 (d := D__law_bases) rfl
  d__law_fits := c.def_ 22 (d := D__law_fits) rfl
  d_InvalidPipes___init__ := c.def_ 23 (d := D_InvalidPipes___init__) rfl
  d_InvalidMeters___init__ := c.def_ 24 (d := D_InvalidMeters___init__) rfl
  d_InvalidTerms___init__ := c.def_ 25 (d := D_InvalidTerms___init__) rfl
  d_InvalidRows___init__ := c.def_ 26 (d := D_InvalidRows___init__) rfl
  d_InvalidReadings___init__ := c.def_ 27 (d := D_InvalidReadings___init__) rfl
  d_InvalidOffers___init__ := c.def_ 28 (d := D_InvalidOffers___init__) rfl
  d_InvalidWishes___init__ := c.def_ 29 (d := D_InvalidWishes___init__) rfl
  d_InvalidPrices___init__ := c.def_ 30 (d := D_InvalidPrices___init__) rfl
  d_InUse___init__ := c.def_ 31 (d := D_InUse___init__) rfl
  d_Broken___init__ := c.def_ 32 (d := D_Broken___init__) rfl
  d__law_indexed := c.def_ 33 (d := D__law_indexed) rfl
  d_TooMany___init__ := c.def_ 34 (d := D_TooMany___init__) rfl
  d_NoWorld___init__ := c.def_ 35 (d := D_NoWorld___init__) rfl
  d_NothingToUndo___init__ := c.def_ 36 (d := D_NothingToUndo___init__) rfl
  d__law_right := c.def_ 37 (d := D__law_right) rfl
  d__law_dip := c.def_ 38 (d := D__law_dip) rfl
  d__law_any := c.def_ 39 (d := D__law_any) rfl
  d_law := c.def_ 40 (d := D_law) rfl
section
variable {P : Program} {w : World} {K : PySem.W.Frag} {mg : Str → Option Value} {base : Heap}
theorem sc__law_well : FnScope N__law_well ["_law_cells", "_law_k"] (defScope (top 43)) := ⟨rfl, rfl, rfl, by decide +kernel, rfl, by decide +kernel, by decide +kernel⟩
theorem q__law_well (fx : Fx K mg) : ∃ fd, FnQ P w K mg base 1 ((aG "_law_well") K) fd ["_law_cells", "_law_k"] F__law_well ∧ Binds K fd ["_law_cells", "_law_k"] [] := by
  obtain ⟨fd, FD⟩ := fx.d__law_well
  refine ⟨fd, fnQ1 (c := c__law_well) FD sc__law_well (by decide) fun cdv A outer s H E hr => ?_, FunD.full FD fun _ _ _ _ _ _ us hl => match us, hl with | [_, _], _ => rfl⟩
  have tk : Takes (BX P w K mg base N__law_well "_law_well" (defScope (top 43)) ((aG "_law_well") K) cdv A outer s H E) (BW E) := tk_cx
  have nd : N__law_well.Nodup := sc__law_well.nd
  refine SSs.cons ?_ ?_
  · refine SS.set 2 nd rfl (by first | exact Or.inl rfl | exact Or.inr rfl) ?_
    · refine SE.ite ?_ ?_ ?_
      · refine ST.cmp opb_lt ?_ ?_
        · exact SE.var 1
        · refine SE.callB cd_len rfl fx.b_len (by kernel_rfl) ?_
          · refine SA.cons ?_ ?_
            · exact SE.var 0
            · exact SA.nil
      · refine SE.ix opi_ix ?_ ?_
        · exact SE.var 0
        · exact SE.var 1
      · refine SE.op opb_times ?_ ?_
        · refine SE.op opb_times ?_ ?_
          · exact SE.int
          · refine SE.op opb_plus ?_ ?_
            · exact SE.var 1
            · exact SE.int
        · refine SE.op opb_plus ?_ ?_
          · exact SE.var 1
          · exact SE.int
  · refine SSs.cons ?_ ?_
    · refine SS.if_ ?_ ?_ ?_
      · refine ST.cmp opb_ge ?_ ?_
        · exact SE.var 1
        · refine SE.callB cd_len rfl fx.b_len (by kernel_rfl) ?_
          · refine SA.cons ?_ ?_
            · exact SE.var 0
            · exact SA.nil
      · refine SSs.one ?_
        · refine SS.for po_cx rfl ?_ (SG.name 3 nd rfl (by first | exact Or.inl rfl | exact Or.inr rfl)) ?_
          · refine SI.valX ?_
            · exact SE.var 0
          · refine SSs.one ?_
            · refine SS.set 2 nd rfl (by first | exact Or.inl rfl | exact Or.inr rfl) ?_
              · refine SE.op opb_mod ?_ ?_
                · refine SE.callTy cd_int rfl fx.b_int (by kernel_rfl) ?_
                  · refine SA.cons ?_ ?_
                    · refine SE.op opb_plus ?_ ?_
                      · refine SE.op opb_times ?_ ?_
                        · exact SE.var 2
                        · exact SE.int
                      · exact SE.var 3
                    · exact SA.nil
                · exact SE.int
      · exact SSs.nil
    · refine SSs.one ?_
      · refine SS.ret ?_
        · refine SF.nw ?_
          · refine SF.lst ?_
            · refine SA.cons ?_ ?_
              · refine SE.op opb_mod ?_ ?_
                · refine SE.callTy cd_int rfl fx.b_int (by kernel_rfl) ?_
                  · refine SA.cons ?_ ?_
                    · exact SE.var 2
                    · exact SA.nil
                · exact SE.int
              · refine SA.cons ?_ ?_
                · refine SE.ite ?_ ?_ ?_
                  · refine ST.cmp opb_ge ?_ ?_
                    · refine SE.callB cd_abs rfl fx.b_abs (by kernel_rfl) ?_
                      · refine SA.cons ?_ ?_
                        · exact SE.var 2
                        · exact SA.nil
                    · refine SE.op opb_pow ?_ ?_
                      · exact SE.int
                      · exact SE.int
                  · refine SE.callB cd_abs rfl fx.b_abs (by kernel_rfl) ?_
                    · refine SA.cons ?_ ?_
                      · exact SE.var 2
                      · exact SA.nil
                  · exact SE.int
                · refine SA.cons ?_ ?_
                  · exact SE.int
                  · exact SA.nil
theorem sc_InvalidName___init__ : FnScope ["self", "given"] ["self", "given"] (defScope (mem 4 0)) := ⟨rfl, rfl, rfl, by decide +kernel, rfl, by decide +kernel, by decide +kernel⟩
theorem q_InvalidName___init__ (fx : Fx K mg) : ∃ fd, FnOk P w K mg base (L2.CX P w) 1 ((aM "InvalidName" "__init__") K) fd ["self", "given"] (spI1 K "given") ∧ Binds K fd ["self", "given"] [] ∧ BindsK K fd ["self", "given"] 1 ["given"] [] := by
  obtain ⟨fd, FD⟩ := fx.d_InvalidName___init__
  exact ⟨fd, init1 FD sc_InvalidName___init__ (Or.inl rfl) (Or.inl rfl) (by decide) (by decide), FunD.full FD fun _ _ _ _ _ _ us hl => match us, hl with | [_, _], _ => rfl, FunD.fullK FD 1 ["given"] fun _ _ _ _ _ _ us ws l1 l2 => match us, ws, l1, l2 with | [_], [_], _, _ => rfl⟩
theorem sc_InvalidEnd___init__ : FnScope ["self", "given"] ["self", "given"] (defScope (mem 5 0)) := ⟨rfl, rfl, rfl, by decide +kernel, rfl, by decide +kernel, by decide +kernel⟩
theorem q_InvalidEnd___init__ (fx : Fx K mg) : ∃ fd, FnOk P w K mg base (L2.CX P w) 1 ((aM "InvalidEnd" "__init__") K) fd ["self", "given"] (spI1 K "given") ∧ Binds K fd ["self", "given"] [] ∧ BindsK K fd ["self", "given"] 1 ["given"] [] := by
  obtain ⟨fd, FD⟩ := fx.d_InvalidEnd___init__
  exact ⟨fd, init1 FD sc_InvalidEnd___init__ (Or.inl rfl) (Or.inl rfl) (by decide) (by decide), FunD.full FD fun _ _ _ _ _ _ us hl => match us, hl with | [_, _], _ => rfl, FunD.fullK FD 1 ["given"] fun _ _ _ _ _ _ us ws l1 l2 => match us, ws, l1, l2 with | [_], [_], _, _ => rfl⟩
theorem sc_InvalidFlag___init__ : FnScope ["self", "given"] ["self", "given"] (defScope (mem 6 0)) := ⟨rfl, rfl, rfl, by decide +kernel, rfl, by decide +kernel, by decide +kernel⟩
theorem q_InvalidFlag___init__ (fx : Fx K mg) : ∃ fd, FnOk P w K mg base (L2.CX P w) 1 ((aM "InvalidFlag" "__init__") K) fd ["self", "given"] (spI1 K "given") ∧ Binds K fd ["self", "given"] [] ∧ BindsK K fd ["self", "given"] 1 ["given"] [] := by
  obtain ⟨fd, FD⟩ := fx.d_InvalidFlag___init__
  exact ⟨fd, init1 FD sc_InvalidFlag___init__ (Or.inl rfl) (Or.inl rfl) (by decide) (by decide), FunD.full FD fun _ _ _ _ _ _ us hl => match us, hl with | [_, _], _ => rfl, FunD.fullK FD 1 ["given"] fun _ _ _ _ _ _ us ws l1 l2 => match us, ws, l1, l2 with | [_], [_], _, _ => rfl⟩
theorem sc_InvalidText___init__ : FnScope ["self", "given"] ["self", "given"] (defScope (mem 7 0)) := ⟨rfl, rfl, rfl, by decide +kernel, rfl, by decide +kernel, by decide +kernel⟩
theorem q_InvalidText___init__ (fx : Fx K mg) : ∃ fd, FnOk P w K mg base (L2.CX P w) 1 ((aM "InvalidText" "__init__") K) fd ["self", "given"] (spI1 K "given") ∧ Binds K fd ["self", "given"] [] ∧ BindsK K fd ["self", "given"] 1 ["given"] [] := by
  obtain ⟨fd, FD⟩ := fx.d_InvalidText___init__
  exact ⟨fd, init1 FD sc_InvalidText___init__ (Or.inl rfl) (Or.inl rfl) (by decide) (by decide), FunD.full FD fun _ _ _ _ _ _ us hl => match us, hl with | [_, _], _ => rfl, FunD.fullK FD 1 ["given"] fun _ _ _ _ _ _ us ws l1 l2 => match us, ws, l1, l2 with | [_], [_], _, _ => rfl⟩
theorem sc_InvalidNumber___init__ : FnScope ["self", "given"] ["self", "given"] (defScope (mem 8 0)) := ⟨rfl, rfl, rfl, by decide +kernel, rfl, by decide +kernel, by decide +kernel⟩
theorem q_InvalidNumber___init__ (fx : Fx K mg) : ∃ fd, FnOk P w K mg base (L2.CX P w) 1 ((aM "InvalidNumber" "__init__") K) fd ["self", "given"] (spI1 K "given") ∧ Binds K fd ["self", "given"] [] ∧ BindsK K fd ["self", "given"] 1 ["given"] [] := by
  obtain ⟨fd, FD⟩ := fx.d_InvalidNumber___init__
  exact ⟨fd, init1 FD sc_InvalidNumber___init__ (Or.inl rfl) (Or.inl rfl) (by decide) (by decide), FunD.full FD fun _ _ _ _ _ _ us hl => match us, hl with | [_, _], _ => rfl, FunD.fullK FD 1 ["given"] fun _ _ _ _ _ _ us ws l1 l2 => match us, ws, l1, l2 with | [_], [_], _, _ => rfl⟩
theorem sc_InvalidFaults___init__ : FnScope ["self", "given"] ["self", "given"] (defScope (mem 9 0)) := ⟨rfl, rfl, rfl, by decide +kernel, rfl, by decide +kernel, by decide +kernel⟩
theorem q_InvalidFaults___init__ (fx : Fx K mg) : ∃ fd, FnOk P w K mg base (L2.CX P w) 1 ((aM "InvalidFaults" "__init__") K) fd ["self", "given"] (spI1 K "given") ∧ Binds K fd ["self", "given"] [] ∧ BindsK K fd ["self", "given"] 1 ["given"] [] := by
  obtain ⟨fd, FD⟩ := fx.d_InvalidFaults___init__
  exact ⟨fd, init1 FD sc_InvalidFaults___init__ (Or.inl rfl) (Or.inl rfl) (by decide) (by decide), FunD.full FD fun _ _ _ _ _ _ us hl => match us, hl with | [_, _], _ => rfl, FunD.fullK FD 1 ["given"] fun _ _ _ _ _ _ us ws l1 l2 => match us, ws, l1, l2 with | [_], [_], _, _ => rfl⟩
theorem sc_InvalidFlow___init__ : FnScope ["self", "given"] ["self", "given"] (defScope (mem 10 0)) := ⟨rfl, rfl, rfl, by decide +kernel, rfl, by decide +kernel, by decide +kernel⟩
theorem q_InvalidFlow___init__ (fx : Fx K mg) : ∃ fd, FnOk P w K mg base (L2.CX P w) 1 ((aM "InvalidFlow" "__init__") K) fd ["self", "given"] (spI1 K "given") ∧ Binds K fd ["self", "given"] [] ∧ BindsK K fd ["self", "given"] 1 ["given"] [] := by
  obtain ⟨fd, FD⟩ := fx.d_InvalidFlow___init__
  exact ⟨fd, init1 FD sc_InvalidFlow___init__ (Or.inl rfl) (Or.inl rfl) (by decide) (by decide), FunD.full FD fun _ _ _ _ _ _ us hl => match us, hl with | [_, _], _ => rfl, FunD.fullK FD 1 ["given"] fun _ _ _ _ _ _ us ws l1 l2 => match us, ws, l1, l2 with | [_], [_], _, _ => rfl⟩
theorem sc_InvalidWorld___init__ : FnScope ["self", "given"] ["self", "given"] (defScope (mem 11 0)) := ⟨rfl, rfl, rfl, by decide +kernel, rfl, by decide +kernel, by decide +kernel⟩
theorem q_InvalidWorld___init__ (fx : Fx K mg) : ∃ fd, FnOk P w K mg base (L2.CX P w) 1 ((aM "InvalidWorld" "__init__") K) fd ["self", "given"] (spI1 K "given") ∧ Binds K fd ["self", "given"] [] ∧ BindsK K fd ["self", "given"] 1 ["given"] [] := by
  obtain ⟨fd, FD⟩ := fx.d_InvalidWorld___init__
  exact ⟨fd, init1 FD sc_InvalidWorld___init__ (Or.inl rfl) (Or.inl rfl) (by decide) (by decide), FunD.full FD fun _ _ _ _ _ _ us hl => match us, hl with | [_, _], _ => rfl, FunD.fullK FD 1 ["given"] fun _ _ _ _ _ _ us ws l1 l2 => match us, ws, l1, l2 with | [_], [_], _, _ => rfl⟩
theorem sc_InvalidReading___init__ : FnScope ["self", "given"] ["self", "given"] (defScope (mem 12 0)) := ⟨rfl, rfl, rfl, by decide +kernel, rfl, by decide +kernel, by decide +kernel⟩
theorem q_InvalidReading___init__ (fx : Fx K mg) : ∃ fd, FnOk P w K mg base (L2.CX P w) 1 ((aM "InvalidReading" "__init__") K) fd ["self", "given"] (spI1 K "given") ∧ Binds K fd ["self", "given"] [] ∧ BindsK K fd ["self", "given"] 1 ["given"] [] := by
  obtain ⟨fd, FD⟩ := fx.d_InvalidReading___init__
  exact ⟨fd, init1 FD sc_InvalidReading___init__ (Or.inl rfl) (Or.inl rfl) (by decide) (by decide), FunD.full FD fun _ _ _ _ _ _ us hl => match us, hl with | [_, _], _ => rfl, FunD.fullK FD 1 ["given"] fun _ _ _ _ _ _ us ws l1 l2 => match us, ws, l1, l2 with | [_], [_], _, _ => rfl⟩
theorem sc_InvalidWish___init__ : FnScope ["self", "given"] ["self", "given"] (defScope (mem 13 0)) := ⟨rfl, rfl, rfl, by decide +kernel, rfl, by decide +kernel, by decide +kernel⟩
theorem q_InvalidWish___init__ (fx : Fx K mg) : ∃ fd, FnOk P w K mg base (L2.CX P w) 1 ((aM "InvalidWish" "__init__") K) fd ["self", "given"] (spI1 K "given") ∧ Binds K fd ["self", "given"] [] ∧ BindsK K fd ["self", "given"] 1 ["given"] [] := by
  obtain ⟨fd, FD⟩ := fx.d_InvalidWish___init__
  exact ⟨fd, init1 FD sc_InvalidWish___init__ (Or.inl rfl) (Or.inl rfl) (by decide) (by decide), FunD.full FD fun _ _ _ _ _ _ us hl => match us, hl with | [_, _], _ => rfl, FunD.fullK FD 1 ["given"] fun _ _ _ _ _ _ us ws l1 l2 => match us, ws, l1, l2 with | [_], [_], _, _ => rfl⟩
theorem sc_InvalidIndex___init__ : FnScope ["self", "given"] ["self", "given"] (defScope (mem 14 0)) := ⟨rfl, rfl, rfl, by decide +kernel, rfl, by decide +kernel, by decide +kernel⟩
theorem q_InvalidIndex___init__ (fx : Fx K mg) : ∃ fd, FnOk P w K mg base (L2.CX P w) 1 ((aM "InvalidIndex" "__init__") K) fd ["self", "given"] (spI1 K "given") ∧ Binds K fd ["self", "given"] [] ∧ BindsK K fd ["self", "given"] 1 ["given"] [] := by
  obtain ⟨fd, FD⟩ := fx.d_InvalidIndex___init__
  exact ⟨fd, init1 FD sc_InvalidIndex___init__ (Or.inl rfl) (Or.inl rfl) (by decide) (by decide), FunD.full FD fun _ _ _ _ _ _ us hl => match us, hl with | [_, _], _ => rfl, FunD.fullK FD 1 ["given"] fun _ _ _ _ _ _ us ws l1 l2 => match us, ws, l1, l2 with | [_], [_], _, _ => rfl⟩
theorem sc_NotAMeter___init__ : FnScope ["self", "given"] ["self", "given"] (defScope (mem 15 0)) := ⟨rfl, rfl, rfl, by decide +kernel, rfl, by decide +kernel, by decide +kernel⟩
theorem q_NotAMeter___init__ (fx : Fx K mg) : ∃ fd, FnOk P w K mg base (L2.CX P w) 1 ((aM "NotAMeter" "__init__") K) fd ["self", "given"] (spI1 K "given") ∧ Binds K fd ["self", "given"] [] ∧ BindsK K fd ["self", "given"] 1 ["given"] [] := by
  obtain ⟨fd, FD⟩ := fx.d_NotAMeter___init__
  exact ⟨fd, init1 FD sc_NotAMeter___init__ (Or.inl rfl) (Or.inl rfl) (by decide) (by decide), FunD.full FD fun _ _ _ _ _ _ us hl => match us, hl with | [_, _], _ => rfl, FunD.fullK FD 1 ["given"] fun _ _ _ _ _ _ us ws l1 l2 => match us, ws, l1, l2 with | [_], [_], _, _ => rfl⟩
theorem sc_NotANet___init__ : FnScope ["self", "given"] ["self", "given"] (defScope (mem 16 0)) := ⟨rfl, rfl, rfl, by decide +kernel, rfl, by decide +kernel, by decide +kernel⟩
theorem q_NotANet___init__ (fx : Fx K mg) : ∃ fd, FnOk P w K mg base (L2.CX P w) 1 ((aM "NotANet" "__init__") K) fd ["self", "given"] (spI1 K "given") ∧ Binds K fd ["self", "given"] [] ∧ BindsK K fd ["self", "given"] 1 ["given"] [] := by
  obtain ⟨fd, FD⟩ := fx.d_NotANet___init__
  exact ⟨fd, init1 FD sc_NotANet___init__ (Or.inl rfl) (Or.inl rfl) (by decide) (by decide), FunD.full FD fun _ _ _ _ _ _ us hl => match us, hl with | [_, _], _ => rfl, FunD.fullK FD 1 ["given"] fun _ _ _ _ _ _ us ws l1 l2 => match us, ws, l1, l2 with | [_], [_], _, _ => rfl⟩
theorem sc_NotASum___init__ : FnScope ["self", "given"] ["self", "given"] (defScope (mem 17 0)) := ⟨rfl, rfl, rfl, by decide +kernel, rfl, by decide +kernel, by decide +kernel⟩
theorem q_NotASum___init__ (fx : Fx K mg) : ∃ fd, FnOk P w K mg base (L2.CX P w) 1 ((aM "NotASum" "__init__") K) fd ["self", "given"] (spI1 K "given") ∧ Binds K fd ["self", "given"] [] ∧ BindsK K fd ["self", "given"] 1 ["given"] [] := by
  obtain ⟨fd, FD⟩ := fx.d_NotASum___init__
  exact ⟨fd, init1 FD sc_NotASum___init__ (Or.inl rfl) (Or.inl rfl) (by decide) (by decide), FunD.full FD fun _ _ _ _ _ _ us hl => match us, hl with | [_, _], _ => rfl, FunD.fullK FD 1 ["given"] fun _ _ _ _ _ _ us ws l1 l2 => match us, ws, l1, l2 with | [_], [_], _, _ => rfl⟩
theorem sc_NotARule___init__ : FnScope ["self", "given"] ["self", "given"] (defScope (mem 18 0)) := ⟨rfl, rfl, rfl, by decide +kernel, rfl, by decide +kernel, by decide +kernel⟩
theorem q_NotARule___init__ (fx : Fx K mg) : ∃ fd, FnOk P w K mg base (L2.CX P w) 1 ((aM "NotARule" "__init__") K) fd ["self", "given"] (spI1 K "given") ∧ Binds K fd ["self", "given"] [] ∧ BindsK K fd ["self", "given"] 1 ["given"] [] := by
  obtain ⟨fd, FD⟩ := fx.d_NotARule___init__
  exact ⟨fd, init1 FD sc_NotARule___init__ (Or.inl rfl) (Or.inl rfl) (by decide) (by decide), FunD.full FD fun _ _ _ _ _ _ us hl => match us, hl with | [_, _], _ => rfl, FunD.fullK FD 1 ["given"] fun _ _ _ _ _ _ us ws l1 l2 => match us, ws, l1, l2 with | [_], [_], _, _ => rfl⟩
theorem sc_NotAnEntry___init__ : FnScope ["self", "given"] ["self", "given"] (defScope (mem 19 0)) := ⟨rfl, rfl, rfl, by decide +kernel, rfl, by decide +kernel, by decide +kernel⟩
theorem q_NotAnEntry___init__ (fx : Fx K mg) : ∃ fd, FnOk P w K mg base (L2.CX P w) 1 ((aM "NotAnEntry" "__init__") K) fd ["self", "given"] (spI1 K "given") ∧ Binds K fd ["self", "given"] [] ∧ BindsK K fd ["self", "given"] 1 ["given"] [] := by
  obtain ⟨fd, FD⟩ := fx.d_NotAnEntry___init__
  exact ⟨fd, init1 FD sc_NotAnEntry___init__ (Or.inl rfl) (Or.inl rfl) (by decide) (by decide), FunD.full FD fun _ _ _ _ _ _ us hl => match us, hl with | [_, _], _ => rfl, FunD.fullK FD 1 ["given"] fun _ _ _ _ _ _ us ws l1 l2 => match us, ws, l1, l2 with | [_], [_], _, _ => rfl⟩
theorem sc_UnknownName___init__ : FnScope ["self", "given"] ["self", "given"] (defScope (mem 28 0)) := ⟨rfl, rfl, rfl, by decide +kernel, rfl, by decide +kernel, by decide +kernel⟩
theorem q_UnknownName___init__ (fx : Fx K mg) : ∃ fd, FnOk P w K mg base (L2.CX P w) 1 ((aM "UnknownName" "__init__") K) fd ["self", "given"] (spI1 K "given") ∧ Binds K fd ["self", "given"] [] ∧ BindsK K fd ["self", "given"] 1 ["given"] [] := by
  obtain ⟨fd, FD⟩ := fx.d_UnknownName___init__
  exact ⟨fd, init1 FD sc_UnknownName___init__ (Or.inl rfl) (Or.inl rfl) (by decide) (by decide), FunD.full FD fun _ _ _ _ _ _ us hl => match us, hl with | [_, _], _ => rfl, FunD.fullK FD 1 ["given"] fun _ _ _ _ _ _ us ws l1 l2 => match us, ws, l1, l2 with | [_], [_], _, _ => rfl⟩
theorem sc_OtherMeters___init__ : FnScope ["self", "given"] ["self", "given"] (defScope (mem 29 0)) := ⟨rfl, rfl, rfl, by decide +kernel, rfl, by decide +kernel, by decide +kernel⟩
theorem q_OtherMeters___init__ (fx : Fx K mg) : ∃ fd, FnOk P w K mg base (L2.CX P w) 1 ((aM "OtherMeters" "__init__") K) fd ["self", "given"] (spI1 K "given") ∧ Binds K fd ["self", "given"] [] ∧ BindsK K fd ["self", "given"] 1 ["given"] [] := by
  obtain ⟨fd, FD⟩ := fx.d_OtherMeters___init__
  exact ⟨fd, init1 FD sc_OtherMeters___init__ (Or.inl rfl) (Or.inl rfl) (by decide) (by decide), FunD.full FD fun _ _ _ _ _ _ us hl => match us, hl with | [_, _], _ => rfl, FunD.fullK FD 1 ["given"] fun _ _ _ _ _ _ us ws l1 l2 => match us, ws, l1, l2 with | [_], [_], _, _ => rfl⟩
theorem sc__law_given : FnScope N__law_given ["_law_odd"] (defScope (top 46)) := ⟨rfl, rfl, rfl, by decide +kernel, rfl, by decide +kernel, by decide +kernel⟩
theorem q__law_given (fx : Fx K mg) : ∃ fd, FnQ P w K mg base 3 ((aG "_law_given") K) fd ["_law_odd"] F__law_given ∧ Binds K fd ["_law_odd"] [] := by
  obtain ⟨fd, FD⟩ := fx.d__law_given
  obtain ⟨fd_InvalidName___init__, F_InvalidName___init__, B_InvalidName___init__, BK_InvalidName___init__⟩ := q_InvalidName___init__ (P := P) (w := w) (base := base) fx
  obtain ⟨fd_InvalidEnd___init__, F_InvalidEnd___init__, B_InvalidEnd___init__, BK_InvalidEnd___init__⟩ := q_InvalidEnd___init__ (P := P) (w := w) (base := base) fx
  obtain ⟨fd_InvalidFlag___init__, F_InvalidFlag___init__, B_InvalidFlag___init__, BK_InvalidFlag___init__⟩ := q_InvalidFlag___init__ (P := P) (w := w) (base := base) fx
  obtain ⟨fd_InvalidText___init__, F_InvalidText___init__, B_InvalidText___init__, BK_InvalidText___init__⟩ := q_InvalidText___init__ (P := P) (w := w) (base := base) fx
  obtain ⟨fd_InvalidNumber___init__, F_InvalidNumber___init__, B_InvalidNumber___init__, BK_InvalidNumber___init__⟩ := q_InvalidNumber___init__ (P := P) (w := w) (base := base) fx
  obtain ⟨fd_InvalidFaults___init__, F_InvalidFaults___init__, B_InvalidFaults___init__, BK_InvalidFaults___init__⟩ := q_InvalidFaults___init__ (P := P) (w := w) (base := base) fx
  obtain ⟨fd_InvalidFlow___init__, F_InvalidFlow___init__, B_InvalidFlow___init__, BK_InvalidFlow___init__⟩ := q_InvalidFlow___init__ (P := P) (w := w) (base := base) fx
  obtain ⟨fd_InvalidWorld___init__, F_InvalidWorld___init__, B_InvalidWorld___init__, BK_InvalidWorld___init__⟩ := q_InvalidWorld___init__ (P := P) (w := w) (base := base) fx
  obtain ⟨fd_InvalidReading___init__, F_InvalidReading___init__, B_InvalidReading___init__, BK_InvalidReading___init__⟩ := q_InvalidReading___init__ (P := P) (w := w) (base := base) fx
  obtain ⟨fd_InvalidWish___init__, F_InvalidWish___init__, B_InvalidWish___init__, BK_InvalidWish___init__⟩ := q_InvalidWish___init__ (P := P) (w := w) (base := base) fx
  obtain ⟨fd_InvalidIndex___init__, F_InvalidIndex___init__, B_InvalidIndex___init__, BK_InvalidIndex___init__⟩ := q_InvalidIndex___init__ (P := P) (w := w) (base := base) fx
  obtain ⟨fd_NotAMeter___init__, F_NotAMeter___init__, B_NotAMeter___init__, BK_NotAMeter___init__⟩ := q_NotAMeter___init__ (P := P) (w := w) (base := base) fx
  obtain ⟨fd_NotANet___init__, F_NotANet___init__, B_NotANet___init__, BK_NotANet___init__⟩ := q_NotANet___init__ (P := P) (w := w) (base := base) fx
  obtain ⟨fd_NotASum___init__, F_NotASum___init__, B_NotASum___init__, BK_NotASum___init__⟩ := q_NotASum___init__ (P := P) (w := w) (base := base) fx
  obtain ⟨fd_NotARule___init__, F_NotARule___init__, B_NotARule___init__, BK_NotARule___init__⟩ := q_NotARule___init__ (P := P) (w := w) (base := base) fx
  obtain ⟨fd_NotAnEntry___init__, F_NotAnEntry___init__, B_NotAnEntry___init__, BK_NotAnEntry___init__⟩ := q_NotAnEntry___init__ (P := P) (w := w) (base := base) fx
  obtain ⟨fd_UnknownName___init__, F_UnknownName___init__, B_UnknownName___init__, BK_UnknownName___init__⟩ := q_UnknownName___init__ (P := P) (w := w) (base := base) fx
  obtain ⟨fd_OtherMeters___init__, F_OtherMeters___init__, B_OtherMeters___init__, BK_OtherMeters___init__⟩ := q_OtherMeters___init__ (P := P) (w := w) (base := base) fx
  refine ⟨fd, fnQ (c := c__law_given) FD sc__law_given (by decide) fun cdv A outer s H E hr => ?_, FunD.full FD fun _ _ _ _ _ _ us hl => match us, hl with | [_], _ => rfl⟩
  have tk : Takes (BX P w K mg base N__law_given "_law_given" (defScope (top 46)) ((aG "_law_given") K) cdv A outer s H E) (BW E) := tk_cx
  have nd : N__law_given.Nodup := sc__law_given.nd
  refine SSs.cons ?_ ?_
  · refine SS.set 1 nd rfl (by first | exact Or.inl rfl | exact Or.inr rfl) ?_
    · refine SF.fz ?_
      · refine SF.lst ?_
        · refine SA.cons ?_ ?_
          · refine SE.call (callee_exn (f := "given") (c := "InvalidName") (exClsB_ok fx.ec_InvalidName) (He.eqO_ok fx.nf_InvalidName) (He.eqO_ok fx.ic_InvalidName) fx.ti_InvalidName F_InvalidName___init__ (hr.mono (by decide)) tk B_InvalidName___init__) rfl fx.g_InvalidName fx.k_InvalidName ?_
            · refine SA.cons ?_ ?_
              · exact SE.var 0
              · exact SA.nil
          · refine SA.cons ?_ ?_
            · refine SE.call (callee_exn (f := "given") (c := "InvalidEnd") (exClsB_ok fx.ec_InvalidEnd) (He.eqO_ok fx.nf_InvalidEnd) (He.eqO_ok fx.ic_InvalidEnd) fx.ti_InvalidEnd F_InvalidEnd___init__ (hr.mono (by decide)) tk B_InvalidEnd___init__) rfl fx.g_InvalidEnd fx.k_InvalidEnd ?_
              · refine SA.cons ?_ ?_
                · exact SE.var 0
                · exact SA.nil
            · refine SA.cons ?_ ?_
              · refine SE.call (callee_exn (f := "given") (c := "InvalidFlag") (exClsB_ok fx.ec_InvalidFlag) (He.eqO_ok fx.nf_InvalidFlag) (He.eqO_ok fx.ic_InvalidFlag) fx.ti_InvalidFlag F_InvalidFlag___init__ (hr.mono (by decide)) tk B_InvalidFlag___init__) rfl fx.g_InvalidFlag fx.k_InvalidFlag ?_
                · refine SA.cons ?_ ?_
                  · exact SE.var 0
                  · exact SA.nil
              · refine SA.cons ?_ ?_
                · refine SE.call (callee_exn (f := "given") (c := "InvalidText") (exClsB_ok fx.ec_InvalidText) (He.eqO_ok fx.nf_InvalidText) (He.eqO_ok fx.ic_InvalidText) fx.ti_InvalidText F_InvalidText___init__ (hr.mono (by decide)) tk B_InvalidText___init__) rfl fx.g_InvalidText fx.k_InvalidText ?_
                  · refine SA.cons ?_ ?_
                    · exact SE.var 0
                    · exact SA.nil
                · refine SA.cons ?_ ?_
                  · refine SE.call (callee_exn (f := "given") (c := "InvalidNumber") (exClsB_ok fx.ec_InvalidNumber) (He.eqO_ok fx.nf_InvalidNumber) (He.eqO_ok fx.ic_InvalidNumber) fx.ti_InvalidNumber F_InvalidNumber___init__ (hr.mono (by decide)) tk B_InvalidNumber___init__) rfl fx.g_InvalidNumber fx.k_InvalidNumber ?_
                    · refine SA.cons ?_ ?_
                      · exact SE.var 0
                      · exact SA.nil
                  · exact SA.nil
  · refine SSs.cons ?_ ?_
    · refine SS.set 1 nd rfl (by first | exact Or.inl rfl | exact Or.inr rfl) ?_
      · refine SE.op opb_plus ?_ ?_
        · exact SE.var 1
        · refine SF.fz ?_
          · refine SF.lst ?_
            · refine SA.cons ?_ ?_
              · refine SE.call (callee_exn (f := "given") (c := "InvalidFaults") (exClsB_ok fx.ec_InvalidFaults) (He.eqO_ok fx.nf_InvalidFaults) (He.eqO_ok fx.ic_InvalidFaults) fx.ti_InvalidFaults F_InvalidFaults___init__ (hr.mono (by decide)) tk B_InvalidFaults___init__) rfl fx.g_InvalidFaults fx.k_InvalidFaults ?_
                · refine SA.cons ?_ ?_
                  · exact SE.var 0
                  · exact SA.nil
              · refine SA.cons ?_ ?_
                · refine SE.call (callee_exn (f := "given") (c := "InvalidFlow") (exClsB_ok fx.ec_InvalidFlow) (He.eqO_ok fx.nf_InvalidFlow) (He.eqO_ok fx.ic_InvalidFlow) fx.ti_InvalidFlow F_InvalidFlow___init__ (hr.mono (by decide)) tk B_InvalidFlow___init__) rfl fx.g_InvalidFlow fx.k_InvalidFlow ?_
                  · refine SA.cons ?_ ?_
                    · exact SE.var 0
                    · exact SA.nil
                · refine SA.cons ?_ ?_
                  · refine SE.call (callee_exn (f := "given") (c := "InvalidWorld") (exClsB_ok fx.ec_InvalidWorld) (He.eqO_ok fx.nf_InvalidWorld) (He.eqO_ok fx.ic_InvalidWorld) fx.ti_InvalidWorld F_InvalidWorld___init__ (hr.mono (by decide)) tk B_InvalidWorld___init__) rfl fx.g_InvalidWorld fx.k_InvalidWorld ?_
                    · refine SA.cons ?_ ?_
                      · exact SE.var 0
                      · exact SA.nil
                  · refine SA.cons ?_ ?_
                    · refine SE.call (callee_exn (f := "given") (c := "InvalidReading") (exClsB_ok fx.ec_InvalidReading) (He.eqO_ok fx.nf_InvalidReading) (He.eqO_ok fx.ic_InvalidReading) fx.ti_InvalidReading F_InvalidReading___init__ (hr.mono (by decide)) tk B_InvalidReading___init__) rfl fx.g_InvalidReading fx.k_InvalidReading ?_
                      · refine SA.cons ?_ ?_
                        · exact SE.var 0
                        · exact SA.nil
                    · refine SA.cons ?_ ?_
                      · refine SE.call (callee_exn (f := "given") (c := "InvalidWish") (exClsB_ok fx.ec_InvalidWish) (He.eqO_ok fx.nf_InvalidWish) (He.eqO_ok fx.ic_InvalidWish) fx.ti_InvalidWish F_InvalidWish___init__ (hr.mono (by decide)) tk B_InvalidWish___init__) rfl fx.g_InvalidWish fx.k_InvalidWish ?_
                        · refine SA.cons ?_ ?_
                          · exact SE.var 0
                          · exact SA.nil
                      · exact SA.nil
    · refine SSs.cons ?_ ?_
      · refine SS.set 1 nd rfl (by first | exact Or.inl rfl | exact Or.inr rfl) ?_
        · refine SE.op opb_plus ?_ ?_
          · exact SE.var 1
          · refine SF.fz ?_
            · refine SF.lst ?_
              · refine SA.cons ?_ ?_
                · refine SE.call (callee_exn (f := "given") (c := "InvalidIndex") (exClsB_ok fx.ec_InvalidIndex) (He.eqO_ok fx.nf_InvalidIndex) (He.eqO_ok fx.ic_InvalidIndex) fx.ti_InvalidIndex F_InvalidIndex___init__ (hr.mono (by decide)) tk B_InvalidIndex___init__) rfl fx.g_InvalidIndex fx.k_InvalidIndex ?_
                  · refine SA.cons ?_ ?_
                    · exact SE.var 0
                    · exact SA.nil
                · refine SA.cons ?_ ?_
                  · refine SE.call (callee_exn (f := "given") (c := "NotAMeter") (exClsB_ok fx.ec_NotAMeter) (He.eqO_ok fx.nf_NotAMeter) (He.eqO_ok fx.ic_NotAMeter) fx.ti_NotAMeter F_NotAMeter___init__ (hr.mono (by decide)) tk B_NotAMeter___init__) rfl fx.g_NotAMeter fx.k_NotAMeter ?_
                    · refine SA.cons ?_ ?_
                      · exact SE.var 0
                      · exact SA.nil
                  · refine SA.cons ?_ ?_
                    · refine SE.call (callee_exn (f := "given") (c := "NotANet") (exClsB_ok fx.ec_NotANet) (He.eqO_ok fx.nf_NotANet) (He.eqO_ok fx.ic_NotANet) fx.ti_NotANet F_NotANet___init__ (hr.mono (by decide)) tk B_NotANet___init__) rfl fx.g_NotANet fx.k_NotANet ?_
                      · refine SA.cons ?_ ?_
                        · exact SE.var 0
                        · exact SA.nil
                    · refine SA.cons ?_ ?_
                      · refine SE.call (callee_exn (f := "given") (c := "NotASum") (exClsB_ok fx.ec_NotASum) (He.eqO_ok fx.nf_NotASum) (He.eqO_ok fx.ic_NotASum) fx.ti_NotASum F_NotASum___init__ (hr.mono (by decide)) tk B_NotASum___init__) rfl fx.g_NotASum fx.k_NotASum ?_
                        · refine SA.cons ?_ ?_
                          · exact SE.var 0
                          · exact SA.nil
                      · refine SA.cons ?_ ?_
                        · refine SE.call (callee_exn (f := "given") (c := "NotARule") (exClsB_ok fx.ec_NotARule) (He.eqO_ok fx.nf_NotARule) (He.eqO_ok fx.ic_NotARule) fx.ti_NotARule F_NotARule___init__ (hr.mono (by decide)) tk B_NotARule___init__) rfl fx.g_NotARule fx.k_NotARule ?_
                          · refine SA.cons ?_ ?_
                            · exact SE.var 0
                            · exact SA.nil
                        · refine SA.cons ?_ ?_
                          · refine SE.call (callee_exn (f := "given") (c := "NotAnEntry") (exClsB_ok fx.ec_NotAnEntry) (He.eqO_ok fx.nf_NotAnEntry) (He.eqO_ok fx.ic_NotAnEntry) fx.ti_NotAnEntry F_NotAnEntry___init__ (hr.mono (by decide)) tk B_NotAnEntry___init__) rfl fx.g_NotAnEntry fx.k_NotAnEntry ?_
                            · refine SA.cons ?_ ?_
                              · exact SE.var 0
                              · exact SA.nil
                          · exact SA.nil
      · refine SSs.cons ?_ ?_
        · refine SS.set 2 nd rfl (by first | exact Or.inl rfl | exact Or.inr rfl) ?_
          · refine SF.fz ?_
            · refine SF.lst ?_
              · refine SA.cons ?_ ?_
                · refine SE.callK0 (callee_exnK (f := "given") (c := "InvalidName") (exClsB_ok fx.ec_InvalidName) (He.eqO_ok fx.nf_InvalidName) (He.eqO_ok fx.ic_InvalidName) fx.ti_InvalidName F_InvalidName___init__ (hr.mono (by decide)) tk BK_InvalidName___init__) rfl fx.g_InvalidName fx.k_InvalidName ?_
                  · refine SK.cons ?_ ?_
                    · exact SE.var 0
                    · exact SK.nil
                · refine SA.cons ?_ ?_
                  · refine SE.callK0 (callee_exnK (f := "given") (c := "InvalidEnd") (exClsB_ok fx.ec_InvalidEnd) (He.eqO_ok fx.nf_InvalidEnd) (He.eqO_ok fx.ic_InvalidEnd) fx.ti_InvalidEnd F_InvalidEnd___init__ (hr.mono (by decide)) tk BK_InvalidEnd___init__) rfl fx.g_InvalidEnd fx.k_InvalidEnd ?_
                    · refine SK.cons ?_ ?_
                      · exact SE.var 0
                      · exact SK.nil
                  · refine SA.cons ?_ ?_
                    · refine SE.callK0 (callee_exnK (f := "given") (c := "InvalidFlag") (exClsB_ok fx.ec_InvalidFlag) (He.eqO_ok fx.nf_InvalidFlag) (He.eqO_ok fx.ic_InvalidFlag) fx.ti_InvalidFlag F_InvalidFlag___init__ (hr.mono (by decide)) tk BK_InvalidFlag___init__) rfl fx.g_InvalidFlag fx.k_InvalidFlag ?_
                      · refine SK.cons ?_ ?_
                        · exact SE.var 0
                        · exact SK.nil
                    · refine SA.cons ?_ ?_
                      · refine SE.callK0 (callee_exnK (f := "given") (c := "InvalidText") (exClsB_ok fx.ec_InvalidText) (He.eqO_ok fx.nf_InvalidText) (He.eqO_ok fx.ic_InvalidText) fx.ti_InvalidText F_InvalidText___init__ (hr.mono (by decide)) tk BK_InvalidText___init__) rfl fx.g_InvalidText fx.k_InvalidText ?_
                        · refine SK.cons ?_ ?_
                          · exact SE.var 0
                          · exact SK.nil
                      · exact SA.nil
        · refine SSs.cons ?_ ?_
          · refine SS.set 2 nd rfl (by first | exact Or.inl rfl | exact Or.inr rfl) ?_
            · refine SE.op opb_plus ?_ ?_
              · exact SE.var 2
              · refine SF.fz ?_
                · refine SF.lst ?_
                  · refine SA.cons ?_ ?_
                    · refine SE.callK0 (callee_exnK (f := "given") (c := "InvalidNumber") (exClsB_ok fx.ec_InvalidNumber) (He.eqO_ok fx.nf_InvalidNumber) (He.eqO_ok fx.ic_InvalidNumber) fx.ti_InvalidNumber F_InvalidNumber___init__ (hr.mono (by decide)) tk BK_InvalidNumber___init__) rfl fx.g_InvalidNumber fx.k_InvalidNumber ?_
                      · refine SK.cons ?_ ?_
                        · exact SE.var 0
                        · exact SK.nil
                    · refine SA.cons ?_ ?_
                      · refine SE.callK0 (callee_exnK (f := "given") (c := "InvalidFaults") (exClsB_ok fx.ec_InvalidFaults) (He.eqO_ok fx.nf_InvalidFaults) (He.eqO_ok fx.ic_InvalidFaults) fx.ti_InvalidFaults F_InvalidFaults___init__ (hr.mono (by decide)) tk BK_InvalidFaults___init__) rfl fx.g_InvalidFaults fx.k_InvalidFaults ?_
                        · refine SK.cons ?_ ?_
                          · exact SE.var 0
                          · exact SK.nil
                      · refine SA.cons ?_ ?_
                        · refine SE.callK0 (callee_exnK (f := "given") (c := "InvalidFlow") (exClsB_ok fx.ec_InvalidFlow) (He.eqO_ok fx.nf_InvalidFlow) (He.eqO_ok fx.ic_InvalidFlow) fx.ti_InvalidFlow F_InvalidFlow___init__ (hr.mono (by decide)) tk BK_InvalidFlow___init__) rfl fx.g_InvalidFlow fx.k_InvalidFlow ?_
                          · refine SK.cons ?_ ?_
                            · exact SE.var 0
                            · exact SK.nil
                        · exact SA.nil
          · refine SSs.cons ?_ ?_
            · refine SS.set 2 nd rfl (by first | exact Or.inl rfl | exact Or.inr rfl) ?_
              · refine SE.op opb_plus ?_ ?_
                · exact SE.var 2
                · refine SF.fz ?_
                  · refine SF.lst ?_
                    · refine SA.cons ?_ ?_
                      · refine SE.callK0 (callee_exnK (f := "given") (c := "InvalidWorld") (exClsB_ok fx.ec_InvalidWorld) (He.eqO_ok fx.nf_InvalidWorld) (He.eqO_ok fx.ic_InvalidWorld) fx.ti_InvalidWorld F_InvalidWorld___init__ (hr.mono (by decide)) tk BK_InvalidWorld___init__) rfl fx.g_InvalidWorld fx.k_InvalidWorld ?_
                        · refine SK.cons ?_ ?_
                          · exact SE.var 0
                          · exact SK.nil
                      · refine SA.cons ?_ ?_
                        · refine SE.callK0 (callee_exnK (f := "given") (c := "InvalidReading") (exClsB_ok fx.ec_InvalidReading) (He.eqO_ok fx.nf_InvalidReading) (He.eqO_ok fx.ic_InvalidReading) fx.ti_InvalidReading F_InvalidReading___init__ (hr.mono (by decide)) tk BK_InvalidReading___init__) rfl fx.g_InvalidReading fx.k_InvalidReading ?_
                          · refine SK.cons ?_ ?_
                            · exact SE.var 0
                            · exact SK.nil
                        · refine SA.cons ?_ ?_
                          · refine SE.callK0 (callee_exnK (f := "given") (c := "InvalidWish") (exClsB_ok fx.ec_InvalidWish) (He.eqO_ok fx.nf_InvalidWish) (He.eqO_ok fx.ic_InvalidWish) fx.ti_InvalidWish F_InvalidWish___init__ (hr.mono (by decide)) tk BK_InvalidWish___init__) rfl fx.g_InvalidWish fx.k_InvalidWish ?_
                            · refine SK.cons ?_ ?_
                              · exact SE.var 0
                              · exact SK.nil
                          · exact SA.nil
            · refine SSs.cons ?_ ?_
              · refine SS.set 2 nd rfl (by first | exact Or.inl rfl | exact Or.inr rfl) ?_
                · refine SE.op opb_plus ?_ ?_
                  · exact SE.var 2
                  · refine SF.fz ?_
                    · refine SF.lst ?_
                      · refine SA.cons ?_ ?_
                        · refine SE.callK0 (callee_exnK (f := "given") (c := "InvalidIndex") (exClsB_ok fx.ec_InvalidIndex) (He.eqO_ok fx.nf_InvalidIndex) (He.eqO_ok fx.ic_InvalidIndex) fx.ti_InvalidIndex F_InvalidIndex___init__ (hr.mono (by decide)) tk BK_InvalidIndex___init__) rfl fx.g_InvalidIndex fx.k_InvalidIndex ?_
                          · refine SK.cons ?_ ?_
                            · exact SE.var 0
                            · exact SK.nil
                        · refine SA.cons ?_ ?_
                          · refine SE.callK0 (callee_exnK (f := "given") (c := "NotAMeter") (exClsB_ok fx.ec_NotAMeter) (He.eqO_ok fx.nf_NotAMeter) (He.eqO_ok fx.ic_NotAMeter) fx.ti_NotAMeter F_NotAMeter___init__ (hr.mono (by decide)) tk BK_NotAMeter___init__) rfl fx.g_NotAMeter fx.k_NotAMeter ?_
                            · refine SK.cons ?_ ?_
                              · exact SE.var 0
                              · exact SK.nil
                          · refine SA.cons ?_ ?_
                            · refine SE.callK0 (callee_exnK (f := "given") (c := "NotANet") (exClsB_ok fx.ec_NotANet) (He.eqO_ok fx.nf_NotANet) (He.eqO_ok fx.ic_NotANet) fx.ti_NotANet F_NotANet___init__ (hr.mono (by decide)) tk BK_NotANet___init__) rfl fx.g_NotANet fx.k_NotANet ?_
                              · refine SK.cons ?_ ?_
                                · exact SE.var 0
                                · exact SK.nil
                            · refine SA.cons ?_ ?_
                              · refine SE.callK0 (callee_exnK (f := "given") (c := "NotASum") (exClsB_ok fx.ec_NotASum) (He.eqO_ok fx.nf_NotASum) (He.eqO_ok fx.ic_NotASum) fx.ti_NotASum F_NotASum___init__ (hr.mono (by decide)) tk BK_NotASum___init__) rfl fx.g_NotASum fx.k_NotASum ?_
                                · refine SK.cons ?_ ?_
                                  · exact SE.var 0
                                  · exact SK.nil
                              · exact SA.nil
              · refine SSs.cons ?_ ?_
                · refine SS.set 2 nd rfl (by first | exact Or.inl rfl | exact Or.inr rfl) ?_
                  · refine SE.op opb_plus ?_ ?_
                    · exact SE.var 2
                    · refine SF.fz ?_
                      · refine SF.lst ?_
                        · refine SA.cons ?_ ?_
                          · refine SE.callK0 (callee_exnK (f := "given") (c := "NotARule") (exClsB_ok fx.ec_NotARule) (He.eqO_ok fx.nf_NotARule) (He.eqO_ok fx.ic_NotARule) fx.ti_NotARule F_NotARule___init__ (hr.mono (by decide)) tk BK_NotARule___init__) rfl fx.g_NotARule fx.k_NotARule ?_
                            · refine SK.cons ?_ ?_
                              · exact SE.var 0
                              · exact SK.nil
                          · refine SA.cons ?_ ?_
                            · refine SE.callK0 (callee_exnK (f := "given") (c := "NotAnEntry") (exClsB_ok fx.ec_NotAnEntry) (He.eqO_ok fx.nf_NotAnEntry) (He.eqO_ok fx.ic_NotAnEntry) fx.ti_NotAnEntry F_NotAnEntry___init__ (hr.mono (by decide)) tk BK_NotAnEntry___init__) rfl fx.g_NotAnEntry fx.k_NotAnEntry ?_
                              · refine SK.cons ?_ ?_
                                · exact SE.var 0
                                · exact SK.nil
                            · exact SA.nil
                · refine SSs.one ?_
                  · refine SS.ret ?_
                    · refine SF.fz ?_
                      · refine SF.lst ?_
                        · refine SA.cons ?_ ?_
                          · refine SE.op opb_plus ?_ ?_
                            · exact SE.var 1
                            · refine SF.fz ?_
                              · refine SF.lst ?_
                                · refine SA.cons ?_ ?_
                                  · refine SE.call (callee_exn (f := "given") (c := "UnknownName") (exClsB_ok fx.ec_UnknownName) (He.eqO_ok fx.nf_UnknownName) (He.eqO_ok fx.ic_UnknownName) fx.ti_UnknownName F_UnknownName___init__ (hr.mono (by decide)) tk B_UnknownName___init__) rfl fx.g_UnknownName fx.k_UnknownName ?_
                                    · refine SA.cons ?_ ?_
                                      · exact SE.var 0
                                      · exact SA.nil
                                  · refine SA.cons ?_ ?_
                                    · refine SE.call (callee_exn (f := "given") (c := "OtherMeters") (exClsB_ok fx.ec_OtherMeters) (He.eqO_ok fx.nf_OtherMeters) (He.eqO_ok fx.ic_OtherMeters) fx.ti_OtherMeters F_OtherMeters___init__ (hr.mono (by decide)) tk B_OtherMeters___init__) rfl fx.g_OtherMeters fx.k_OtherMeters ?_
                                      · refine SA.cons ?_ ?_
                                        · exact SE.var 0
                                        · exact SA.nil
                                    · exact SA.nil
                          · refine SA.cons ?_ ?_
                            · refine SE.op opb_plus ?_ ?_
                              · exact SE.var 2
                              · refine SF.fz ?_
                                · refine SF.lst ?_
                                  · refine SA.cons ?_ ?_
                                    · refine SE.callK0 (callee_exnK (f := "given") (c := "UnknownName") (exClsB_ok fx.ec_UnknownName) (He.eqO_ok fx.nf_UnknownName) (He.eqO_ok fx.ic_UnknownName) fx.ti_UnknownName F_UnknownName___init__ (hr.mono (by decide)) tk BK_UnknownName___init__) rfl fx.g_UnknownName fx.k_UnknownName ?_
                                      · refine SK.cons ?_ ?_
                                        · exact SE.var 0
                                        · exact SK.nil
                                    · refine SA.cons ?_ ?_
                                      · refine SE.callK0 (callee_exnK (f := "given") (c := "OtherMeters") (exClsB_ok fx.ec_OtherMeters) (He.eqO_ok fx.nf_OtherMeters) (He.eqO_ok fx.ic_OtherMeters) fx.ti_OtherMeters F_OtherMeters___init__ (hr.mono (by decide)) tk BK_OtherMeters___init__) rfl fx.g_OtherMeters fx.k_OtherMeters ?_
                                        · refine SK.cons ?_ ?_
                                          · exact SE.var 0
                                          · exact SK.nil
                                      · exact SA.nil
                            · exact SA.nil
theorem sc__law_sorts : FnScope N__law_sorts ["_law_e"] (defScope (top 48)) := ⟨rfl, rfl, rfl, by decide +kernel, rfl, by decide +kernel, by decide +kernel⟩
theorem q__law_sorts (fx : Fx K mg) : ∃ fd, FnQ P w K mg base 1 ((aG "_law_sorts") K) fd ["_law_e"] F__law_sorts ∧ Binds K fd ["_law_e"] [] := by
  obtain ⟨fd, FD⟩ := fx.d__law_sorts
  refine ⟨fd, fnQ (c := c__law_sorts) FD sc__law_sorts (by decide) fun cdv A outer s H E hr => ?_, FunD.full FD fun _ _ _ _ _ _ us hl => match us, hl with | [_], _ => rfl⟩
  have tk : Takes (BX P w K mg base N__law_sorts "_law_sorts" (defScope (top 48)) ((aG "_law_sorts") K) cdv A outer s H E) (BW E) := tk_cx
  have nd : N__law_sorts.Nodup := sc__law_sorts.nd
  refine SSs.cons ?_ ?_
  · refine SS.set 1 nd rfl (by first | exact Or.inl rfl | exact Or.inr rfl) ?_
    · refine SF.fz ?_
      · refine SF.lst ?_
        · refine SA.cons ?_ ?_
          · refine SE.callB (cd_isiE fx.ise fx.isi) rfl fx.b_isinstance (by kernel_rfl) ?_
            · refine SA.cons ?_ ?_
              · exact SE.var 0
              · refine SA.cons ?_ ?_
                · exact SE.gcls rfl fx.g_InvalidName
                · exact SA.nil
          · refine SA.cons ?_ ?_
            · refine SE.callB (cd_isiE fx.ise fx.isi) rfl fx.b_isinstance (by kernel_rfl) ?_
              · refine SA.cons ?_ ?_
                · exact SE.var 0
                · refine SA.cons ?_ ?_
                  · exact SE.gcls rfl fx.g_InvalidEnd
                  · exact SA.nil
            · refine SA.cons ?_ ?_
              · refine SE.callB (cd_isiE fx.ise fx.isi) rfl fx.b_isinstance (by kernel_rfl) ?_
                · refine SA.cons ?_ ?_
                  · exact SE.var 0
                  · refine SA.cons ?_ ?_
                    · exact SE.gcls rfl fx.g_InvalidFlag
                    · exact SA.nil
              · exact SA.nil
  · refine SSs.cons ?_ ?_
    · refine SS.set 1 nd rfl (by first | exact Or.inl rfl | exact Or.inr rfl) ?_
      · refine SE.op opb_plus ?_ ?_
        · exact SE.var 1
        · refine SF.fz ?_
          · refine SF.lst ?_
            · refine SA.cons ?_ ?_
              · refine SE.callB (cd_isiE fx.ise fx.isi) rfl fx.b_isinstance (by kernel_rfl) ?_
                · refine SA.cons ?_ ?_
                  · exact SE.var 0
                  · refine SA.cons ?_ ?_
                    · exact SE.gcls rfl fx.g_InvalidText
                    · exact SA.nil
              · refine SA.cons ?_ ?_
                · refine SE.callB (cd_isiE fx.ise fx.isi) rfl fx.b_isinstance (by kernel_rfl) ?_
                  · refine SA.cons ?_ ?_
                    · exact SE.var 0
                    · refine SA.cons ?_ ?_
                      · exact SE.gcls rfl fx.g_InvalidNumber
                      · exact SA.nil
                · refine SA.cons ?_ ?_
                  · refine SE.callB (cd_isiE fx.ise fx.isi) rfl fx.b_isinstance (by kernel_rfl) ?_
                    · refine SA.cons ?_ ?_
                      · exact SE.var 0
                      · refine SA.cons ?_ ?_
                        · exact SE.gcls rfl fx.g_InvalidFaults
                        · exact SA.nil
                  · exact SA.nil
    · refine SSs.cons ?_ ?_
      · refine SS.set 1 nd rfl (by first | exact Or.inl rfl | exact Or.inr rfl) ?_
        · refine SE.op opb_plus ?_ ?_
          · exact SE.var 1
          · refine SF.fz ?_
            · refine SF.lst ?_
              · refine SA.cons ?_ ?_
                · refine SE.callB (cd_isiE fx.ise fx.isi) rfl fx.b_isinstance (by kernel_rfl) ?_
                  · refine SA.cons ?_ ?_
                    · exact SE.var 0
                    · refine SA.cons ?_ ?_
                      · exact SE.gcls rfl fx.g_InvalidFlow
                      · exact SA.nil
                · refine SA.cons ?_ ?_
                  · refine SE.callB (cd_isiE fx.ise fx.isi) rfl fx.b_isinstance (by kernel_rfl) ?_
                    · refine SA.cons ?_ ?_
                      · exact SE.var 0
                      · refine SA.cons ?_ ?_
                        · exact SE.gcls rfl fx.g_InvalidWorld
                        · exact SA.nil
                  · refine SA.cons ?_ ?_
                    · refine SE.callB (cd_isiE fx.ise fx.isi) rfl fx.b_isinstance (by kernel_rfl) ?_
                      · refine SA.cons ?_ ?_
                        · exact SE.var 0
                        · refine SA.cons ?_ ?_
                          · exact SE.gcls rfl fx.g_InvalidReading
                          · exact SA.nil
                    · exact SA.nil
      · refine SSs.cons ?_ ?_
        · refine SS.set 1 nd rfl (by first | exact Or.inl rfl | exact Or.inr rfl) ?_
          · refine SE.op opb_plus ?_ ?_
            · exact SE.var 1
            · refine SF.fz ?_
              · refine SF.lst ?_
                · refine SA.cons ?_ ?_
                  · refine SE.callB (cd_isiE fx.ise fx.isi) rfl fx.b_isinstance (by kernel_rfl) ?_
                    · refine SA.cons ?_ ?_
                      · exact SE.var 0
                      · refine SA.cons ?_ ?_
                        · exact SE.gcls rfl fx.g_InvalidWish
                        · exact SA.nil
                  · refine SA.cons ?_ ?_
                    · refine SE.callB (cd_isiE fx.ise fx.isi) rfl fx.b_isinstance (by kernel_rfl) ?_
                      · refine SA.cons ?_ ?_
                        · exact SE.var 0
                        · refine SA.cons ?_ ?_
                          · exact SE.gcls rfl fx.g_InvalidIndex
                          · exact SA.nil
                    · refine SA.cons ?_ ?_
                      · refine SE.callB (cd_isiE fx.ise fx.isi) rfl fx.b_isinstance (by kernel_rfl) ?_
                        · refine SA.cons ?_ ?_
                          · exact SE.var 0
                          · refine SA.cons ?_ ?_
                            · exact SE.gcls rfl fx.g_NotAMeter
                            · exact SA.nil
                      · exact SA.nil
        · refine SSs.cons ?_ ?_
          · refine SS.set 1 nd rfl (by first | exact Or.inl rfl | exact Or.inr rfl) ?_
            · refine SE.op opb_plus ?_ ?_
              · exact SE.var 1
              · refine SF.fz ?_
                · refine SF.lst ?_
                  · refine SA.cons ?_ ?_
                    · refine SE.callB (cd_isiE fx.ise fx.isi) rfl fx.b_isinstance (by kernel_rfl) ?_
                      · refine SA.cons ?_ ?_
                        · exact SE.var 0
                        · refine SA.cons ?_ ?_
                          · exact SE.gcls rfl fx.g_NotANet
                          · exact SA.nil
                    · refine SA.cons ?_ ?_
                      · refine SE.callB (cd_isiE fx.ise fx.isi) rfl fx.b_isinstance (by kernel_rfl) ?_
                        · refine SA.cons ?_ ?_
                          · exact SE.var 0
                          · refine SA.cons ?_ ?_
                            · exact SE.gcls rfl fx.g_NotASum
                            · exact SA.nil
                      · refine SA.cons ?_ ?_
                        · refine SE.callB (cd_isiE fx.ise fx.isi) rfl fx.b_isinstance (by kernel_rfl) ?_
                          · refine SA.cons ?_ ?_
                            · exact SE.var 0
                            · refine SA.cons ?_ ?_
                              · exact SE.gcls rfl fx.g_NotARule
                              · exact SA.nil
                        · exact SA.nil
          · refine SSs.cons ?_ ?_
            · refine SS.set 1 nd rfl (by first | exact Or.inl rfl | exact Or.inr rfl) ?_
              · refine SE.op opb_plus ?_ ?_
                · exact SE.var 1
                · refine SF.fz ?_
                  · refine SF.lst ?_
                    · refine SA.cons ?_ ?_
                      · refine SE.callB (cd_isiE fx.ise fx.isi) rfl fx.b_isinstance (by kernel_rfl) ?_
                        · refine SA.cons ?_ ?_
                          · exact SE.var 0
                          · refine SA.cons ?_ ?_
                            · exact SE.gcls rfl fx.g_NotAnEntry
                            · exact SA.nil
                      · refine SA.cons ?_ ?_
                        · refine SE.callB (cd_isiE fx.ise fx.isi) rfl fx.b_isinstance (by kernel_rfl) ?_
                          · refine SA.cons ?_ ?_
                            · exact SE.var 0
                            · refine SA.cons ?_ ?_
                              · exact SE.gcls rfl fx.g_UnknownName
                              · exact SA.nil
                        · refine SA.cons ?_ ?_
                          · refine SE.callB (cd_isiE fx.ise fx.isi) rfl fx.b_isinstance (by kernel_rfl) ?_
                            · refine SA.cons ?_ ?_
                              · exact SE.var 0
                              · refine SA.cons ?_ ?_
                                · exact SE.gcls rfl fx.g_OtherMeters
                                · exact SA.nil
                          · exact SA.nil
            · refine SSs.cons ?_ ?_
              · refine SS.set 1 nd rfl (by first | exact Or.inl rfl | exact Or.inr rfl) ?_
                · refine SE.op opb_plus ?_ ?_
                  · exact SE.var 1
                  · refine SF.fz ?_
                    · refine SF.lst ?_
                      · refine SA.cons ?_ ?_
                        · refine SE.callB (cd_isiE fx.ise fx.isi) rfl fx.b_isinstance (by kernel_rfl) ?_
                          · refine SA.cons ?_ ?_
                            · exact SE.var 0
                            · refine SA.cons ?_ ?_
                              · exact SE.gcls rfl fx.g_InvalidPipes
                              · exact SA.nil
                        · refine SA.cons ?_ ?_
                          · refine SE.callB (cd_isiE fx.ise fx.isi) rfl fx.b_isinstance (by kernel_rfl) ?_
                            · refine SA.cons ?_ ?_
                              · exact SE.var 0
                              · refine SA.cons ?_ ?_
                                · exact SE.gcls rfl fx.g_InvalidMeters
                                · exact SA.nil
                          · refine SA.cons ?_ ?_
                            · refine SE.callB (cd_isiE fx.ise fx.isi) rfl fx.b_isinstance (by kernel_rfl) ?_
                              · refine SA.cons ?_ ?_
                                · exact SE.var 0
                                · refine SA.cons ?_ ?_
                                  · exact SE.gcls rfl fx.g_InvalidTerms
                                  · exact SA.nil
                            · exact SA.nil
              · refine SSs.cons ?_ ?_
                · refine SS.set 1 nd rfl (by first | exact Or.inl rfl | exact Or.inr rfl) ?_
                  · refine SE.op opb_plus ?_ ?_
                    · exact SE.var 1
                    · refine SF.fz ?_
                      · refine SF.lst ?_
                        · refine SA.cons ?_ ?_
                          · refine SE.callB (cd_isiE fx.ise fx.isi) rfl fx.b_isinstance (by kernel_rfl) ?_
                            · refine SA.cons ?_ ?_
                              · exact SE.var 0
                              · refine SA.cons ?_ ?_
                                · exact SE.gcls rfl fx.g_InvalidRows
                                · exact SA.nil
                          · refine SA.cons ?_ ?_
                            · refine SE.callB (cd_isiE fx.ise fx.isi) rfl fx.b_isinstance (by kernel_rfl) ?_
                              · refine SA.cons ?_ ?_
                                · exact SE.var 0
                                · refine SA.cons ?_ ?_
                                  · exact SE.gcls rfl fx.g_InvalidReadings
                                  · exact SA.nil
                            · refine SA.cons ?_ ?_
                              · refine SE.callB (cd_isiE fx.ise fx.isi) rfl fx.b_isinstance (by kernel_rfl) ?_
                                · refine SA.cons ?_ ?_
                                  · exact SE.var 0
                                  · refine SA.cons ?_ ?_
                                    · exact SE.gcls rfl fx.g_InvalidOffers
                                    · exact SA.nil
                              · exact SA.nil
                · refine SSs.cons ?_ ?_
                  · refine SS.set 1 nd rfl (by first | exact Or.inl rfl | exact Or.inr rfl) ?_
                    · refine SE.op opb_plus ?_ ?_
                      · exact SE.var 1
                      · refine SF.fz ?_
                        · refine SF.lst ?_
                          · refine SA.cons ?_ ?_
                            · refine SE.callB (cd_isiE fx.ise fx.isi) rfl fx.b_isinstance (by kernel_rfl) ?_
                              · refine SA.cons ?_ ?_
                                · exact SE.var 0
                                · refine SA.cons ?_ ?_
                                  · exact SE.gcls rfl fx.g_InvalidWishes
                                  · exact SA.nil
                            · refine SA.cons ?_ ?_
                              · refine SE.callB (cd_isiE fx.ise fx.isi) rfl fx.b_isinstance (by kernel_rfl) ?_
                                · refine SA.cons ?_ ?_
                                  · exact SE.var 0
                                  · refine SA.cons ?_ ?_
                                    · exact SE.gcls rfl fx.g_InvalidPrices
                                    · exact SA.nil
                              · refine SA.cons ?_ ?_
                                · refine SE.callB (cd_isiE fx.ise fx.isi) rfl fx.b_isinstance (by kernel_rfl) ?_
                                  · refine SA.cons ?_ ?_
                                    · exact SE.var 0
                                    · refine SA.cons ?_ ?_
                                      · exact SE.gcls rfl fx.g_InUse
                                      · exact SA.nil
                                · exact SA.nil
                  · refine SSs.cons ?_ ?_
                    · refine SS.set 1 nd rfl (by first | exact Or.inl rfl | exact Or.inr rfl) ?_
                      · refine SE.op opb_plus ?_ ?_
                        · exact SE.var 1
                        · refine SF.fz ?_
                          · refine SF.lst ?_
                            · refine SA.cons ?_ ?_
                              · refine SE.callB (cd_isiE fx.ise fx.isi) rfl fx.b_isinstance (by kernel_rfl) ?_
                                · refine SA.cons ?_ ?_
                                  · exact SE.var 0
                                  · refine SA.cons ?_ ?_
                                    · exact SE.gcls rfl fx.g_Broken
                                    · exact SA.nil
                              · refine SA.cons ?_ ?_
                                · refine SE.callB (cd_isiE fx.ise fx.isi) rfl fx.b_isinstance (by kernel_rfl) ?_
                                  · refine SA.cons ?_ ?_
                                    · exact SE.var 0
                                    · refine SA.cons ?_ ?_
                                      · exact SE.gcls rfl fx.g_TooMany
                                      · exact SA.nil
                                · refine SA.cons ?_ ?_
                                  · refine SE.callB (cd_isiE fx.ise fx.isi) rfl fx.b_isinstance (by kernel_rfl) ?_
                                    · refine SA.cons ?_ ?_
                                      · exact SE.var 0
                                      · refine SA.cons ?_ ?_
                                        · exact SE.gcls rfl fx.g_NoWorld
                                        · exact SA.nil
                                  · exact SA.nil
                    · refine SSs.cons ?_ ?_
                      · refine SS.set 1 nd rfl (by first | exact Or.inl rfl | exact Or.inr rfl) ?_
                        · refine SE.op opb_plus ?_ ?_
                          · exact SE.var 1
                          · refine SF.fz ?_
                            · refine SF.lst ?_
                              · refine SA.cons ?_ ?_
                                · refine SE.callB (cd_isiE fx.ise fx.isi) rfl fx.b_isinstance (by kernel_rfl) ?_
                                  · refine SA.cons ?_ ?_
                                    · exact SE.var 0
                                    · refine SA.cons ?_ ?_
                                      · exact SE.gcls rfl fx.g_NothingToUndo
                                      · exact SA.nil
                                · exact SA.nil
                      · refine SSs.one ?_
                        · refine SS.ret ?_
                          · refine SF.fz ?_
                            · refine SF.lc (own := [("_law_at", 2)]) (vs := [2]) rfl nd ?_ (blkOk_by (by kernel_rfl)) (by decide) (fun _ _ _ _ _ => SG.name 2 nd rfl (by first | exact Or.inl rfl | exact Or.inr rfl)) (fun _ _ _ _ _ => .inr ⟨_, rfl, ST.val (SE.ix opi_ix (SE.var 1) (SE.var 2))⟩) (fun _ _ _ _ _ => SE.var 2)
                              · refine SI.range1 rfl fx.b_range ?_
                                · refine SA.cons ?_ ?_
                                  · exact SE.int
                                  · exact SA.nil
theorem sc__law_bases : FnScope N__law_bases ["_law_e"] (defScope (top 49)) := ⟨rfl, rfl, rfl, by decide +kernel, rfl, by decide +kernel, by decide +kernel⟩
theorem q__law_bases (fx : Fx K mg) : ∃ fd, FnQ P w K mg base 1 ((aG "_law_bases") K) fd ["_law_e"] F__law_bases ∧ Binds K fd ["_law_e"] [] := by
  obtain ⟨fd, FD⟩ := fx.d__law_bases
  refine ⟨fd, fnQ (c := c__law_bases) FD sc__law_bases (by decide) fun cdv A outer s H E hr => ?_, FunD.full FD fun _ _ _ _ _ _ us hl => match us, hl with | [_], _ => rfl⟩
  have tk : Takes (BX P w K mg base N__law_bases "_law_bases" (defScope (top 49)) ((aG "_law_bases") K) cdv A outer s H E) (BW E) := tk_cx
  have nd : N__law_bases.Nodup := sc__law_bases.nd
  refine SSs.cons ?_ ?_
  · refine SS.set 1 nd rfl (by first | exact Or.inl rfl | exact Or.inr rfl) ?_
    · refine SF.fz ?_
      · refine SF.lst ?_
        · refine SA.cons ?_ ?_
          · refine SE.callB (cd_isiE fx.ise fx.isi) rfl fx.b_isinstance (by kernel_rfl) ?_
            · refine SA.cons ?_ ?_
              · exact SE.var 0
              · refine SA.cons ?_ ?_
                · exact SE.gcls rfl fx.g_BadValue
                · exact SA.nil
          · refine SA.cons ?_ ?_
            · refine SE.callB (cd_isiE fx.ise fx.isi) rfl fx.b_isinstance (by kernel_rfl) ?_
              · refine SA.cons ?_ ?_
                · exact SE.var 0
                · refine SA.cons ?_ ?_
                  · exact SE.gcls rfl fx.g_BadName
                  · exact SA.nil
            · refine SA.cons ?_ ?_
              · refine SE.callB (cd_isiE fx.ise fx.isi) rfl fx.b_isinstance (by kernel_rfl) ?_
                · refine SA.cons ?_ ?_
                  · exact SE.var 0
                  · refine SA.cons ?_ ?_
                    · exact SE.gcls rfl fx.g_NoAnswer
                    · exact SA.nil
              · exact SA.nil
  · refine SSs.one ?_
    · refine SS.ret ?_
      · refine SF.fz ?_
        · refine SF.lst ?_
          · refine SA.cons ?_ ?_
            · exact SE.var 1
            · refine SA.cons ?_ ?_
              · refine SF.fz ?_
                · refine SF.lst ?_
                  · refine SA.cons ?_ ?_
                    · refine SE.callB (cd_isiE fx.ise fx.isi) rfl fx.b_isinstance (by kernel_rfl) ?_
                      · refine SA.cons ?_ ?_
                        · exact SE.var 0
                        · refine SA.cons ?_ ?_
                          · exact SE.bty rfl fx.b_ValueError (by kernel_rfl)
                          · exact SA.nil
                    · refine SA.cons ?_ ?_
                      · refine SE.callB (cd_isiE fx.ise fx.isi) rfl fx.b_isinstance (by kernel_rfl) ?_
                        · refine SA.cons ?_ ?_
                          · exact SE.var 0
                          · refine SA.cons ?_ ?_
                            · exact SE.bty rfl fx.b_LookupError (by kernel_rfl)
                            · exact SA.nil
                      · refine SA.cons ?_ ?_
                        · refine SE.callB (cd_isiE fx.ise fx.isi) rfl fx.b_isinstance (by kernel_rfl) ?_
                          · refine SA.cons ?_ ?_
                            · exact SE.var 0
                            · refine SA.cons ?_ ?_
                              · exact SE.bty rfl fx.b_ArithmeticError (by kernel_rfl)
                              · exact SA.nil
                        · exact SA.nil
              · exact SA.nil
theorem sc__law_fits : FnScope N__law_fits ["_law_e", "_law_at"] (defScope (top 50)) := ⟨rfl, rfl, rfl, by decide +kernel, rfl, by decide +kernel, by decide +kernel⟩
theorem q__law_fits (fx : Fx K mg) : ∃ fd, FnQ P w K mg base 2 ((aG "_law_fits") K) fd ["_law_e", "_law_at"] F__law_fits ∧ Binds K fd ["_law_e", "_law_at"] [] := by
  obtain ⟨fd, FD⟩ := fx.d__law_fits
  obtain ⟨fd__law_sorts, F__law_sorts, B__law_sorts⟩ := q__law_sorts (P := P) (w := w) (base := base) fx
  obtain ⟨fd__law_bases, F__law_bases, B__law_bases⟩ := q__law_bases (P := P) (w := w) (base := base) fx
  refine ⟨fd, fnQ (c := c__law_fits) FD sc__law_fits (by decide) fun cdv A outer s H E hr => ?_, FunD.full FD fun _ _ _ _ _ _ us hl => match us, hl with | [_, _], _ => rfl⟩
  have tk : Takes (BX P w K mg base N__law_fits "_law_fits" (defScope (top 50)) ((aG "_law_fits") K) cdv A outer s H E) (BW E) := tk_cx
  have nd : N__law_fits.Nodup := sc__law_fits.nd
  refine SSs.cons ?_ ?_
  · refine SS.set 2 nd rfl (by first | exact Or.inl rfl | exact Or.inr rfl) ?_
    · refine SE.ite (SW.st (SW.or (ST.cmp opb_lt (SE.var 1) (SE.int)) (SW.or1 (ST.chain opb_lt opb_lt (SE.int) (SE.var 1) (SE.int))))) ?_ ?_
      · exact SE.int
      · refine SE.ite (SW.st (SW.or (ST.cmp opb_lt (SE.var 1) (SE.int)) (SW.or1 (ST.cmp (opb_eq (Room.units hr.rm)) (SE.var 1) (SE.int))))) ?_ ?_
        · exact SE.int
        · exact SE.int
  · refine SSs.cons ?_ ?_
    · refine SS.set 3 nd rfl (by first | exact Or.inl rfl | exact Or.inr rfl) ?_
      · refine SF.fz ?_
        · refine SF.lst ?_
          · refine SA.cons ?_ ?_
            · refine SE.cmp (opb_eq (Room.units hr.rm)) ?_ ?_
              · exact SE.var 2
              · exact SE.int
            · refine SA.cons ?_ ?_
              · refine SE.cmp (opb_eq (Room.units hr.rm)) ?_ ?_
                · exact SE.var 2
                · exact SE.int
              · refine SA.cons ?_ ?_
                · refine SE.cmp (opb_eq (Room.units hr.rm)) ?_ ?_
                  · exact SE.var 2
                  · exact SE.int
                · exact SA.nil
    · refine SSs.one ?_
      · refine SS.ret ?_
        · refine SE.and ?_ ?_
          · refine SE.cmp (opb_eq (Room.units hr.rm)) ?_ ?_
            · refine SE.call (callee_fn (ps := ["_law_e"]) F__law_sorts (hr.mono (by decide)) tk B__law_sorts Cst.nil) rfl fx.g__law_sorts fx.k__law_sorts ?_
              · refine SA.cons ?_ ?_
                · exact SE.var 0
                · exact SA.nil
            · refine SF.fz ?_
              · refine SF.lst ?_
                · refine SA.cons ?_ ?_
                  · exact SE.var 1
                  · exact SA.nil
          · refine SE.bone ?_
            · refine SE.cmp (opb_eq (Room.units hr.rm)) ?_ ?_
              · refine SE.call (callee_fn (ps := ["_law_e"]) F__law_bases (hr.mono (by decide)) tk B__law_bases Cst.nil) rfl fx.g__law_bases fx.k__law_bases ?_
                · refine SA.cons ?_ ?_
                  · exact SE.var 0
                  · exact SA.nil
              · refine SF.fz ?_
                · refine SF.lst ?_
                  · refine SA.cons ?_ ?_
                    · exact SE.var 3
                    · refine SA.cons ?_ ?_
                      · exact SE.var 3
                      · exact SA.nil
theorem sc_InvalidPipes___init__ : FnScope ["self", "index"] ["self", "index"] (defScope (mem 20 0)) := ⟨rfl, rfl, rfl, by decide +kernel, rfl, by decide +kernel, by decide +kernel⟩
theorem q_InvalidPipes___init__ (fx : Fx K mg) : ∃ fd, FnOk P w K mg base (L2.CX P w) 1 ((aM "InvalidPipes" "__init__") K) fd ["self", "index"] (spI1 K "index") ∧ Binds K fd ["self", "index"] [] ∧ BindsK K fd ["self", "index"] 1 ["index"] [] := by
  obtain ⟨fd, FD⟩ := fx.d_InvalidPipes___init__
  exact ⟨fd, init1 FD sc_InvalidPipes___init__ (Or.inl rfl) (Or.inl rfl) (by decide) (by decide), FunD.full FD fun _ _ _ _ _ _ us hl => match us, hl with | [_, _], _ => rfl, FunD.fullK FD 1 ["index"] fun _ _ _ _ _ _ us ws l1 l2 => match us, ws, l1, l2 with | [_], [_], _, _ => rfl⟩
theorem sc_InvalidMeters___init__ : FnScope ["self", "index"] ["self", "index"] (defScope (mem 21 0)) := ⟨rfl, rfl, rfl, by decide +kernel, rfl, by decide +kernel, by decide +kernel⟩
theorem q_InvalidMeters___init__ (fx : Fx K mg) : ∃ fd, FnOk P w K mg base (L2.CX P w) 1 ((aM "InvalidMeters" "__init__") K) fd ["self", "index"] (spI1 K "index") ∧ Binds K fd ["self", "index"] [] ∧ BindsK K fd ["self", "index"] 1 ["index"] [] := by
  obtain ⟨fd, FD⟩ := fx.d_InvalidMeters___init__
  exact ⟨fd, init1 FD sc_InvalidMeters___init__ (Or.inl rfl) (Or.inl rfl) (by decide) (by decide), FunD.full FD fun _ _ _ _ _ _ us hl => match us, hl with | [_, _], _ => rfl, FunD.fullK FD 1 ["index"] fun _ _ _ _ _ _ us ws l1 l2 => match us, ws, l1, l2 with | [_], [_], _, _ => rfl⟩
theorem sc_InvalidTerms___init__ : FnScope ["self", "index"] ["self", "index"] (defScope (mem 22 0)) := ⟨rfl, rfl, rfl, by decide +kernel, rfl, by decide +kernel, by decide +kernel⟩
theorem q_InvalidTerms___init__ (fx : Fx K mg) : ∃ fd, FnOk P w K mg base (L2.CX P w) 1 ((aM "InvalidTerms" "__init__") K) fd ["self", "index"] (spI1 K "index") ∧ Binds K fd ["self", "index"] [] ∧ BindsK K fd ["self", "index"] 1 ["index"] [] := by
  obtain ⟨fd, FD⟩ := fx.d_InvalidTerms___init__
  exact ⟨fd, init1 FD sc_InvalidTerms___init__ (Or.inl rfl) (Or.inl rfl) (by decide) (by decide), FunD.full FD fun _ _ _ _ _ _ us hl => match us, hl with | [_, _], _ => rfl, FunD.fullK FD 1 ["index"] fun _ _ _ _ _ _ us ws l1 l2 => match us, ws, l1, l2 with | [_], [_], _, _ => rfl⟩
theorem sc_InvalidRows___init__ : FnScope ["self", "index"] ["self", "index"] (defScope (mem 23 0)) := ⟨rfl, rfl, rfl, by decide +kernel, rfl, by decide +kernel, by decide +kernel⟩
theorem q_InvalidRows___init__ (fx : Fx K mg) : ∃ fd, FnOk P w K mg base (L2.CX P w) 1 ((aM "InvalidRows" "__init__") K) fd ["self", "index"] (spI1 K "index") ∧ Binds K fd ["self", "index"] [] ∧ BindsK K fd ["self", "index"] 1 ["index"] [] := by
  obtain ⟨fd, FD⟩ := fx.d_InvalidRows___init__
  exact ⟨fd, init1 FD sc_InvalidRows___init__ (Or.inl rfl) (Or.inl rfl) (by decide) (by decide), FunD.full FD fun _ _ _ _ _ _ us hl => match us, hl with | [_, _], _ => rfl, FunD.fullK FD 1 ["index"] fun _ _ _ _ _ _ us ws l1 l2 => match us, ws, l1, l2 with | [_], [_], _, _ => rfl⟩
theorem sc_InvalidReadings___init__ : FnScope ["self", "index"] ["self", "index"] (defScope (mem 24 0)) := ⟨rfl, rfl, rfl, by decide +kernel, rfl, by decide +kernel, by decide +kernel⟩
theorem q_InvalidReadings___init__ (fx : Fx K mg) : ∃ fd, FnOk P w K mg base (L2.CX P w) 1 ((aM "InvalidReadings" "__init__") K) fd ["self", "index"] (spI1 K "index") ∧ Binds K fd ["self", "index"] [] ∧ BindsK K fd ["self", "index"] 1 ["index"] [] := by
  obtain ⟨fd, FD⟩ := fx.d_InvalidReadings___init__
  exact ⟨fd, init1 FD sc_InvalidReadings___init__ (Or.inl rfl) (Or.inl rfl) (by decide) (by decide), FunD.full FD fun _ _ _ _ _ _ us hl => match us, hl with | [_, _], _ => rfl, FunD.fullK FD 1 ["index"] fun _ _ _ _ _ _ us ws l1 l2 => match us, ws, l1, l2 with | [_], [_], _, _ => rfl⟩
theorem sc_InvalidOffers___init__ : FnScope ["self", "index"] ["self", "index"] (defScope (mem 25 0)) := ⟨rfl, rfl, rfl, by decide +kernel, rfl, by decide +kernel, by decide +kernel⟩
theorem q_InvalidOffers___init__ (fx : Fx K mg) : ∃ fd, FnOk P w K mg base (L2.CX P w) 1 ((aM "InvalidOffers" "__init__") K) fd ["self", "index"] (spI1 K "index") ∧ Binds K fd ["self", "index"] [] ∧ BindsK K fd ["self", "index"] 1 ["index"] [] := by
  obtain ⟨fd, FD⟩ := fx.d_InvalidOffers___init__
  exact ⟨fd, init1 FD sc_InvalidOffers___init__ (Or.inl rfl) (Or.inl rfl) (by decide) (by decide), FunD.full FD fun _ _ _ _ _ _ us hl => match us, hl with | [_, _], _ => rfl, FunD.fullK FD 1 ["index"] fun _ _ _ _ _ _ us ws l1 l2 => match us, ws, l1, l2 with | [_], [_], _, _ => rfl⟩
theorem sc_InvalidWishes___init__ : FnScope ["self", "index"] ["self", "index"] (defScope (mem 26 0)) := ⟨rfl, rfl, rfl, by decide +kernel, rfl, by decide +kernel, by decide +kernel⟩
theorem q_InvalidWishes___init__ (fx : Fx K mg) : ∃ fd, FnOk P w K mg base (L2.CX P w) 1 ((aM "InvalidWishes" "__init__") K) fd ["self", "index"] (spI1 K "index") ∧ Binds K fd ["self", "index"] [] ∧ BindsK K fd ["self", "index"] 1 ["index"] [] := by
  obtain ⟨fd, FD⟩ := fx.d_InvalidWishes___init__
  exact ⟨fd, init1 FD sc_InvalidWishes___init__ (Or.inl rfl) (Or.inl rfl) (by decide) (by decide), FunD.full FD fun _ _ _ _ _ _ us hl => match us, hl with | [_, _], _ => rfl, FunD.fullK FD 1 ["index"] fun _ _ _ _ _ _ us ws l1 l2 => match us, ws, l1, l2 with | [_], [_], _, _ => rfl⟩
theorem sc_InvalidPrices___init__ : FnScope ["self", "index"] ["self", "index"] (defScope (mem 27 0)) := ⟨rfl, rfl, rfl, by decide +kernel, rfl, by decide +kernel, by decide +kernel⟩
theorem q_InvalidPrices___init__ (fx : Fx K mg) : ∃ fd, FnOk P w K mg base (L2.CX P w) 1 ((aM "InvalidPrices" "__init__") K) fd ["self", "index"] (spI1 K "index") ∧ Binds K fd ["self", "index"] [] ∧ BindsK K fd ["self", "index"] 1 ["index"] [] := by
  obtain ⟨fd, FD⟩ := fx.d_InvalidPrices___init__
  exact ⟨fd, init1 FD sc_InvalidPrices___init__ (Or.inl rfl) (Or.inl rfl) (by decide) (by decide), FunD.full FD fun _ _ _ _ _ _ us hl => match us, hl with | [_, _], _ => rfl, FunD.fullK FD 1 ["index"] fun _ _ _ _ _ _ us ws l1 l2 => match us, ws, l1, l2 with | [_], [_], _, _ => rfl⟩
theorem sc_InUse___init__ : FnScope ["self", "index"] ["self", "index"] (defScope (mem 30 0)) := ⟨rfl, rfl, rfl, by decide +kernel, rfl, by decide +kernel, by decide +kernel⟩
theorem q_InUse___init__ (fx : Fx K mg) : ∃ fd, FnOk P w K mg base (L2.CX P w) 1 ((aM "InUse" "__init__") K) fd ["self", "index"] (spI1 K "index") ∧ Binds K fd ["self", "index"] [] ∧ BindsK K fd ["self", "index"] 1 ["index"] [] := by
  obtain ⟨fd, FD⟩ := fx.d_InUse___init__
  exact ⟨fd, init1 FD sc_InUse___init__ (Or.inl rfl) (Or.inl rfl) (by decide) (by decide), FunD.full FD fun _ _ _ _ _ _ us hl => match us, hl with | [_, _], _ => rfl, FunD.fullK FD 1 ["index"] fun _ _ _ _ _ _ us ws l1 l2 => match us, ws, l1, l2 with | [_], [_], _, _ => rfl⟩
theorem sc_Broken___init__ : FnScope ["self", "index"] ["self", "index"] (defScope (mem 34 0)) := ⟨rfl, rfl, rfl, by decide +kernel, rfl, by decide +kernel, by decide +kernel⟩
theorem q_Broken___init__ (fx : Fx K mg) : ∃ fd, FnOk P w K mg base (L2.CX P w) 1 ((aM "Broken" "__init__") K) fd ["self", "index"] (spI1 K "index") ∧ Binds K fd ["self", "index"] [] ∧ BindsK K fd ["self", "index"] 1 ["index"] [] := by
  obtain ⟨fd, FD⟩ := fx.d_Broken___init__
  exact ⟨fd, init1 FD sc_Broken___init__ (Or.inl rfl) (Or.inl rfl) (by decide) (by decide), FunD.full FD fun _ _ _ _ _ _ us hl => match us, hl with | [_, _], _ => rfl, FunD.fullK FD 1 ["index"] fun _ _ _ _ _ _ us ws l1 l2 => match us, ws, l1, l2 with | [_], [_], _, _ => rfl⟩
theorem sc__law_indexed : FnScope N__law_indexed ["_law_odd"] (defScope (top 47)) := ⟨rfl, rfl, rfl, by decide +kernel, rfl, by decide +kernel, by decide +kernel⟩
theorem q__law_indexed (fx : Fx K mg) : ∃ fd, FnQ P w K mg base 3 ((aG "_law_indexed") K) fd ["_law_odd"] F__law_indexed ∧ Binds K fd ["_law_odd"] [] := by
  obtain ⟨fd, FD⟩ := fx.d__law_indexed
  obtain ⟨fd_InvalidPipes___init__, F_InvalidPipes___init__, B_InvalidPipes___init__, BK_InvalidPipes___init__⟩ := q_InvalidPipes___init__ (P := P) (w := w) (base := base) fx
  obtain ⟨fd_InvalidMeters___init__, F_InvalidMeters___init__, B_InvalidMeters___init__, BK_InvalidMeters___init__⟩ := q_InvalidMeters___init__ (P := P) (w := w) (base := base) fx
  obtain ⟨fd_InvalidTerms___init__, F_InvalidTerms___init__, B_InvalidTerms___init__, BK_InvalidTerms___init__⟩ := q_InvalidTerms___init__ (P := P) (w := w) (base := base) fx
  obtain ⟨fd_InvalidRows___init__, F_InvalidRows___init__, B_InvalidRows___init__, BK_InvalidRows___init__⟩ := q_InvalidRows___init__ (P := P) (w := w) (base := base) fx
  obtain ⟨fd_InvalidReadings___init__, F_InvalidReadings___init__, B_InvalidReadings___init__, BK_InvalidReadings___init__⟩ := q_InvalidReadings___init__ (P := P) (w := w) (base := base) fx
  obtain ⟨fd_InvalidOffers___init__, F_InvalidOffers___init__, B_InvalidOffers___init__, BK_InvalidOffers___init__⟩ := q_InvalidOffers___init__ (P := P) (w := w) (base := base) fx
  obtain ⟨fd_InvalidWishes___init__, F_InvalidWishes___init__, B_InvalidWishes___init__, BK_InvalidWishes___init__⟩ := q_InvalidWishes___init__ (P := P) (w := w) (base := base) fx
  obtain ⟨fd_InvalidPrices___init__, F_InvalidPrices___init__, B_InvalidPrices___init__, BK_InvalidPrices___init__⟩ := q_InvalidPrices___init__ (P := P) (w := w) (base := base) fx
  obtain ⟨fd_InUse___init__, F_InUse___init__, B_InUse___init__, BK_InUse___init__⟩ := q_InUse___init__ (P := P) (w := w) (base := base) fx
  obtain ⟨fd_Broken___init__, F_Broken___init__, B_Broken___init__, BK_Broken___init__⟩ := q_Broken___init__ (P := P) (w := w) (base := base) fx
  refine ⟨fd, fnQ (c := c__law_indexed) FD sc__law_indexed (by decide) fun cdv A outer s H E hr => ?_, FunD.full FD fun _ _ _ _ _ _ us hl => match us, hl with | [_], _ => rfl⟩
  have tk : Takes (BX P w K mg base N__law_indexed "_law_indexed" (defScope (top 47)) ((aG "_law_indexed") K) cdv A outer s H E) (BW E) := tk_cx
  have nd : N__law_indexed.Nodup := sc__law_indexed.nd
  refine SSs.cons ?_ ?_
  · refine SS.set 1 nd rfl (by first | exact Or.inl rfl | exact Or.inr rfl) ?_
    · refine SF.fz ?_
      · refine SF.lst ?_
        · refine SA.cons ?_ ?_
          · refine SE.call (callee_exn (f := "index") (c := "InvalidPipes") (exClsB_ok fx.ec_InvalidPipes) (He.eqO_ok fx.nf_InvalidPipes) (He.eqO_ok fx.ic_InvalidPipes) fx.ti_InvalidPipes F_InvalidPipes___init__ (hr.mono (by decide)) tk B_InvalidPipes___init__) rfl fx.g_InvalidPipes fx.k_InvalidPipes ?_
            · refine SA.cons ?_ ?_
              · exact SE.var 0
              · exact SA.nil
          · refine SA.cons ?_ ?_
            · refine SE.call (callee_exn (f := "index") (c := "InvalidMeters") (exClsB_ok fx.ec_InvalidMeters) (He.eqO_ok fx.nf_InvalidMeters) (He.eqO_ok fx.ic_InvalidMeters) fx.ti_InvalidMeters F_InvalidMeters___init__ (hr.mono (by decide)) tk B_InvalidMeters___init__) rfl fx.g_InvalidMeters fx.k_InvalidMeters ?_
              · refine SA.cons ?_ ?_
                · exact SE.var 0
                · exact SA.nil
            · refine SA.cons ?_ ?_
              · refine SE.call (callee_exn (f := "index") (c := "InvalidTerms") (exClsB_ok fx.ec_InvalidTerms) (He.eqO_ok fx.nf_InvalidTerms) (He.eqO_ok fx.ic_InvalidTerms) fx.ti_InvalidTerms F_InvalidTerms___init__ (hr.mono (by decide)) tk B_InvalidTerms___init__) rfl fx.g_InvalidTerms fx.k_InvalidTerms ?_
                · refine SA.cons ?_ ?_
                  · exact SE.var 0
                  · exact SA.nil
              · refine SA.cons ?_ ?_
                · refine SE.call (callee_exn (f := "index") (c := "InvalidRows") (exClsB_ok fx.ec_InvalidRows) (He.eqO_ok fx.nf_InvalidRows) (He.eqO_ok fx.ic_InvalidRows) fx.ti_InvalidRows F_InvalidRows___init__ (hr.mono (by decide)) tk B_InvalidRows___init__) rfl fx.g_InvalidRows fx.k_InvalidRows ?_
                  · refine SA.cons ?_ ?_
                    · exact SE.var 0
                    · exact SA.nil
                · refine SA.cons ?_ ?_
                  · refine SE.call (callee_exn (f := "index") (c := "InvalidReadings") (exClsB_ok fx.ec_InvalidReadings) (He.eqO_ok fx.nf_InvalidReadings) (He.eqO_ok fx.ic_InvalidReadings) fx.ti_InvalidReadings F_InvalidReadings___init__ (hr.mono (by decide)) tk B_InvalidReadings___init__) rfl fx.g_InvalidReadings fx.k_InvalidReadings ?_
                    · refine SA.cons ?_ ?_
                      · exact SE.var 0
                      · exact SA.nil
                  · exact SA.nil
  · refine SSs.cons ?_ ?_
    · refine SS.set 1 nd rfl (by first | exact Or.inl rfl | exact Or.inr rfl) ?_
      · refine SE.op opb_plus ?_ ?_
        · exact SE.var 1
        · refine SF.fz ?_
          · refine SF.lst ?_
            · refine SA.cons ?_ ?_
              · refine SE.call (callee_exn (f := "index") (c := "InvalidOffers") (exClsB_ok fx.ec_InvalidOffers) (He.eqO_ok fx.nf_InvalidOffers) (He.eqO_ok fx.ic_InvalidOffers) fx.ti_InvalidOffers F_InvalidOffers___init__ (hr.mono (by decide)) tk B_InvalidOffers___init__) rfl fx.g_InvalidOffers fx.k_InvalidOffers ?_
                · refine SA.cons ?_ ?_
                  · exact SE.var 0
                  · exact SA.nil
              · refine SA.cons ?_ ?_
                · refine SE.call (callee_exn (f := "index") (c := "InvalidWishes") (exClsB_ok fx.ec_InvalidWishes) (He.eqO_ok fx.nf_InvalidWishes) (He.eqO_ok fx.ic_InvalidWishes) fx.ti_InvalidWishes F_InvalidWishes___init__ (hr.mono (by decide)) tk B_InvalidWishes___init__) rfl fx.g_InvalidWishes fx.k_InvalidWishes ?_
                  · refine SA.cons ?_ ?_
                    · exact SE.var 0
                    · exact SA.nil
                · refine SA.cons ?_ ?_
                  · refine SE.call (callee_exn (f := "index") (c := "InvalidPrices") (exClsB_ok fx.ec_InvalidPrices) (He.eqO_ok fx.nf_InvalidPrices) (He.eqO_ok fx.ic_InvalidPrices) fx.ti_InvalidPrices F_InvalidPrices___init__ (hr.mono (by decide)) tk B_InvalidPrices___init__) rfl fx.g_InvalidPrices fx.k_InvalidPrices ?_
                    · refine SA.cons ?_ ?_
                      · exact SE.var 0
                      · exact SA.nil
                  · refine SA.cons ?_ ?_
                    · refine SE.call (callee_exn (f := "index") (c := "InUse") (exClsB_ok fx.ec_InUse) (He.eqO_ok fx.nf_InUse) (He.eqO_ok fx.ic_InUse) fx.ti_InUse F_InUse___init__ (hr.mono (by decide)) tk B_InUse___init__) rfl fx.g_InUse fx.k_InUse ?_
                      · refine SA.cons ?_ ?_
                        · exact SE.var 0
                        · exact SA.nil
                    · refine SA.cons ?_ ?_
                      · refine SE.call (callee_exn (f := "index") (c := "Broken") (exClsB_ok fx.ec_Broken) (He.eqO_ok fx.nf_Broken) (He.eqO_ok fx.ic_Broken) fx.ti_Broken F_Broken___init__ (hr.mono (by decide)) tk B_Broken___init__) rfl fx.g_Broken fx.k_Broken ?_
                        · refine SA.cons ?_ ?_
                          · exact SE.var 0
                          · exact SA.nil
                      · exact SA.nil
    · refine SSs.cons ?_ ?_
      · refine SS.set 2 nd rfl (by first | exact Or.inl rfl | exact Or.inr rfl) ?_
        · refine SF.fz ?_
          · refine SF.lst ?_
            · refine SA.cons ?_ ?_
              · refine SE.callK0 (callee_exnK (f := "index") (c := "InvalidPipes") (exClsB_ok fx.ec_InvalidPipes) (He.eqO_ok fx.nf_InvalidPipes) (He.eqO_ok fx.ic_InvalidPipes) fx.ti_InvalidPipes F_InvalidPipes___init__ (hr.mono (by decide)) tk BK_InvalidPipes___init__) rfl fx.g_InvalidPipes fx.k_InvalidPipes ?_
                · refine SK.cons ?_ ?_
                  · exact SE.var 0
                  · exact SK.nil
              · refine SA.cons ?_ ?_
                · refine SE.callK0 (callee_exnK (f := "index") (c := "InvalidMeters") (exClsB_ok fx.ec_InvalidMeters) (He.eqO_ok fx.nf_InvalidMeters) (He.eqO_ok fx.ic_InvalidMeters) fx.ti_InvalidMeters F_InvalidMeters___init__ (hr.mono (by decide)) tk BK_InvalidMeters___init__) rfl fx.g_InvalidMeters fx.k_InvalidMeters ?_
                  · refine SK.cons ?_ ?_
                    · exact SE.var 0
                    · exact SK.nil
                · refine SA.cons ?_ ?_
                  · refine SE.callK0 (callee_exnK (f := "index") (c := "InvalidTerms") (exClsB_ok fx.ec_InvalidTerms) (He.eqO_ok fx.nf_InvalidTerms) (He.eqO_ok fx.ic_InvalidTerms) fx.ti_InvalidTerms F_InvalidTerms___init__ (hr.mono (by decide)) tk BK_InvalidTerms___init__) rfl fx.g_InvalidTerms fx.k_InvalidTerms ?_
                    · refine SK.cons ?_ ?_
                      · exact SE.var 0
                      · exact SK.nil
                  · refine SA.cons ?_ ?_
                    · refine SE.callK0 (callee_exnK (f := "index") (c := "InvalidRows") (exClsB_ok fx.ec_InvalidRows) (He.eqO_ok fx.nf_InvalidRows) (He.eqO_ok fx.ic_InvalidRows) fx.ti_InvalidRows F_InvalidRows___init__ (hr.mono (by decide)) tk BK_InvalidRows___init__) rfl fx.g_InvalidRows fx.k_InvalidRows ?_
                      · refine SK.cons ?_ ?_
                        · exact SE.var 0
                        · exact SK.nil
                    · exact SA.nil
      · refine SSs.cons ?_ ?_
        · refine SS.set 2 nd rfl (by first | exact Or.inl rfl | exact Or.inr rfl) ?_
          · refine SE.op opb_plus ?_ ?_
            · exact SE.var 2
            · refine SF.fz ?_
              · refine SF.lst ?_
                · refine SA.cons ?_ ?_
                  · refine SE.callK0 (callee_exnK (f := "index") (c := "InvalidReadings") (exClsB_ok fx.ec_InvalidReadings) (He.eqO_ok fx.nf_InvalidReadings) (He.eqO_ok fx.ic_InvalidReadings) fx.ti_InvalidReadings F_InvalidReadings___init__ (hr.mono (by decide)) tk BK_InvalidReadings___init__) rfl fx.g_InvalidReadings fx.k_InvalidReadings ?_
                    · refine SK.cons ?_ ?_
                      · exact SE.var 0
                      · exact SK.nil
                  · refine SA.cons ?_ ?_
                    · refine SE.callK0 (callee_exnK (f := "index") (c := "InvalidOffers") (exClsB_ok fx.ec_InvalidOffers) (He.eqO_ok fx.nf_InvalidOffers) (He.eqO_ok fx.ic_InvalidOffers) fx.ti_InvalidOffers F_InvalidOffers___init__ (hr.mono (by decide)) tk BK_InvalidOffers___init__) rfl fx.g_InvalidOffers fx.k_InvalidOffers ?_
                      · refine SK.cons ?_ ?_
                        · exact SE.var 0
                        · exact SK.nil
                    · refine SA.cons ?_ ?_
                      · refine SE.callK0 (callee_exnK (f := "index") (c := "InvalidWishes") (exClsB_ok fx.ec_InvalidWishes) (He.eqO_ok fx.nf_InvalidWishes) (He.eqO_ok fx.ic_InvalidWishes) fx.ti_InvalidWishes F_InvalidWishes___init__ (hr.mono (by decide)) tk BK_InvalidWishes___init__) rfl fx.g_InvalidWishes fx.k_InvalidWishes ?_
                        · refine SK.cons ?_ ?_
                          · exact SE.var 0
                          · exact SK.nil
                      · exact SA.nil
        · refine SSs.cons ?_ ?_
          · refine SS.set 2 nd rfl (by first | exact Or.inl rfl | exact Or.inr rfl) ?_
            · refine SE.op opb_plus ?_ ?_
              · exact SE.var 2
              · refine SF.fz ?_
                · refine SF.lst ?_
                  · refine SA.cons ?_ ?_
                    · refine SE.callK0 (callee_exnK (f := "index") (c := "InvalidPrices") (exClsB_ok fx.ec_InvalidPrices) (He.eqO_ok fx.nf_InvalidPrices) (He.eqO_ok fx.ic_InvalidPrices) fx.ti_InvalidPrices F_InvalidPrices___init__ (hr.mono (by decide)) tk BK_InvalidPrices___init__) rfl fx.g_InvalidPrices fx.k_InvalidPrices ?_
                      · refine SK.cons ?_ ?_
                        · exact SE.var 0
                        · exact SK.nil
                    · refine SA.cons ?_ ?_
                      · refine SE.callK0 (callee_exnK (f := "index") (c := "InUse") (exClsB_ok fx.ec_InUse) (He.eqO_ok fx.nf_InUse) (He.eqO_ok fx.ic_InUse) fx.ti_InUse F_InUse___init__ (hr.mono (by decide)) tk BK_InUse___init__) rfl fx.g_InUse fx.k_InUse ?_
                        · refine SK.cons ?_ ?_
                          · exact SE.var 0
                          · exact SK.nil
                      · refine SA.cons ?_ ?_
                        · refine SE.callK0 (callee_exnK (f := "index") (c := "Broken") (exClsB_ok fx.ec_Broken) (He.eqO_ok fx.nf_Broken) (He.eqO_ok fx.ic_Broken) fx.ti_Broken F_Broken___init__ (hr.mono (by decide)) tk BK_Broken___init__) rfl fx.g_Broken fx.k_Broken ?_
                          · refine SK.cons ?_ ?_
                            · exact SE.var 0
                            · exact SK.nil
                        · exact SA.nil
          · refine SSs.one ?_
            · refine SS.ret ?_
              · refine SF.fz ?_
                · refine SF.lst ?_
                  · refine SA.cons ?_ ?_
                    · exact SE.var 1
                    · refine SA.cons ?_ ?_
                      · exact SE.var 2
                      · exact SA.nil
theorem sc_TooMany___init__ : FnScope ["self", "limit"] ["self", "limit"] (defScope (mem 31 0)) := ⟨rfl, rfl, rfl, by decide +kernel, rfl, by decide +kernel, by decide +kernel⟩
theorem q_TooMany___init__ (fx : Fx K mg) : ∃ fd, FnOk P w K mg base (L2.CX P w) 1 ((aM "TooMany" "__init__") K) fd ["self", "limit"] (spI1 K "limit") ∧ Binds K fd ["self", "limit"] [] ∧ BindsK K fd ["self", "limit"] 1 ["limit"] [] := by
  obtain ⟨fd, FD⟩ := fx.d_TooMany___init__
  exact ⟨fd, init1 FD sc_TooMany___init__ (Or.inl rfl) (Or.inl rfl) (by decide) (by decide), FunD.full FD fun _ _ _ _ _ _ us hl => match us, hl with | [_, _], _ => rfl, FunD.fullK FD 1 ["limit"] fun _ _ _ _ _ _ us ws l1 l2 => match us, ws, l1, l2 with | [_], [_], _, _ => rfl⟩
theorem sc_NoWorld___init__ : FnScope ["self", "most"] ["self", "most"] (defScope (mem 32 0)) := ⟨rfl, rfl, rfl, by decide +kernel, rfl, by decide +kernel, by decide +kernel⟩
theorem q_NoWorld___init__ (fx : Fx K mg) : ∃ fd, FnOk P w K mg base (L2.CX P w) 1 ((aM "NoWorld" "__init__") K) fd ["self", "most"] (spI1 K "most") ∧ Binds K fd ["self", "most"] [] ∧ BindsK K fd ["self", "most"] 1 ["most"] [] := by
  obtain ⟨fd, FD⟩ := fx.d_NoWorld___init__
  exact ⟨fd, init1 FD sc_NoWorld___init__ (Or.inl rfl) (Or.inl rfl) (by decide) (by decide), FunD.full FD fun _ _ _ _ _ _ us hl => match us, hl with | [_, _], _ => rfl, FunD.fullK FD 1 ["most"] fun _ _ _ _ _ _ us ws l1 l2 => match us, ws, l1, l2 with | [_], [_], _, _ => rfl⟩
theorem sc_NothingToUndo___init__ : FnScope ["self"] ["self"] (defScope (mem 33 0)) := ⟨rfl, rfl, rfl, by decide +kernel, rfl, by decide +kernel, by decide +kernel⟩
theorem q_NothingToUndo___init__ (fx : Fx K mg) : ∃ fd, FnOk P w K mg base (L2.CX P w) 1 ((aM "NothingToUndo" "__init__") K) fd ["self"] spI0 ∧ Binds K fd ["self"] [] := by
  obtain ⟨fd, FD⟩ := fx.d_NothingToUndo___init__
  exact ⟨fd, init0 FD sc_NothingToUndo___init__, FunD.full FD fun _ _ _ _ _ _ us hl => match us, hl with | [_], _ => rfl⟩
theorem sc__law_right : FnScope N__law_right ["_law_odd"] (defScope (top 51)) := ⟨rfl, rfl, rfl, by decide +kernel, rfl, by decide +kernel, by decide +kernel⟩
theorem q__law_right (fx : Fx K mg) : ∃ fd, FnQ P w K mg base 4 ((aG "_law_right") K) fd ["_law_odd"] F__law_right ∧ Binds K fd ["_law_odd"] [] := by
  obtain ⟨fd, FD⟩ := fx.d__law_right
  obtain ⟨fd__law_given, F__law_given, B__law_given⟩ := q__law_given (P := P) (w := w) (base := base) fx
  obtain ⟨fd__law_fits, F__law_fits, B__law_fits⟩ := q__law_fits (P := P) (w := w) (base := base) fx
  obtain ⟨fd__law_indexed, F__law_indexed, B__law_indexed⟩ := q__law_indexed (P := P) (w := w) (base := base) fx
  obtain ⟨fd_TooMany___init__, F_TooMany___init__, B_TooMany___init__, BK_TooMany___init__⟩ := q_TooMany___init__ (P := P) (w := w) (base := base) fx
  obtain ⟨fd_NoWorld___init__, F_NoWorld___init__, B_NoWorld___init__, BK_NoWorld___init__⟩ := q_NoWorld___init__ (P := P) (w := w) (base := base) fx
  obtain ⟨fd_NothingToUndo___init__, F_NothingToUndo___init__, B_NothingToUndo___init__⟩ := q_NothingToUndo___init__ (P := P) (w := w) (base := base) fx
  refine ⟨fd, fnQ (c := c__law_right) FD sc__law_right (by decide) fun cdv A outer s H E hr => ?_, FunD.full FD fun _ _ _ _ _ _ us hl => match us, hl with | [_], _ => rfl⟩
  have tk : Takes (BX P w K mg base N__law_right "_law_right" (defScope (top 51)) ((aG "_law_right") K) cdv A outer s H E) (BW E) := tk_cx
  have nd : N__law_right.Nodup := sc__law_right.nd
  refine SSs.cons ?_ ?_
  · refine SS.for po_cx rfl ?_ (SG.name 1 nd rfl (by first | exact Or.inl rfl | exact Or.inr rfl)) ?_
    · refine SI.val ?_
      · refine SE.call (callee_fn (ps := ["_law_odd"]) F__law_given (hr.mono (by decide)) tk B__law_given Cst.nil) rfl fx.g__law_given fx.k__law_given ?_
        · refine SA.cons ?_ ?_
          · exact SE.var 0
          · exact SA.nil
    · refine SSs.cons ?_ ?_
      · refine SS.if_ ?_ ?_ ?_
        · refine ST.not ?_
          · refine ST.val ?_
            · refine SE.callB (cd_all rfl) rfl fx.b_all (by kernel_rfl) ?_
              · refine SA.cons ?_ ?_
                · refine SF.fz ?_
                  · refine SF.lc (own := [("_law_at", 2)]) (vs := [2]) rfl nd ?_ (blkOk_by (by kernel_rfl)) (by decide) (fun _ _ _ _ _ => SG.name 2 nd rfl (by first | exact Or.inl rfl | exact Or.inr rfl)) (fun _ _ _ _ _ => .inl ⟨rfl, rfl⟩) (fun _ _ _ _ _ => SE.call (callee_fn (ps := ["_law_e", "_law_at"]) F__law_fits (hr.mono (by decide)) takesB B__law_fits Cst.nil) rfl fx.g__law_fits fx.k__law_fits (SA.cons (SE.ix opi_ix (SE.var 1) (SE.var 2)) (SA.cons (SE.var 2) (SA.nil))))
                    · refine SI.range1 rfl fx.b_range ?_
                      · refine SA.cons ?_ ?_
                        · exact SE.int
                        · exact SA.nil
                · exact SA.nil
        · refine SSs.one ?_
          · refine SS.ret ?_
            · exact SE.bl
        · exact SSs.nil
      · refine SSs.one ?_
        · refine SS.if_ ?_ ?_ ?_
          · refine ST.cmp (opb_ne (Room.units hr.rm)) ?_ ?_
            · refine SE.callB (cd_reprX hr fx.sys) rfl fx.b_repr (by kernel_rfl) ?_
              · refine SA.cons ?_ ?_
                · refine SF.fz ?_
                  · refine SF.lc (own := [("_law_e", 3)]) (vs := [3]) rfl nd ?_ (blkOk_by (by kernel_rfl)) (by decide) (fun _ _ _ _ _ => SG.name 3 nd rfl (by first | exact Or.inl rfl | exact Or.inr rfl)) (fun _ _ _ _ _ => .inl ⟨rfl, rfl⟩) (fun _ _ _ _ _ => SE.xf fx.exs fx.exno_given (SE.var 3))
                    · refine SI.val ?_
                      · exact SE.var 1
                · exact SA.nil
            · refine SE.callB (cd_reprX hr fx.sys) rfl fx.b_repr (by kernel_rfl) ?_
              · refine SA.cons ?_ ?_
                · refine SE.op opb_times ?_ ?_
                  · refine SF.fz ?_
                    · refine SF.lst ?_
                      · refine SA.cons ?_ ?_
                        · exact SE.var 0
                        · exact SA.nil
                  · exact SE.int
                · exact SA.nil
          · refine SSs.one ?_
            · refine SS.ret ?_
              · exact SE.bl
          · exact SSs.nil
  · refine SSs.cons ?_ ?_
    · refine SS.for po_cx rfl ?_ (SG.name 1 nd rfl (by first | exact Or.inl rfl | exact Or.inr rfl)) ?_
      · refine SI.val ?_
        · refine SE.call (callee_fn (ps := ["_law_odd"]) F__law_indexed (hr.mono (by decide)) tk B__law_indexed Cst.nil) rfl fx.g__law_indexed fx.k__law_indexed ?_
          · refine SA.cons ?_ ?_
            · exact SE.var 0
            · exact SA.nil
      · refine SSs.cons ?_ ?_
        · refine SS.if_ ?_ ?_ ?_
          · refine ST.not ?_
            · refine ST.val ?_
              · refine SE.callB (cd_all rfl) rfl fx.b_all (by kernel_rfl) ?_
                · refine SA.cons ?_ ?_
                  · refine SF.fz ?_
                    · refine SF.lc (own := [("_law_at", 2)]) (vs := [2]) rfl nd ?_ (blkOk_by (by kernel_rfl)) (by decide) (fun _ _ _ _ _ => SG.name 2 nd rfl (by first | exact Or.inl rfl | exact Or.inr rfl)) (fun _ _ _ _ _ => .inl ⟨rfl, rfl⟩) (fun _ _ _ _ _ => SE.call (callee_fn (ps := ["_law_e", "_law_at"]) F__law_fits (hr.mono (by decide)) takesB B__law_fits Cst.nil) rfl fx.g__law_fits fx.k__law_fits (SA.cons (SE.ix opi_ix (SE.var 1) (SE.var 2)) (SA.cons (SE.op opb_plus (SE.int) (SE.var 2)) (SA.nil))))
                      · refine SI.range1 rfl fx.b_range ?_
                        · refine SA.cons ?_ ?_
                          · exact SE.int
                          · exact SA.nil
                  · exact SA.nil
          · refine SSs.one ?_
            · refine SS.ret ?_
              · exact SE.bl
          · exact SSs.nil
        · refine SSs.one ?_
          · refine SS.if_ ?_ ?_ ?_
            · refine ST.cmp (opb_ne (Room.units hr.rm)) ?_ ?_
              · refine SE.callB (cd_reprX hr fx.sys) rfl fx.b_repr (by kernel_rfl) ?_
                · refine SA.cons ?_ ?_
                  · refine SF.fz ?_
                    · refine SF.lc (own := [("_law_e", 3)]) (vs := [3]) rfl nd ?_ (blkOk_by (by kernel_rfl)) (by decide) (fun _ _ _ _ _ => SG.name 3 nd rfl (by first | exact Or.inl rfl | exact Or.inr rfl)) (fun _ _ _ _ _ => .inl ⟨rfl, rfl⟩) (fun _ _ _ _ _ => SE.xf fx.exs fx.exno_index (SE.var 3))
                      · refine SI.val ?_
                        · exact SE.var 1
                  · exact SA.nil
              · refine SE.callB (cd_reprX hr fx.sys) rfl fx.b_repr (by kernel_rfl) ?_
                · refine SA.cons ?_ ?_
                  · refine SE.op opb_times ?_ ?_
                    · refine SF.fz ?_
                      · refine SF.lst ?_
                        · refine SA.cons ?_ ?_
                          · exact SE.var 0
                          · exact SA.nil
                    · exact SE.int
                  · exact SA.nil
            · refine SSs.one ?_
              · refine SS.ret ?_
                · exact SE.bl
            · exact SSs.nil
    · refine SSs.cons ?_ ?_
      · refine SS.set 4 nd rfl (by first | exact Or.inl rfl | exact Or.inr rfl) ?_
        · refine SF.fz ?_
          · refine SF.lst ?_
            · refine SA.cons ?_ ?_
              · refine SE.xf fx.exs fx.exno_limit ?_
                · refine SE.call (callee_exn (f := "limit") (c := "TooMany") (exClsB_ok fx.ec_TooMany) (He.eqO_ok fx.nf_TooMany) (He.eqO_ok fx.ic_TooMany) fx.ti_TooMany F_TooMany___init__ (hr.mono (by decide)) tk B_TooMany___init__) rfl fx.g_TooMany fx.k_TooMany ?_
                  · refine SA.cons ?_ ?_
                    · exact SE.var 0
                    · exact SA.nil
              · refine SA.cons ?_ ?_
                · refine SE.xf fx.exs fx.exno_limit ?_
                  · refine SE.callK0 (callee_exnK (f := "limit") (c := "TooMany") (exClsB_ok fx.ec_TooMany) (He.eqO_ok fx.nf_TooMany) (He.eqO_ok fx.ic_TooMany) fx.ti_TooMany F_TooMany___init__ (hr.mono (by decide)) tk BK_TooMany___init__) rfl fx.g_TooMany fx.k_TooMany ?_
                    · refine SK.cons ?_ ?_
                      · exact SE.var 0
                      · exact SK.nil
                · refine SA.cons ?_ ?_
                  · refine SE.xf fx.exs fx.exno_most ?_
                    · refine SE.call (callee_exn (f := "most") (c := "NoWorld") (exClsB_ok fx.ec_NoWorld) (He.eqO_ok fx.nf_NoWorld) (He.eqO_ok fx.ic_NoWorld) fx.ti_NoWorld F_NoWorld___init__ (hr.mono (by decide)) tk B_NoWorld___init__) rfl fx.g_NoWorld fx.k_NoWorld ?_
                      · refine SA.cons ?_ ?_
                        · exact SE.var 0
                        · exact SA.nil
                  · refine SA.cons ?_ ?_
                    · refine SE.xf fx.exs fx.exno_most ?_
                      · refine SE.callK0 (callee_exnK (f := "most") (c := "NoWorld") (exClsB_ok fx.ec_NoWorld) (He.eqO_ok fx.nf_NoWorld) (He.eqO_ok fx.ic_NoWorld) fx.ti_NoWorld F_NoWorld___init__ (hr.mono (by decide)) tk BK_NoWorld___init__) rfl fx.g_NoWorld fx.k_NoWorld ?_
                        · refine SK.cons ?_ ?_
                          · exact SE.var 0
                          · exact SK.nil
                    · exact SA.nil
      · refine SSs.cons ?_ ?_
        · refine SS.if_ ?_ ?_ ?_
          · refine ST.cmp (opb_ne (Room.units hr.rm)) ?_ ?_
            · refine SE.callB (cd_reprX hr fx.sys) rfl fx.b_repr (by kernel_rfl) ?_
              · refine SA.cons ?_ ?_
                · exact SE.var 4
                · exact SA.nil
            · refine SE.callB (cd_reprX hr fx.sys) rfl fx.b_repr (by kernel_rfl) ?_
              · refine SA.cons ?_ ?_
                · refine SE.op opb_times ?_ ?_
                  · refine SF.fz ?_
                    · refine SF.lst ?_
                      · refine SA.cons ?_ ?_
                        · exact SE.var 0
                        · exact SA.nil
                  · exact SE.int
                · exact SA.nil
          · refine SSs.one ?_
            · refine SS.ret ?_
              · exact SE.bl
          · exact SSs.nil
        · refine SSs.cons ?_ ?_
          · refine SS.set 5 nd rfl (by first | exact Or.inl rfl | exact Or.inr rfl) ?_
            · refine SF.fz ?_
              · refine SF.lst ?_
                · refine SA.cons ?_ ?_
                  · refine SE.call (callee_fn (ps := ["_law_e", "_law_at"]) F__law_fits (hr.mono (by decide)) tk B__law_fits Cst.nil) rfl fx.g__law_fits fx.k__law_fits ?_
                    · refine SA.cons ?_ ?_
                      · refine SE.call (callee_exn (f := "limit") (c := "TooMany") (exClsB_ok fx.ec_TooMany) (He.eqO_ok fx.nf_TooMany) (He.eqO_ok fx.ic_TooMany) fx.ti_TooMany F_TooMany___init__ (hr.mono (by decide)) tk B_TooMany___init__) rfl fx.g_TooMany fx.k_TooMany ?_
                        · refine SA.cons ?_ ?_
                          · exact SE.var 0
                          · exact SA.nil
                      · refine SA.cons ?_ ?_
                        · exact SE.int
                        · exact SA.nil
                  · refine SA.cons ?_ ?_
                    · refine SE.call (callee_fn (ps := ["_law_e", "_law_at"]) F__law_fits (hr.mono (by decide)) tk B__law_fits Cst.nil) rfl fx.g__law_fits fx.k__law_fits ?_
                      · refine SA.cons ?_ ?_
                        · refine SE.call (callee_exn (f := "most") (c := "NoWorld") (exClsB_ok fx.ec_NoWorld) (He.eqO_ok fx.nf_NoWorld) (He.eqO_ok fx.ic_NoWorld) fx.ti_NoWorld F_NoWorld___init__ (hr.mono (by decide)) tk B_NoWorld___init__) rfl fx.g_NoWorld fx.k_NoWorld ?_
                          · refine SA.cons ?_ ?_
                            · exact SE.var 0
                            · exact SA.nil
                        · refine SA.cons ?_ ?_
                          · exact SE.int
                          · exact SA.nil
                    · refine SA.cons ?_ ?_
                      · refine SE.call (callee_fn (ps := ["_law_e", "_law_at"]) F__law_fits (hr.mono (by decide)) tk B__law_fits Cst.nil) rfl fx.g__law_fits fx.k__law_fits ?_
                        · refine SA.cons ?_ ?_
                          · exact SE.call0 (callee_exn0 (c := "NothingToUndo") (exClsB_ok fx.ec_NothingToUndo) (He.eqO_ok fx.ic_NothingToUndo) fx.ti_NothingToUndo F_NothingToUndo___init__ (hr.mono (by decide)) tk B_NothingToUndo___init__) rfl fx.g_NothingToUndo fx.k_NothingToUndo
                          · refine SA.cons ?_ ?_
                            · exact SE.int
                            · exact SA.nil
                      · exact SA.nil
          · refine SSs.one ?_
            · refine SS.ret ?_
              · refine SE.callB (cd_all rfl) rfl fx.b_all (by kernel_rfl) ?_
                · refine SA.cons ?_ ?_
                  · refine SE.op opb_plus ?_ ?_
                    · exact SE.var 5
                    · refine SF.fz ?_
                      · refine SF.lst ?_
                        · refine SA.cons ?_ ?_
                          · refine SE.call (callee_fn (ps := ["_law_e", "_law_at"]) F__law_fits (hr.mono (by decide)) tk B__law_fits Cst.nil) rfl fx.g__law_fits fx.k__law_fits ?_
                            · refine SA.cons ?_ ?_
                              · refine SE.callK0 (callee_exnK (f := "limit") (c := "TooMany") (exClsB_ok fx.ec_TooMany) (He.eqO_ok fx.nf_TooMany) (He.eqO_ok fx.ic_TooMany) fx.ti_TooMany F_TooMany___init__ (hr.mono (by decide)) tk BK_TooMany___init__) rfl fx.g_TooMany fx.k_TooMany ?_
                                · refine SK.cons ?_ ?_
                                  · exact SE.var 0
                                  · exact SK.nil
                              · refine SA.cons ?_ ?_
                                · exact SE.int
                                · exact SA.nil
                          · refine SA.cons ?_ ?_
                            · refine SE.call (callee_fn (ps := ["_law_e", "_law_at"]) F__law_fits (hr.mono (by decide)) tk B__law_fits Cst.nil) rfl fx.g__law_fits fx.k__law_fits ?_
                              · refine SA.cons ?_ ?_
                                · refine SE.callK0 (callee_exnK (f := "most") (c := "NoWorld") (exClsB_ok fx.ec_NoWorld) (He.eqO_ok fx.nf_NoWorld) (He.eqO_ok fx.ic_NoWorld) fx.ti_NoWorld F_NoWorld___init__ (hr.mono (by decide)) tk BK_NoWorld___init__) rfl fx.g_NoWorld fx.k_NoWorld ?_
                                  · refine SK.cons ?_ ?_
                                    · exact SE.var 0
                                    · exact SK.nil
                                · refine SA.cons ?_ ?_
                                  · exact SE.int
                                  · exact SA.nil
                            · exact SA.nil
                  · exact SA.nil
theorem sc__law_dip : FnScope N__law_dip ["_law_well_here", "_law_many"] (defScope (top 44)) := ⟨rfl, rfl, rfl, by decide +kernel, rfl, by decide +kernel, by decide +kernel⟩
theorem q__law_dip (fx : Fx K mg) : ∃ fd, FnQ P w K mg base 1 ((aG "_law_dip") K) fd ["_law_well_here", "_law_many"] F__law_dip ∧ Binds K fd ["_law_well_here", "_law_many"] [] := by
  obtain ⟨fd, FD⟩ := fx.d__law_dip
  refine ⟨fd, fnQ (c := c__law_dip) FD sc__law_dip (by decide) fun cdv A outer s H E hr => ?_, FunD.full FD fun _ _ _ _ _ _ us hl => match us, hl with | [_, _], _ => rfl⟩
  have tk : Takes (BX P w K mg base N__law_dip "_law_dip" (defScope (top 44)) ((aG "_law_dip") K) cdv A outer s H E) (BW E) := tk_cx
  have nd : N__law_dip.Nodup := sc__law_dip.nd
  refine SSs.cons ?_ ?_
  · refine SS.asg (SGS.sub (SE.var 0) (SE.int)) ?_
    · refine SE.op opb_plus ?_ ?_
      · refine SE.ix opi_ix ?_ ?_
        · exact SE.var 0
        · exact SE.int
      · exact SE.int
  · refine SSs.cons ?_ ?_
    · refine SS.if_ ?_ ?_ ?_
      · refine ST.cmp opb_gt ?_ ?_
        · refine SE.ix opi_ix ?_ ?_
          · exact SE.var 0
          · exact SE.int
        · exact SE.int
      · refine SSs.cons ?_ ?_
        · refine SS.asg (SGS.tup rfl (SGSs.cons (SGS.sub (SE.var 0) (SE.int)) (SGSs.cons (SGS.pat (SG.name 2 nd rfl (by first | exact Or.inl rfl | exact Or.inr rfl))) (SGSs.nil)))) ?_
          · refine SE.callB cd_divmodW rfl fx.b_divmod (by kernel_rfl) ?_
            · refine SA.cons ?_ ?_
              · refine SE.ix opi_ix ?_ ?_
                · exact SE.var 0
                · exact SE.int
              · refine SA.cons ?_ ?_
                · exact SE.var 1
                · exact SA.nil
        · refine SSs.one ?_
          · refine SS.ret ?_
            · exact SE.var 2
      · exact SSs.nil
    · refine SSs.cons ?_ ?_
      · refine SS.asg (SGS.sub (SE.var 0) (SE.int)) ?_
        · refine SE.op opb_mod ?_ ?_
          · refine SE.callTy cd_int rfl fx.b_int (by kernel_rfl) ?_
            · refine SA.cons ?_ ?_
              · refine SE.op opb_plus ?_ ?_
                · refine SE.op opb_plus ?_ ?_
                  · refine SE.op opb_times ?_ ?_
                    · refine SE.ix opi_ix ?_ ?_
                      · exact SE.var 0
                      · exact SE.int
                    · exact SE.int
                  · refine SE.op opb_times ?_ ?_
                    · refine SE.op opb_times ?_ ?_
                      · exact SE.int
                      · refine SE.ix opi_ix ?_ ?_
                        · exact SE.var 0
                        · exact SE.int
                    · refine SE.ix opi_ix ?_ ?_
                      · exact SE.var 0
                      · exact SE.int
                · exact SE.int
              · exact SA.nil
          · exact SE.int
      · refine SSs.cons ?_ ?_
        · refine SS.set 3 nd rfl (by first | exact Or.inl rfl | exact Or.inr rfl) ?_
          · refine SE.op opb_mod ?_ ?_
            · refine SE.callTy cd_int rfl fx.b_int (by kernel_rfl) ?_
              · refine SA.cons ?_ ?_
                · refine SE.op opb_times ?_ ?_
                  · refine SE.ix opi_ix ?_ ?_
                    · exact SE.var 0
                    · exact SE.int
                  · refine SE.op opb_plus ?_ ?_
                    · refine SE.op opb_mod ?_ ?_
                      · refine SE.callTy cd_int rfl fx.b_int (by kernel_rfl) ?_
                        · refine SA.cons ?_ ?_
                          · refine SE.ix opi_ix ?_ ?_
                            · exact SE.var 0
                            · exact SE.int
                          · exact SA.nil
                      · exact SE.int
                    · exact SE.int
                · exact SA.nil
            · exact SE.int
        · refine SSs.one ?_
          · refine SS.ret ?_
            · refine SE.op opb_mod ?_ ?_
              · refine SE.callTy cd_int rfl fx.b_int (by kernel_rfl) ?_
                · refine SA.cons ?_ ?_
                  · refine SE.op opb_div ?_ ?_
                    · exact SE.var 3
                    · exact SE.int
                  · exact SA.nil
              · exact SE.var 1
theorem sc__law_any : FnScope N__law_any ["_law_well_here"] (defScope (top 45)) := ⟨rfl, rfl, rfl, by decide +kernel, rfl, by decide +kernel, by decide +kernel⟩
theorem q__law_any (fx : Fx K mg) : ∃ fd, FnQ P w K mg base 2 ((aG "_law_any") K) fd ["_law_well_here"] F__law_any ∧ Binds K fd ["_law_well_here"] [] := by
  obtain ⟨fd, FD⟩ := fx.d__law_any
  obtain ⟨fd__law_dip, F__law_dip, B__law_dip⟩ := q__law_dip (P := P) (w := w) (base := base) fx
  refine ⟨fd, fnQ (c := c__law_any) FD sc__law_any (by decide) fun cdv A outer s H E hr => ?_, FunD.full FD fun _ _ _ _ _ _ us hl => match us, hl with | [_], _ => rfl⟩
  have tk : Takes (BX P w K mg base N__law_any "_law_any" (defScope (top 45)) ((aG "_law_any") K) cdv A outer s H E) (BW E) := tk_cx
  have nd : N__law_any.Nodup := sc__law_any.nd
  refine SSs.cons ?_ ?_
  · refine SS.set 1 nd rfl (by first | exact Or.inl rfl | exact Or.inr rfl) ?_
    · refine SE.call (callee_fn (ps := ["_law_well_here", "_law_many"]) F__law_dip (hr.mono (by decide)) tk B__law_dip Cst.nil) rfl fx.g__law_dip fx.k__law_dip ?_
      · refine SA.cons ?_ ?_
        · exact SE.var 0
        · refine SA.cons ?_ ?_
          · exact SE.int
          · exact SA.nil
  · refine SSs.cons ?_ ?_
    · refine SS.set 2 nd rfl (by first | exact Or.inl rfl | exact Or.inr rfl) ?_
      · refine SE.op opb_times ?_ ?_
        · refine SE.op opb_sub ?_ ?_
          · exact SE.int
          · refine SE.op opb_times ?_ ?_
            · exact SE.int
            · refine SE.call (callee_fn (ps := ["_law_well_here", "_law_many"]) F__law_dip (hr.mono (by decide)) tk B__law_dip Cst.nil) rfl fx.g__law_dip fx.k__law_dip ?_
              · refine SA.cons ?_ ?_
                · exact SE.var 0
                · refine SA.cons ?_ ?_
                  · exact SE.int
                  · exact SA.nil
        · refine SE.call (callee_fn (ps := ["_law_well_here", "_law_many"]) F__law_dip (hr.mono (by decide)) tk B__law_dip Cst.nil) rfl fx.g__law_dip fx.k__law_dip ?_
          · refine SA.cons ?_ ?_
            · exact SE.var 0
            · refine SA.cons ?_ ?_
              · refine SE.op opb_pow ?_ ?_
                · exact SE.int
                · exact SE.int
              · exact SA.nil
    · refine SSs.cons ?_ ?_
      · refine SS.set 3 nd rfl (by first | exact Or.inl rfl | exact Or.inr rfl) ?_
        · refine SF.fz ?_
          · refine SF.lst ?_
            · refine SA.cons ?_ ?_
              · exact SE.non
              · refine SA.cons ?_ ?_
                · exact SE.bl
                · refine SA.cons ?_ ?_
                  · exact SE.bl
                  · refine SA.cons ?_ ?_
                    · exact SE.int
                    · refine SA.cons ?_ ?_
                      · exact SE.int
                      · refine SA.cons ?_ ?_
                        · refine SE.un opu_neg ?_
                          · exact SE.int
                        · refine SA.cons ?_ ?_
                          · exact SE.var 2
                          · refine SA.cons ?_ ?_
                            · exact SE.str []
                            · refine SA.cons ?_ ?_
                              · exact SE.str [97]
                              · refine SA.cons ?_ ?_
                                · exact SE.str [110, 111, 32, 110, 97, 109, 101]
                                · refine SA.cons ?_ ?_
                                  · refine SE.tup ?_
                                    · exact SA.nil
                                  · refine SA.cons ?_ ?_
                                    · refine SE.tup ?_
                                      · refine SA.cons ?_ ?_
                                        · exact SE.str [97]
                                        · refine SA.cons ?_ ?_
                                          · exact SE.non
                                          · exact SA.nil
                                    · refine SA.cons ?_ ?_
                                      · refine SE.tup ?_
                                        · refine SA.cons ?_ ?_
                                          · exact SE.int
                                          · refine SA.cons ?_ ?_
                                            · refine SF.fz ?_
                                              · refine SF.lst ?_
                                                · refine SA.cons ?_ ?_
                                                  · exact SE.int
                                                  · exact SA.nil
                                            · exact SA.nil
                                      · refine SA.cons ?_ ?_
                                        · refine SF.fz ?_
                                          · refine SF.lst ?_
                                            · exact SA.nil
                                        · refine SA.cons ?_ ?_
                                          · refine SF.fz ?_
                                            · refine SF.lst ?_
                                              · refine SA.cons ?_ ?_
                                                · exact SE.bl
                                                · exact SA.nil
                                          · refine SA.cons ?_ ?_
                                            · exact SE.dict0
                                            · exact SA.nil
      · refine SSs.cons ?_ ?_
        · refine SS.set 3 nd rfl (by first | exact Or.inl rfl | exact Or.inr rfl) ?_
          · refine SE.op opb_plus ?_ ?_
            · exact SE.var 3
            · refine SF.fz ?_
              · refine SF.lst ?_
                · refine SA.cons ?_ ?_
                  · refine SE.dict1 ?_ ?_
                    · exact SE.str [97]
                    · exact SE.int
                  · refine SA.cons ?_ ?_
                    · refine SE.dict1 ?_ ?_
                      · exact SE.int
                      · refine SE.tup ?_
                        · refine SA.cons ?_ ?_
                          · exact SE.str [98]
                          · exact SA.nil
                    · refine SA.cons ?_ ?_
                      · refine SF.fz ?_
                        · refine SF.lst ?_
                          · refine SA.cons ?_ ?_
                            · refine SF.fz ?_
                              · refine SF.lst ?_
                                · exact SA.nil
                            · refine SA.cons ?_ ?_
                              · exact SE.dict0
                              · exact SA.nil
                      · refine SA.cons ?_ ?_
                        · refine SE.op opb_timesS ?_ ?_
                          · exact SE.str [120]
                          · exact SE.int
                        · refine SA.cons ?_ ?_
                          · refine SE.tup ?_
                            · refine SA.cons ?_ ?_
                              · refine SE.tup ?_
                                · exact SA.nil
                              · refine SA.cons ?_ ?_
                                · refine SE.tup ?_
                                  · refine SA.cons ?_ ?_
                                    · refine SE.tup ?_
                                      · exact SA.nil
                                    · exact SA.nil
                                · exact SA.nil
                          · exact SA.nil
        · refine SSs.one ?_
          · refine SS.ret ?_
            · refine SE.ix opi_ix ?_ ?_
              · exact SE.var 3
              · exact SE.var 1
theorem sc_law : FnScope N_law ["_law_cells"] (defScope (top 52)) := ⟨rfl, rfl, rfl, by decide +kernel, rfl, by decide +kernel, by decide +kernel⟩
theorem q_law (fx : Fx K mg) {fd : FuncData} (FD : FnD K D_law fd) : FnQ P w K mg base 5 (aG "law" K) fd ["_law_cells"] F_law := by
  obtain ⟨fd__law_well, F__law_well, B__law_well⟩ := q__law_well (P := P) (w := w) (base := base) fx
  obtain ⟨fd__law_right, F__law_right, B__law_right⟩ := q__law_right (P := P) (w := w) (base := base) fx
  obtain ⟨fd__law_any, F__law_any, B__law_any⟩ := q__law_any (P := P) (w := w) (base := base) fx
  refine fnQ (c := c_law) FD sc_law (by decide) fun cdv A outer s H E hr => ?_
  have tk : Takes (BX P w K mg base N_law "law" (defScope (top 52)) ((aG "law") K) cdv A outer s H E) (BW E) := tk_cx
  have nd : N_law.Nodup := sc_law.nd
  refine SSs.cons ?_ ?_
  · refine SS.set 1 nd rfl (by first | exact Or.inl rfl | exact Or.inr rfl) ?_
    · refine SF.fz ?_
      · refine SF.lst ?_
        · refine SA.cons ?_ ?_
          · exact SE.gint rfl fx.i_MOST_PIPES
          · refine SA.cons ?_ ?_
            · exact SE.gint rfl fx.i_MOST_METERS
            · refine SA.cons ?_ ?_
              · exact SE.gint rfl fx.i_MOST_ROWS
              · refine SA.cons ?_ ?_
                · exact SE.gint rfl fx.i_MOST_SUMS
                · refine SA.cons ?_ ?_
                  · exact SE.gint rfl fx.i_MOST_FAULTS
                  · refine SA.cons ?_ ?_
                    · exact SE.gint rfl fx.i_MOST_OFFERS
                    · refine SA.cons ?_ ?_
                      · exact SE.gint rfl fx.i_MOST_PAIRS
                      · exact SA.nil
  · refine SSs.cons ?_ ?_
    · refine SS.if_ ?_ ?_ ?_
      · refine ST.cmp (opb_ne (Room.units hr.rm)) ?_ ?_
        · refine SE.callB (cd_reprX hr fx.sys) rfl fx.b_repr (by kernel_rfl) ?_
          · refine SA.cons ?_ ?_
            · exact SE.var 1
            · exact SA.nil
        · exact SE.str [91, 49, 50, 44, 32, 49, 50, 44, 32, 56, 44, 32, 49, 48, 44, 32, 51, 44, 32, 54, 44, 32, 49, 48, 48, 48, 93]
      · refine SSs.one ?_
        · refine SS.ret ?_
          · exact SE.bl
      · exact SSs.nil
    · refine SSs.cons ?_ ?_
      · refine SS.for po_cx rfl ?_ (SG.name 2 nd rfl (by first | exact Or.inl rfl | exact Or.inr rfl)) ?_
        · refine SI.range1 rfl fx.b_range ?_
          · refine SA.cons ?_ ?_
            · refine SE.callB (cd_max2 rfl) rfl fx.b_max (by kernel_rfl) ?_
              · refine SA.cons ?_ ?_
                · exact SE.int
                · refine SA.cons ?_ ?_
                  · refine SE.callB (cd_min2 rfl) rfl fx.b_min (by kernel_rfl) ?_
                    · refine SA.cons ?_ ?_
                      · refine SE.callB cd_len rfl fx.b_len (by kernel_rfl) ?_
                        · refine SA.cons ?_ ?_
                          · exact SE.var 0
                          · exact SA.nil
                      · refine SA.cons ?_ ?_
                        · exact SE.int
                        · exact SA.nil
                  · exact SA.nil
            · exact SA.nil
        · refine SSs.cons ?_ ?_
          · refine SS.set 3 nd rfl (by first | exact Or.inl rfl | exact Or.inr rfl) ?_
            · refine SE.call (callee_fn (ps := ["_law_cells", "_law_k"]) F__law_well (hr.mono (by decide)) tk B__law_well Cst.nil) rfl fx.g__law_well fx.k__law_well ?_
              · refine SA.cons ?_ ?_
                · exact SE.var 0
                · refine SA.cons ?_ ?_
                  · exact SE.var 2
                  · exact SA.nil
          · refine SSs.one ?_
            · refine SS.if_ ?_ ?_ ?_
              · refine ST.not ?_
                · refine ST.val ?_
                  · refine SE.callB (cd_all rfl) rfl fx.b_all (by kernel_rfl) ?_
                    · refine SA.cons ?_ ?_
                      · refine SF.fz ?_
                        · refine SF.lc (own := [("_law_turn", 4)]) (vs := [4]) rfl nd ?_ (blkOk_by (by kernel_rfl)) (by decide) (fun _ _ _ _ _ => SG.name 4 nd rfl (by first | exact Or.inl rfl | exact Or.inr rfl)) (fun _ _ _ _ _ => .inl ⟨rfl, rfl⟩) (fun _ _ _ _ _ => SE.call (callee_fn (ps := ["_law_odd"]) F__law_right (hr.mono (by decide)) takesB B__law_right Cst.nil) rfl fx.g__law_right fx.k__law_right (SA.cons (SE.call (callee_fn (ps := ["_law_well_here"]) F__law_any (hr.mono (by decide)) takesB B__law_any Cst.nil) rfl fx.g__law_any fx.k__law_any (SA.cons (SE.var 3) (SA.nil))) (SA.nil)))
                          · refine SI.range1 rfl fx.b_range ?_
                            · refine SA.cons ?_ ?_
                              · exact SE.int
                              · exact SA.nil
                      · exact SA.nil
              · refine SSs.one ?_
                · refine SS.ret ?_
                  · exact SE.bl
              · exact SSs.nil
      · refine SSs.one ?_
        · refine SS.ret ?_
          · exact SE.bl
end
end G
set_option Elab.async false
set_option linter.all false
set_option maxRecDepth 100000
set_option maxHeartbeats 4000000
-- nolc -- v2 -- nonw
/-! the law of the constants and the errors -/
local macro_rules | `(tactic| walk_at "rv2n") => `(tactic| (first | with_reducible refine Rv.s_aC ?_ | with_reducible refine Rv.s_C ?_ | with_reducible refine Rv.s_aN ?_ | with_reducible refine Rv.s_m2 ?_ | with_reducible refine Rv.s_seq ?_ | with_reducible refine Rv.s_nil ?_ | with_reducible refine Rv.s_ret ?_ | with_reducible refine Rv.s_retN ?_ | with_reducible refine Rv.s_expr ?_ | with_reducible refine Rv.s_if ?_ | with_reducible refine Rv.s_set ?_ | with_reducible refine Rv.s_for ?_ | with_reducible refine Rv.s_try ?_ | with_reducible refine Rv.s_asg ?_ | with_reducible refine Rv.s_par ?_ | with_reducible refine Rv.s_par3 ?_ | with_reducible refine Rv.s_m1 ?_ | with_reducible refine Rv.s_T ?_ | with_reducible refine Rv.s_B ?_ | with_reducible refine Rv.s_andM ?_ | with_reducible refine Rv.s_orM ?_ | with_reducible refine Rv.s_notM ?_ | with_reducible refine Rv.s_and ?_ | with_reducible refine Rv.s_or ?_ | with_reducible refine Rv.s_ite ?_ | with_reducible refine Rv.s_aS ?_ | with_reducible refine Rv.s_tup ?_ | with_reducible refine Rv.s_fz ?_ | with_reducible refine Rv.s_len ?_ | with_reducible refine Rv.s_slN ?_ | with_reducible refine Rv.s_slS ?_ | with_reducible refine Rv.s_sl ?_ | with_reducible refine Rv.s_call ?_ | with_reducible refine Rv.s_callB ?_ | with_reducible refine Rv.s_callK ?_ | with_reducible refine Rv.s_cmeth ?_ | with_reducible refine Rv.s_meth ?_ | with_reducible refine Rv.s_app ?_ | with_reducible refine Rv.s_M1 ?_ | with_reducible refine Rv.s_It ?_ | with_reducible refine Rv.s_I ?_ | with_reducible refine Rv.s_fmt ?_ | with_reducible refine Rv.s_jN ?_ | with_reducible refine Rv.s_jC ?_ | with_reducible refine Rv.s_tgN ?_ | with_reducible refine Rv.s_tgSub ?_ | with_reducible refine Rv.s_fld ?_ | with_reducible refine Rv.s_tgC ?_ | with_reducible refine Rv.s_tgE ?_ | with_reducible refine Rv.s_add ?_ | with_reducible refine Rv.s_sub ?_ | with_reducible refine Rv.s_int ?_ | with_reducible refine Rv.s_lt ?_ | with_reducible refine Rv.s_le ?_ | with_reducible refine Rv.s_gt ?_ | with_reducible refine Rv.s_ge ?_ | with_reducible refine Rv.s_eqI ?_ | with_reducible refine Rv.s_neI ?_ | with_reducible refine Rv.s_eqS ?_ | with_reducible refine Rv.s_neS ?_ | with_reducible refine Rv.s_not ?_ | with_reducible refine Rv.s_lenL ?_ | with_reducible refine Rv.s_lenT ?_ | with_reducible refine Rv.s_var (by with_unfolding_all exact rfl) ?_ | with_reducible refine Rv.s_callL (by with_unfolding_all exact rfl) ?_ | with_reducible refine Rv.s_ar (by with_unfolding_all exact rfl) ?_ | with_reducible refine Rv.s_ar1 (by with_unfolding_all exact rfl) ?_ | with_reducible refine Rv.s_tgT (by with_unfolding_all exact rfl) ?_ | with_reducible refine Rv.s_ar1K (by with_unfolding_all exact ⟨rfl, rfl, rfl⟩) ?_ | with_reducible refine Rv.s_mul (by first | omega | (right; omega) | (left; omega)) ?_ | with_reducible refine Rv.s_div (by omega) ?_ | with_reducible refine Rv.s_mod (by omega) ?_ | with_reducible refine Rv.s_divmod (by omega) ?_ | with_reducible refine Rv.s_lenS (by (first | exact Nat.le_of_ble_eq_true rfl | (refine Rv.le_maxL ?_; first | omega | (simp only [List.length_append, List.length_cons, List.length_nil, List.length_map, List.length_take, List.length_drop, List.length_range, List.length_zip]; omega)))) ?_ | with_reducible refine Rv.s_addS (by (first | exact Nat.le_of_ble_eq_true rfl | (refine Rv.le_maxL ?_; first | omega | (simp only [List.length_append, List.length_cons, List.length_nil, List.length_map, List.length_take, List.length_drop, List.length_range, List.length_zip]; omega)))) ?_ | with_reducible refine Rv.s_pow (by decide) ?_ | with_reducible refine Rv.s_neg ?_ | with_reducible refine Rv.s_chain ?_ | with_reducible refine Rv.s_inC ?_ | with_reducible refine Rv.s_ninC ?_ | with_reducible refine Rv.s_enuT ?_ | with_reducible refine Rv.s_eqBl ?_ | with_reducible refine Rv.s_neBl ?_ | with_reducible refine Rv.s_min2 ?_ | with_reducible refine Rv.s_max2 ?_ | with_reducible refine Rv.s_abs ?_ | with_reducible refine Rv.s_lenC ?_ | with_reducible refine Rv.s_slC ?_ | with_reducible refine Rv.s_zipT ?_ | with_reducible refine Rv.oB_pos (by with_unfolding_all exact rfl) ?_ | with_reducible refine Rv.oB_neg (by with_unfolding_all exact rfl) ?_ | with_reducible refine Rv.iB_pos (by with_unfolding_all exact rfl) ?_ | with_reducible refine Rv.iB_neg (by with_unfolding_all exact rfl) ?_ | with_reducible refine Rv.v_ix (by with_unfolding_all exact rfl) ?_ | with_reducible refine Rv.v_isi (by with_unfolding_all exact rfl) ?_ | with_reducible refine Rv.v_in (by with_unfolding_all exact rfl) ?_ | with_reducible refine Rv.v_nin (by with_unfolding_all exact rfl) ?_ | with_reducible refine Rv.v_isN (by with_unfolding_all exact rfl) ?_ | with_reducible refine Rv.v_notN (by with_unfolding_all exact rfl) ?_ | with_reducible refine Rv.v_tup (by with_unfolding_all exact rfl) ?_ | with_reducible refine Rv.v_fld (by with_unfolding_all exact rfl) ?_ | with_reducible refine Rv.v_len (by with_unfolding_all exact rfl) ?_ | with_reducible refine ⟨_, (by with_unfolding_all exact rfl), ?_⟩ | with_reducible refine ⟨_, _, (by with_unfolding_all exact rfl), ?_⟩ | with_reducible refine ⟨_, _, _, (by with_unfolding_all exact rfl), ?_⟩ | with_reducible refine And.intro (a := _ ≤ Rv.maxL) (by (first | exact Nat.le_of_ble_eq_true rfl | (refine Rv.le_maxL ?_; first | omega | (simp only [List.length_append, List.length_cons, List.length_nil, List.length_map, List.length_take, List.length_drop, List.length_range, List.length_zip]; omega)))) ?_))
namespace G
open PySem PySem.Spec L2 Rv
open PyProof.Rows hiding St
def P3 (a b c : Int) : MO := .lst [.int a, .int b, .int c]
theorem P3_low {n : Nat} {a b c : Int} : MO.low n (P3 a b c) = true := rfl
theorem kept_set {μ : Store} {p : Nat} {m : MO} (wf : WF μ) (hm : MO.low μ.length m = true) : kept μ.length μ (μ.set p m) = true := by
  refine kept_low fun x hx => ?_
  rw [show (μ.set p m).take μ.length = μ.set p m from List.take_of_length_le (by rw [List.length_set]; exact Nat.le_refl _)] at hx
  rcases List.mem_or_eq_of_mem_set hx with h | h
  · exact wf x h
  · rw [h]; exact hm
theorem dip_wp {μ : Store} {p : Nat} {a b c m : Int} {Q : D → Store → Prop} (hp : μ[p]? = some (P3 a b c)) (h0 : 0 < m) (h1 : m < 10 ^ 40) (hc : 0 ≤ c ∧ c < 1000000) (wf : WF μ)
    (hQ : ∀ v a' b', 0 ≤ v → v < m → Q (.int v) (μ.set p (P3 a' b' (c + 1)))) : (F__law_dip [.ref p, .int m] μ).wp Q := by
  have hl : p < μ.length := (List.getElem?_eq_some_iff.mp hp).1
  have hs : ∀ x, (μ.set p x)[p]? = some x := fun x => List.getElem?_set_self hl
  have R : ∀ v a' b', 0 ≤ v → v < m → RQ μ Q (.int v) (μ.set p (P3 a' b' (c + 1))) := fun v a' b' hv hm => ⟨kept_set wf rfl, rfl, by
    rw [List.take_of_length_le (by rw [List.length_set]; exact Nat.le_refl _)]
    exact hQ v a' b' hv hm⟩
  have ix : ∀ (ν : Store) (i x y z : Int) (r : D), ν[p]? = some (P3 x y z) → atI [D.int x, D.int y, D.int z] i = some r → dIx (.ref p) (.int i) ν = .ok r ν := fun ν i x y z r h e => dIx_ref h e
  have st : ∀ (ν : Store) (i x y z : Int) (r : D), ν[p]? = some (P3 x y z) → 0 ≤ i → i < 3 → dSet (.ref p) (.int i) r ν = some (ν.set p (.lst ([D.int x, D.int y, D.int z].set i.toNat r))) := fun ν i x y z r h e1 e2 => dSet_ref h e1 (by simpa using e2)
  refine runF_wp ?_
  show (c__law_dip [some (.ref p), some (.int m), none, none] μ).wp (NQ μ Q) (RQ μ Q)
  unfold c__law_dip
  repeat walk_at "rv2n"
  refine s_ok (ix _ 2 _ _ _ _ hp rfl) ?_
  repeat walk_at "rv2n"
  refine ⟨_, st _ 2 _ _ _ _ hp (by omega) (by omega), ?_⟩
  repeat walk_at "rv2n"
  refine s_ok (ix _ 1 _ _ _ _ (hs _) rfl) ?_
  repeat walk_at "rv2n"
  by_cases hb : 0 < b
  · refine oD_pos hb ?_
    repeat walk_at "rv2n"
    refine s_ok (ix _ 1 _ _ _ _ (hs _) rfl) ?_
    repeat walk_at "rv2n"
    refine s_divmodW ⟨h0, h1⟩ ?_
    repeat walk_at "rv2n"
    refine ⟨_, st _ 1 _ _ _ _ (hs _) (by omega) (by omega), ?_⟩
    rw [List.set_set]
    repeat walk_at "rv2n"
    exact R _ _ _ (Int.emod_nonneg _ (by omega)) (Int.emod_lt_of_pos _ h0)
  · refine oD_neg hb ?_
    repeat walk_at "rv2n"
    refine s_ok (ix _ 0 _ _ _ _ (hs _) rfl) ?_
    repeat walk_at "rv2n"
    refine s_ok (ix _ 2 _ _ _ _ (hs _) rfl) ?_
    repeat walk_at "rv2n"
    refine s_ok (ix _ 2 _ _ _ _ (hs _) rfl) ?_
    repeat walk_at "rv2n"
    refine ⟨_, st _ 0 _ _ _ _ (hs _) (by omega) (by omega), ?_⟩
    rw [List.set_set]
    repeat walk_at "rv2n"
    refine s_ok (ix _ 0 _ _ _ _ (hs _) rfl) ?_
    repeat walk_at "rv2n"
    refine s_ok (ix _ 0 _ _ _ _ (hs _) rfl) ?_
    repeat walk_at "rv2n"
    exact R _ _ _ (Int.emod_nonneg _ (by omega)) (Int.emod_lt_of_pos _ h0)
theorem well_wp {μ : Store} {ns : List Int} {k : Nat} {Q : D → Store → Prop} (hn : ns.length ≤ 63) (hk : k ≤ 100) (hQ : ∀ a b, Q (.ref μ.length) (μ ++ [P3 a b 0])) : (F__law_well [.scr ns, .int k] μ).wp Q := by
  refine runF1_wp ?_
  show (c__law_well [some (.scr ns), some (.int k), none, none] μ).wp _ _
  unfold c__law_well
  refine s_seq (s_set (Out.wp_mono (Q := fun d ν => ∃ y : Int, d = .int y ∧ ν = μ) ?_ ?_))
  · repeat walk_at "rv2n"
    by_cases h : (k : Int) < (ns.length : Nat)
    · refine iD_pos h ?_
      repeat walk_at "rv2n"
      have hk' : k < ns.length := by omega
      refine s_ixC (k := ns[k]) (by rw [atI_nat hk', List.getElem?_eq_getElem hk']) ?_
      first | exact rfl | exact ⟨_, rfl, rfl⟩
    · refine iD_neg h ?_
      repeat walk_at "rv2n"
      first | exact rfl | exact ⟨_, rfl, rfl⟩
  · rintro d ν ⟨y, rfl, rfl⟩
    refine s_seq (OutS.wp_mono (N := fun ρ ν' => ∃ (z : Int) (o3 : Option D), ρ = [some (.scr ns), some (.int k), some (.int z), o3] ∧ ν' = ν) (T := _) ?_ ?_ fun _ _ h => h)
    · repeat walk_at "rv2n"
      by_cases h : (ns.length : Nat) ≤ (k : Int)
      · refine oD_pos h ?_
        repeat walk_at "rv2n"
        refine s_ItX ?_
        repeat walk_at "rv2n"
        refine forGo_wp (k := 0) (I := fun _ ρ ν' => ∃ (z : Int) (o3 : Option D), ρ = [some (.scr ns), some (.int k), some (.int z), o3] ∧ ν' = ν) ⟨_, none, rfl, rfl⟩ ?_ fun ρ ν' h => h
        intro i d ρ ν' hd hI
        obtain ⟨z, o3, rfl, rfl⟩ := hI
        obtain ⟨x, hx, rfl⟩ := map_at hd
        refine ⟨_, rfl, OutS.wpL_of ?_⟩
        repeat walk_at "rv2n"
        first | exact rfl | exact ⟨_, _, rfl, rfl⟩ | trivial
      · refine oD_neg h ?_
        repeat walk_at "rv2n"
        first | exact rfl | exact ⟨_, _, rfl, rfl⟩ | trivial
    · rintro ρ ν' ⟨z, o3, rfl, rfl⟩
      repeat walk_at "rv2n"
      refine s_nw ?_
      repeat walk_at "rv2n"
      by_cases h : (10 : Int) ^ (18 : Int).toNat ≤ if z < 0 then -z else z
      · refine iD_pos h ?_
        repeat walk_at "rv2n"
        refine ⟨_, _, rfl, new_at, Nat.le_refl _, kept_self rfl _, rfl, ?_⟩
        rw [List.take_left]
        exact hQ _ _
      · refine iD_neg h ?_
        repeat walk_at "rv2n"
        refine ⟨_, _, rfl, new_at, Nat.le_refl _, kept_self rfl _, rfl, ?_⟩
        rw [List.take_left]
        exact hQ _ _
def oddL (x : Int) : List D := [.non, .bl true, .bl false, .int 0, .int 1, .int (-1), .int x, .str [], .str [97], .str [110, 111, 32, 110, 97, 109, 101], .tup [], .tup [.str [97], .non], .tup [.int 1, .lst [.int 2]], .lst [], .lst [.bl true], .dct [] [],
  .dct [.str [97]] [.int 1], .dct [.int 1] [.tup [.str [98]]], .lst [.lst [], .dct [] []], .str (List.replicate 40 [120]).flatten, .tup [.tup [], .tup [.tup []]]]
theorem atI_mem {α : Type} {xs : List α} {v : Int} (h0 : 0 ≤ v) (h1 : v < (xs.length : Nat)) : ∃ x, x ∈ xs ∧ atI xs v = some x := by
  have l : v.toNat < xs.length := by omega
  refine ⟨xs[v.toNat], List.getElem_mem l, ?_⟩
  rw [atI_int h0 h1, List.getElem?_eq_getElem l]
theorem rngD_at {lo : Int} {n i : Nat} {d : D} (h : (rngD lo n)[i]? = some d) : d = .int (lo + (i : Nat)) ∧ i < n := by
  unfold rngD at h
  rw [List.getElem?_map] at h
  cases q : (List.range n)[i]? with
  | none => rw [q] at h; cases h
  | some j =>
    rw [q] at h
    obtain ⟨hl, e⟩ := List.getElem?_eq_some_iff.mp q
    rw [List.getElem_range] at e
    rw [List.length_range] at hl
    subst e
    exact ⟨(Option.some.inj h).symm, hl⟩
/-- a value that may be drawn -/
def OddV (d : D) : Prop := Odd d ∧ ∀ n ν, frz n ν d = d
theorem oddL_at {x : Int} (h : -(10 ^ 40) < x ∧ x < 10 ^ 40) : ∀ d ∈ oddL x, OddV d := by
  intro d hd
  unfold oddL at hd
  simp only [List.mem_cons, List.not_mem_nil, or_false] at hd
  rcases hd with rfl | rfl | rfl | rfl | rfl | rfl | rfl | rfl | rfl | rfl | rfl | rfl | rfl | rfl | rfl | rfl | rfl | rfl | rfl | rfl | rfl
  all_goals first
    | exact ⟨⟨_, rfl, by decide +kernel, by decide +kernel, by decide +kernel, fun n => rfl⟩, fun n ν => rfl⟩
    | exact ⟨⟨_, rfl, decide_eq_true (log_of h), Nat.le_trans (int_text_len_1921 (log_of h)) (by decide), Nat.zero_le 20, fun n => rfl⟩, fun n ν => rfl⟩
theorem any_wp {μ : Store} {p : Nat} {a b c : Int} {Q : D → Store → Prop} (hp : μ[p]? = some (P3 a b c)) (hc : 0 ≤ c ∧ c < 1000) (wf : WF μ)
    (hQ : ∀ d a' b', OddV d → Q d (μ.set p (P3 a' b' (c + 3)))) : (F__law_any [.ref p] μ).wp Q := by
  have hl : p < μ.length := (List.getElem?_eq_some_iff.mp hp).1
  have hs : ∀ x, (μ.set p x)[p]? = some x := fun x => List.getElem?_set_self hl
  refine runF_wp ?_
  show (c__law_any [some (.ref p), none, none, none] μ).wp (NQ μ Q) (RQ μ Q)
  unfold c__law_any
  repeat walk_at "rv2n"
  refine dip_wp hp (by omega) (by decide) ⟨by omega, by omega⟩ wf fun v a1 b1 hv0 hv1 => ?_
  repeat walk_at "rv2n"
  refine dip_wp (hs _) (by omega) (by decide) ⟨by omega, by omega⟩ (WF_set wf P3_low) fun w a2 b2 hw0 hw1 => ?_
  rw [List.set_set]
  repeat walk_at "rv2n"
  refine dip_wp (hs _) (by decide +kernel) (by decide +kernel) ⟨by omega, by omega⟩ (WF_set wf P3_low) fun u a3 b3 hu0 hu1 => ?_
  rw [List.set_set]
  repeat walk_at "rv2n"
  refine s_dict1 rfl rfl rfl rfl ?_
  repeat walk_at "rv2n"
  refine s_dict1 (k := .int 1) (k' := .int 1) (v := .tup [.str [98]]) (by kernel_rfl) (by kernel_rfl) rfl rfl ?_
  repeat walk_at "rv2n"
  refine s_ok (v := .str (List.replicate 40 [120]).flatten) (μ' := μ.set p (P3 a3 b3 (c + 1 + 1 + 1))) (by kernel_rfl) ?_
  repeat walk_at "rv2n"
  refine s_addL (by exact Nat.le_of_ble_eq_true rfl) ?_
  repeat walk_at "rv2n"
  have hu2 : u < 10 ^ 39 := hu1
  have hx : -(10 ^ 40) < (1 - 2 * w) * u ∧ (1 - 2 * w) * u < 10 ^ 40 := by
    have : w = 0 ∨ w = 1 := by omega
    rcases this with rfl | rfl
    · constructor <;> omega
    · constructor <;> omega
  obtain ⟨d, hd, ed⟩ := atI_mem (xs := oddL ((1 - 2 * w) * u)) hv0 (show v < ((21 : Nat) : Int) by omega)
  refine s_ok (dIx_lst ed) ?_
  have ho := oddL_at hx d hd
  have hlow := ho.1.elim fun p h => h.2.2.2.2
  refine ⟨kept_set wf P3_low, ?_, ?_⟩
  · rw [ho.2]; exact hlow _
  · rw [ho.2, List.take_of_length_le (by rw [List.length_set]; exact Nat.le_refl _)]
    have e : c + 1 + 1 + 1 = c + 3 := by omega
    rw [e]
    exact hQ d _ _ ho
end G
set_option Elab.async false
set_option linter.all false
set_option maxRecDepth 100000
set_option maxHeartbeats 4000000
-- nolc -- v2 -- nonw
/-! the law of the constants and the errors -/
namespace G
open PySem PySem.Spec L2 Rv
open PyProof.Rows hiding St
def CL : List Str := [("InvalidName" : Str), ("InvalidEnd" : Str), ("InvalidFlag" : Str), ("InvalidText" : Str), ("InvalidNumber" : Str), ("InvalidFaults" : Str), ("InvalidFlow" : Str), ("InvalidWorld" : Str), ("InvalidReading" : Str), ("InvalidWish" : Str), ("InvalidIndex" : Str), ("NotAMeter" : Str), ("NotANet" : Str), ("NotASum" : Str), ("NotARule" : Str), ("NotAnEntry" : Str), ("UnknownName" : Str), ("OtherMeters" : Str), ("InvalidPipes" : Str), ("InvalidMeters" : Str), ("InvalidTerms" : Str), ("InvalidRows" : Str), ("InvalidReadings" : Str), ("InvalidOffers" : Str), ("InvalidWishes" : Str), ("InvalidPrices" : Str), ("InUse" : Str), ("Broken" : Str), ("TooMany" : Str), ("NoWorld" : Str), ("NothingToUndo" : Str)]
def cl (k : Nat) : Str := CL.getD k ""
theorem all31 {P : Nat → Prop} (h : P 0 ∧ P 1 ∧ P 2 ∧ P 3 ∧ P 4 ∧ P 5 ∧ P 6 ∧ P 7 ∧ P 8 ∧ P 9 ∧ P 10 ∧ P 11 ∧ P 12 ∧ P 13 ∧ P 14 ∧ P 15 ∧ P 16 ∧ P 17 ∧ P 18 ∧ P 19 ∧ P 20 ∧ P 21 ∧ P 22 ∧ P 23 ∧ P 24 ∧ P 25 ∧ P 26 ∧ P 27 ∧ P 28 ∧ P 29 ∧ P 30) : ∀ k, k < 31 → P k := by
  intro k hk
  obtain ⟨h0, h1, h2, h3, h4, h5, h6, h7, h8, h9, h10, h11, h12, h13, h14, h15, h16, h17, h18, h19, h20, h21, h22, h23, h24, h25, h26, h27, h28, h29, h30⟩ := h
  match k, hk with
  | 0, _ => exact h0
  | 1, _ => exact h1
  | 2, _ => exact h2
  | 3, _ => exact h3
  | 4, _ => exact h4
  | 5, _ => exact h5
  | 6, _ => exact h6
  | 7, _ => exact h7
  | 8, _ => exact h8
  | 9, _ => exact h9
  | 10, _ => exact h10
  | 11, _ => exact h11
  | 12, _ => exact h12
  | 13, _ => exact h13
  | 14, _ => exact h14
  | 15, _ => exact h15
  | 16, _ => exact h16
  | 17, _ => exact h17
  | 18, _ => exact h18
  | 19, _ => exact h19
  | 20, _ => exact h20
  | 21, _ => exact h21
  | 22, _ => exact h22
  | 23, _ => exact h23
  | 24, _ => exact h24
  | 25, _ => exact h25
  | 26, _ => exact h26
  | 27, _ => exact h27
  | 28, _ => exact h28
  | 29, _ => exact h29
  | 30, _ => exact h30
  | k + 31, h => omega
def bs (k : Nat) : Int := if k < 16 then 0 else if k < 18 then 1 else if k < 26 then 0 else if k = 26 then 1 else 2
def baseM : M D := mIf (tOrM (mB (m2 (dLt) (mVar 1) (mC (.int 16)))) (mB (mChain (dLt) (dLt) (mC (.int 17)) (mVar 1) (mC (.int 26))))) (mC (.int 0)) (mIf (tOrM (mB (m2 (dLt) (mVar 1) (mC (.int 18)))) (mB (m2 (dEq) (mVar 1) (mC (.int 26))))) (mC (.int 1)) (mC (.int 2)))
section
variable {e : D} {ns : List Str} {ds : List D} {μ : Store} {k : Nat} {Q : D → Store → Prop}
theorem base_at : ∀ k, k < 31 → baseM [some e, some (.int (k : Nat)), none, none] μ = .ok (.int (bs k)) μ := all31 ⟨by kernel_rfl, by kernel_rfl, by kernel_rfl, by kernel_rfl, by kernel_rfl, by kernel_rfl, by kernel_rfl, by kernel_rfl, by kernel_rfl, by kernel_rfl, by kernel_rfl, by kernel_rfl, by kernel_rfl, by kernel_rfl, by kernel_rfl, by kernel_rfl, by kernel_rfl, by kernel_rfl, by kernel_rfl, by kernel_rfl, by kernel_rfl, by kernel_rfl, by kernel_rfl, by kernel_rfl, by kernel_rfl, by kernel_rfl, by kernel_rfl, by kernel_rfl, by kernel_rfl, by kernel_rfl, by kernel_rfl⟩
theorem sorts_at : ∀ k, k < 31 → c__law_sorts [some (.exn (cl k) ns ds), none, none] μ = .ret (.lst [.int (k : Nat)]) μ := all31 ⟨by kernel_rfl, by kernel_rfl, by kernel_rfl, by kernel_rfl, by kernel_rfl, by kernel_rfl, by kernel_rfl, by kernel_rfl, by kernel_rfl, by kernel_rfl, by kernel_rfl, by kernel_rfl, by kernel_rfl, by kernel_rfl, by kernel_rfl, by kernel_rfl, by kernel_rfl, by kernel_rfl, by kernel_rfl, by kernel_rfl, by kernel_rfl, by kernel_rfl, by kernel_rfl, by kernel_rfl, by kernel_rfl, by kernel_rfl, by kernel_rfl, by kernel_rfl, by kernel_rfl, by kernel_rfl, by kernel_rfl⟩
def due (k : Nat) : D := .lst [.bl (decide (bs k = 0)), .bl (decide (bs k = 1)), .bl (decide (bs k = 2))]
theorem bases_at : ∀ k, k < 31 → c__law_bases [some (.exn (cl k) ns ds), none] μ = .ret (.lst [due k, due k]) μ := all31 ⟨by kernel_rfl, by kernel_rfl, by kernel_rfl, by kernel_rfl, by kernel_rfl, by kernel_rfl, by kernel_rfl, by kernel_rfl, by kernel_rfl, by kernel_rfl, by kernel_rfl, by kernel_rfl, by kernel_rfl, by kernel_rfl, by kernel_rfl, by kernel_rfl, by kernel_rfl, by kernel_rfl, by kernel_rfl, by kernel_rfl, by kernel_rfl, by kernel_rfl, by kernel_rfl, by kernel_rfl, by kernel_rfl, by kernel_rfl, by kernel_rfl, by kernel_rfl, by kernel_rfl, by kernel_rfl, by kernel_rfl⟩
theorem eqk_at : ∀ k, k < 31 → dEq (.lst [.int (k : Nat)]) (.lst [.int (k : Nat)]) μ = .ok (.bl true) μ := all31 ⟨by kernel_rfl, by kernel_rfl, by kernel_rfl, by kernel_rfl, by kernel_rfl, by kernel_rfl, by kernel_rfl, by kernel_rfl, by kernel_rfl, by kernel_rfl, by kernel_rfl, by kernel_rfl, by kernel_rfl, by kernel_rfl, by kernel_rfl, by kernel_rfl, by kernel_rfl, by kernel_rfl, by kernel_rfl, by kernel_rfl, by kernel_rfl, by kernel_rfl, by kernel_rfl, by kernel_rfl, by kernel_rfl, by kernel_rfl, by kernel_rfl, by kernel_rfl, by kernel_rfl, by kernel_rfl, by kernel_rfl⟩
theorem eqd_at : ∀ k, k < 31 → dEq (.lst [due k, due k]) (.lst [due k, due k]) μ = .ok (.bl true) μ := all31 ⟨by kernel_rfl, by kernel_rfl, by kernel_rfl, by kernel_rfl, by kernel_rfl, by kernel_rfl, by kernel_rfl, by kernel_rfl, by kernel_rfl, by kernel_rfl, by kernel_rfl, by kernel_rfl, by kernel_rfl, by kernel_rfl, by kernel_rfl, by kernel_rfl, by kernel_rfl, by kernel_rfl, by kernel_rfl, by kernel_rfl, by kernel_rfl, by kernel_rfl, by kernel_rfl, by kernel_rfl, by kernel_rfl, by kernel_rfl, by kernel_rfl, by kernel_rfl, by kernel_rfl, by kernel_rfl, by kernel_rfl⟩
theorem sorts_wp (h : k < 31) (q : Q (.lst [.int (k : Nat)]) μ) : (F__law_sorts [.exn (cl k) ns ds] μ).wp Q := by
  refine runF_wp ?_
  show (c__law_sorts [some (.exn (cl k) ns ds), none, none] μ).wp (NQ μ Q) (RQ μ Q)
  rw [sorts_at k h]
  exact RQ.pure0 rfl rfl q
theorem bases_wp (h : k < 31) (q : Q (.lst [due k, due k]) μ) : (F__law_bases [.exn (cl k) ns ds] μ).wp Q := by
  refine runF_wp ?_
  show (c__law_bases [some (.exn (cl k) ns ds), none] μ).wp (NQ μ Q) (RQ μ Q)
  rw [bases_at k h]
  exact RQ.pure0 rfl rfl q
theorem fits_wp (h : k < 31) (q : Q (.bl true) μ) : (F__law_fits [.exn (cl k) ns ds, .int (k : Nat)] μ).wp Q := by
  refine runF_wp ?_
  show (c__law_fits [some (.exn (cl k) ns ds), some (.int (k : Nat)), none, none] μ).wp (NQ μ Q) (RQ μ Q)
  unfold c__law_fits
  refine s_seq (s_set (s_ok (base_at k h) ?_))
  repeat walk_at "rv2n"
  refine sorts_wp h ?_
  repeat walk_at "rv2n"
  refine s_ok (eqk_at k h) ?_
  repeat walk_at "rv2n"
  refine bases_wp h ?_
  repeat walk_at "rv2n"
  refine s_ok (eqd_at k h) ?_
  repeat walk_at "rv2n"
  exact RQ.pure0 rfl rfl q
end
end G
set_option Elab.async false
set_option linter.all false
set_option maxRecDepth 100000
set_option maxHeartbeats 400000
-- nolc -- v2 -- nonw
/-! the law of the constants and the errors -/
namespace G
open PySem PySem.Spec L2 Rv
open PyProof.Rows hiding St
def gv (o : D) : List D := (List.range 18).map fun k => .exn (cl k) ["given"] [o]
def iv (o : D) : List D := (List.range 10).map fun k => .exn (cl (18 + k)) ["index"] [o]
section
variable {o : D} {μ : Store} {Q : D → Store → Prop}
theorem given_at : c__law_given [some o, none, none] μ = .ret (.lst [.lst (gv o), .lst (gv o)]) μ := by kernel_rfl
theorem indexed_at : c__law_indexed [some o, none, none] μ = .ret (.lst [.lst (iv o), .lst (iv o)]) μ := by kernel_rfl
theorem low_rows {n : Nat} {xs : List D} (h : ∀ x ∈ xs, D.low n x = true) : D.low n (.lst [.lst xs, .lst xs]) = true := by
  have e : D.lowL n xs = true := by rw [D.lowL_all]; exact List.all_eq_true.mpr h
  show (D.lowL n xs && (D.lowL n xs && true)) = true
  rw [e]
  rfl
theorem low_exn {n : Nat} {c f : Str} (h : D.low n o = true) : D.low n (.exn c [f] [o]) = true := by
  show (D.low n o && true) = true
  rw [h]
  rfl
theorem given_wp (h : OddV o) (q : Q (.lst [.lst (gv o), .lst (gv o)]) μ) : (F__law_given [o] μ).wp Q := by
  refine runF_wp ?_
  show (c__law_given [some o, none, none] μ).wp (NQ μ Q) (RQ μ Q)
  rw [given_at]
  refine RQ.pure0 (low_rows fun x hx => ?_) rfl q
  obtain ⟨k, _, rfl⟩ := List.mem_map.mp hx
  exact low_exn (h.1.elim fun p h => h.2.2.2.2 _)
theorem indexed_wp (h : OddV o) (q : Q (.lst [.lst (iv o), .lst (iv o)]) μ) : (F__law_indexed [o] μ).wp Q := by
  refine runF_wp ?_
  show (c__law_indexed [some o, none, none] μ).wp (NQ μ Q) (RQ μ Q)
  rw [indexed_at]
  refine RQ.pure0 (low_rows fun x hx => ?_) rfl q
  obtain ⟨k, _, rfl⟩ := List.mem_map.mp hx
  exact low_exn (h.1.elim fun p h => h.2.2.2.2 _)
theorem clg : ∀ k, k < 31 → cl k ∈ exsT.map (·.1) := all31 ⟨by decide +kernel, by decide +kernel, by decide +kernel, by decide +kernel, by decide +kernel, by decide +kernel, by decide +kernel, by decide +kernel, by decide +kernel, by decide +kernel, by decide +kernel, by decide +kernel, by decide +kernel, by decide +kernel, by decide +kernel, by decide +kernel, by decide +kernel, by decide +kernel, by decide +kernel, by decide +kernel, by decide +kernel, by decide +kernel, by decide +kernel, by decide +kernel, by decide +kernel, by decide +kernel, by decide +kernel, by decide +kernel, by decide +kernel, by decide +kernel, by decide +kernel⟩
theorem fitsv {k : Nat} {v : Int} (e : v = (k : Nat)) (h : k < 31) {ns : List Str} {ds : List D} (q : Q (.bl true) μ) : (F__law_fits [.exn (cl k) ns ds, .int v] μ).wp Q := by
  subst e
  exact fits_wp h q
def cG : C := (cSeq (cIf (tNotM (mT (mCallB fAll (maCons (mFz (mLc (mI rng1 (maCons (mC (.int 18)) (maNil))) [2] (gN 2) (fun _ μ => .ok true μ) (mCall (arity 2 F__law_fits []) (maCons (m2 dIx (mVar 1) (mVar 2)) (maCons (mVar 2) (maNil)))))) (maNil))))) (cRet (mC (.bl false))) (cNil)) (cIf (mB (m2 (dNe) (mCallB fReprX (maCons (mFz (mLc (mIt (mVar 1)) [3] (gN 3) (fun _ μ => .ok true μ) (m1 (dXf exsT "given") (mVar 3)))) (maNil))) (mCallB fReprX (maCons (m2 dTimes (mFz (mLen (maCons (mVar 0) (maNil)))) (mC (.int 18))) (maNil))))) (cRet (mC (.bl false))) (cNil)))
def cI : C := (cSeq (cIf (tNotM (mT (mCallB fAll (maCons (mFz (mLc (mI rng1 (maCons (mC (.int 10)) (maNil))) [2] (gN 2) (fun _ μ => .ok true μ) (mCall (arity 2 F__law_fits []) (maCons (m2 dIx (mVar 1) (mVar 2)) (maCons (m2 dPlus (mC (.int 18)) (mVar 2)) (maNil)))))) (maNil))))) (cRet (mC (.bl false))) (cNil)) (cIf (mB (m2 (dNe) (mCallB fReprX (maCons (mFz (mLc (mIt (mVar 1)) [3] (gN 3) (fun _ μ => .ok true μ) (m1 (dXf exsT "index") (mVar 3)))) (maNil))) (mCallB fReprX (maCons (m2 dTimes (mFz (mLen (maCons (mVar 0) (maNil)))) (mC (.int 10))) (maNil))))) (cRet (mC (.bl false))) (cNil)))
def cR : C := (cSeq (cSet 4 (mFz (mLen (maCons (m1 (dXf exsT "limit") (mCall (fExn "TooMany" "limit") (maCons (mVar 0) (maNil)))) (maCons (m1 (dXf exsT "limit") (mCallK (fExnK "TooMany" "limit") maNil (maCons (mVar 0) (maNil)))) (maCons (m1 (dXf exsT "most") (mCall (fExn "NoWorld" "most") (maCons (mVar 0) (maNil)))) (maCons (m1 (dXf exsT "most") (mCallK (fExnK "NoWorld" "most") maNil (maCons (mVar 0) (maNil)))) (maNil)))))))) (cSeq (cIf (mB (m2 (dNe) (mCallB fReprX (maCons (mVar 4) (maNil))) (mCallB fReprX (maCons (m2 dTimes (mFz (mLen (maCons (mVar 0) (maNil)))) (mC (.int 4))) (maNil))))) (cRet (mC (.bl false))) (cNil)) (cSeq (cSet 5 (mFz (mLen (maCons (mCall (arity 2 F__law_fits []) (maCons (mCall (fExn "TooMany" "limit") (maCons (mVar 0) (maNil))) (maCons (mC (.int 28)) (maNil)))) (maCons (mCall (arity 2 F__law_fits []) (maCons (mCall (fExn "NoWorld" "most") (maCons (mVar 0) (maNil))) (maCons (mC (.int 29)) (maNil)))) (maCons (mCall (arity 2 F__law_fits []) (maCons (mCall (fExn0 "NothingToUndo") maNil) (maCons (mC (.int 30)) (maNil)))) (maNil))))))) (cRet (mCallB fAll (maCons (m2 dPlus (mVar 5) (mFz (mLen (maCons (mCall (arity 2 F__law_fits []) (maCons (mCallK (fExnK "TooMany" "limit") maNil (maCons (mVar 0) (maNil))) (maCons (mC (.int 28)) (maNil)))) (maCons (mCall (arity 2 F__law_fits []) (maCons (mCallK (fExnK "NoWorld" "most") maNil (maCons (mVar 0) (maNil))) (maCons (mC (.int 29)) (maNil)))) (maNil)))))) (maNil)))))))
theorem hrep (h : OddV o) {n : Nat} (hn : n ≤ 100) {Q' : D → Store → Prop} (q : ∀ t, (∃ p, pyx0 o = some p ∧ t = ofS (PyData.list (List.replicate n p)).shown) → Q' (.str t) μ) : (fReprX [.lst (List.replicate n o)] μ).wp Q' := by
  obtain ⟨⟨p, p1, p2, p3, p4, p5⟩, hf⟩ := h
  exact s_reprR p1 p2 p3 p4 hn (q _ ⟨p, p1, rfl⟩)
theorem rep_uniq {n : Nat} {s t : List Nat} (h1 : ∃ p, pyx0 o = some p ∧ s = ofS (PyData.list (List.replicate n p)).shown) (h2 : ∃ p, pyx0 o = some p ∧ t = ofS (PyData.list (List.replicate n p)).shown) : s = t := by
  obtain ⟨p, e1, rfl⟩ := h1
  obtain ⟨p', e2, rfl⟩ := h2
  rw [e1] at e2
  cases e2
  rfl
theorem cG_wp (h : OddV o) {N : Env' → Store → Prop} {T : D → Store → Prop} {o2 o3 : Option D} (q : N [some o, some (.lst (gv o)), o2, o3, none, none] μ) : (cG [some o, some (.lst (gv o)), o2, o3, none, none] μ).wp N T := by
  unfold cG
  repeat walk_at "rv2n"
  with_reducible refine s_lcM (List.range 18) (fun (i : Nat) => .int (i : Nat)) (fun _ => .bl true) (le_maxL (by simp)) ?_ (fun i hi => ⟨_, rfl, ?_⟩) ?_
  · repeat walk_at "rv2n"
    exact s_rng1' (by omega) ⟨rfl, rfl⟩
  · have hi := List.mem_range.mp hi
    with_reducible refine s_call (s_aC (s_m2 (s_var (by with_unfolding_all exact rfl) (s_var (by with_unfolding_all exact rfl) ?_))))
    refine s_ok (dIx_lst (x := .exn (cl (i)) ["given"] [o]) ?_) ?_
    · rw [Rv.atI_nat (by simp [gv]; omega)]
      unfold gv
      rw [List.getElem?_map, List.getElem?_range hi]
      rfl
    repeat walk_at "rv2n"
    exact fitsv (by omega) (by omega) ⟨rfl, rfl⟩
  repeat walk_at "rv2n"
  refine s_ok (v := .bl true) (μ' := μ) (by kernel_rfl) ?_
  repeat walk_at "rv2n"
  with_reducible refine s_lcM (List.range 18) (fun i => .exn (cl (i)) ["given"] [o]) (fun _ => o) (le_maxL (by simp)) ?_ (fun i hi => ⟨_, rfl, ?_⟩) ?_
  · repeat walk_at "rv2n"
    exact ⟨rfl, rfl⟩
  · have hi := List.mem_range.mp hi
    repeat walk_at "rv2n"
    exact s_ok (dXf_at (clg (i) (by omega))) ⟨rfl, rfl⟩
  repeat walk_at "rv2n"
  refine hrep h (n := 18) (by omega) fun t1 ht1 => ?_
  repeat walk_at "rv2n"
  refine s_ok (timesR (n := 18) (by omega)) ?_
  repeat walk_at "rv2n"
  refine hrep h (n := 18) (by omega) fun t2 ht2 => ?_
  repeat walk_at "rv2n"
  refine oN_neg (rep_uniq ht1 ht2) ?_
  repeat walk_at "rv2n"
  exact q
theorem cI_wp (h : OddV o) {N : Env' → Store → Prop} {T : D → Store → Prop} {o2 o3 : Option D} (q : N [some o, some (.lst (iv o)), o2, o3, none, none] μ) : (cI [some o, some (.lst (iv o)), o2, o3, none, none] μ).wp N T := by
  unfold cI
  repeat walk_at "rv2n"
  with_reducible refine s_lcM (List.range 10) (fun (i : Nat) => .int (i : Nat)) (fun _ => .bl true) (le_maxL (by simp)) ?_ (fun i hi => ⟨_, rfl, ?_⟩) ?_
  · repeat walk_at "rv2n"
    exact s_rng1' (by omega) ⟨rfl, rfl⟩
  · have hi := List.mem_range.mp hi
    with_reducible refine s_call (s_aC (s_m2 (s_var (by with_unfolding_all exact rfl) (s_var (by with_unfolding_all exact rfl) ?_))))
    refine s_ok (dIx_lst (x := .exn (cl (18 + i)) ["index"] [o]) ?_) ?_
    · rw [Rv.atI_nat (by simp [iv]; omega)]
      unfold iv
      rw [List.getElem?_map, List.getElem?_range hi]
      rfl
    repeat walk_at "rv2n"
    exact fitsv (by omega) (by omega) ⟨rfl, rfl⟩
  repeat walk_at "rv2n"
  refine s_ok (v := .bl true) (μ' := μ) (by kernel_rfl) ?_
  repeat walk_at "rv2n"
  with_reducible refine s_lcM (List.range 10) (fun i => .exn (cl (18 + i)) ["index"] [o]) (fun _ => o) (le_maxL (by simp)) ?_ (fun i hi => ⟨_, rfl, ?_⟩) ?_
  · repeat walk_at "rv2n"
    exact ⟨rfl, rfl⟩
  · have hi := List.mem_range.mp hi
    repeat walk_at "rv2n"
    exact s_ok (dXf_at (clg (18 + i) (by omega))) ⟨rfl, rfl⟩
  repeat walk_at "rv2n"
  refine hrep h (n := 10) (by omega) fun t1 ht1 => ?_
  repeat walk_at "rv2n"
  refine s_ok (timesR (n := 10) (by omega)) ?_
  repeat walk_at "rv2n"
  refine hrep h (n := 10) (by omega) fun t2 ht2 => ?_
  repeat walk_at "rv2n"
  refine oN_neg (rep_uniq ht1 ht2) ?_
  repeat walk_at "rv2n"
  exact q
end
end G
set_option Elab.async false
set_option linter.all false
set_option maxRecDepth 100000
set_option maxHeartbeats 400000
-- nolc -- v2 -- nonw
/-! the law of the constants and the errors -/
namespace G
open PySem PySem.Spec L2 Rv
open PyProof.Rows hiding St
section
variable {o : D} {μ : Store} {Q : D → Store → Prop}
theorem fitsL (k : Nat) (h : k < 31) {L : List D} (ns : List Str) (ds : List D) (e : L = [.exn (cl k) ns ds, .int (k : Nat)]) (q : Q (.bl true) μ) : (F__law_fits L μ).wp Q := by
  subst e
  exact fits_wp h q
theorem cR_wp (h : OddV o) {o1 o2 o3 : Option D} (q : Q (.bl true) μ) : (cR [some o, o1, o2, o3, none, none] μ).wp (NQ μ Q) (RQ μ Q) := by
  unfold cR
  repeat walk_at "rv2n"
  with_reducible refine s_ok (v := .exn "TooMany" ["limit"] [o]) (μ' := μ) (by with_unfolding_all exact rfl) ?_
  repeat walk_at "rv2n"
  with_reducible refine s_ok (dXf_at (by decide +kernel)) ?_
  repeat walk_at "rv2n"
  with_reducible refine s_ok (v := .exn "TooMany" ["limit"] [o]) (μ' := μ) (by with_unfolding_all exact rfl) ?_
  repeat walk_at "rv2n"
  with_reducible refine s_ok (dXf_at (by decide +kernel)) ?_
  repeat walk_at "rv2n"
  with_reducible refine s_ok (v := .exn "NoWorld" ["most"] [o]) (μ' := μ) (by with_unfolding_all exact rfl) ?_
  repeat walk_at "rv2n"
  with_reducible refine s_ok (dXf_at (by decide +kernel)) ?_
  repeat walk_at "rv2n"
  with_reducible refine s_ok (v := .exn "NoWorld" ["most"] [o]) (μ' := μ) (by with_unfolding_all exact rfl) ?_
  repeat walk_at "rv2n"
  with_reducible refine s_ok (dXf_at (by decide +kernel)) ?_
  repeat walk_at "rv2n"
  refine hrep h (n := 4) (by omega) fun t1 ht1 => ?_
  repeat walk_at "rv2n"
  refine s_ok (timesR (n := 4) (by omega)) ?_
  repeat walk_at "rv2n"
  refine hrep h (n := 4) (by omega) fun t2 ht2 => ?_
  repeat walk_at "rv2n"
  refine oN_neg (rep_uniq ht1 ht2) ?_
  repeat walk_at "rv2n"
  with_reducible refine s_ok (v := .exn "TooMany" ["limit"] [o]) (μ' := μ) (by with_unfolding_all exact rfl) ?_
  repeat walk_at "rv2n"
  with_reducible refine fitsL 28 (by decide) ["limit"] [o] (by kernel_rfl) ?_
  repeat walk_at "rv2n"
  with_reducible refine s_ok (v := .exn "NoWorld" ["most"] [o]) (μ' := μ) (by with_unfolding_all exact rfl) ?_
  repeat walk_at "rv2n"
  with_reducible refine fitsL 29 (by decide) ["most"] [o] (by kernel_rfl) ?_
  repeat walk_at "rv2n"
  with_reducible refine s_ok (v := .exn "NothingToUndo" [] []) (μ' := μ) (by with_unfolding_all exact rfl) ?_
  repeat walk_at "rv2n"
  with_reducible refine fitsL 30 (by decide) [] [] (by kernel_rfl) ?_
  repeat walk_at "rv2n"
  with_reducible refine s_ok (v := .exn "TooMany" ["limit"] [o]) (μ' := μ) (by with_unfolding_all exact rfl) ?_
  repeat walk_at "rv2n"
  with_reducible refine fitsL 28 (by decide) ["limit"] [o] (by kernel_rfl) ?_
  repeat walk_at "rv2n"
  with_reducible refine s_ok (v := .exn "NoWorld" ["most"] [o]) (μ' := μ) (by with_unfolding_all exact rfl) ?_
  repeat walk_at "rv2n"
  with_reducible refine fitsL 29 (by decide) ["most"] [o] (by kernel_rfl) ?_
  repeat walk_at "rv2n"
  refine s_addL (by exact Nat.le_of_ble_eq_true rfl) ?_
  repeat walk_at "rv2n"
  refine s_ok (v := .bl true) (μ' := μ) (by kernel_rfl) ?_
  repeat walk_at "rv2n"
  exact RQ.pure0 rfl rfl q
theorem right_wp (h : OddV o) (q : Q (.bl true) μ) : (F__law_right [o] μ).wp Q := by
  refine runF_wp ?_
  show (c__law_right [some o, none, none, none, none, none] μ).wp (NQ μ Q) (RQ μ Q)
  have e : c__law_right = cSeq (cFor (mIt (mCall (arity 1 F__law_given []) (maCons (mVar 0) (maNil)))) (gN 1) cG) (cSeq (cFor (mIt (mCall (arity 1 F__law_indexed []) (maCons (mVar 0) (maNil)))) (gN 1) cI) cR) := rfl
  rw [e]
  repeat walk_at "rv2n"
  refine given_wp h ?_
  repeat walk_at "rv2n"
  show (forGo none (gN 1) cG [.lst (gv o), .lst (gv o)] [some o, none, none, none, none, none] μ).wp _ _
  with_reducible refine forGo_wp (k := 0) (I := fun _ ρ ν => ν = μ ∧ ∃ o1 : Option D, ρ = [some o, o1, none, none, none, none]) ⟨rfl, none, rfl⟩ ?_ ?_
  · intro i d ρ ν hd hI
    obtain ⟨rfl, o1, rfl⟩ := hI
    have ed : d = .lst (gv o) := by
      have := List.mem_of_getElem? hd
      simp only [List.mem_cons, List.not_mem_nil, or_false, or_self] at this
      exact this
    subst ed
    with_reducible refine Exists.intro _ (And.intro (by with_unfolding_all exact rfl) ?_)
    with_reducible refine OutS.wpL_of ?_
    show (cG [some o, some (.lst (gv o)), none, none, none, none] ν).wp _ _
    with_reducible refine cG_wp h ?_
    exact ⟨rfl, _, rfl⟩
  · intro ρ ν hI
    obtain ⟨rfl, o1, rfl⟩ := hI
    repeat walk_at "rv2n"
    refine indexed_wp h ?_
    repeat walk_at "rv2n"
    show (forGo none (gN 1) cI [.lst (iv o), .lst (iv o)] [some o, o1, none, none, none, none] ν).wp _ _
    with_reducible refine forGo_wp (k := 0) (I := fun _ ρ ν' => ν' = ν ∧ ∃ o1 : Option D, ρ = [some o, o1, none, none, none, none]) ⟨rfl, o1, rfl⟩ ?_ ?_
    · intro i d ρ ν' hd hI
      obtain ⟨rfl, o2, rfl⟩ := hI
      have ed : d = .lst (iv o) := by
        have := List.mem_of_getElem? hd
        simp only [List.mem_cons, List.not_mem_nil, or_false, or_self] at this
        exact this
      subst ed
      with_reducible refine Exists.intro _ (And.intro (by with_unfolding_all exact rfl) ?_)
      with_reducible refine OutS.wpL_of ?_
      show (cI [some o, some (.lst (iv o)), none, none, none, none] ν').wp _ _
      with_reducible refine cI_wp h ?_
      exact ⟨rfl, _, rfl⟩
    · intro ρ ν' hI
      obtain ⟨rfl, o2, rfl⟩ := hI
      with_reducible refine cR_wp h ?_
      exact q
end
theorem law_wp {ns : List Int} (hn : ns.length ≤ 63) : (F_law [.scr ns] []).wp fun d _ => d = .bl true := by
  refine runF_wp ?_
  show (c_law [some (.scr ns), none, none, none, none] []).wp (NQ [] _) (RQ [] _)
  unfold c_law
  repeat walk_at "rv2n"
  refine s_ok (v := .str [91, 49, 50, 44, 32, 49, 50, 44, 32, 56, 44, 32, 49, 48, 44, 32, 51, 44, 32, 54, 44, 32, 49, 48, 48, 48, 93]) (μ' := []) (by kernel_rfl) ?_
  repeat walk_at "rv2n"
  with_reducible refine s_rngI ?_ ?_
  · constructor <;> (repeat' split) <;> omega
  refine forGo_wp (k := 0) (I := fun _ ρ ν => WF ν ∧ ∃ o1 o2 o3 o4 : Option D, ρ = [some (.scr ns), o1, o2, o3, o4]) ⟨fun m hm => (List.not_mem_nil hm).elim, _, none, none, none, rfl⟩ ?_ ?_
  · intro i d ρ ν hd hI
    obtain ⟨wf, o1, o2, o3, o4, rfl⟩ := hI
    obtain ⟨rfl, hi⟩ := rngD_at hd
    have hi2 : i ≤ 100 := by
      refine Nat.le_trans (Nat.le_of_lt hi) ?_
      (repeat' split) <;> omega
    rw [Int.zero_add]
    refine ⟨_, rfl, OutS.wpL_of ?_⟩
    repeat walk_at "rv2n"
    refine well_wp hn hi2 fun a b => ?_
    repeat walk_at "rv2n"
    have wf1 : WF (ν ++ [P3 a b 0]) := WF_app wf fun m hm => by rw [List.mem_singleton.mp hm]; exact P3_low
    have hl : ν.length < (ν ++ [P3 a b 0]).length := by simp
    have hs : ∀ x, ((ν ++ [P3 a b 0]).set ν.length x)[ν.length]? = some x := fun x => List.getElem?_set_self hl
    refine s_lc ?_
    repeat walk_at "rv2n"
    with_reducible refine s_rngI (by omega) ?_
    repeat walk_at "rv2n"
    refine s_lcC1 (d := .int 0) (ds := [.int 1, .int 2]) rfl ?_
    repeat walk_at "rv2n"
    refine any_wp new_at ⟨by omega, by omega⟩ wf1 fun d1 a1 b1 h1 => ?_
    repeat walk_at "rv2n"
    refine right_wp h1 ?_
    repeat walk_at "rv2n"
    refine s_lcC1 (d := .int 1) (ds := [.int 2]) rfl ?_
    repeat walk_at "rv2n"
    refine any_wp (hs _) ⟨by omega, by omega⟩ (WF_set wf1 P3_low) fun d2 a2 b2 h2 => ?_
    rw [List.set_set]
    repeat walk_at "rv2n"
    refine right_wp h2 ?_
    repeat walk_at "rv2n"
    refine s_lcC1 (d := .int 2) (ds := []) rfl ?_
    repeat walk_at "rv2n"
    refine any_wp (hs _) ⟨by omega, by omega⟩ (WF_set wf1 P3_low) fun d3 a3 b3 h3 => ?_
    rw [List.set_set]
    repeat walk_at "rv2n"
    refine right_wp h3 ?_
    repeat walk_at "rv2n"
    refine s_lcN ?_
    repeat walk_at "rv2n"
    with_reducible refine s_ok (v := D.bl true) (μ' := (ν ++ [P3 a b 0]).set ν.length (P3 a3 b3 (0 + 3 + 3 + 3))) (by with_unfolding_all exact rfl) ?_
    repeat walk_at "rv2n"
    exact ⟨WF_set wf1 P3_low, _, _, _, _, rfl⟩
  · intro ρ ν hI
    obtain ⟨wf, o1, o2, o3, o4, rfl⟩ := hI
    repeat walk_at "rv2n"
    exact ⟨kept_self rfl ν, rfl, rfl⟩
theorem pure : ∀ ns : List Int, ns.length ≤ 63 → ∃ μ', F_law [.scr ns] [] = .ok (.bl true) μ' := by
  intro ns hn
  obtain ⟨d, μ', e, h⟩ := Out.ex_of (law_wp hn)
  exact ⟨μ', h ▸ e⟩
end G
set_option Elab.async false
set_option linter.all false
set_option maxRecDepth 100000
set_option maxHeartbeats 0
/-! printed by genhead.py: the head's run. -/
namespace G
open PySem PySem.Spec PyProof.Rows L2 Rv
abbrev R : PySem.W.OpenRow := PySem.W.OpenLaw.row PySem.Challenge.rw_ringvotes_k01_constants_and_errors
abbrev hk : PySem.W.Hook := hookA fs dfs
def ob (s : PySem.W.SharedT) : AlA := obsAG s.n fs dfs (HandSHeadRun.getT s)
theorem ob_eq (s : PySem.W.SharedT) : ob s = hk.obs s.abs := obsAG_eq (HandSHeadRun.getT_eq s) (PySem.W.absHeap_size s.tree s.n s.life).symm
def lo0 : List Str := ["__name__", "BadValue", "BadName", "NoAnswer", "InvalidName", "InvalidEnd", "InvalidFlag", "InvalidText", "InvalidNumber", "InvalidFaults", "InvalidFlow", "InvalidWorld", "InvalidReading", "InvalidWish", "InvalidIndex", "NotAMeter", "NotANet", "NotASum", "NotARule", "NotAnEntry", "InvalidPipes", "InvalidMeters", "InvalidTerms", "InvalidRows", "InvalidReadings", "InvalidOffers", "InvalidWishes", "InvalidPrices", "UnknownName", "OtherMeters"]
def lo1 : List Str := ["InUse", "TooMany", "NoWorld", "NothingToUndo", "Broken", "MOST_PIPES", "MOST_METERS", "MOST_ROWS", "MOST_SUMS", "MOST_FAULTS", "MOST_OFFERS", "MOST_PAIRS", "_law_well", "_law_dip", "_law_any", "_law_given", "_law_indexed", "_law_sorts", "_law_bases", "_law_fits", "_law_right"]
def loose : List Str := lo0 ++ lo1
theorem run (w : World) : HandSHeadRun.RunEq R (PySem.W.view R.prog [52]) hk ob 40000 loose w := by
  intro os
  kernel_rfl
theorem walkE (w : World) (mg : Str → Option Value) (fa : Addr) (h : Heap) (Y : hk.says w h) (G : h.Ns mainGlobals mg) (hm : mg ("law" : Str) = some (.ref fa)) (hG : ∀ ns : List Int, ns.length ≤ 63 → ∃ μ', F_law [.scr ns] [] = .ok (.bl true) μ') :
    ∃ (K : PySem.W.Frag) (fd : FuncData) (F : Fn), K.In h ∧ (∀ (s : Shared) (u : Value), BindsTo s fd ⟨[u], []⟩ [("_law_cells", u)]) ∧ (∀ ns : List Int, ns.length ≤ 63 → ∃ μ', F [.scr ns] [] = .ok (.bl true) μ') ∧ ∀ base : Heap, K.In base → base.Ns mainGlobals mg → FnQ R.prog w K mg base 5 fa fd ["_law_cells"] F := by
  obtain ⟨K, KX, c⟩ := Y
  have fx := fx_of KX G c
  have e := hm.symm.trans fx.g_law
  cases e
  obtain ⟨fd, FD⟩ := fx.d_law
  have b := FunD.fullA (ps := ["_law_cells"]) FD fun _ _ _ _ _ _ us hl => match us, hl with | [_], _ => rfl
  exact ⟨K, fd, F_law, KX, fun s v => b s [v] rfl, hG, fun base _ _ => q_law fx FD⟩
end G
set_option maxHeartbeats 0

open PySem PySem.W PySem.Calls PyProof.Rows in
theorem PySem.Challenge.cw_ringvotes_k01_constants_and_errors_holds : PySem.Challenge.rw_ringvotes_k01_constants_and_errors.Holds := by
  w_on; o_law
  refine HandSHeadRun.head_any (r := OpenLaw.row PySem.Challenge.rw_ringvotes_k01_constants_and_errors) (q := view (OpenLaw.row PySem.Challenge.rw_ringvotes_k01_constants_and_errors).prog [52]) (H := G.hk) (ob := G.ob) (M := 40000) (loose := G.loose) (d := HandSHeadRun.topDef (OpenLaw.row PySem.Challenge.rw_ringvotes_k01_constants_and_errors).prog 52) (kwd := []) G.ob_eq
    (by kernel_rfl) (fun s => by kernel_rfl) G.run (by kernel_rfl) (by kernel_rfl) (by kernel_rfl) (by rfl) (by first | assumption | decide +kernel) (by decide +kernel) ⟨rfl, rfl, rfl, rfl, rfl, by decide +kernel⟩ ?hw ?hc
  case hw => w_witness2
  case hc =>
    refine Rv.walk_q (l := PySem.Challenge.rw_ringvotes_k01_constants_and_errors) (n := 63) (k := 5) (x := "_law_cells") rfl (by decide) (by kernel_rfl) ⟨⟨rfl, by decide, by decide⟩, rfl⟩ ?F
    intro w mg fa h Y hmg hm0
    have hm : mg ("law" : PySem.Str) = some (.ref fa) := by
      have e : (HandSHeadRun.topDef (OpenLaw.row PySem.Challenge.rw_ringvotes_k01_constants_and_errors).prog 52).name = ("law" : PySem.Str) := by kernel_rfl
      rw [← e]
      exact hm0
    exact G.walkE w mg fa h Y hmg hm G.pure
