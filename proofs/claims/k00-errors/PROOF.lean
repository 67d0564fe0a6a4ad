import PyProof.Rows.All
import Wide.All
import OpenK.AllK
import Wide.FinOn
import HandS.ForMost
import HandS.ForExc
import HandS.ExcInit
import HandS.Lambda
import HandS.TupAny
import HandS.Flow
import HandS.Style
import HandS.Wide
import HandS.Deep
import HandS.IsInst
import HandS.Text
import HandS.CallLocal
import HandS.WordsExc
import HandS.WordsDict
import HandS.Small
import HandS.Zip
import HandS.Defaults
import HandS.HeadEnd
import HandS.HeadHook2
import HandS.TryMany
import HandS.TryOnly
import HandS.ExcField
import HandS.ExcIs
import PyProof.ReprRoads
import HandS.RaiseMore
import HandS.TupMul
import HandS.ExcValue
import KE.KExcIs
import HandS.Head0
import HandS.Head1
import HandS.Head2
import HandS.HeadHook4
import HandS.HeadNt
import HandS.HeadWalk
import PySem.Challenge.RW_setclocks_k00_errors
set_option Elab.async false
set_option linter.all false
set_option maxRecDepth 100000
/-! Mi: a small meaning of Python over trees of values, each rule shown once over HandS. -/
namespace Mi
open PySem PySem.Spec PyProof.Rows L2
abbrev St := L2.St

/-- a value as a tree: what never changes is the tree itself, what may change is a number into the store -/
inductive T where
  | non | bl (b : Bool) | int (i : Int) | str (x : Str)
  | tup (ts : List T)
  | lst (ts : List T)
  | scr (ns : List Int)
  | ref (n : Nat)
  | glob (x : Str)
  | ty (n : String)
  | exn (c : Str) (ks : List Str) (ts : List T)
  | mark
/-- what may change -/
inductive Ob where
  | lst (ts : List T)
  | dK (kvs : List (Key × T))
abbrev Sto := List Ob
abbrev Ro := List (Option T)

/-- where things stand: the store's addresses, other addresses that may change -/
structure Pl where
  mu : List Addr
  de : List Addr
/-- what goes with a context: its wish about errors, what stays true, a slot that holds what is no tree, tables of code objects -/
structure XW where
  x : XK
  J : List Addr → List Addr → Hp → Prop
  hs : Option (Nat × Addr)
  tb : List (Addr × Str)
def XW.off (W : XW) (i : Nat) : Prop := ∀ j a, W.hs = some (j, a) → i ≠ j
/-- within a comprehension -/
def XW.ins (W : XW) : XW := ⟨fun _ _ _ => False, fun _ _ _ => True, none, W.tb⟩
abbrev plW (E : XK) (J : List Addr → List Addr → Hp → Prop) (tb : List (Addr × Str)) : XW := ⟨E, J, none, tb⟩
theorem plW_off {E : XK} {J : List Addr → List Addr → Hp → Prop} {tb : List (Addr × Str)} (i : Nat) : (plW E J tb).off i := fun _ _ h => nomatch h
theorem off_at {E : XK} {J : List Addr → List Addr → Hp → Prop} {k i : Nat} {f : Addr} {tb : List (Addr × Str)} (h : i ≠ k) : (XW.mk E J (some (k, f)) tb).off i := fun j a e => by cases e; exact h
/-- not a table of code objects -/
def NT (o : HO) : Prop := ∀ ps, o ≠ .tbl ps
theorem NT.lst {xs : List V} : NT (.lst xs) := fun _ z => (by cases z)
theorem NT.dK {xs : List (Key × V)} : NT (.dK xs) := fun _ z => (by cases z)
theorem NT.xd {xs : List (Str × V)} : NT (.xd xs) := fun _ z => (by cases z)
theorem NT.exo {a C : Addr} {d : Option Addr} : NT (exo a C d) := fun _ => exo_tbl
theorem NT.exd {a : Addr} {fs : List (Str × V)} : NT (exd a fs) := fun _ z => (by unfold L2.exd at z; cases z)
theorem NT.codeO {a : Addr} {q : Str} : NT (LamX.CodeO a q) := fun _ => LamX.codeO_ne _
/-- what may be exchanged -/
structure Soft (o : HO) : Prop where
  tup : ∀ xs, o ≠ .tup xs
  frz : ∀ w u, o ≠ .frz w u
  tbl : NT o
  ext : ∀ f, o ≠ .ext f
theorem soft_lst {xs : List V} : Soft (.lst xs) := ⟨fun _ z => (by cases z), fun _ _ z => (by cases z), .lst, fun _ z => (by cases z)⟩
theorem soft_dK {xs : List (Key × V)} : Soft (.dK xs) := ⟨fun _ z => (by cases z), fun _ _ z => (by cases z), .dK, fun _ z => (by cases z)⟩
/-- the dict of an error that is a value -/
def ExnD (p : Pl) (H : Hp) (d : Option Addr) (ks : List Str) (vs : List V) : Prop := match d with
  | none => ks = []
  | some dx => H dx = some (exd dx (ks.zip vs)) ∧ dx ∉ p.mu ∧ dx ∉ p.de

section
variable (K : PySem.W.Frag) (mg : Str → Option Value)
mutual
def Rep (p : Pl) (H : Hp) : T → V → Prop
  | .non, v => v = .non
  | .bl b, v => v = .bl b
  | .int i, v => v = .int i
  | .str x, v => v = .str x
  | .tup ts, v => ∃ a vs, v = .ref a ∧ SqT K H a vs ∧ RepL p H ts vs
  | .lst ts, v => ∃ a vs, v = .ref a ∧ H a = some (.lst vs) ∧ a ∉ p.mu ∧ a ∉ p.de ∧ RepL p H ts vs
  | .scr ns, v => ∃ a, v = .ref a ∧ ((∃ o, H a = some (.frz o (.lst (ns.map V.int)))) ∨ ∃ (o : Obj) (its : Array Value) (n : Nat), K.lookup a = some o ∧ o.cls = .type "list" ∧ o.dict = none ∧ o.data = .seq its n ∧ its.size ≤ sizeLine ∧ Vals (ns.map V.int) its.toList)
  | .ref n, v => ∃ a, v = .ref a ∧ p.mu[n]? = some a
  | .glob x, v => ∃ a, v = .ref a ∧ mg x = some (.ref a)
  | .ty n, v => v = .ty n
  | .exn c ks ts, v => ∃ a C d vs, v = .ref a ∧ mg c = some (.ref C) ∧ H a = some (exo a C d) ∧ a ∉ p.mu ∧ a ∉ p.de ∧ RepL p H ts vs ∧ ExnD p H d ks vs
  | .mark, _ => True
def RepL (p : Pl) (H : Hp) : List T → List V → Prop
  | [], vs => vs = []
  | t :: ts, vs => ∃ v r, vs = v :: r ∧ Rep p H t v ∧ RepL p H ts r
end

/-- a step of places and heap: what is not ours to change stays -/
structure Stp (p : Pl) (H : Hp) (q : Pl) (H' : Hp) : Prop where
  ext : ∃ ν, q.mu = p.mu ++ ν ∧ ∀ b ∈ ν, ∀ o, H b = some o → ¬ NT o
  de : q.de = p.de
  tup : ∀ b xs, H b = some (.tup xs) → H' b = some (.tup xs)
  frz : ∀ b o u, H b = some (.frz o u) → H' b = some (.frz o u)
  kp : ∀ b o, b ∉ p.mu → NT o → H b = some o → H' b = some o
  al : ∀ b o, NT o → H b = some o → ∃ o', NT o' ∧ H' b = some o'
end
theorem Stp.refl {p : Pl} {H : Hp} : Stp p H p H := ⟨⟨[], by simp, fun _ h => nomatch h⟩, rfl, fun _ _ h => h, fun _ _ _ h => h, fun _ _ _ _ h => h, fun _ o n h => ⟨o, n, h⟩⟩
theorem Stp.trans {p q r : Pl} {H H1 H2 : Hp} (a : Stp p H q H1) (b : Stp q H1 r H2) : Stp p H r H2 := by
  obtain ⟨ν, e1, n1⟩ := a.ext
  obtain ⟨ξ, e2, n2⟩ := b.ext
  refine ⟨⟨ν ++ ξ, by rw [e2, e1, List.append_assoc], fun c hc o ho hn => ?_⟩, b.de.trans a.de, fun c xs h => b.tup c xs (a.tup c xs h), fun c o u h => b.frz c o u (a.frz c o u h), fun c o h1 hn h => b.kp c o ?_ hn (a.kp c o h1 hn h), fun c o hn h => ?_⟩
  · rcases List.mem_append.mp hc with h | h
    · exact n1 c h o ho hn
    · obtain ⟨o', hn', e⟩ := a.al c o hn ho
      exact n2 c h o' e hn'
  · rw [e1]
    intro hc
    rcases List.mem_append.mp hc with z | z
    · exact h1 z
    · exact n1 c z o h hn
  · obtain ⟨o', hn', e⟩ := a.al c o hn h
    exact b.al c o' hn' e
theorem Stp.get {p q : Pl} {H H1 : Hp} (a : Stp p H q H1) {n : Nat} {c : Addr} (h : p.mu[n]? = some c) : q.mu[n]? = some c := by
  obtain ⟨ν, e, _⟩ := a.ext
  rw [e, List.getElem?_append_left (List.getElem?_eq_some_iff.mp h).1]
  exact h
theorem Stp.off {p q : Pl} {H H1 : Hp} (a : Stp p H q H1) {c : Addr} {o : HO} (h : c ∉ p.mu) (hn : NT o) (e : H c = some o) : c ∉ q.mu := by
  obtain ⟨ν, e1, n1⟩ := a.ext
  rw [e1]
  intro hc
  rcases List.mem_append.mp hc with z | z
  · exact h z
  · exact n1 c z o e hn
theorem ExnD.stp {p q : Pl} {H H1 : Hp} (a : Stp p H q H1) {d : Option Addr} {ks : List Str} {vs : List V} (h : ExnD p H d ks vs) : ExnD q H1 d ks vs := by
  cases d with
  | none => exact h
  | some dx => exact ⟨a.kp _ _ h.2.1 .exd h.1, a.off h.2.1 .exd h.1, by rw [a.de]; exact h.2.2⟩
section
variable {K : PySem.W.Frag} {mg : Str → Option Value}
theorem SqT.stp {p q : Pl} {H H1 : Hp} (a : Stp p H q H1) {c : Addr} {xs : List V} (h : SqT K H c xs) : SqT K H1 c xs := by
  rcases h with (h | ⟨o, h⟩) | h
  · exact .inl (.inl (a.tup _ _ h))
  · exact .inl (.inr ⟨o, a.frz _ _ _ h⟩)
  · exact .inr h
mutual
theorem Rep.stp {p q : Pl} {H H1 : Hp} (a : Stp p H q H1) : ∀ {t : T} {v : V}, Rep K mg p H t v → Rep K mg q H1 t v
  | .non, _, h => h
  | .bl _, _, h => h
  | .int _, _, h => h
  | .str _, _, h => h
  | .tup ts, _, h => by
    obtain ⟨c, vs, e, h1, h2⟩ := h
    exact ⟨c, vs, e, SqT.stp a h1, RepL.stp a h2⟩
  | .lst ts, _, h => by
    obtain ⟨c, vs, e, h1, h2, h3, h4⟩ := h
    exact ⟨c, vs, e, a.kp _ _ h2 .lst h1, a.off h2 .lst h1, by rw [a.de]; exact h3, RepL.stp a h4⟩
  | .scr ns, _, h => by
    obtain ⟨c, e, h⟩ := h
    refine ⟨c, e, ?_⟩
    rcases h with ⟨o, h⟩ | h
    · exact .inl ⟨o, a.frz _ _ _ h⟩
    · exact .inr h
  | .ref n, _, h => by
    obtain ⟨c, e, h⟩ := h
    exact ⟨c, e, a.get h⟩
  | .glob _, _, h => h
  | .ty _, _, h => h
  | .exn c ks ts, _, h => by
    obtain ⟨b, C, d, vs, e, h1, h2, h3, h4, h5, h6⟩ := h
    exact ⟨b, C, d, vs, e, h1, a.kp _ _ h3 .exo h2, a.off h3 .exo h2, by rw [a.de]; exact h4, RepL.stp a h5, h6.stp a⟩
  | .mark, _, h => h
theorem RepL.stp {p q : Pl} {H H1 : Hp} (a : Stp p H q H1) : ∀ {t : List T} {v : List V}, RepL K mg p H t v → RepL K mg q H1 t v
  | [], _, h => h
  | t :: ts, _, h => by
    obtain ⟨v, r, e, h1, h2⟩ := h
    exact ⟨v, r, e, Rep.stp a h1, RepL.stp a h2⟩
end
theorem RepL.nil {p : Pl} {H : Hp} : RepL K mg p H [] [] := rfl
theorem RepL.cons {p : Pl} {H : Hp} {t : T} {v : V} {ts : List T} {vs : List V} (h : Rep K mg p H t v) (r : RepL K mg p H ts vs) : RepL K mg p H (t :: ts) (v :: vs) := ⟨v, vs, rfl, h, r⟩
theorem RepL.length {p : Pl} {H : Hp} : ∀ {ts : List T} {vs : List V}, RepL K mg p H ts vs → vs.length = ts.length
  | [], _, h => by cases h; rfl
  | t :: ts, _, h => by
    obtain ⟨v, r, rfl, h1, h2⟩ := h
    simp [RepL.length h2]
theorem RepL.get {p : Pl} {H : Hp} : ∀ {ts : List T} {vs : List V} {i : Nat} {t : T}, RepL K mg p H ts vs → ts[i]? = some t → ∃ v, vs[i]? = some v ∧ Rep K mg p H t v
  | [], _, _, _, _, e => by simp at e
  | t :: ts, _, 0, _, h, e => by
    obtain ⟨v, r, rfl, h1, h2⟩ := h
    simp at e; subst e
    exact ⟨v, rfl, h1⟩
  | t :: ts, _, i + 1, _, h, e => by
    obtain ⟨v, r, rfl, h1, h2⟩ := h
    simpa using RepL.get (i := i) h2 (by simpa using e)
theorem RepL.append {p : Pl} {H : Hp} : ∀ {ts us : List T} {vs ws : List V}, RepL K mg p H ts vs → RepL K mg p H us ws → RepL K mg p H (ts ++ us) (vs ++ ws)
  | [], _, _, _, h, k => by cases h; exact k
  | t :: ts, _, _, _, h, k => by
    obtain ⟨v, r, rfl, h1, h2⟩ := h
    exact ⟨v, _, rfl, h1, RepL.append h2 k⟩
theorem RepL.take {p : Pl} {H : Hp} (n : Nat) : ∀ {ts : List T} {vs : List V}, RepL K mg p H ts vs → RepL K mg p H (ts.take n) (vs.take n) := by
  induction n with
  | zero => intro ts vs _; simp; exact rfl
  | succ n ih =>
    intro ts vs h
    cases ts with
    | nil => cases h; exact rfl
    | cons t ts =>
      obtain ⟨v, r, rfl, h1, h2⟩ := h
      exact ⟨v, _, rfl, h1, ih h2⟩
theorem RepL.drop {p : Pl} {H : Hp} (n : Nat) : ∀ {ts : List T} {vs : List V}, RepL K mg p H ts vs → RepL K mg p H (ts.drop n) (vs.drop n) := by
  induction n with
  | zero => intro ts vs h; exact h
  | succ n ih =>
    intro ts vs h
    cases ts with
    | nil => cases h; exact rfl
    | cons t ts =>
      obtain ⟨v, r, rfl, h1, h2⟩ := h
      exact ih h2
theorem RepL.set {p : Pl} {H : Hp} {t : T} {v : V} (hr : Rep K mg p H t v) : ∀ {ts : List T} {vs : List V} (n : Nat), RepL K mg p H ts vs → RepL K mg p H (ts.set n t) (vs.set n v)
  | [], _, _, h => by cases h; exact rfl
  | t :: ts, _, 0, h => by
    obtain ⟨v, r, rfl, h1, h2⟩ := h
    exact ⟨_, _, rfl, hr, h2⟩
  | t :: ts, _, n + 1, h => by
    obtain ⟨v, r, rfl, h1, h2⟩ := h
    exact ⟨_, _, rfl, h1, RepL.set hr n h2⟩
theorem RepL.ints {p : Pl} {H : Hp} : ∀ {ns : List Int} {vs : List V}, RepL K mg p H (ns.map T.int) vs → vs = ns.map V.int
  | [], _, h => h
  | n :: ns, _, h => by
    obtain ⟨v, r, rfl, h1, h2⟩ := h
    rw [show v = V.int n from h1, RepL.ints h2]; rfl
theorem RepL.of_ints {p : Pl} {H : Hp} : ∀ {ns : List Int}, RepL K mg p H (ns.map T.int) (ns.map V.int)
  | [] => rfl
  | n :: ns => ⟨_, _, rfl, rfl, RepL.of_ints⟩
theorem RepL.bls {p : Pl} {H : Hp} : ∀ {ns : List Bool} {vs : List V}, RepL K mg p H (ns.map T.bl) vs → vs = ns.map V.bl
  | [], _, h => h
  | n :: ns, _, h => by
    obtain ⟨v, r, rfl, h1, h2⟩ := h
    rw [show v = V.bl n from h1, RepL.bls h2]; rfl

/-- the pairs of a dict -/
def RepKv (K : PySem.W.Frag) (mg : Str → Option Value) (p : Pl) (H : Hp) : List (Key × T) → List (Key × V) → Prop
  | [], vs => vs = []
  | (k, t) :: ts, vs => ∃ v r, vs = (k, v) :: r ∧ Rep K mg p H t v ∧ RepKv K mg p H ts r
theorem RepKv.stp {p q : Pl} {H H1 : Hp} (a : Stp p H q H1) : ∀ {t : List (Key × T)} {v : List (Key × V)}, RepKv K mg p H t v → RepKv K mg q H1 t v
  | [], _, h => h
  | (k, t) :: ts, _, h => by
    obtain ⟨v, r, e, h1, h2⟩ := h
    exact ⟨v, r, e, Rep.stp a h1, RepKv.stp a h2⟩
/-- an object of the store -/
def RepO (K : PySem.W.Frag) (mg : Str → Option Value) (p : Pl) (H : Hp) (a : Addr) : Ob → Prop
  | .lst ts => ∃ vs, H a = some (.lst vs) ∧ RepL K mg p H ts vs
  | .dK kvs => ∃ vs, H a = some (.dK vs) ∧ RepKv K mg p H kvs vs
end
theorem RepO.soft {K : PySem.W.Frag} {mg : Str → Option Value} {p : Pl} {H : Hp} {a : Addr} {o : Ob} (h : RepO K mg p H a o) : ∃ u, Soft u ∧ H a = some u := by
  cases o with
  | lst ts => obtain ⟨vs, e, _⟩ := h; exact ⟨_, soft_lst, e⟩
  | dK ts => obtain ⟨vs, e, _⟩ := h; exact ⟨_, soft_dK, e⟩
structure RelS (K : PySem.W.Frag) (mg : Str → Option Value) (W : XW) (p : Pl) (H : Hp) (S : Sto) : Prop where
  len : p.mu.length = S.length
  nd : p.mu.Nodup
  ob : ∀ (n : Nat) o, S[n]? = some o → ∃ a, p.mu[n]? = some a ∧ RepO K mg p H a o
  de : ∀ b ∈ p.de, b ∉ p.mu ∧ ∃ o, NT o ∧ H b = some o
  tabs : LamX.Tabs W.tb H
  pst : ∀ q H', Stp p H q H' → W.J q.mu q.de H'
structure RelE (K : PySem.W.Frag) (mg : Str → Option Value) (W : XW) (p : Pl) (H : Hp) (σ : L2.St) (ρ : Ro) : Prop where
  len : σ.length = ρ.length
  at_ : ∀ (i : Nat) t, ρ[i]? = some (some t) → ∃ v, σ[i]? = some (some v) ∧ Rep K mg p H t v
  hs : ∀ j a, W.hs = some (j, a) → ρ[j]? = some (some .mark) → σ[j]? = some (some (.ref a))
section
variable {K : PySem.W.Frag} {mg : Str → Option Value} {W : XW}
theorem RelE.stp {p q : Pl} {H H1 : Hp} (a : Stp p H q H1) {σ : L2.St} {ρ : Ro} (h : RelE K mg W p H σ ρ) : RelE K mg W q H1 σ ρ :=
  ⟨h.len, fun i t e => let ⟨v, e1, r⟩ := h.at_ i t e; ⟨v, e1, r.stp a⟩, h.hs⟩
theorem RelE.set {p : Pl} {H : Hp} {σ : L2.St} {ρ : Ro} {t : T} {v : V} (h : RelE K mg W p H σ ρ) (r : Rep K mg p H t v) (i : Nat) (ho : W.off i) : RelE K mg W p H (σ.set i (some v)) (ρ.set i (some t)) := by
  refine ⟨by simp [h.len], fun j u e => ?_, fun j a e m => by rw [List.getElem?_set_ne (ho j a e)]; exact h.hs j a e (by rw [List.getElem?_set_ne (ho j a e)] at m; exact m)⟩
  by_cases hj : i = j
  · subst hj
    by_cases hi : i < ρ.length
    · rw [List.getElem?_set_self hi] at e
      cases e
      exact ⟨v, by rw [List.getElem?_set_self (by rw [h.len]; exact hi)], r⟩
    · rw [List.getElem?_eq_none (by simp; omega)] at e
      cases e
  · rw [List.getElem?_set_ne hj] at e ⊢
    exact h.at_ j u e
theorem RepO.some {p : Pl} {H : Hp} {a : Addr} {o : Ob} (h : RepO K mg p H a o) : H a ≠ none := by
  obtain ⟨u, _, e⟩ := h.soft
  rw [e]; exact fun z => nomatch z
theorem RelS.there {p : Pl} {H : Hp} {S : Sto} (R : RelS K mg W p H S) {b : Addr} (h : b ∈ p.mu) : ∃ u, Soft u ∧ H b = Option.some u := by
  obtain ⟨n, hn, e⟩ := List.mem_iff_getElem.mp h
  obtain ⟨a, e1, r⟩ := R.ob n (S[n]'(by rw [← R.len]; exact hn)) (List.getElem?_eq_getElem _)
  rw [List.getElem?_eq_getElem hn, e] at e1
  cases e1
  exact r.soft
/-- a new address is none of ours -/
theorem RelS.new {p : Pl} {H : Hp} {S : Sto} (R : RelS K mg W p H S) {b : Addr} (h : H b = none) : b ∉ p.mu ∧ b ∉ p.de :=
  ⟨fun z => (by obtain ⟨u, _, e⟩ := R.there z; rw [h] at e; cases e), fun z => (by obtain ⟨_, u, _, e⟩ := R.de b z; rw [h] at e; cases e)⟩
/-- what is not soft is none of ours -/
theorem RelS.hard {p : Pl} {H : Hp} {S : Sto} (R : RelS K mg W p H S) {b : Addr} {f : Heap → Prop} (h : H b = Option.some (.ext f)) : b ∉ p.mu := fun z => by
  obtain ⟨u, so, e⟩ := R.there z
  rw [h] at e
  cases e
  exact so.ext _ rfl
/-- a new object, not ours to change -/
theorem Stp.upd {p : Pl} {H : Hp} {b : Addr} {o : HO} (h : H b = none) : Stp p H p (upd H b o) :=
  ⟨⟨[], by simp, fun _ h => nomatch h⟩, rfl, fun c xs e => by rw [upd_ne (ne_of_none e h)]; exact e, fun c ob u e => by rw [upd_ne (ne_of_none e h)]; exact e,
    fun c ob _ _ e => by rw [upd_ne (ne_of_none e h)]; exact e, fun c ob n e => ⟨ob, n, by rw [upd_ne (ne_of_none e h)]; exact e⟩⟩
theorem RepO.stp {p q : Pl} {H H1 : Hp} (a : Stp p H q H1) {c : Addr} {o : Ob} (e : H1 c = H c) (h : RepO K mg p H c o) : RepO K mg q H1 c o := by
  cases o with
  | lst ts => obtain ⟨vs, e1, r⟩ := h; exact ⟨vs, e.trans e1, r.stp a⟩
  | dK ts => obtain ⟨vs, e1, r⟩ := h; exact ⟨vs, e.trans e1, r.stp a⟩
theorem RelS.deS {p q : Pl} {H H1 : Hp} {S : Sto} (R : RelS K mg W p H S) (a : Stp p H q H1) : ∀ b ∈ q.de, b ∉ q.mu ∧ ∃ o, NT o ∧ H1 b = Option.some o := fun b hb => by
  rw [a.de] at hb
  obtain ⟨h1, o, n, e⟩ := R.de b hb
  exact ⟨a.off h1 n e, a.al b o n e⟩
theorem RelS.pstS {p q : Pl} {H H1 : Hp} {S : Sto} (R : RelS K mg W p H S) (a : Stp p H q H1) : ∀ r H', Stp q H1 r H' → W.J r.mu r.de H' := fun r H' b => R.pst r H' (a.trans b)
theorem RelS.stp {p : Pl} {H H1 : Hp} {S : Sto} (R : RelS K mg W p H S) (a : Stp p H p H1) (tb : LamX.Tabs W.tb H1) (k : ∀ c ∈ p.mu, H1 c = H c) : RelS K mg W p H1 S :=
  ⟨R.len, R.nd, fun n o e => let ⟨c, e1, r⟩ := R.ob n o e; ⟨c, e1, r.stp a (k c (List.mem_of_getElem? e1))⟩, R.deS a, tb, R.pstS a⟩
theorem tabs_upd {T : List (Addr × Str)} {H : Hp} {b : Addr} {o : HO} (t : LamX.Tabs T H) (h : H b = none) : LamX.Tabs T (L2.upd H b o) := t.ext fun c u e => by rw [upd_ne (ne_of_none e h)]; exact e
theorem tabs_write {T : List (Addr × Str)} {H : Hp} {b : Addr} {o o' : HO} (t : LamX.Tabs T H) (h : H b = Option.some o) (so : Soft o) : LamX.Tabs T (L2.upd H b o') := fun p hp => by
  obtain ⟨ps, h1, h2, h3⟩ := t p hp
  refine ⟨ps, ?_, h2, fun pos cv hc => ?_⟩
  · rw [upd_ne fun z => so.tbl ps (by rw [z, h] at h1; exact Option.some.inj h1)]; exact h1
  · obtain ⟨c, e1, e2⟩ := h3 pos cv hc
    exact ⟨c, e1, by rw [upd_ne fun z => so.ext _ (by rw [z, h] at e2; exact Option.some.inj e2)]; exact e2⟩
theorem RelS.upd {p : Pl} {H : Hp} {S : Sto} (R : RelS K mg W p H S) {b : Addr} {o : HO} (h : H b = none) : RelS K mg W p (upd H b o) S :=
  R.stp (Stp.upd h) (tabs_upd R.tabs h) fun c hc => upd_ne fun z => (R.new h).1 (z ▸ hc)
/-- a new object of the store -/
theorem Stp.push {p : Pl} {H : Hp} {b : Addr} {o : HO} (h : H b = none) : Stp p H ⟨p.mu ++ [b], p.de⟩ (L2.upd H b o) := by
  have a := Stp.upd (p := p) (o := o) h
  exact ⟨⟨[b], rfl, fun c hc u e => by rw [List.mem_singleton.mp hc, h] at e; cases e⟩, rfl, a.tup, a.frz, a.kp, a.al⟩
theorem RelS.push {p : Pl} {H : Hp} {S : Sto} (R : RelS K mg W p H S) {b : Addr} {o : HO} {ob : Ob} (h : H b = none) (r : RepO K mg ⟨p.mu ++ [b], p.de⟩ (L2.upd H b o) b ob) : RelS K mg W ⟨p.mu ++ [b], p.de⟩ (L2.upd H b o) (S ++ [ob]) := by
  have a := Stp.push (p := p) (o := o) h
  have nb := (R.new h)
  refine ⟨by simp [R.len], ?_, fun n u e => ?_, R.deS a, tabs_upd R.tabs h, R.pstS a⟩
  · refine List.nodup_append.mpr ⟨R.nd, by simp, fun x hx y hy => ?_⟩
    rw [List.mem_singleton.mp hy]
    exact fun z => nb.1 (z ▸ hx)
  · by_cases hn : n < S.length
    · rw [List.getElem?_append_left hn] at e
      obtain ⟨c, e1, q⟩ := R.ob n u e
      refine ⟨c, by rw [List.getElem?_append_left (by rw [R.len]; exact hn)]; exact e1, q.stp a (upd_ne fun z => nb.1 (z ▸ List.mem_of_getElem? e1))⟩
    · have hn' : n = S.length := by
        have := (List.getElem?_eq_some_iff.mp e).1
        simp at this; omega
      subst hn'
      rw [List.getElem?_append_right (Nat.le_refl _)] at e
      simp at e
      subst e
      refine ⟨b, by rw [List.getElem?_append_right (by rw [R.len]; exact Nat.le_refl _)]; simp [R.len], r⟩
/-- an object of the store is changed -/
theorem Stp.write {p : Pl} {H : Hp} {b : Addr} {o o' : HO} (hb : b ∈ p.mu) (h : H b = Option.some o) (so : Soft o) (so' : Soft o') : Stp p H p (L2.upd H b o') := by
  refine ⟨⟨[], by simp, fun _ h => nomatch h⟩, rfl, fun c xs e => ?_, fun c ob u e => ?_, fun c ob n1 _ e => ?_, fun c ob n e => ?_⟩
  · by_cases hc : c = b
    · subst hc; rw [h] at e; cases e; exact absurd rfl (so.tup xs)
    · rw [upd_ne hc]; exact e
  · by_cases hc : c = b
    · subst hc; rw [h] at e; cases e; exact absurd rfl (so.frz ob u)
    · rw [upd_ne hc]; exact e
  · rw [upd_ne fun z => n1 (by rw [z]; exact hb)]; exact e
  · by_cases hc : c = b
    · subst hc; exact ⟨o', so'.tbl, upd_same⟩
    · exact ⟨ob, n, by rw [upd_ne hc]; exact e⟩
theorem RelS.write {p : Pl} {H : Hp} {S : Sto} (R : RelS K mg W p H S) {n : Nat} {b : Addr} {o o' : HO} {ob : Ob} (hb : p.mu[n]? = Option.some b) (h : H b = Option.some o) (so : Soft o) (so' : Soft o')
    (r : RepO K mg p (L2.upd H b o') b ob) : RelS K mg W p (L2.upd H b o') (S.set n ob) := by
  have a := Stp.write (o' := o') (List.mem_of_getElem? hb) h so so'
  refine ⟨by simp [R.len], R.nd, fun m u e => ?_, R.deS a, tabs_write R.tabs h so, R.pstS a⟩
  by_cases hm : n = m
  · subst hm
    have hn : n < S.length := by rw [← R.len]; exact (List.getElem?_eq_some_iff.mp hb).1
    rw [List.getElem?_set_self hn] at e
    cases e
    exact ⟨b, hb, r⟩
  · rw [List.getElem?_set_ne hm] at e
    obtain ⟨c, e1, q⟩ := R.ob m u e
    refine ⟨c, e1, q.stp a (upd_ne fun z => hm ?_)⟩
    subst z
    exact nodup_ix' R.nd hb e1
where
  nodup_ix' {l : List Addr} (hN : l.Nodup) {i j : Nat} {x : Addr} (a : l[i]? = Option.some x) (b : l[j]? = Option.some x) : i = j := by
    obtain ⟨h1, e1⟩ := List.getElem?_eq_some_iff.mp a
    obtain ⟨h2, e2⟩ := List.getElem?_eq_some_iff.mp b
    exact (List.getElem_inj hN).mp (e1.trans e2.symm)
end
end Mi


set_option Elab.async false
set_option linter.all false
set_option maxRecDepth 100000
namespace Mi
open PySem PySem.Spec PyProof.Rows L2

/-- what a piece of text comes to -/
inductive Out (α : Type) where
  | ok (a : α) (S : Sto)
  | exc (c : Str) (fs : List (Str × T)) (S : Sto)
  | no
def Out.bind {α β : Type} (o : Out α) (f : α → Sto → Out β) : Out β := match o with
  | .ok a S => f a S
  | .exc c fs S => .exc c fs S
  | .no => .no
/-- the flow behind a statement -/
inductive Fl where
  | nx (ρ : Ro) | rt (t : T) | bk (ρ : Ro) | ct (ρ : Ro)

section
variable (K : PySem.W.Frag) (mg : Str → Option Value)
def RepF (p : Pl) (H : Hp) : List (Str × T) → List (Str × V) → Prop
  | [], vs => vs = []
  | (k, t) :: ts, vs => ∃ v r, vs = (k, v) :: r ∧ Rep K mg p H t v ∧ RepF p H ts r
/-- what is wanted behind a piece -/
def PO {α : Type} (W : XW) (p : Pl) (H : Hp) (o : Out α) (R : α → Pl → Hp → Prop) : Prop := match o with
  | .ok a S => ∀ q H', Stp p H q H' → RelS K mg W q H' S → R a q H'
  | .exc c fs S => ∀ q H' C d fvs, Stp p H q H' → RelS K mg W q H' S → mg c = some (.ref C) → H' d = some (.xd fvs) → d ∉ q.mu → d ∉ q.de → RepF K mg q H' fs fvs → W.x (.ref C) (some d) H'
  | .no => False
def RV (Q : VK) : T → Pl → Hp → Prop := fun t q H' => ∀ v, Rep K mg q H' t v → Q v H'
def RB (Q : Bool → Hp → Prop) : Bool → Pl → Hp → Prop := fun b _ H' => Q b H'
def RA (Q : List V → Hp → Prop) : List T → Pl → Hp → Prop := fun ts q H' => ∀ vs, RepL K mg q H' ts vs → Q vs H'
def RD (W : XW) (D : Ends) : Fl → Pl → Hp → Prop := fun fl q H' => match fl with
  | .nx ρ => ∀ σ, RelE K mg W q H' σ ρ → D.nx σ H'
  | .rt t => ∀ v, Rep K mg q H' t v → D.rt v H'
  | .bk ρ => ∀ σ, RelE K mg W q H' σ ρ → D.bk σ H'
  | .ct ρ => ∀ σ, RelE K mg W q H' σ ρ → D.ct σ H'
def RG (W : XW) (Q : L2.St → Hp → Prop) : Ro → Pl → Hp → Prop := fun ρ q H' => ∀ σ, RelE K mg W q H' σ ρ → Q σ H'
/-- where a piece begins -/
def At {α : Type} (W : XW) (f : Ro → Sto → Out α) (R : α → Pl → Hp → Prop) (σ : L2.St) (H : Hp) : Prop :=
  ∃ p ρ S, RelS K mg W p H S ∧ RelE K mg W p H σ ρ ∧ PO K mg W p H (f ρ S) R
end
section
variable {K : PySem.W.Frag} {mg : Str → Option Value} {W : XW} {p q : Pl} {H H1 : Hp}
theorem PO.stp {α : Type} {o : Out α} {R : α → Pl → Hp → Prop} (a : Stp p H q H1) (h : PO K mg W p H o R) : PO K mg W q H1 o R := by
  cases o with
  | ok x S => exact fun r H' b => h r H' (a.trans b)
  | exc c fs S => exact fun r H' C d fvs b => h r H' C d fvs (a.trans b)
  | no => exact h
theorem PO.imp {α : Type} {o : Out α} {R R' : α → Pl → Hp → Prop} (h : PO K mg W p H o R) (k : ∀ a S q H', o = .ok a S → Stp p H q H' → RelS K mg W q H' S → R a q H' → R' a q H') : PO K mg W p H o R' := by
  cases o with
  | ok x S => exact fun r H' b c => k x S r H' rfl b c (h r H' b c)
  | exc c fs S => exact h
  | no => exact h
theorem PO.bind {α β : Type} {o : Out α} {f : α → Sto → Out β} {R : β → Pl → Hp → Prop} {R' : α → Pl → Hp → Prop} (h : PO K mg W p H (o.bind f) R)
    (k : ∀ a S q H', Stp p H q H' → RelS K mg W q H' S → PO K mg W q H' (f a S) R → R' a q H') : PO K mg W p H o R' := by
  cases o with
  | ok x S => exact fun r H' b c => k x S r H' b c (PO.stp b (show PO K mg W p H (f x S) R from h))
  | exc c fs S => exact h
  | no => exact h
/-- at once -/
theorem PO.now {α : Type} {a : α} {S : Sto} {R : α → Pl → Hp → Prop} (h : PO K mg W p H (.ok a S) R) (r : RelS K mg W p H S) : R a p H := h p H .refl r
theorem PO.of {α : Type} {a : α} {S : Sto} {R : α → Pl → Hp → Prop} (h : PO K mg W p H (.ok a S) R) {q : Pl} {H' : Hp} (b : Stp p H q H') (r : RelS K mg W q H' S) : R a q H' := h q H' b r
end

theorem po_val {K : PySem.W.Frag} {mg : Str → Option Value} {W : XW} {p : Pl} {H : Hp} {Q : VK} {S : Sto} (t : T) {v : V} (o : PO K mg W p H (.ok t S) (RV K mg Q)) (r : RelS K mg W p H S) (rv : Rep K mg p H t v) : Q v H := o.now r v rv
theorem po_b {K : PySem.W.Frag} {mg : Str → Option Value} {W : XW} {p : Pl} {H : Hp} {Q : Bool → Hp → Prop} {S : Sto} (t : Bool) (o : PO K mg W p H (.ok t S) (RB Q)) (r : RelS K mg W p H S) : Q t H := o.now r
/-! ### the judgements -/
def DE (X : Cx) (W : XW) (e : Expr) (f : Ro → Sto → Out T) : Prop := PE X e fun σ H Q => At X.K X.mg W f (RV X.K X.mg Q) σ H
def DT (X : Cx) (W : XW) (e : Expr) (f : Ro → Sto → Out Bool) : Prop := PT X e fun σ H Q => At X.K X.mg W f (RB Q) σ H
def DW (X : Cx) (W : XW) (e : Expr) (f : Ro → Sto → Out Bool) : Prop := PW X e fun σ H Q => At X.K X.mg W f (RB Q) σ H
def DA (X : Cx) (W : XW) (es : List Expr) (f : Ro → Sto → Out (List T)) : Prop := PA X es fun σ H Q => At X.K X.mg W f (RA X.K X.mg Q) σ H
def DS (X : Cx) (W : XW) (st : Stmt) (f : Ro → Sto → Out Fl) : Prop := PS X st fun D σ H => At X.K X.mg W f (RD X.K X.mg W D) σ H
def DSs (X : Cx) (W : XW) (st : List Stmt) (f : Ro → Sto → Out Fl) : Prop := PSs X st fun D σ H => At X.K X.mg W f (RD X.K X.mg W D) σ H
theorem PE.imp {X : Cx} {e : Expr} {t t' : TE} (h : PE X e t) (k : ∀ σ H Q, t' σ H Q → t σ H Q) : PE X e t' := ⟨fun pins s σ H Q I q => h.run pins s σ H Q I (k σ H Q q)⟩
theorem PT.imp {X : Cx} {e : Expr} {t t' : TT} (h : PT X e t) (k : ∀ σ H Q, t' σ H Q → t σ H Q) : PT X e t' := ⟨fun pins s σ H Q I q => h.run pins s σ H Q I (k σ H Q q)⟩
theorem PW.imp {X : Cx} {e : Expr} {t t' : TT} (h : PW X e t) (k : ∀ σ H Q, t' σ H Q → t σ H Q) : PW X e t' := ⟨fun wh pins s σ H Q I q => h.run wh pins s σ H Q I (k σ H Q q)⟩
theorem PA.imp {X : Cx} {e : List Expr} {t t' : TA} (h : PA X e t) (k : ∀ σ H Q, t' σ H Q → t σ H Q) : PA X e t' := ⟨fun ps pins s σ H Q I q => h.run ps pins s σ H Q I (k σ H Q q)⟩
theorem PS.imp {X : Cx} {e : Stmt} {t t' : TS} (h : PS X e t) (k : ∀ D σ H, t' D σ H → t D σ H) : PS X e t' := ⟨fun pins s σ H D I q => h.run pins s σ H D I (k D σ H q)⟩
theorem PSs.imp {X : Cx} {e : List Stmt} {t t' : TS} (h : PSs X e t) (k : ∀ D σ H, t' D σ H → t D σ H) : PSs X e t' := ⟨fun pins s σ H D I q => h.run pins s σ H D I (k D σ H q)⟩

section
variable {X : Cx} {W : XW}
theorem At.bind {K : PySem.W.Frag} {mg : Str → Option Value} {α β : Type} {f : Ro → Sto → Out α} {g : Ro → α → Sto → Out β} {R : β → Pl → Hp → Prop} {R' : α → Pl → Hp → Prop} {σ : L2.St} {H : Hp}
    (h : At K mg W (fun ρ S => (f ρ S).bind (g ρ)) R σ H) (k : ∀ ρ a S q H', RelS K mg W q H' S → RelE K mg W q H' σ ρ → PO K mg W q H' (g ρ a S) R → R' a q H') : At K mg W f R' σ H := by
  obtain ⟨p, ρ, S, rs, re, o⟩ := h
  exact ⟨p, ρ, S, rs, re, PO.bind o fun a S1 q H' b c d => k ρ a S1 q H' c (re.stp b) d⟩

/-! ### names, constants -/
def vF (i : Nat) : Ro → Sto → Out T := fun ρ S => match ρ[i]? with
  | some (some t) => .ok t S
  | _ => .no
theorem d_var (i : Nat) {x : Str} {pos : Pos} (hN : X.N[i]? = some x := by rfl) (hv : Vis X.env.scope x := by first | exact Or.inl rfl | exact Or.inr (Or.inl rfl) | exact Or.inr (Or.inr rfl)) (hd : (x == ("__debug__" : Str)) = false := by decide)
    (hcd : (x == ("__classdict__" : Str)) = false := by decide) : DE X W (.Name x pos) (vF i) := by
  refine PE.imp (pe_var hN hv hd hcd) fun σ H Q ⟨p, ρ, S, rs, re, o⟩ => ?_
  unfold vF at o
  cases e : ρ[i]? with
  | none => rw [e] at o; exact o.elim
  | some t =>
    cases t with
    | none => rw [e] at o; exact o.elim
    | some t =>
      rw [e] at o
      obtain ⟨v, e1, r⟩ := re.at_ i t e
      exact ⟨v, e1, o.now rs v r⟩
def cF (t : T) : Ro → Sto → Out T := fun _ S => .ok t S
theorem d_const {e : Expr} {t : T} {v : V} (h : PE X e (tC v)) (r : ∀ p H, Rep X.K X.mg p H t v) : DE X W e (cF t) :=
  PE.imp h fun _ _ _ ⟨p, _, _, rs, _, o⟩ => PO.now (show PO X.K X.mg W p _ (.ok t _) _ from o) rs v (r _ _)
theorem d_int {i : Int} {j : Nat} {pos : Pos} : DE X W (.Constant (.int i) j pos) (cF (.int i)) := d_const pe_int fun _ _ => rfl
theorem d_bl {i : Bool} {j : Nat} {pos : Pos} : DE X W (.Constant (.bool i) j pos) (cF (.bl i)) := d_const pe_bl fun _ _ => rfl
theorem d_non {j : Nat} {pos : Pos} : DE X W (.Constant .none j pos) (cF .non) := d_const pe_non fun _ _ => rfl
theorem d_str {i : Str} {j : Nat} {pos : Pos} : DE X W (.Constant (.str i) j pos) (cF (.str i)) := d_const pe_str fun _ _ => rfl
theorem d_gint {x : Str} {i : Int} {tk : Tok} {pos : Pos} (hg : Gl X x) (hm : X.mg x = some (.int i tk)) (hd : (x == ("__debug__" : Str)) = false := by decide) : DE X W (.Name x pos) (cF (.int i)) := d_const (pe_glob hg hm (v := .int i) ⟨tk, rfl⟩ hd) fun _ _ => rfl
theorem d_gstr {x : Str} {i : Str} {tk : Tok} {pos : Pos} (hg : Gl X x) (hm : X.mg x = some (.str i tk)) (hd : (x == ("__debug__" : Str)) = false := by decide) : DE X W (.Name x pos) (cF (.str i)) := d_const (pe_glob hg hm (v := .str i) ⟨tk, rfl⟩ hd) fun _ _ => rfl
theorem d_gref {x : Str} {a : Addr} {pos : Pos} (hg : Gl X x) (hm : X.mg x = some (.ref a)) (hd : (x == ("__debug__" : Str)) = false := by decide) : DE X W (.Name x pos) (cF (.glob x)) := d_const (pe_glob hg hm (v := .ref a) rfl hd) fun _ _ => ⟨a, rfl, hm⟩

/-! ### two places -/
/-- a rule by values serves a function over trees -/
def OpG (K : PySem.W.Frag) (mg : Str → Option Value) (r : R2) (g : T → T → Sto → Out T) : Prop :=
  ∀ (W : XW) p H S x y vx vy Q, RelS K mg W p H S → Rep K mg p H x vx → Rep K mg p H y vy → PO K mg W p H (g x y S) (RV K mg Q) → r vx vy H Q
theorem OpG.or {K : PySem.W.Frag} {mg : Str → Option Value} {r r' : R2} {g : T → T → Sto → Out T} {c : T → T → Bool} (h : OpG K mg r fun x y S => if c x y then g x y S else .no) (h' : OpG K mg r' fun x y S => if c x y then .no else g x y S) :
    OpG K mg (fun x y H Q => r x y H Q ∨ r' x y H Q) g := fun W p H S x y vx vy Q rs rx ry o => by
  cases e : c x y with
  | true => exact .inl (h W p H S x y vx vy Q rs rx ry (by simp only [e]; exact o))
  | false => exact .inr (h' W p H S x y vx vy Q rs rx ry (by simp only [e]; exact o))
def bF (g : T → T → Sto → Out T) (fa fb : Ro → Sto → Out T) : Ro → Sto → Out T := fun ρ S => (fa ρ S).bind fun x S1 => (fb ρ S1).bind fun y S2 => g x y S2
theorem tOp_At {r : R2} {g : T → T → Sto → Out T} {fa fb : Ro → Sto → Out T} (hg : OpG X.K X.mg r g) {σ : L2.St} {H : Hp} {Q : VK} (h : At X.K X.mg W (bF g fa fb) (RV X.K X.mg Q) σ H) :
    tOp r (fun σ H Q => At X.K X.mg W fa (RV X.K X.mg Q) σ H) (fun σ H Q => At X.K X.mg W fb (RV X.K X.mg Q) σ H) σ H Q := by
  refine At.bind (g := fun ρ x S1 => (fb ρ S1).bind fun y S2 => g x y S2) h fun ρ x S1 q H1 rs re o v rv => ?_
  refine ⟨q, ρ, S1, rs, re, ?_⟩
  refine PO.bind o fun y S2 q2 H2 b rs2 o2 u ru => ?_
  exact hg W q2 H2 S2 x y v u Q rs2 (rv.stp b) ru o2
theorem d_op {a b : Expr} {op : Operator} {r : R2} {g : T → T → Sto → Out T} {fa fb : Ro → Sto → Out T} {pos : Pos} (ho : OpR X (binaryOp op) r) (hg : OpG X.K X.mg r g) (ha : DE X W a fa) (hb : DE X W b fb) : DE X W (.BinOp a op b pos) (bF g fa fb) :=
  PE.imp (pe_op ho ha hb) fun _ _ _ h => tOp_At hg h
theorem d_cmp {a b : Expr} {op : CmpOp} {r : R2} {g : T → T → Sto → Out T} {fa fb : Ro → Sto → Out T} {pos : Pos} (ho : OpR X (compareOp op) r) (hg : OpG X.K X.mg r g) (ha : DE X W a fa) (hb : DE X W b fb) (hm : behindInMarks op b = false) : DE X W (.Compare a [op] [b] pos) (bF g fa fb) :=
  PE.imp (pe_cmpR ho ha hb hm) fun _ _ _ h => tOp_At hg h
/-- a value that is a bool -/
def asB (o : Out T) : Out Bool := o.bind fun t S => match t with
  | .bl b => .ok b S
  | _ => .no
theorem d_cmpT {a b : Expr} {op : CmpOp} {r : R2} {g : T → T → Sto → Out T} {fa fb : Ro → Sto → Out T} {pos : Pos} (ho : OpR X (compareOp op) r) (hg : OpG X.K X.mg r g) (ha : DE X W a fa) (hb : DE X W b fb) (hm : behindInMarks op b = false) :
    DT X W (.Compare a [op] [b] pos) (fun ρ S => asB (bF g fa fb ρ S)) := by
  refine PT.imp (pt_cmpR ho ha hb hm) fun σ H Q h => ?_
  refine tOp_At (W := W) hg ?_
  refine At.bind (f := bF g fa fb) (g := fun _ t S => match t with | .bl b => .ok b S | _ => .no) h fun ρ t S q H1 rs re o v rv => ?_
  cases t with
  | bl b =>
    obtain rfl : v = V.bl b := rv
    exact ⟨b, rfl, PO.now (show PO X.K X.mg W q H1 (.ok b S) (RB Q) from o) rs⟩
  | _ => exact o.elim
end
end Mi


set_option Elab.async false
set_option linter.all false
set_option maxRecDepth 100000
namespace Mi
open PySem PySem.Spec PyProof.Rows L2

/-! ### lists, as trees or in the store -/
def lstAt (S : Sto) : T → Option (List T)
  | .lst ts => some ts
  | .ref n => match S[n]? with
    | some (.lst ts) => some ts
    | _ => none
  | _ => none
section
variable {K : PySem.W.Frag} {mg : Str → Option Value} {p : Pl} {H : Hp} {S : Sto}
theorem lst_at (R : RelS K mg W p H S) {t : T} {v : V} {ts : List T} (e : lstAt S t = some ts) (r : Rep K mg p H t v) : ∃ a vs, v = .ref a ∧ H a = some (.lst vs) ∧ RepL K mg p H ts vs := by
  cases t with
  | lst us =>
    obtain rfl : us = ts := Option.some.inj e
    obtain ⟨a, vs, e1, e2, _, _, e3⟩ := r
    exact ⟨a, vs, e1, e2, e3⟩
  | ref n =>
    obtain ⟨a, e1, e2⟩ := r
    cases q : S[n]? with
    | none => simp only [lstAt, q] at e; cases e
    | some o =>
      simp only [lstAt, q] at e
      cases o with
      | lst us =>
        obtain rfl : us = ts := Option.some.inj e
        obtain ⟨b, e3, vs, e4, e5⟩ := R.ob n _ q
        rw [e2] at e3; cases e3
        exact ⟨a, vs, e1, e4, e5⟩
      | dK _ => cases e
  | _ => cases e
/-- a new list or tuple that is a value -/
theorem Rep.newTup {vs : List V} {ts : List T} {b : Addr} (r : RepL K mg p H ts vs) (h : H b = none) : Rep K mg p (upd H b (.tup vs)) (.tup ts) (.ref b) :=
  ⟨b, vs, rfl, .inl (.inl upd_same), RepL.stp (Stp.upd h) r⟩
theorem Rep.newLst (R : RelS K mg W p H S) {vs : List V} {ts : List T} {b : Addr} (r : RepL K mg p H ts vs) (h : H b = none) : Rep K mg p (upd H b (.lst vs)) (.lst ts) (.ref b) :=
  ⟨b, vs, rfl, upd_same, (R.new h).1, (R.new h).2, RepL.stp (Stp.upd h) r⟩
theorem po_tup {W : XW} {Q : VK} {vs : List V} {ts : List T} {b : Addr} (o : PO K mg W p H (.ok (.tup ts) S) (RV K mg Q)) (R : RelS K mg W p H S) (r : RepL K mg p H ts vs) (h : H b = none) : Q (.ref b) (upd H b (.tup vs)) :=
  o.of (Stp.upd h) (R.upd h) _ (Rep.newTup r h)
theorem po_lst {W : XW} {Q : VK} {vs : List V} {ts : List T} {b : Addr} (o : PO K mg W p H (.ok (.lst ts) S) (RV K mg Q)) (R : RelS K mg W p H S) (r : RepL K mg p H ts vs) (h : H b = none) : Q (.ref b) (upd H b (.lst vs)) :=
  o.of (Stp.upd h) (R.upd h) _ (Rep.newLst R r h)
end

/-! ### sizes -/
def fit {α : Type} (n : Nat) (o : Out α) : Out α := match Nat.ble n 16777216 with
  | true => o
  | false => .no
theorem fit_pos {α : Type} {n : Nat} {o : Out α} (h : n ≤ 16777216) : fit n o = o := by
  unfold fit
  rw [Nat.ble_eq_true_of_le h]
theorem fit_po {K : PySem.W.Frag} {mg : Str → Option Value} {α : Type} {W : XW} {p : Pl} {H : Hp} {n : Nat} {o : Out α} {R : α → Pl → Hp → Prop} (h : PO K mg W p H (fit n o) R) : n ≤ sizeLine ∧ PO K mg W p H o R := by
  unfold fit at h
  cases e : Nat.ble n 16777216 with
  | true => rw [e] at h; exact ⟨by rw [sizeLine_eq]; exact Nat.le_of_ble_eq_true e, h⟩
  | false => rw [e] at h; exact h.elim
/-! ### arithmetic -/
def addG (x y : T) (S : Sto) : Out T := match x, y with
  | .int i, .int j => .ok (.int (i + j)) S
  | .str a, .str b => fit (a.length + b.length) (.ok (.str (a ++ b)) S)
  | .tup a, .tup b => fit (a.length + b.length) (.ok (.tup (a ++ b)) S)
  | a, b => match lstAt S a, lstAt S b with
    | some a, some b => fit (a.length + b.length) (.ok (.lst (a ++ b)) S)
    | _, _ => .no
def rAddAll (K : PySem.W.Frag) : R2 := fun x y H Q => rI0 (fun i j => .int (i + j)) x y H Q ∨ ((∃ i j, x = .str i ∧ y = .str j ∧ i.length + j.length ≤ sizeLine ∧ Q (.str (i ++ j)) H) ∨ (rCatA K x y H Q ∨ rCat x y H Q))
section
variable {X : Cx} {K : PySem.W.Frag} {mg : Str → Option Value}
theorem op_addAll : OpR X (binaryOp .Add) (rAddAll X.K) := op_add.or (op_add_str.or (op_catA.or op_cat))
theorem addG_lst {W : XW} {p : Pl} {H : Hp} {S : Sto} {x y : T} {vx vy : V} {Q : VK} (R : RelS K mg W p H S) (rx : Rep K mg p H x vx) (ry : Rep K mg p H y vy)
    (o : PO K mg W p H (match lstAt S x, lstAt S y with
      | some a, some b => fit (a.length + b.length) (.ok (.lst (a ++ b)) S)
      | _, _ => .no) (RV K mg Q)) : rAddAll K vx vy H Q := by
  cases e1 : lstAt S x with
  | none => rw [e1] at o; exact o.elim
  | some a =>
    cases e2 : lstAt S y with
    | none => rw [e1, e2] at o; exact o.elim
    | some b =>
      rw [e1, e2] at o
      obtain ⟨c, vs, rfl, h1, r1⟩ := lst_at R e1 rx
      obtain ⟨d, us, rfl, h2, r2⟩ := lst_at R e2 ry
      obtain ⟨hz, o⟩ := fit_po o
      refine .inr (.inr (.inr ⟨c, d, vs, us, rfl, rfl, h1, h2, by rw [r1.length, r2.length]; exact hz, fun q hq => ?_⟩))
      exact po_lst o R (r1.append r2) hq
theorem addG_ok : OpG K mg (rAddAll K) addG := fun W p H S x y vx vy Q R rx ry o => by
  cases x with
  | int i =>
    cases y with
    | int j =>
      obtain rfl : vx = .int i := rx
      obtain rfl : vy = .int j := ry
      exact .inl ⟨i, j, rfl, rfl, o.now R _ rfl⟩
    | _ => exact addG_lst R rx ry o
  | str a =>
    cases y with
    | str b =>
      obtain rfl : vx = .str a := rx
      obtain rfl : vy = .str b := ry
      obtain ⟨hz, o⟩ := fit_po o
      exact .inr (.inl ⟨a, b, rfl, rfl, hz, o.now R _ rfl⟩)
    | _ => exact addG_lst R rx ry o
  | tup a =>
    cases y with
    | tup b =>
      obtain ⟨c, vs, rfl, h1, r1⟩ := rx
      obtain ⟨d, us, rfl, h2, r2⟩ := ry
      obtain ⟨hz, o⟩ := fit_po o
      refine .inr (.inr (.inl ⟨c, d, vs, us, rfl, rfl, h1, h2, by rw [r1.length, r2.length]; exact hz, fun e => ?_, fun _ e => ?_, fun _ _ q hq => ?_⟩))
      · subst e
        have : a = [] := by cases a with
          | nil => rfl
          | cons _ _ => have := r1.length; simp at this
        subst this
        exact o.now R _ ⟨d, us, rfl, h2, r2⟩
      · subst e
        have : b = [] := by cases b with
          | nil => rfl
          | cons _ _ => have := r2.length; simp at this
        subst this
        exact o.now R _ ⟨c, vs, rfl, h1, by simpa using r1⟩
      · exact po_tup o R (r1.append r2) hq
    | _ => exact addG_lst R rx ry o
  | _ => cases y <;> exact addG_lst R rx ry o
/-- two ints, where C holds -/
def iG (C : Int → Int → Prop) [∀ i j, Decidable (C i j)] (g : Int → Int → T) : T → T → Sto → Out T := fun x y S => match x, y with
  | .int i, .int j => if C i j then .ok (g i j) S else .no
  | _, _ => .no
theorem iG_ok {C : Int → Int → Prop} [∀ i j, Decidable (C i j)] {g : Int → Int → T} {gv : Int → Int → V} (h : ∀ p H i j, Rep K mg p H (g i j) (gv i j)) : OpG K mg (rI C gv) (iG C g) := fun W p H S x y vx vy Q R rx ry o => by
  cases x with
  | int i =>
    cases y with
    | int j =>
      obtain rfl : vx = .int i := rx
      obtain rfl : vy = .int j := ry
      simp only [iG] at o
      split at o
      · rename_i hz
        exact ⟨i, j, rfl, rfl, hz, o.now R _ (h _ _ _ _)⟩
      · exact o.elim
    | _ => exact o.elim
  | _ => cases y <;> exact o.elim
def i0G (g : Int → Int → T) : T → T → Sto → Out T := fun x y S => match x, y with
  | .int i, .int j => .ok (g i j) S
  | _, _ => .no
theorem i0G_ok {g : Int → Int → T} {gv : Int → Int → V} (h : ∀ p H i j, Rep K mg p H (g i j) (gv i j)) : OpG K mg (rI0 gv) (i0G g) := fun W p H S x y vx vy Q R rx ry o => by
  cases x with
  | int i =>
    cases y with
    | int j =>
      obtain rfl : vx = .int i := rx
      obtain rfl : vy = .int j := ry
      exact ⟨i, j, rfl, rfl, o.now R _ (h _ _ _ _)⟩
    | _ => exact o.elim
  | _ => cases y <;> exact o.elim
instance : ∀ i j, Decidable (CMul i j) := fun i j => by unfold CMul; infer_instance
instance : ∀ i j, Decidable (CDivN i j) := fun i j => by unfold CDivN; infer_instance
instance : ∀ i j, Decidable (CPow i j) := fun i j => by unfold CPow; infer_instance
def subG := i0G fun i j => .int (i - j)
def mulG := iG CMul fun i j => .int (i * j)
def fdivG := iG CDivN fun i j => .int (i.fdiv j)
def modG := iG (fun _ j => j ≠ 0) fun i j => .int (i.fmod j)
def powG := iG CPow fun i j => .int (i ^ j.toNat)
def ltG := i0G fun i j => .bl (decide (i < j))
def leG := i0G fun i j => .bl (decide (i ≤ j))
def gtG := i0G fun i j => .bl (decide (j < i))
def geG := i0G fun i j => .bl (decide (j ≤ i))
variable {W : XW} {a b : Expr} {fa fb : Ro → Sto → Out T} {pos : Pos}
theorem d_add (ha : DE X W a fa) (hb : DE X W b fb) : DE X W (.BinOp a .Add b pos) (bF addG fa fb) := d_op op_addAll addG_ok ha hb
theorem d_sub (ha : DE X W a fa) (hb : DE X W b fb) : DE X W (.BinOp a .Sub b pos) (bF subG fa fb) := d_op op_sub (i0G_ok fun _ _ _ _ => rfl) ha hb
theorem d_mul (ha : DE X W a fa) (hb : DE X W b fb) : DE X W (.BinOp a .Mult b pos) (bF mulG fa fb) := d_op op_mul (iG_ok fun _ _ _ _ => rfl) ha hb
theorem d_fdiv (ha : DE X W a fa) (hb : DE X W b fb) : DE X W (.BinOp a .FloorDiv b pos) (bF fdivG fa fb) := d_op op_fdivN (iG_ok fun _ _ _ _ => rfl) ha hb
theorem d_mod (ha : DE X W a fa) (hb : DE X W b fb) : DE X W (.BinOp a .Mod b pos) (bF modG fa fb) := d_op op_modN (iG_ok fun _ _ _ _ => rfl) ha hb
theorem d_pow (ha : DE X W a fa) (hb : DE X W b fb) : DE X W (.BinOp a .Pow b pos) (bF powG fa fb) := d_op op_pow (iG_ok fun _ _ _ _ => rfl) ha hb
theorem d_lt (ha : DE X W a fa) (hb : DE X W b fb) : DE X W (.Compare a [.Lt] [b] pos) (bF ltG fa fb) := d_cmp op_lt (i0G_ok fun _ _ _ _ => rfl) ha hb (nomark _)
theorem d_le (ha : DE X W a fa) (hb : DE X W b fb) : DE X W (.Compare a [.LtE] [b] pos) (bF leG fa fb) := d_cmp op_le (i0G_ok fun _ _ _ _ => rfl) ha hb (nomark _)
theorem d_gt (ha : DE X W a fa) (hb : DE X W b fb) : DE X W (.Compare a [.Gt] [b] pos) (bF gtG fa fb) := d_cmp op_gt (i0G_ok fun _ _ _ _ => rfl) ha hb (nomark _)
theorem d_ge (ha : DE X W a fa) (hb : DE X W b fb) : DE X W (.Compare a [.GtE] [b] pos) (bF geG fa fb) := d_cmp op_ge (i0G_ok fun _ _ _ _ => rfl) ha hb (nomark _)
theorem t_lt (ha : DE X W a fa) (hb : DE X W b fb) : DT X W (.Compare a [.Lt] [b] pos) (fun ρ S => asB (bF ltG fa fb ρ S)) := d_cmpT op_lt (i0G_ok fun _ _ _ _ => rfl) ha hb (nomark _)
theorem t_le (ha : DE X W a fa) (hb : DE X W b fb) : DT X W (.Compare a [.LtE] [b] pos) (fun ρ S => asB (bF leG fa fb ρ S)) := d_cmpT op_le (i0G_ok fun _ _ _ _ => rfl) ha hb (nomark _)
theorem t_gt (ha : DE X W a fa) (hb : DE X W b fb) : DT X W (.Compare a [.Gt] [b] pos) (fun ρ S => asB (bF gtG fa fb ρ S)) := d_cmpT op_gt (i0G_ok fun _ _ _ _ => rfl) ha hb (nomark _)
theorem t_ge (ha : DE X W a fa) (hb : DE X W b fb) : DT X W (.Compare a [.GtE] [b] pos) (fun ρ S => asB (bF geG fa fb ρ S)) := d_cmpT op_ge (i0G_ok fun _ _ _ _ => rfl) ha hb (nomark _)
/-- one place -/
def uF (g : T → Sto → Out T) (fa : Ro → Sto → Out T) : Ro → Sto → Out T := fun ρ S => (fa ρ S).bind g
def negG : T → Sto → Out T := fun x S => match x with
  | .int i => .ok (.int (-i)) S
  | _ => .no
theorem d_neg (ha : DE X W a fa) : DE X W (.UnaryOp .USub a pos) (uF negG fa) :=
  PE.imp (pe_un un_neg ha) fun _ _ _ h => At.bind (g := fun _ => negG) h fun ρ x S q H1 rs re o v rv => by
    cases x with
    | int i =>
      obtain rfl : v = .int i := rv
      exact ⟨i, rfl, po_val (T.int (-i)) o rs rfl⟩
    | _ => exact o.elim
end

/-! ### == and != -/
mutual
def dat : T → Option PyData
  | .non => some .none
  | .bl b => some (.bool b)
  | .int i => some (.int i)
  | .str x => some (.str x)
  | .tup ts => (datL ts).map .tuple
  | .lst ts => (datL ts).map .list
  | _ => none
def datL : List T → Option (List PyData)
  | [] => some []
  | t :: ts => match dat t, datL ts with
    | some d, some ds => some (d :: ds)
    | _, _ => none
end
def datAt (S : Sto) (t : T) : Option PyData := match t with
  | .ref n => match S[n]? with
    | some (.lst ts) => (datL ts).map .list
    | _ => none
  | t => dat t
section
variable {K : PySem.W.Frag} {mg : Str → Option Value} {p : Pl} {H : Hp} {S : Sto}
mutual
theorem dat_dp : ∀ {t : T} {v : V} {d : PyData}, dat t = some d → Rep K mg p H t v → Dp K H v d
  | .non, _, _, e, r => by cases e; rw [show _ = V.non from r]; exact .non
  | .bl b, _, _, e, r => by cases e; rw [show _ = V.bl b from r]; exact .bl b
  | .int b, _, _, e, r => by cases e; rw [show _ = V.int b from r]; exact .int b
  | .str b, _, _, e, r => by cases e; rw [show _ = V.str b from r]; exact .str b
  | .tup ts, _, _, e, r => by
    obtain ⟨a, vs, rfl, h1, r1⟩ := r
    unfold dat at e
    obtain ⟨ds, e1, rfl⟩ := Option.map_eq_some_iff.mp e
    exact .tup h1 (dat_dpL e1 r1)
  | .lst ts, _, _, e, r => by
    obtain ⟨a, vs, rfl, h1, _, _, r1⟩ := r
    unfold dat at e
    obtain ⟨ds, e1, rfl⟩ := Option.map_eq_some_iff.mp e
    exact .lst (SqL.of h1) (dat_dpL e1 r1)
  | .scr _, _, _, e, r => by cases e
  | .ref _, _, _, e, r => by cases e
  | .glob _, _, _, e, r => by cases e
  | .ty _, _, _, e, r => by cases e
theorem dat_dpL : ∀ {t : List T} {v : List V} {d : List PyData}, datL t = some d → RepL K mg p H t v → DpAll K H v d
  | [], _, _, e, r => by cases e; rw [show _ = ([] : List V) from r]; exact .nil
  | t :: ts, _, _, e, r => by
    obtain ⟨v, vs, rfl, r1, r2⟩ := r
    unfold datL at e
    cases e1 : dat t with
    | none => rw [e1] at e; cases e
    | some d =>
      cases e2 : datL ts with
      | none => rw [e1, e2] at e; cases e
      | some ds =>
        rw [e1, e2] at e
        cases e
        exact .cons (dat_dp e1 r1) (dat_dpL e2 r2)
end
theorem datAt_dp (R : RelS K mg W p H S) {t : T} {v : V} {d : PyData} (e : datAt S t = some d) (r : Rep K mg p H t v) : Dp K H v d := by
  cases t with
  | ref n =>
    obtain ⟨a, e1, e2⟩ := r
    unfold datAt at e
    cases q : S[n]? with
    | none => simp only [q] at e; cases e
    | some o =>
      cases o with
      | lst us =>
        simp only [q] at e
        obtain ⟨ds, e3, rfl⟩ := Option.map_eq_some_iff.mp e
        obtain ⟨b, e4, vs, e5, e6⟩ := R.ob n _ q
        rw [e2] at e4; cases e4
        subst e1
        exact .lst (SqL.of e5) (dat_dpL e3 e6)
      | dK _ => simp only [q] at e; cases e
  | _ => exact dat_dp e r
def eqG (neg : Bool) (x y : T) (S : Sto) : Out T := match datAt S x, datAt S y with
  | some d, some e => if SeqAt.shaped d = true ∧ SeqAt.shaped e = true then .ok (.bl (if neg then !PyData.eqv d e else PyData.eqv d e)) S else .no
  | _, _ => .no
theorem eqG_ok : OpG K mg (rEqD K) (eqG false) := fun W p H S x y vx vy Q R rx ry o => by
  unfold eqG at o
  cases e1 : datAt S x with
  | none => rw [e1] at o; exact o.elim
  | some d =>
    cases e2 : datAt S y with
    | none => rw [e1, e2] at o; exact o.elim
    | some e =>
      rw [e1, e2] at o
      simp only at o
      split at o
      · rename_i hz
        exact ⟨d, e, datAt_dp R e1 rx, datAt_dp R e2 ry, hz.1, hz.2, o.now R _ rfl⟩
      · exact o.elim
theorem neG_ok : OpG K mg (rNeD K) (eqG true) := fun W p H S x y vx vy Q R rx ry o => by
  unfold eqG at o
  cases e1 : datAt S x with
  | none => rw [e1] at o; exact o.elim
  | some d =>
    cases e2 : datAt S y with
    | none => rw [e1, e2] at o; exact o.elim
    | some e =>
      rw [e1, e2] at o
      simp only at o
      split at o
      · rename_i hz
        exact ⟨d, e, datAt_dp R e1 rx, datAt_dp R e2 ry, hz.1, hz.2, o.now R _ rfl⟩
      · exact o.elim
end
section
variable {X : Cx} {W : XW} {a b : Expr} {fa fb : Ro → Sto → Out T} {pos : Pos}
theorem d_eq (hu : X.A.units + 64 < cLine) (ha : DE X W a fa) (hb : DE X W b fb) : DE X W (.Compare a [.Eq] [b] pos) (bF (eqG false) fa fb) := d_cmp (op_eqD hu) eqG_ok ha hb (nomark _)
theorem d_ne (hu : X.A.units + 64 < cLine) (ha : DE X W a fa) (hb : DE X W b fb) : DE X W (.Compare a [.NotEq] [b] pos) (bF (eqG true) fa fb) := d_cmp (op_neD hu) neG_ok ha hb (nomark _)
theorem t_eq (hu : X.A.units + 64 < cLine) (ha : DE X W a fa) (hb : DE X W b fb) : DT X W (.Compare a [.Eq] [b] pos) (fun ρ S => asB (bF (eqG false) fa fb ρ S)) := d_cmpT (op_eqD hu) eqG_ok ha hb (nomark _)
theorem t_ne (hu : X.A.units + 64 < cLine) (ha : DE X W a fa) (hb : DE X W b fb) : DT X W (.Compare a [.NotEq] [b] pos) (fun ρ S => asB (bF (eqG true) fa fb ρ S)) := d_cmpT (op_neD hu) neG_ok ha hb (nomark _)
end
end Mi


set_option Elab.async false
set_option linter.all false
set_option maxRecDepth 100000
namespace Mi
open PySem PySem.Spec PyProof.Rows L2

/-! ### truth -/
def truAt (S : Sto) : T → Option Bool
  | .non => some false
  | .bl b => some b
  | .int i => some (i != 0)
  | .str y => match Nat.ble y.length 16777216 with
    | true => some ((y.length : Int) != 0)
    | false => none
  | .tup ts => some (!ts.isEmpty)
  | .lst ts => some (!ts.isEmpty)
  | .ref n => match S[n]? with
    | some (.lst ts) => some (!ts.isEmpty)
    | some (.dK ts) => some (!ts.isEmpty)
    | _ => none
  | _ => none
section
variable {K : PySem.W.Frag} {mg : Str → Option Value} {p : Pl} {H : Hp} {S : Sto}
theorem RepL.empty {ts : List T} {vs : List V} (r : RepL K mg p H ts vs) : vs.isEmpty = ts.isEmpty := by
  have := r.length
  cases ts <;> cases vs <;> simp_all
theorem RepKv.length : ∀ {ts : List (Key × T)} {vs : List (Key × V)}, RepKv K mg p H ts vs → vs.length = ts.length
  | [], _, h => by cases h; rfl
  | (k, t) :: ts, _, h => by
    obtain ⟨v, r, rfl, h1, h2⟩ := h
    simp [RepKv.length h2]
theorem tru_at (R : RelS K mg W p H S) {t : T} {v : V} {b : Bool} (e : truAt S t = some b) (r : Rep K mg p H t v) : TruV K v H b := by
  cases t with
  | non => cases e; rw [show v = V.non from r]; exact rfl
  | bl c => cases e; rw [show v = V.bl b from r]; exact rfl
  | int i => cases e; rw [show v = V.int i from r]; exact rfl
  | str y =>
    rw [show v = V.str y from r]
    simp only [truAt] at e
    split at e
    · rename_i h; cases e; exact ⟨by rw [sizeLine_eq]; exact Nat.le_of_ble_eq_true h, rfl⟩
    · cases e
  | tup ts =>
    obtain ⟨a, vs, rfl, h1, r1⟩ := r
    cases e
    exact .inr (.inl ⟨vs, h1, by rw [r1.empty]⟩)
  | lst ts =>
    obtain ⟨a, vs, rfl, h1, _, _, r1⟩ := r
    cases e
    exact .inl ⟨vs, SqL.of h1, by rw [r1.empty]⟩
  | ref n =>
    obtain ⟨a, rfl, e2⟩ := r
    cases q : S[n]? with
    | none => simp only [truAt, q] at e; cases e
    | some o =>
      simp only [truAt, q] at e
      obtain ⟨b, e4, ro⟩ := R.ob n _ q
      rw [e2] at e4; cases e4
      cases o with
      | lst us =>
        obtain ⟨vs, e5, e6⟩ := ro
        cases e
        exact .inl ⟨vs, SqL.of e5, by rw [e6.empty]⟩
      | dK us =>
        obtain ⟨vs, e5, e6⟩ := ro
        cases e
        refine .inr (.inr ⟨vs, e5, ?_⟩)
        have := e6.length
        cases us <;> cases vs <;> simp_all
  | _ => cases e
end
section
variable {X : Cx} {W : XW} {a b c : Expr} {fa fb fc : Ro → Sto → Out T} {ga gb gc : Ro → Sto → Out Bool} {pos : Pos} {rest : List Expr}
def truF (f : Ro → Sto → Out T) : Ro → Sto → Out Bool := fun ρ S => (f ρ S).bind fun t S1 => match truAt S1 t with
  | some b => .ok b S1
  | none => .no
/-- an expression as a test, by its truth -/
theorem t_of (ha : DE X W a fa) (he : ∀ whole, isTrue a X.env whole = (do let v ← whole; standAt a.pos; holding [v] (truthy v)) := by intro _; rfl) : DT X W a (truF fa) := by
  refine PT.imp (pt_truth ha he) fun σ H Q h => ?_
  refine At.bind (f := fa) (g := fun _ t S1 => match truAt S1 t with | some b => .ok b S1 | none => .no) h fun ρ t S q H1 rs re o v rv => ?_
  cases e : truAt S t with
  | none => rw [e] at o; exact o.elim
  | some b =>
    rw [e] at o
    exact ⟨b, tru_at rs e rv, po_b (Q := Q) b o rs⟩
def andF (ga gb : Ro → Sto → Out Bool) : Ro → Sto → Out Bool := fun ρ S => (ga ρ S).bind fun b S1 => match b with
  | true => gb ρ S1
  | false => .ok false S1
def orF (ga gb : Ro → Sto → Out Bool) : Ro → Sto → Out Bool := fun ρ S => (ga ρ S).bind fun b S1 => match b with
  | true => .ok true S1
  | false => gb ρ S1
def notF (ga : Ro → Sto → Out Bool) : Ro → Sto → Out Bool := fun ρ S => (ga ρ S).bind fun b S1 => .ok (!b) S1
theorem w_and1 (ha : DT X W a ga) : DW X W (.BoolOp .And [a] pos) ga := pw_and1 ha
theorem w_or1 (ha : DT X W a ga) : DW X W (.BoolOp .Or [a] pos) ga := pw_or1 ha
theorem w_and (ha : DT X W a ga) (hb : DW X W (.BoolOp .And (b :: rest) pos) gb) : DW X W (.BoolOp .And (a :: b :: rest) pos) (andF ga gb) :=
  PW.imp (pw_and ha hb) fun σ H Q h => At.bind (f := ga) h fun ρ b S q H1 rs re o => by
    cases b with
    | true => exact ⟨q, ρ, S, rs, re, o⟩
    | false => exact po_b (Q := Q) false o rs
theorem w_or (ha : DT X W a ga) (hb : DW X W (.BoolOp .Or (b :: rest) pos) gb) : DW X W (.BoolOp .Or (a :: b :: rest) pos) (orF ga gb) :=
  PW.imp (pw_or ha hb) fun σ H Q h => At.bind (f := ga) h fun ρ b S q H1 rs re o => by
    cases b with
    | true => exact po_b (Q := Q) true o rs
    | false => exact ⟨q, ρ, S, rs, re, o⟩
theorem t_w (ha : DW X W a ga) : DT X W a ga := PW.pt ha
theorem t_not (ha : DT X W a ga) : DT X W (.UnaryOp .Not a pos) (notF ga) :=
  PT.imp (pt_not ha) fun σ H Q h => At.bind (f := ga) (g := fun _ b S1 => .ok (!b) S1) h fun ρ b S q H1 rs re o => po_b (Q := Q) (!b) o rs
/-- .. as values -/
def andV (fa fb : Ro → Sto → Out T) : Ro → Sto → Out T := fun ρ S => (fa ρ S).bind fun t S1 => match truAt S1 t with
  | some true => fb ρ S1
  | some false => .ok t S1
  | none => .no
def orV (fa fb : Ro → Sto → Out T) : Ro → Sto → Out T := fun ρ S => (fa ρ S).bind fun t S1 => match truAt S1 t with
  | some true => .ok t S1
  | some false => fb ρ S1
  | none => .no
def notV (fa : Ro → Sto → Out T) : Ro → Sto → Out T := fun ρ S => (fa ρ S).bind fun t S1 => match truAt S1 t with
  | some b => .ok (T.bl (!b)) S1
  | none => .no
theorem d_one {op : BoolOp} (ha : DE X W a fa) : DE X W (.BoolOp op [a] pos) fa := pe_one ha
theorem d_and (ha : DE X W a fa) (hb : DE X W (.BoolOp .And (b :: rest) pos) fb) : DE X W (.BoolOp .And (a :: b :: rest) pos) (andV fa fb) :=
  PE.imp (pe_andT ha hb) fun σ H Q h => At.bind (f := fa) (g := fun ρ t S1 => match truAt S1 t with | some true => fb ρ S1 | some false => .ok t S1 | none => .no) h fun ρ t S q H1 rs re o v rv => by
    cases e : truAt S t with
    | none => rw [e] at o; exact o.elim
    | some b =>
      rw [e] at o
      refine ⟨b, tru_at rs e rv, ?_⟩
      cases b with
      | true => exact iteT ⟨q, ρ, S, rs, re, o⟩
      | false => exact iteF (po_val t o rs rv)
theorem d_or (ha : DE X W a fa) (hb : DE X W (.BoolOp .Or (b :: rest) pos) fb) : DE X W (.BoolOp .Or (a :: b :: rest) pos) (orV fa fb) :=
  PE.imp (pe_orT ha hb) fun σ H Q h => At.bind (f := fa) (g := fun ρ t S1 => match truAt S1 t with | some true => .ok t S1 | some false => fb ρ S1 | none => .no) h fun ρ t S q H1 rs re o v rv => by
    cases e : truAt S t with
    | none => rw [e] at o; exact o.elim
    | some b =>
      rw [e] at o
      refine ⟨b, tru_at rs e rv, ?_⟩
      cases b with
      | true => exact iteT (po_val t o rs rv)
      | false => exact iteF ⟨q, ρ, S, rs, re, o⟩
theorem d_not (ha : DE X W a fa) : DE X W (.UnaryOp .Not a pos) (notV fa) :=
  PE.imp (pe_notT ha) fun σ H Q h => At.bind (f := fa) (g := fun ρ t S1 => match truAt S1 t with | some b => .ok (T.bl (!b)) S1 | none => .no) h fun ρ t S q H1 rs re o v rv => by
    cases e : truAt S t with
    | none => rw [e] at o; exact o.elim
    | some b =>
      rw [e] at o
      exact ⟨b, tru_at rs e rv, po_val (.bl (!b)) o rs rfl⟩
def ifF (gc : Ro → Sto → Out Bool) (fa fb : Ro → Sto → Out T) : Ro → Sto → Out T := fun ρ S => (gc ρ S).bind fun b S1 => match b with
  | true => fa ρ S1
  | false => fb ρ S1
theorem d_if (hc : DT X W c gc) (ha : DE X W a fa) (hb : DE X W b fb) : DE X W (.IfExp c a b pos) (ifF gc fa fb) :=
  PE.imp (pe_ifExp hc ha hb) fun σ H Q h => At.bind (f := gc) h fun ρ b S q H1 rs re o => by
    cases b with
    | true => exact show (if true = true then At X.K X.mg W fa (RV X.K X.mg Q) σ H1 else At X.K X.mg W fb (RV X.K X.mg Q) σ H1) from iteT ⟨q, ρ, S, rs, re, o⟩
    | false => exact show (if false = true then At X.K X.mg W fa (RV X.K X.mg Q) σ H1 else At X.K X.mg W fb (RV X.K X.mg Q) σ H1) from iteF ⟨q, ρ, S, rs, re, o⟩

/-! ### is -/
def isN : T → Option Bool
  | .non => some true
  | .bl _ => some false
  | .int _ => some false
  | .str _ => some false
  | .tup _ => some false
  | .lst _ => some false
  | .scr _ => some false
  | .ref _ => some false
  | .glob _ => some false
  | .ty _ => some false
  | .exn _ _ _ => some false
  | .mark => none
theorem isN_ok {K : PySem.W.Frag} {mg : Str → Option Value} {p : Pl} {H : Hp} {t : T} {v : V} {b : Bool} (e : isN t = some b) (r : Rep K mg p H t v) : decide (v = .non) = b := by
  cases t with
  | non => cases e; rw [show v = V.non from r]; rfl
  | bl _ => cases e; rw [show v = V.bl _ from r]; rfl
  | int _ => cases e; rw [show v = V.int _ from r]; rfl
  | str _ => cases e; rw [show v = V.str _ from r]; rfl
  | tup _ => cases e; obtain ⟨_, _, rfl, _⟩ := r; rfl
  | lst _ => cases e; obtain ⟨_, _, rfl, _⟩ := r; rfl
  | scr _ => cases e; obtain ⟨_, rfl, _⟩ := r; rfl
  | ref _ => cases e; obtain ⟨_, rfl, _⟩ := r; rfl
  | glob _ => cases e; obtain ⟨_, rfl, _⟩ := r; rfl
  | ty _ => cases e; rw [show v = V.ty _ from r]; rfl
  | exn _ _ _ => cases e; obtain ⟨_, _, _, _, rfl, _⟩ := r; rfl
  | mark => cases e
def isNF (neg : Bool) (f : Ro → Sto → Out T) : Ro → Sto → Out T := fun ρ S => (f ρ S).bind fun t S1 => match isN t with
  | some b => .ok (T.bl (if neg then !b else b)) S1
  | none => .no
theorem d_isN {j : Nat} {p2 : Pos} (ha : DE X W a fa) : DE X W (.Compare a [.Is] [.Constant .none j p2] pos) (isNF false fa) :=
  PE.imp (pe_cmp (pc_isN ha) rfl) fun σ H Q h => At.bind (f := fa) (g := fun ρ t S1 => match isN t with | some b => .ok (T.bl (if false = true then !b else b)) S1 | none => .no) h fun ρ t S q H1 rs re o v rv => by
    cases e : isN t with
    | none => rw [e] at o; exact o.elim
    | some b => rw [e] at o; rw [isN_ok e rv]; exact po_val (.bl b) o rs rfl
theorem d_notN {j : Nat} {p2 : Pos} (ha : DE X W a fa) : DE X W (.Compare a [.IsNot] [.Constant .none j p2] pos) (isNF true fa) :=
  PE.imp (pe_cmp (pc_notN ha) rfl) fun σ H Q h => At.bind (f := fa) (g := fun ρ t S1 => match isN t with | some b => .ok (T.bl (if true = true then !b else b)) S1 | none => .no) h fun ρ t S q H1 rs re o v rv => by
    cases e : isN t with
    | none => rw [e] at o; exact o.elim
    | some b => rw [e] at o; rw [isN_ok e rv]; exact po_val (.bl !b) o rs rfl
theorem asB_At {K : PySem.W.Frag} {mg : Str → Option Value} {f : Ro → Sto → Out T} {σ : L2.St} {H : Hp} {Q : Bool → Hp → Prop} (h : At K mg W (fun ρ S => asB (f ρ S)) (RB Q) σ H) :
    At K mg W f (RV K mg fun x H' => ∃ c, x = .bl c ∧ Q c H') σ H :=
  At.bind (f := f) (g := fun _ t S => match t with | T.bl b => Out.ok b S | _ => Out.no) h fun ρ t S q H1 rs re o v rv => by
    cases t with
    | bl b => exact ⟨b, rv, po_b (Q := Q) b o rs⟩
    | _ => exact o.elim
theorem t_isN {j : Nat} {p2 : Pos} (ha : DE X W a fa) : DT X W (.Compare a [.Is] [.Constant .none j p2] pos) (fun ρ S => asB (isNF false fa ρ S)) :=
  PT.imp (pt_cmp (pc_isN ha) rfl) fun σ H Q h => by
    refine At.bind (f := fa) (g := fun ρ t S1 => match isN t with | some b => .ok (T.bl (if false = true then !b else b)) S1 | none => .no) (asB_At h) fun ρ t S q H1 rs re o v rv => ?_
    cases e : isN t with
    | none => rw [e] at o; exact o.elim
    | some b => rw [e] at o; rw [isN_ok e rv]; exact po_val (.bl b) o rs rfl
theorem t_notN {j : Nat} {p2 : Pos} (ha : DE X W a fa) : DT X W (.Compare a [.IsNot] [.Constant .none j p2] pos) (fun ρ S => asB (isNF true fa ρ S)) :=
  PT.imp (pt_cmp (pc_notN ha) rfl) fun σ H Q h => by
    refine At.bind (f := fa) (g := fun ρ t S1 => match isN t with | some b => .ok (T.bl (if true = true then !b else b)) S1 | none => .no) (asB_At h) fun ρ t S q H1 rs re o v rv => ?_
    cases e : isN t with
    | none => rw [e] at o; exact o.elim
    | some b => rw [e] at o; rw [isN_ok e rv]; exact po_val (.bl !b) o rs rfl
def isBG (neg : Bool) (x y : T) (S : Sto) : Out T := match x, y with
  | .bl a, .bl b => .ok (.bl (if neg then !decide (a = b) else decide (a = b))) S
  | _, _ => .no
theorem isBG_ok {K : PySem.W.Frag} {mg : Str → Option Value} : OpG K mg rIsB (isBG false) := fun W p H S x y vx vy Q R rx ry o => by
  cases x with
  | bl a =>
    cases y with
    | bl b => exact ⟨a, b, rx, ry, o.now R _ rfl⟩
    | _ => exact o.elim
  | _ => cases y <;> exact o.elim
theorem isnBG_ok {K : PySem.W.Frag} {mg : Str → Option Value} : OpG K mg rNotB (isBG true) := fun W p H S x y vx vy Q R rx ry o => by
  cases x with
  | bl a =>
    cases y with
    | bl b => exact ⟨a, b, rx, ry, o.now R _ rfl⟩
    | _ => exact o.elim
  | _ => cases y <;> exact o.elim
theorem d_isB (ha : DE X W a fa) (hb : DE X W b fb) : DE X W (.Compare a [.Is] [b] pos) (bF (isBG false) fa fb) := d_cmp op_isBl isBG_ok ha hb (nomark _)
theorem d_notB (ha : DE X W a fa) (hb : DE X W b fb) : DE X W (.Compare a [.IsNot] [b] pos) (bF (isBG true) fa fb) := d_cmp op_notBl isnBG_ok ha hb (nomark _)
theorem t_isB (ha : DE X W a fa) (hb : DE X W b fb) : DT X W (.Compare a [.Is] [b] pos) (fun ρ S => asB (bF (isBG false) fa fb ρ S)) := d_cmpT op_isBl isBG_ok ha hb (nomark _)
theorem t_notB (ha : DE X W a fa) (hb : DE X W b fb) : DT X W (.Compare a [.IsNot] [b] pos) (fun ρ S => asB (bF (isBG true) fa fb ρ S)) := d_cmpT op_notBl isnBG_ok ha hb (nomark _)
end

/-! ### a op b op c -/
section
variable {X : Cx} {W : XW} {a b c : Expr} {fa fb fc : Ro → Sto → Out T} {pos : Pos}
def chF (g g' : T → T → Sto → Out T) (fa fb fc : Ro → Sto → Out T) : Ro → Sto → Out T := fun ρ S => (fa ρ S).bind fun x S1 => (fb ρ S1).bind fun y S2 => (g x y S2).bind fun z S3 => match z with
  | .bl true => (fc ρ S3).bind fun w S4 => g' y w S4
  | .bl false => .ok (.bl false) S3
  | _ => .no
theorem chain_At {r r' : R2} {g g' : T → T → Sto → Out T} (hg : OpG X.K X.mg r g) (hg' : OpG X.K X.mg r' g') {σ : L2.St} {H : Hp} {Q : VK} (h : At X.K X.mg W (chF g g' fa fb fc) (RV X.K X.mg Q) σ H) :
    tChain r r' (fun σ H Q => At X.K X.mg W fa (RV X.K X.mg Q) σ H) (fun σ H Q => At X.K X.mg W fb (RV X.K X.mg Q) σ H) (fun σ H Q => At X.K X.mg W fc (RV X.K X.mg Q) σ H) σ H Q := by
  refine At.bind (f := fa) h fun ρ x S1 q H1 rs re o v rv => ?_
  refine ⟨q, ρ, S1, rs, re, PO.bind o fun y S2 q2 H2 b2 rs2 o2 u ru => ?_⟩
  refine hg W q2 H2 S2 x y v u _ rs2 (rv.stp b2) ru (PO.bind o2 fun z S3 q3 H3 b3 rs3 o3 vz rz => ?_)
  cases z with
  | bl k =>
    refine ⟨k, rz, ?_⟩
    cases k with
    | true =>
      refine iteT ⟨q3, ρ, S3, rs3, (re.stp b2).stp b3, PO.bind o3 fun w S4 q4 H4 b4 rs4 o4 vw rw' => ?_⟩
      exact hg' W q4 H4 S4 y w u vw Q rs4 ((ru.stp b3).stp b4) rw' o4
    | false => exact iteF (po_val (.bl false) o3 rs3 rfl)
  | _ => exact o3.elim
theorem d_chain {op op' : CmpOp} {r r' : R2} {g g' : T → T → Sto → Out T} (ho : OpR X (compareOp op) r) (ho' : OpR X (compareOp op') r') (hg : OpG X.K X.mg r g) (hg' : OpG X.K X.mg r' g') (ha : DE X W a fa) (hb : DE X W b fb) (hc : DE X W c fc)
    (hm : lastMarks [op, op'] [b, c] = false := by with_unfolding_all rfl) : DE X W (.Compare a [op, op'] [b, c] pos) (chF g g' fa fb fc) := PE.imp (pe_chain ho ho' ha hb hc hm) fun _ _ _ h => chain_At hg hg' h
theorem t_chain {op op' : CmpOp} {r r' : R2} {g g' : T → T → Sto → Out T} (ho : OpR X (compareOp op) r) (ho' : OpR X (compareOp op') r') (hg : OpG X.K X.mg r g) (hg' : OpG X.K X.mg r' g') (ha : DE X W a fa) (hb : DE X W b fb) (hc : DE X W c fc)
    (hm : lastMarks [op, op'] [b, c] = false := by with_unfolding_all rfl) : DT X W (.Compare a [op, op'] [b, c] pos) (fun ρ S => asB (chF g g' fa fb fc ρ S)) := PT.imp (pt_chain ho ho' ha hb hc hm) fun _ _ _ h => by
  obtain ⟨p, ρ, S, rs, re, o⟩ := chain_At (fa := fa) (fb := fb) (fc := fc) (W := W) hg hg' (asB_At h)
  exact ⟨p, ρ, S, rs, re, o⟩
end
end Mi


set_option Elab.async false
set_option linter.all false
set_option maxRecDepth 100000
namespace Mi
open PySem PySem.Spec PyProof.Rows L2
section
variable {X : Cx} {W : XW} {e : Expr} {es : List Expr} {fe : Ro → Sto → Out T} {fs : Ro → Sto → Out (List T)} {pos : Pos}
/-! ### arguments, displays -/
def aNil : Ro → Sto → Out (List T) := fun _ S => .ok [] S
def aCons (fe : Ro → Sto → Out T) (fs : Ro → Sto → Out (List T)) : Ro → Sto → Out (List T) := fun ρ S => (fe ρ S).bind fun t S1 => (fs ρ S1).bind fun ts S2 => .ok (t :: ts) S2
theorem a_nil : DA X W [] aNil := PA.imp pa_nil fun σ H Q ⟨p, ρ, S, rs, re, o⟩ => PO.now (show PO X.K X.mg W p H (.ok [] S) (RA X.K X.mg Q) from o) rs [] rfl
theorem a_cons (he : DE X W e fe) (hs : DA X W es fs) (hst : starEach (e :: es) X.env = (false, eval e X.env) :: starEach es X.env := by rfl) : DA X W (e :: es) (aCons fe fs) :=
  PA.imp (pa_cons he hs hst) fun σ H Q h => At.bind (f := fe) (g := fun ρ t S1 => (fs ρ S1).bind fun ts S2 => .ok (t :: ts) S2) h fun ρ t S q H1 rs re o v rv =>
    ⟨q, ρ, S, rs, re, PO.bind o fun ts S2 q2 H2 b rs2 o2 vs rvs => PO.now (show PO X.K X.mg W q2 H2 (.ok (t :: ts) S2) (RA X.K X.mg Q) from o2) rs2 (v :: vs) ⟨v, vs, rfl, rv.stp b, rvs⟩⟩
def tupF (fs : Ro → Sto → Out (List T)) : Ro → Sto → Out T := fun ρ S => (fs ρ S).bind fun ts S1 => fit ts.length (.ok (.tup ts) S1)
def lstF (fs : Ro → Sto → Out (List T)) : Ro → Sto → Out T := fun ρ S => (fs ρ S).bind fun ts S1 => fit ts.length (.ok (.lst ts) S1)
def lstRF (fs : Ro → Sto → Out (List T)) : Ro → Sto → Out T := fun ρ S => (fs ρ S).bind fun ts S1 => fit ts.length (.ok (.ref S1.length) (S1 ++ [.lst ts]))
theorem d_tup {x1} (h : DA X W es fs) : DE X W (.Tuple es x1 pos) (tupF fs) :=
  PE.imp (pe_tup h) fun σ H Q h => At.bind (f := fs) (g := fun ρ ts S1 => fit ts.length (.ok (T.tup ts) S1)) h fun ρ ts S q H1 rs re o vs rv => by
    obtain ⟨hz, o⟩ := fit_po o
    exact ⟨by rw [rv.length]; exact hz, fun b hb => po_tup o rs rv hb⟩
theorem d_lst (h : DA X W es fs) : DE X W (.List es pos) (lstF fs) :=
  PE.imp (pe_lst h) fun σ H Q h => At.bind (f := fs) (g := fun ρ ts S1 => fit ts.length (.ok (T.lst ts) S1)) h fun ρ ts S q H1 rs re o vs rv => by
    obtain ⟨hz, o⟩ := fit_po o
    exact ⟨by rw [rv.length]; exact hz, fun b hb => po_lst o rs rv hb⟩
theorem po_ref {K : PySem.W.Frag} {mg : Str → Option Value} {p : Pl} {H : Hp} {S : Sto} {Q : VK} {vs : List V} {ts : List T} {b : Addr} (o : PO K mg W p H (.ok (.ref S.length) (S ++ [.lst ts])) (RV K mg Q)) (R : RelS K mg W p H S) (r : RepL K mg p H ts vs) (h : H b = none) : Q (.ref b) (upd H b (.lst vs)) :=
  o.of (Stp.push h) (R.push h ⟨vs, upd_same, RepL.stp (Stp.push h) r⟩) _ ⟨b, rfl, by rw [← R.len]; simp⟩
theorem d_lstR (h : DA X W es fs) : DE X W (.List es pos) (lstRF fs) :=
  PE.imp (pe_lst h) fun σ H Q h => At.bind (f := fs) (g := fun ρ ts S1 => fit ts.length (.ok (T.ref S1.length) (S1 ++ [Ob.lst ts]))) h fun ρ ts S q H1 rs re o vs rv => by
    obtain ⟨hz, o⟩ := fit_po o
    exact ⟨by rw [rv.length]; exact hz, fun b hb => po_ref o rs rv hb⟩
end

/-! ### subscripts -/
def ixG (x y : T) (S : Sto) : Out T := match y with
  | .int i => match x with
    | .tup ts => match atI ts i with
      | some t => .ok t S
      | none => .no
    | .str z => fit z.length (match atI z.cps.toList i with
      | some c => .ok (.str ⟨#[c]⟩) S
      | none => .no)
    | x => match lstAt S x with
      | some ts => match atI ts i with
        | some t => .ok t S
        | none => .no
      | none => .no
  | _ => .no
section
variable {K : PySem.W.Frag} {mg : Str → Option Value}
theorem RepL.at_ {p : Pl} {H : Hp} {ts : List T} {vs : List V} {i : Int} {t : T} (r : RepL K mg p H ts vs) (e : atI ts i = some t) : ∃ v, atI vs i = some v ∧ Rep K mg p H t v := by
  unfold atI at e ⊢
  rw [r.length]
  cases q : ixN ts.length i with
  | none => rw [q] at e; cases e
  | some j =>
    rw [q] at e
    exact r.get e
theorem ixG_lst {W : XW} {p : Pl} {H : Hp} {S : Sto} {x : T} {i : Int} {vx : V} {Q : VK} (R : RelS K mg W p H S) (rx : Rep K mg p H x vx)
    (o : PO K mg W p H (match lstAt S x with
      | some ts => match atI ts i with
        | some t => .ok t S
        | none => .no
      | none => .no) (RV K mg Q)) : rIx K vx (.int i) H Q := by
  cases e1 : lstAt S x with
  | none => rw [e1] at o; exact o.elim
  | some ts =>
    rw [e1] at o
    obtain ⟨a, vs, rfl, h1, r1⟩ := lst_at R e1 rx
    cases e2 : atI ts i with
    | none => simp only [e2] at o; exact o.elim
    | some t =>
      simp only [e2] at o
      obtain ⟨v, e3, r3⟩ := r1.at_ e2
      exact .inl ⟨a, vs, i, v, rfl, rfl, SqL.of h1, e3, po_val t o R r3⟩
theorem ixG_ok : OpG K mg (rIx K) ixG := fun W p H S x y vx vy Q R rx ry o => by
  cases y with
  | int i =>
    obtain rfl : vy = .int i := ry
    cases x with
    | tup ts =>
      obtain ⟨a, vs, rfl, h1, r1⟩ := rx
      cases e2 : atI ts i with
      | none => simp only [ixG, e2] at o; exact o.elim
      | some t =>
        simp only [ixG, e2] at o
        obtain ⟨v, e3, r3⟩ := r1.at_ e2
        exact .inr (.inl ⟨a, vs, i, v, rfl, rfl, h1, e3, po_val t o R r3⟩)
    | str z =>
      obtain rfl : vx = .str z := rx
      obtain ⟨hz, o⟩ := fit_po o
      cases e2 : atI z.cps.toList i with
      | none => simp only [e2] at o; exact o.elim
      | some c =>
        simp only [e2] at o
        exact .inr (.inr ⟨z, i, c, rfl, rfl, hz, e2, po_val (.str ⟨#[c]⟩) o R rfl⟩)
    | _ => exact ixG_lst R rx o
  | _ => exact o.elim
end
section
variable {X : Cx} {W : XW} {a b : Expr} {fa fb : Ro → Sto → Out T} {pos : Pos}
theorem d_ix (ha : DE X W a fa) (hb : DE X W b fb) (hs : PlainIx b := by exact fun _ _ => rfl) : DE X W (.Subscript a b pos) (bF ixG fa fb) := PE.imp (pe_ix ix_seq ha hb hs) fun _ _ _ h => tOp_At ixG_ok h

/-! ### slices -/
def DO (X : Cx) (W : XW) (e : Option Expr) (f : Ro → Sto → Out (Option Int)) : Prop := L2.PO X e fun σ H Q => At X.K X.mg W f (fun o _ H' => Q o H') σ H
theorem PO2.imp {e : Option Expr} {t t' : TO} (h : L2.PO X e t) (k : ∀ σ H Q, t' σ H Q → t σ H Q) : L2.PO X e t' := ⟨fun pins s σ H Q I q => h.run pins s σ H Q I (k σ H Q q)⟩
def oN : Ro → Sto → Out (Option Int) := fun _ S => .ok none S
def oS (fa : Ro → Sto → Out T) : Ro → Sto → Out (Option Int) := fun ρ S => (fa ρ S).bind fun t S1 => match t with
  | .int i => .ok (some i) S1
  | _ => .no
theorem o_none : DO X W none oN := PO2.imp po_none fun σ H Q ⟨p, ρ, S, rs, re, o⟩ => PO.now (show PO X.K X.mg W p H (.ok none S) (fun o _ H' => Q o H') from o) rs
theorem o_some (ha : DE X W a fa) : DO X W (some a) (oS fa) :=
  PO2.imp (po_some ha) fun σ H Q h => At.bind (f := fa) (g := fun ρ t S1 => match t with | T.int i => .ok (some i) S1 | _ => .no) h fun ρ t S q H1 rs re o v rv => by
    cases t with
    | int i => exact ⟨i, rv, PO.now (show PO X.K X.mg W q H1 (.ok (some i) S) (fun o _ H' => Q o H') from o) rs⟩
    | _ => exact o.elim
def cutT (xs : List T) (lo hi : Option Int) : List T := (xs.drop (HT.sIx xs.length 0 lo)).take (HT.sIx xs.length xs.length hi - HT.sIx xs.length 0 lo)
theorem RepL.cut {K : PySem.W.Frag} {mg : Str → Option Value} {p : Pl} {H : Hp} {ts : List T} {vs : List V} (r : RepL K mg p H ts vs) (lo hi : Option Int) : RepL K mg p H (cutT ts lo hi) (cutV vs lo hi) := by
  unfold cutT cutV
  rw [r.length]
  exact (r.drop _).take _
def slG (x : T) (lo hi : Option Int) (S : Sto) : Out T := match x with
  | .tup ts => .ok (.tup (cutT ts lo hi)) S
  | .str z => fit z.length (.ok (.str (cutS z lo hi)) S)
  | x => match lstAt S x with
    | some ts => .ok (.lst (cutT ts lo hi)) S
    | none => .no
def rSlAll (K : PySem.W.Frag) : V → Option Int → Option Int → Hp → VK → Prop := fun x lo hi H Q => rSlA K x lo hi H Q ∨ (rSlS x lo hi H Q ∨ rSlL K x lo hi H Q)
theorem sl_all : SlR X (rSlAll X.K) := sl_tupA.or (sl_str.or sl_list)
theorem slG_lst {K : PySem.W.Frag} {mg : Str → Option Value} {p : Pl} {H : Hp} {S : Sto} {x : T} {lo hi : Option Int} {vx : V} {Q : VK} (R : RelS K mg W p H S) (rx : Rep K mg p H x vx)
    (o : PO K mg W p H (match lstAt S x with
      | some ts => .ok (.lst (cutT ts lo hi)) S
      | none => .no) (RV K mg Q)) : rSlAll K vx lo hi H Q := by
  cases e1 : lstAt S x with
  | none => rw [e1] at o; exact o.elim
  | some ts =>
    rw [e1] at o
    obtain ⟨a, vs, rfl, h1, r1⟩ := lst_at R e1 rx
    exact .inr (.inr ⟨a, vs, rfl, SqL.of h1, fun b hb => po_lst o R (r1.cut lo hi) hb⟩)
theorem slG_ok {K : PySem.W.Frag} {mg : Str → Option Value} {p : Pl} {H : Hp} {S : Sto} {x : T} {lo hi : Option Int} {vx : V} {Q : VK} (R : RelS K mg W p H S) (rx : Rep K mg p H x vx)
    (o : PO K mg W p H (slG x lo hi S) (RV K mg Q)) : rSlAll K vx lo hi H Q := by
  cases x with
  | tup ts =>
    obtain ⟨a, vs, rfl, h1, r1⟩ := rx
    refine .inl ⟨a, vs, rfl, h1, fun hw => ?_, fun _ b hb => po_tup o R (r1.cut lo hi) hb⟩
    have e : cutV vs lo hi = vs := by
      unfold cutV
      rw [hw.1, hw.2]; simp
    exact po_val (.tup (cutT ts lo hi)) o R ⟨a, vs, rfl, h1, by have := r1.cut lo hi; rw [e] at this; exact this⟩
  | str z =>
    obtain rfl : vx = .str z := rx
    obtain ⟨hz, o⟩ := fit_po o
    exact .inr (.inl ⟨z, rfl, hz, po_val (.str (cutS z lo hi)) o R rfl⟩)
  | _ => exact slG_lst R rx o
def slF (fa : Ro → Sto → Out T) (fl fh : Ro → Sto → Out (Option Int)) : Ro → Sto → Out T := fun ρ S => (fa ρ S).bind fun x S1 => (fl ρ S1).bind fun lo S2 => (fh ρ S2).bind fun hi S3 => slG x lo hi S3
theorem d_slice {lo hi : Option Expr} {fl fh : Ro → Sto → Out (Option Int)} {p2 : Pos} (ha : DE X W a fa) (hl : DO X W lo fl) (hh : DO X W hi fh) : DE X W (.Subscript a (.Slice lo hi none p2) pos) (slF fa fl fh) :=
  PE.imp (pe_slice sl_all ha hl hh) fun σ H Q h => At.bind (f := fa) (g := fun ρ x S1 => (fl ρ S1).bind fun lo S2 => (fh ρ S2).bind fun hi S3 => slG x lo hi S3) h fun ρ x S q H1 rs re o v rv =>
    ⟨q, ρ, S, rs, re, PO.bind o fun l S2 q2 H2 b2 rs2 o2 => ⟨q2, ρ, S2, rs2, re.stp b2, PO.bind o2 fun u S3 q3 H3 b3 rs3 o3 => slG_ok rs3 ((rv.stp b2).stp b3) o3⟩⟩
/-- xs[::-1] -/
def revF (fa : Ro → Sto → Out T) : Ro → Sto → Out T := fun ρ S => (fa ρ S).bind fun x S1 => match lstAt S1 x with
  | some ts => .ok (.lst ts.reverse) S1
  | none => .no
theorem RepL.rev {K : PySem.W.Frag} {mg : Str → Option Value} {p : Pl} {H : Hp} : ∀ {ts : List T} {vs : List V}, RepL K mg p H ts vs → RepL K mg p H ts.reverse vs.reverse
  | [], _, h => by cases h; exact rfl
  | t :: ts, _, h => by
    obtain ⟨v, r, rfl, h1, h2⟩ := h
    rw [List.reverse_cons, List.reverse_cons]
    exact (RepL.rev h2).append ⟨v, [], rfl, h1, rfl⟩
theorem d_rev {k : Nat} {p1 p2 p3 : Pos} (ha : DE X W a fa) : DE X W (.Subscript a (.Slice none none (some (.UnaryOp .USub (.Constant (.int 1) k p1) p2)) p3) pos) (revF fa) :=
  PE.imp (pe_revL ha) fun σ H Q h => At.bind (f := fa) (g := fun ρ x S1 => match lstAt S1 x with | some ts => .ok (T.lst ts.reverse) S1 | none => .no) h fun ρ x S q H1 rs re o v rv => by
    cases e1 : lstAt S x with
    | none => rw [e1] at o; exact o.elim
    | some ts =>
      rw [e1] at o
      obtain ⟨a, vs, rfl, h1, r1⟩ := lst_at rs e1 rv
      exact ⟨a, vs, rfl, SqL.of h1, fun b hb => po_lst o rs r1.rev hb⟩
end

/-! ### calls of what is built in -/
def CallG (K : PySem.W.Frag) (mg : Str → Option Value) (r : List V → Hp → VK → Prop) (g : List T → Sto → Out T) : Prop :=
  ∀ (W : XW) p H S ts vs Q, RelS K mg W p H S → RepL K mg p H ts vs → PO K mg W p H (g ts S) (RV K mg Q) → r vs H Q
def caF (g : List T → Sto → Out T) (fs : Ro → Sto → Out (List T)) : Ro → Sto → Out T := fun ρ S => (fs ρ S).bind g
section
variable {X : Cx} {W : XW} {e : Expr} {es : List Expr} {fs : Ro → Sto → Out (List T)} {r : List V → Hp → VK → Prop} {g : List T → Sto → Out T} {x : Str} {id T' : String} {p pos : Pos}
theorem d_callB (hc : CallR X (.builtin id) r) (hgr : CallG X.K X.mg r g) (hg : Gl X x) (hm : X.mg x = none) (hv : bootBuiltins x = some (.builtin id)) (ha : DA X W (e :: es) fs) (hn : x ≠ "__name__" := by decide) (hdb : (x == ("__debug__" : Str)) = false := by decide)
    (he : starEach (e :: es) X.env = (false, eval e X.env) :: starEach es X.env := by rfl) (hpl : (backTo pos (starEach es X.env)).any (·.1) = false := by rfl) : DE X W (.Call (.Name x p) (e :: es) [] pos) (caF g fs) :=
  PE.imp (pe_callB hc hg hm hv ha hn hdb he hpl) fun σ H Q h => At.bind (f := fs) (g := fun _ => g) h fun ρ ts S q H1 rs re o vs rv => hgr W q H1 S ts vs Q rs rv o
theorem d_callTy (hc : CallR X (.type T') r) (hgr : CallG X.K X.mg r g) (hg : Gl X x) (hm : X.mg x = none) (hv : bootBuiltins x = some (.type T')) (ha : DA X W (e :: es) fs) (hn : x ≠ "__name__" := by decide) (hdb : (x == ("__debug__" : Str)) = false := by decide)
    (he : starEach (e :: es) X.env = (false, eval e X.env) :: starEach es X.env := by rfl) (hpl : (backTo pos (starEach es X.env)).any (·.1) = false := by rfl) : DE X W (.Call (.Name x p) (e :: es) [] pos) (caF g fs) :=
  PE.imp (pe_callTy hc hg hm hv ha hn hdb he hpl) fun σ H Q h => At.bind (f := fs) (g := fun _ => g) h fun ρ ts S q H1 rs re o vs rv => hgr W q H1 S ts vs Q rs rv o
end
end Mi


set_option Elab.async false
set_option linter.all false
set_option maxRecDepth 100000
namespace Mi
open PySem PySem.Spec PyProof.Rows L2
/-! ### targets -/
def DG (X : Cx) (W : XW) (tg : Expr) (g : T → Ro → Sto → Out Ro) : Prop := PG X tg fun v σ H Q => ∃ p ρ S t, RelS X.K X.mg W p H S ∧ RelE X.K X.mg W p H σ ρ ∧ Rep X.K X.mg p H t v ∧ PO X.K X.mg W p H (g t ρ S) (RG X.K X.mg W Q)
def DGs (X : Cx) (W : XW) (tg : List Expr) (g : List T → Ro → Sto → Out Ro) : Prop := PGs X tg fun v σ H Q => ∃ p ρ S t, RelS X.K X.mg W p H S ∧ RelE X.K X.mg W p H σ ρ ∧ RepL X.K X.mg p H t v ∧ PO X.K X.mg W p H (g t ρ S) (RG X.K X.mg W Q)
theorem PG.imp {X : Cx} {e : Expr} {t t' : TG} (h : PG X e t) (k : ∀ v σ H Q, t' v σ H Q → t v σ H Q) : PG X e t' := ⟨fun pins s σ H v u Q I r q => h.run pins s σ H v u Q I r (k v σ H Q q)⟩
theorem PGs.imp {X : Cx} {e : List Expr} {t t' : TGs} (h : PGs X e t) (k : ∀ v σ H Q, t' v σ H Q → t v σ H Q) : PGs X e t' := ⟨fun pins s σ H v u Q I r q => h.run pins s σ H v u Q I r (k v σ H Q q)⟩
def gN (i : Nat) : T → Ro → Sto → Out Ro := fun t ρ S => .ok (ρ.set i (some t)) S
def gNil' : List T → Ro → Sto → Out Ro := fun ts ρ S => match ts with
  | [] => .ok ρ S
  | _ => .no
def gCons' (g : T → Ro → Sto → Out Ro) (gs : List T → Ro → Sto → Out Ro) : List T → Ro → Sto → Out Ro := fun ts ρ S => match ts with
  | [] => .no
  | t :: ts => (g t ρ S).bind fun ρ1 S1 => gs ts ρ1 S1
def gT (n : Nat) (gs : List T → Ro → Sto → Out Ro) : T → Ro → Sto → Out Ro := fun t ρ S => match t with
  | .tup ts => match decide (ts.length = n) with
    | true => gs ts ρ S
    | false => .no
  | _ => .no
section
variable {X : Cx} {W : XW} {e : Expr} {es : List Expr} {g : T → Ro → Sto → Out Ro} {gs : List T → Ro → Sto → Out Ro} {fe : Ro → Sto → Out T} {pos : Pos}
theorem po_env {K : PySem.W.Frag} {mg : Str → Option Value} {W : XW} {p : Pl} {H : Hp} {Q : L2.St → Hp → Prop} {S : Sto} (ρ : Ro) {σ : L2.St} (o : PO K mg W p H (.ok ρ S) (RG K mg W Q)) (r : RelS K mg W p H S) (re : RelE K mg W p H σ ρ) : Q σ H := o.now r σ re
theorem g_name (i : Nat) {x : Str} (hN : X.N.Nodup) (hi : X.N[i]? = some x := by rfl) (hx : Loc X.env.scope x := by first | exact Or.inl rfl | exact Or.inr rfl) (hf : X.fn x = true ∨ X.env.scope.names.lookup x = some .local := by first | exact .inl rfl | exact .inr rfl | assumption) (ho : W.off i := by first | exact plW_off _ | exact off_at (by decide) | exact fun _ _ h => nomatch h | assumption) : DG X W (.Name x pos) (gN i) :=
  PG.imp (pg_name hN hi hx hf) fun v σ H Q ⟨p, ρ, S, t, rs, re, rt, o⟩ => po_env (ρ.set i (some t)) o rs (re.set rt i ho)
theorem g_nil : DGs X W [] gNil' := PGs.imp pgs_nil fun v σ H Q ⟨p, ρ, S, t, rs, re, rt, o⟩ => by
  cases t with
  | nil => exact ⟨rt, po_env ρ o rs re⟩
  | cons _ _ => exact o.elim
theorem g_cons (h1 : DG X W e g) (h2 : DGs X W es gs) (hs : (assignEach (e :: es) X.env).map (·.2) = assign e X.env :: (assignEach es X.env).map (·.2) := by rfl) : DGs X W (e :: es) (gCons' g gs) :=
  PGs.imp (pgs_cons h1 h2 hs) fun v σ H Q ⟨p, ρ, S, t, rs, re, rt, o⟩ => by
    cases t with
    | nil => exact o.elim
    | cons t ts =>
      obtain ⟨v, r, rfl, r1, r2⟩ := rt
      refine ⟨v, r, rfl, p, ρ, S, t, rs, re, r1, PO.bind (f := fun ρ1 S1 => gs ts ρ1 S1) o fun ρ1 S1 q H1 b rs1 o1 σ1 re1 => ⟨q, ρ1, S1, ts, rs1, re1, r2.stp b, o1⟩⟩
theorem g_tup {k n : Nat} (hc : X.calm = true) (h : DGs X W es gs) (hn : (assignEach es X.env).length = n := by rfl) (hst : (assignEach es X.env).findIdx? (·.1) = none := by rfl) : DG X W (.Tuple es k pos) (gT n gs) :=
  PG.imp (pg_tup hc h hn hst) fun v σ H Q ⟨p, ρ, S, t, rs, re, rt, o⟩ => by
    cases t with
    | tup ts =>
      obtain ⟨a, vs, rfl, h1, r1⟩ := rt
      unfold gT at o
      cases e : decide (ts.length = n) with
      | false => simp only [e] at o; exact o.elim
      | true =>
        simp only [e] at o
        exact ⟨a, vs, rfl, h1, by rw [r1.length]; exact of_decide_eq_true e, p, ρ, S, ts, rs, re, r1, o⟩
    | _ => exact o.elim
/-! ### small statements -/
def asgF (fe : Ro → Sto → Out T) (g : T → Ro → Sto → Out Ro) : Ro → Sto → Out Fl := fun ρ S => (fe ρ S).bind fun t S1 => (g t ρ S1).bind fun ρ1 S2 => .ok (.nx ρ1) S2
theorem po_nx {K : PySem.W.Frag} {mg : Str → Option Value} {W : XW} {p : Pl} {H : Hp} {D : Ends} {S : Sto} (ρ : Ro) {σ : L2.St} (o : PO K mg W p H (.ok (.nx ρ) S) (RD K mg W D)) (r : RelS K mg W p H S) (re : RelE K mg W p H σ ρ) : D.nx σ H := o.now r σ re
theorem po_nxG {K : PySem.W.Frag} {mg : Str → Option Value} {W : XW} {p : Pl} {H : Hp} {D : Ends} {o : Out Ro} (h : PO K mg W p H (o.bind fun ρ1 S2 => .ok (.nx ρ1) S2) (RD K mg W D)) : PO K mg W p H o (RG K mg W D.nx) :=
  PO.bind h fun ρ1 S1 q H1 b rs o1 σ re => po_nx ρ1 o1 rs re
theorem s_asg {tg : Expr} (he : DE X W e fe) (hg : DG X W tg g) (hs : swapsWithSole [tg] e pos.line X.env = pure false := by rfl) (hw : swappedStores [tg] e X.env = pure none := by rfl) (h1 : (assignEach [tg] X.env).map (·.2) = [assign tg X.env] := by rfl) : DS X W (.Assign [tg] e pos) (asgF fe g) :=
  PS.imp (ps_asg he hg hs hw h1) fun D σ H h => At.bind (f := fe) (g := fun ρ t S1 => (g t ρ S1).bind fun ρ1 S2 => Out.ok (Fl.nx ρ1) S2) h fun ρ t S q H1 rs re o v rv => ⟨q, ρ, S, t, rs, re, rv, po_nxG o⟩
def parF (i j : Nat) (fs : Ro → Sto → Out (List T)) : Ro → Sto → Out Fl := fun ρ S => (fs ρ S).bind fun ts S1 => match ts with
  | [a, b] => .ok (.nx ((ρ.set i (some a)).set j (some b))) S1
  | _ => .no
theorem s_par {i j : Nat} {x y : Str} {a b : Expr} {fs : Ro → Sto → Out (List T)} {px py pt : Pos} {kt k2 pt2} (hc : X.calm = true) (hN : X.N.Nodup) (hi : X.N[i]? = some x) (hj : X.N[j]? = some y) (hij : i ≠ j)
    (hx : X.env.scope.names.lookup x = some .local) (hy : X.env.scope.names.lookup y = some .local) (ha : DA X W [a, b] fs)
    (hw : swappedStores [.Tuple [.Name x px, .Name y py] kt pt] (.Tuple [a, b] k2 pt2) X.env = pure (some [x, y]))
    (hs : swapsWithSole [.Tuple [.Name x px, .Name y py] kt pt] (.Tuple [a, b] k2 pt2) pos.line X.env = pure false := by rfl) (ho : W.off i := by first | exact plW_off _ | exact off_at (by decide) | exact fun _ _ h => nomatch h | assumption) (ho' : W.off j := by first | exact plW_off _ | exact off_at (by decide) | exact fun _ _ h => nomatch h | assumption) :
    DS X W (.Assign [.Tuple [.Name x px, .Name y py] kt pt] (.Tuple [a, b] k2 pt2) pos) (parF i j fs) :=
  PS.imp (ps_par hc hN hi hj hij hx hy ha hw hs) fun D σ H h => At.bind (f := fs) (g := fun ρ ts S1 => match ts with | [a, b] => .ok (Fl.nx ((ρ.set i (some a)).set j (some b))) S1 | _ => .no) h fun ρ ts S q H1 rs re o vs rv => by
    match ts, rv, o with
    | [a, b], ⟨v, _, e, r1, u, _, e2, r2, e3⟩, o =>
      subst e e2 e3
      exact ⟨v, u, rfl, po_nx ((ρ.set i (some a)).set j (some b)) o rs ((re.set r1 i ho).set r2 j ho')⟩
    | [], _, o => exact o.elim
    | [_], _, o => exact o.elim
    | _ :: _ :: _ :: _, _, o => exact o.elim
def exF (fe : Ro → Sto → Out T) : Ro → Sto → Out Fl := fun ρ S => (fe ρ S).bind fun _ S1 => .ok (.nx ρ) S1
theorem s_expr (he : DE X W e fe) (hs : swapsWith e none pos.line X.env = pure false := by rfl) : DS X W (.Expr e pos) (exF fe) :=
  PS.imp (ps_expr he hs) fun D σ H h => At.bind (f := fe) (g := fun ρ _ S1 => .ok (Fl.nx ρ) S1) h fun ρ t S q H1 rs re o v rv => po_nx ρ o rs re
def reF (fe : Ro → Sto → Out T) : Ro → Sto → Out Fl := fun ρ S => (fe ρ S).bind fun t S1 => .ok (.rt t) S1
theorem s_ret (he : DE X W e fe) : DS X W (.Return (some e) pos) (reF fe) :=
  PS.imp (ps_ret he) fun D σ H h => At.bind (f := fe) (g := fun ρ t S1 => .ok (Fl.rt t) S1) h fun ρ t S q H1 rs re o v rv => (show PO X.K X.mg W q H1 (.ok (Fl.rt t) S) (RD X.K X.mg W D) from o).now rs v rv
def reN : Ro → Sto → Out Fl := fun _ S => .ok (.rt .non) S
theorem s_retN : DS X W (.Return none pos) reN := PS.imp ps_retN fun D σ H ⟨p, ρ, S, rs, re, o⟩ => (show PO X.K X.mg W p H (.ok (Fl.rt .non) S) (RD X.K X.mg W D) from o).now rs _ rfl
def paF : Ro → Sto → Out Fl := fun ρ S => .ok (.nx ρ) S
def brF : Ro → Sto → Out Fl := fun ρ S => .ok (.bk ρ) S
def coF : Ro → Sto → Out Fl := fun ρ S => .ok (.ct ρ) S
theorem s_pass : DS X W (.Pass pos) paF := PS.imp ps_pass fun D σ H ⟨p, ρ, S, rs, re, o⟩ => po_nx ρ o rs re
theorem s_break : DS X W (.Break pos) brF := PS.imp ps_break fun D σ H ⟨p, ρ, S, rs, re, o⟩ => (show PO X.K X.mg W p H (.ok (Fl.bk ρ) S) (RD X.K X.mg W D) from o).now rs _ re
theorem s_continue : DS X W (.Continue pos) coF := PS.imp ps_continue fun D σ H ⟨p, ρ, S, rs, re, o⟩ => (show PO X.K X.mg W p H (.ok (Fl.ct ρ) S) (RD X.K X.mg W D) from o).now rs _ re
def iffF (gc : Ro → Sto → Out Bool) (fa fb : Ro → Sto → Out Fl) : Ro → Sto → Out Fl := fun ρ S => (gc ρ S).bind fun b S1 => match b with
  | true => fa ρ S1
  | false => fb ρ S1
theorem s_if {c : Expr} {a b : List Stmt} {gc : Ro → Sto → Out Bool} {fa fb : Ro → Sto → Out Fl} (hc : DT X W c gc) (ha : DSs X W a fa) (hb : DSs X W b fb) : DS X W (.If c a b pos) (iffF gc fa fb) :=
  PS.imp (ps_if hc ha hb) fun D σ H h => At.bind (f := gc) (g := fun ρ b S1 => match b with | true => fa ρ S1 | false => fb ρ S1) h fun ρ b S q H1 rs re o => by
    cases b with
    | true => exact show (if true = true then At X.K X.mg W fa (RD X.K X.mg W D) σ H1 else At X.K X.mg W fb (RD X.K X.mg W D) σ H1) from iteT ⟨q, ρ, S, rs, re, o⟩
    | false => exact show (if false = true then At X.K X.mg W fa (RD X.K X.mg W D) σ H1 else At X.K X.mg W fb (RD X.K X.mg W D) σ H1) from iteF ⟨q, ρ, S, rs, re, o⟩
def seF (fa fb : Ro → Sto → Out Fl) : Ro → Sto → Out Fl := fun ρ S => (fa ρ S).bind fun fl S1 => match fl with
  | .nx ρ1 => fb ρ1 S1
  | fl => .ok fl S1
theorem ss_nil : DSs X W [] paF := PSs.imp pss_nil fun D σ H ⟨p, ρ, S, rs, re, o⟩ => po_nx ρ o rs re
theorem ss_one {st : Stmt} {fa : Ro → Sto → Out Fl} (h : DS X W st fa) : DSs X W [st] fa := pss_one h
theorem PO.flow {K : PySem.W.Frag} {mg : Str → Option Value} {p : Pl} {H : Hp} {o : Out Fl} {k : Fl → Sto → Out Fl} {D D' : Ends} (h : PO K mg W p H (o.bind k) (RD K mg W D))
    (hn : ∀ ρ1 S1 q H1 σ, Stp p H q H1 → RelS K mg W q H1 S1 → RelE K mg W q H1 σ ρ1 → PO K mg W q H1 (k (.nx ρ1) S1) (RD K mg W D) → D'.nx σ H1)
    (hr : ∀ t S1 q H1 v, Stp p H q H1 → RelS K mg W q H1 S1 → Rep K mg q H1 t v → PO K mg W q H1 (k (.rt t) S1) (RD K mg W D) → D'.rt v H1)
    (hb : ∀ ρ1 S1 q H1 σ, Stp p H q H1 → RelS K mg W q H1 S1 → RelE K mg W q H1 σ ρ1 → PO K mg W q H1 (k (.bk ρ1) S1) (RD K mg W D) → D'.bk σ H1)
    (hc : ∀ ρ1 S1 q H1 σ, Stp p H q H1 → RelS K mg W q H1 S1 → RelE K mg W q H1 σ ρ1 → PO K mg W q H1 (k (.ct ρ1) S1) (RD K mg W D) → D'.ct σ H1) : PO K mg W p H o (RD K mg W D') :=
  PO.bind h fun fl S1 q H1 b rs o1 => by
    cases fl with
    | nx ρ1 => exact fun σ re => hn ρ1 S1 q H1 σ b rs re o1
    | rt t => exact fun v rv => hr t S1 q H1 v b rs rv o1
    | bk ρ1 => exact fun σ re => hb ρ1 S1 q H1 σ b rs re o1
    | ct ρ1 => exact fun σ re => hc ρ1 S1 q H1 σ b rs re o1
theorem po_rt {K : PySem.W.Frag} {mg : Str → Option Value} {p : Pl} {H : Hp} {D : Ends} {S : Sto} (t : T) {v : V} (o : PO K mg W p H (.ok (.rt t) S) (RD K mg W D)) (r : RelS K mg W p H S) (rv : Rep K mg p H t v) : D.rt v H := o.now r v rv
theorem po_bk {K : PySem.W.Frag} {mg : Str → Option Value} {p : Pl} {H : Hp} {D : Ends} {S : Sto} (ρ : Ro) {σ : L2.St} (o : PO K mg W p H (.ok (.bk ρ) S) (RD K mg W D)) (r : RelS K mg W p H S) (re : RelE K mg W p H σ ρ) : D.bk σ H := o.now r σ re
theorem po_ct {K : PySem.W.Frag} {mg : Str → Option Value} {p : Pl} {H : Hp} {D : Ends} {S : Sto} (ρ : Ro) {σ : L2.St} (o : PO K mg W p H (.ok (.ct ρ) S) (RD K mg W D)) (r : RelS K mg W p H S) (re : RelE K mg W p H σ ρ) : D.ct σ H := o.now r σ re
theorem ss_cons {st : Stmt} {rest : List Stmt} {fa fb : Ro → Sto → Out Fl} (h1 : DS X W st fa) (h2 : DSs X W rest fb) : DSs X W (st :: rest) (seF fa fb) :=
  PSs.imp (pss_cons h1 h2) fun D σ H ⟨p, ρ, S, rs, re, o⟩ => ⟨p, ρ, S, rs, re, PO.flow (k := fun fl S1 => match fl with | .nx ρ1 => fb ρ1 S1 | fl => .ok fl S1) o
    (fun ρ1 S1 q H1 σ1 b rs1 re1 o1 => ⟨q, ρ1, S1, rs1, re1, o1⟩) (fun t S1 q H1 v b rs1 rv o1 => po_rt (W := W) (D := D) t o1 rs1 rv)
    (fun ρ1 S1 q H1 σ1 b rs1 re1 o1 => po_bk (W := W) (D := D) ρ1 o1 rs1 re1) (fun ρ1 S1 q H1 σ1 b rs1 re1 o1 => po_ct (W := W) (D := D) ρ1 o1 rs1 re1)⟩
/-- a statement that is never come to (a raise on a way that cannot be) -/
def neF : Ro → Sto → Out Fl := fun _ _ => .no
theorem s_never {st : Stmt} : DS X W st neF := PS.imp ps_never fun D σ H ⟨p, ρ, S, rs, re, o⟩ => o.elim
theorem ss_never {st : List Stmt} : DSs X W st neF := PSs.imp pss_never fun D σ H ⟨p, ρ, S, rs, re, o⟩ => o.elim
/-- x += e -/
def ipG (op : Operator) : T → T → Sto → Out T := fun x y S => match op with
  | .Add => addG x y S
  | .Sub => subG x y S
  | _ => .no
def auF (i : Nat) (fe : Ro → Sto → Out T) (g : T → T → Sto → Out T) : Ro → Sto → Out Fl := fun ρ S => match ρ[i]? with
  | some (some x) => (fe ρ S).bind fun y S1 => (g x y S1).bind fun z S2 => .ok (.nx (ρ.set i (some z))) S2
  | _ => .no
theorem s_aug {i : Nat} {x : Str} {op : Operator} {ti : TIp} {g : T → T → Sto → Out T} {pos' : Pos} (hop : PIp X op ti) (hgt : OpG X.K X.mg ti g) (hN : X.N.Nodup) (hi : X.N[i]? = some x) (hx : Loc X.env.scope x) (he : DE X W e fe) (hf : X.fn x = true ∨ X.env.scope.names.lookup x = some .local := by first | exact .inl rfl | exact .inr rfl | assumption) (ho : W.off i := by first | exact plW_off _ | exact off_at (by decide) | exact fun _ _ h => nomatch h | assumption) :
    DS X W (.AugAssign (.Name x pos') op e pos) (auF i fe g) :=
  PS.imp (ps_aug hN hi hx he hop hf) fun D σ H ⟨p, ρ, S, rs, re, o⟩ => by
    unfold auF at o
    cases e1 : ρ[i]? with
    | none => simp only [e1] at o; exact o.elim
    | some y =>
      cases y with
      | none => simp only [e1] at o; exact o.elim
      | some y =>
        simp only [e1] at o
        obtain ⟨v, e2, rv⟩ := re.at_ i y e1
        refine ⟨v, e2, p, ρ, S, rs, re, PO.bind (f := fun z S1 => (g y z S1).bind fun z S2 => .ok (Fl.nx (ρ.set i (some z))) S2) o fun z S1 q H1 b rs1 o1 u ru => ?_⟩
        refine hgt W q H1 S1 y z v u _ rs1 (rv.stp b) ru (PO.bind (f := fun z S2 => .ok (Fl.nx (ρ.set i (some z))) S2) o1 fun z2 S2 q2 H2 b2 rs2 o2 w' rw' => ?_)
        exact po_nx (ρ.set i (some z2)) o2 rs2 (((re.stp b).stp b2).set rw' i ho)
end
end Mi


set_option Elab.async false
set_option linter.all false
set_option maxRecDepth 100000
namespace Mi
open PySem PySem.Spec PyProof.Rows L2
/-! ### what is walked -/
/-- nothing new, or a new tuple -/
def Grow (H2 H3 : Hp) : Prop := H3 = H2 ∨ ∃ b xs, H2 b = none ∧ H3 = upd H2 b (.tup xs)
theorem Grow.stp {p : Pl} {H2 H3 : Hp} (g : Grow H2 H3) : Stp p H2 p H3 := by
  rcases g with rfl | ⟨b, xs, h, rfl⟩
  · exact .refl
  · exact Stp.upd h
theorem Grow.rels {K : PySem.W.Frag} {mg : Str → Option Value} {p : Pl} {H2 H3 : Hp} {S : Sto} (g : Grow H2 H3) (R : RelS K mg W p H2 S) : RelS K mg W p H3 S := by
  rcases g with rfl | ⟨b, xs, h, rfl⟩
  · exact R
  · exact R.upd h
theorem Grow.at_ {H2 H3 : Hp} (g : Grow H2 H3) {b : Addr} {o : HO} (h : H2 b = some o) : H3 b = some o := by
  rcases g with rfl | ⟨c, xs, h', rfl⟩
  · exact h
  · rw [upd_ne (ne_of_none h h')]; exact h
structure WalkT (K : PySem.W.Frag) (mg : Str → Option Value) (p : Pl) (H : Hp) (J : It) (ts : List T) : Prop where
  go : ∀ i q H2, i < ts.length → Stp p H q H2 → J.go i H2
  stop : ∀ q H2, Stp p H q H2 → J.stop ts.length H2
  yld : ∀ i q H2 x H3 t, ts[i]? = some t → Stp p H q H2 → J.yld i H2 x H3 → Grow H2 H3 ∧ ∀ q3, (∀ t v, Rep K mg p H t v → Rep K mg q3 H3 t v) → Rep K mg q3 H3 t x
def RI (K : PySem.W.Frag) (mg : Str → Option Value) (R : It → Hp → Prop) : List T → Pl → Hp → Prop := fun ts q H' => ∀ J, WalkT K mg q H' J ts → R J H'
def DI (X : Cx) (W : XW) (tg iter : Expr) (fi : Ro → Sto → Out (List T)) : Prop := PI X tg iter fun σ H R => At X.K X.mg W fi (RI X.K X.mg R) σ H
theorem PI.imp {X : Cx} {tg e : Expr} {t t' : TI} (h : PI X tg e t) (k : ∀ σ H Q, t' σ H Q → t σ H Q) : PI X tg e t' := ⟨fun pins s σ H Q I q => h.run pins s σ H Q I (k σ H Q q)⟩
section
variable {K : PySem.W.Frag} {mg : Str → Option Value} {p : Pl} {H : Hp}
theorem SqT.inj {K : PySem.W.Frag} {H : Hp} {a : Addr} {xs ys : List V} (h : Rd H a (.tup xs)) (h' : Rd H a (.tup ys)) : xs = ys := by
  rcases h with h | ⟨o, h⟩ <;> rcases h' with h' | ⟨o', h'⟩
  · rw [h] at h'; cases h'; rfl
  · rw [h] at h'; cases h'
  · rw [h] at h'; cases h'
  · rw [h] at h'; cases h'; rfl
theorem walk_lst {a : Addr} {vs : List V} {ts : List T} (h : H a = some (.lst vs)) (n1 : a ∉ p.mu) (r : RepL K mg p H ts vs) : WalkT K mg p H (Itl K a) ts := by
  refine ⟨fun i q H2 hi st => ?_, fun q H2 st => ⟨vs, SqL.of (st.kp a _ n1 .lst h), by rw [r.length]; exact Nat.le_refl _⟩, fun i q H2 x H3 t e st y => ?_⟩
  · exact ⟨vs, vs[i]'(by rw [r.length]; exact hi), SqL.of (st.kp a _ n1 .lst h), List.getElem?_eq_getElem _⟩
  · obtain ⟨rfl, y⟩ := y
    obtain ⟨v, e1, rv⟩ := r.get e
    have := y vs (SqL.of (st.kp a _ n1 .lst h))
    rw [e1] at this; cases this
    exact ⟨.inl rfl, fun q3 k => k _ _ rv⟩
theorem walk_scr {a : Addr} {ns : List Int} (h : SqL K H a (ns.map V.int)) (hk : ∀ q H2, Stp p H q H2 → SqL K H2 a (ns.map V.int)) : WalkT K mg p H (Itl K a) (ns.map T.int) := by
  refine ⟨fun i q H2 hi st => ?_, fun q H2 st => ⟨_, hk q H2 st, by simp⟩, fun i q H2 x H3 t e st y => ?_⟩
  · refine ⟨_, .int (ns[i]'(by simpa using hi)), hk q H2 st, ?_⟩
    rw [List.getElem?_map, List.getElem?_eq_getElem (by simpa using hi)]; rfl
  · obtain ⟨rfl, y⟩ := y
    have := y _ (hk q _ st)
    rw [List.getElem?_map] at e this
    cases q : ns[i]? with
    | none => rw [q] at e; cases e
    | some n =>
      rw [q] at e this
      cases e; cases this
      exact ⟨.inl rfl, fun q3 k => rfl⟩
theorem walk_tupT {a : Addr} {vs : List V} {ts : List T} (h : SqT K H a vs) (r : RepL K mg p H ts vs) : WalkT K mg p H (Itt K a) ts := by
  refine ⟨fun i q H2 hi st => ?_, fun q H2 st => ⟨vs, SqT.stp st h, by rw [r.length]; exact Nat.le_refl _⟩, fun i q H2 x H3 t e st y => ?_⟩
  · exact ⟨vs, vs[i]'(by rw [r.length]; exact hi), SqT.stp st h, List.getElem?_eq_getElem _⟩
  · obtain ⟨rfl, y⟩ := y
    obtain ⟨v, e1, rv⟩ := r.get e
    have := y vs (SqT.stp st h)
    rw [e1] at this; cases this
    exact ⟨.inl rfl, fun q3 k => k _ _ rv⟩
theorem walk_rng {lo : Int} {n : Nat} : WalkT K mg p H (Itr lo n) ((List.range n).map fun i => T.int (lo + (i : Nat))) := by
  refine ⟨fun i q H2 hi st => by show i < n; simpa using hi, fun q H2 st => by show n ≤ _; simp, fun i q H2 x H3 t e st y => ?_⟩
  obtain ⟨rfl, rfl⟩ := y
  rw [List.getElem?_map] at e
  cases q : (List.range n)[i]? with
  | none => rw [q] at e; cases e
  | some m =>
    rw [q] at e
    have : m = i := by
      obtain ⟨h, e2⟩ := List.getElem?_eq_some_iff.mp q
      simpa using e2.symm
    subst this
    cases e
    exact ⟨.inl rfl, fun q3 k => rfl⟩
end
section
variable {X : Cx} {W : XW} {tg e a b : Expr} {fe fa fb : Ro → Sto → Out T} {pos : Pos}
/-- a list or a tuple, whichever the value is -/
theorem pi_seq {l : Expr} {tl : TE} (hl : PE X l tl) : PI X tg l (fun σ H R => tl σ H fun x H1 => ∃ a, x = .ref a ∧ (((∃ xs, SqL X.K H1 a xs) ∧ R (Itl X.K a) H1) ∨ ((∃ xs, SqT X.K H1 a xs) ∧ R (Itt X.K a) H1))) := by
  refine ⟨fun pins s σ H R I h => ?_⟩
  refine thn (hl.run pins s σ H _ I h) fun v s1 ⟨x, H1, I1, r1, q1⟩ => ?_
  obtain ⟨a, e, q1⟩ := q1
  subst e
  cases r1
  rcases q1 with ⟨⟨xs, hq⟩, q⟩ | ⟨⟨xs, hq⟩, q⟩
  · obtain ⟨its, rv, p, hz⟩ := I1.list hq
    refine wpAny_pyIter_list p.isList ?_
    refine ⟨s1.heap.objs.size, [s1.heap.objs.size], _, _, H1, rfl, I1.kept (t' := s1.toks) fun b o e => Heap.get?_push_of_some _ e, turn_list a _, ⟨_, Heap.get?_push_size _ rfl, rfl, rfl⟩, fun b hb => ?_, q⟩
    have e : b = s1.heap.objs.size := by simpa using hb
    subst e
    exact I1.fpOk (Nat.le_refl _) (I1.hok.fresh (Nat.le_refl _))
  · obtain ⟨its, rv, p, hz⟩ := I1.tuple hq
    refine wpAny_pyIter_tuple (show s1.heap.IsTuple a its.toArray from p) ?_
    refine ⟨s1.heap.objs.size, [s1.heap.objs.size], _, _, H1, rfl, I1.kept (t' := s1.toks) fun b o e => Heap.get?_push_of_some _ e, turn_tuple a _, ⟨_, Heap.get?_push_size _ rfl, rfl, rfl⟩, fun b hb => ?_, q⟩
    have e : b = s1.heap.objs.size := by simpa using hb
    subst e
    exact I1.fpOk (Nat.le_refl _) (I1.hok.fresh (Nat.le_refl _))
def itemsG (t : T) (S : Sto) : Out (List T) := match t with
  | .lst ts => .ok ts S
  | .tup ts => .ok ts S
  | .scr ns => .ok (ns.map T.int) S
  | _ => .no
def iF (fe : Ro → Sto → Out T) : Ro → Sto → Out (List T) := fun ρ S => (fe ρ S).bind itemsG
theorem scr_seq {K : PySem.W.Frag} {mg : Str → Option Value} {p : Pl} {H : Hp} {ns : List Int} {v : V} (r : Rep K mg p H (.scr ns) v) : ∃ a, v = .ref a ∧ SqL K H a (ns.map V.int) ∧ ∀ q H2, Stp p H q H2 → SqL K H2 a (ns.map V.int) := by
  obtain ⟨a, rfl, r⟩ := r
  refine ⟨a, rfl, ?_, fun q H2 st => ?_⟩
  · rcases r with ⟨o, h⟩ | h
    · exact .inl (.inr ⟨o, h⟩)
    · exact .inr h
  · rcases r with ⟨o, h⟩ | h
    · exact .inl (.inr ⟨o, st.frz _ _ _ h⟩)
    · exact .inr h
theorem i_seq (he : DE X W e fe) : DI X W tg e (iF fe) :=
  PI.imp (pi_seq he) fun σ H R h => At.bind (f := fe) (g := fun _ => itemsG) h fun ρ t S q H1 rs re o v rv => by
    cases t with
    | lst ts =>
      obtain ⟨a, vs, rfl, h1, n1, n2, r1⟩ := rv
      exact ⟨a, rfl, .inl ⟨⟨vs, SqL.of h1⟩, (show PO X.K X.mg W q H1 (.ok ts S) (RI X.K X.mg R) from o).now rs _ (walk_lst h1 n1 r1)⟩⟩
    | tup ts =>
      obtain ⟨a, vs, rfl, h1, r1⟩ := rv
      exact ⟨a, rfl, .inr ⟨⟨vs, h1⟩, (show PO X.K X.mg W q H1 (.ok ts S) (RI X.K X.mg R) from o).now rs _ (walk_tupT h1 r1)⟩⟩
    | scr ns =>
      obtain ⟨a, rfl, h1, h2⟩ := scr_seq rv
      exact ⟨a, rfl, .inl ⟨⟨_, h1⟩, (show PO X.K X.mg W q H1 (.ok (ns.map T.int) S) (RI X.K X.mg R) from o).now rs _ (walk_scr h1 h2)⟩⟩
    | _ => exact o.elim
def rng (lo hi : Int) (S : Sto) : Out (List T) := match decide (-(2 ^ 62) ≤ lo ∧ lo < 2 ^ 62 ∧ -(2 ^ 62) ≤ hi ∧ hi < 2 ^ 62) with
  | true => .ok ((List.range (hi - lo).toNat).map fun i => T.int (lo + (i : Nat))) S
  | false => .no
def rng1 (ts : List T) (S : Sto) : Out (List T) := match ts with
  | [.int j] => rng 0 j S
  | _ => .no
def rng2 (ts : List T) (S : Sto) : Out (List T) := match ts with
  | [.int i, .int j] => rng i j S
  | _ => .no
theorem i_rng1 {fs : Ro → Sto → Out (List T)} {p' : Pos} (hg : Gl X "range") (hm : X.mg "range" = none) (ha : DA X W [a] fs) (hs : starEach [a] X.env = [(false, eval a X.env)] := by rfl) : DI X W tg (.Call (.Name "range" p') [a] [] pos) (fun ρ S => (fs ρ S).bind rng1) :=
  PI.imp (pi_range1 hg hm ha hs) fun σ H R h => At.bind (f := fs) (g := fun _ => rng1) h fun ρ ts S q H1 rs re o vs rv => by
    unfold rng1 at o
    split at o
    · rename_i j
      obtain ⟨v, _, e, r1, e2⟩ := rv
      subst e e2
      obtain rfl : v = .int j := r1
      unfold rng at o
      split at o
      · rename_i hd
        have hd := of_decide_eq_true hd
        refine ⟨j, rfl, hd.2.2.1, hd.2.2.2, ?_⟩
        have := (show PO X.K X.mg W q H1 (.ok _ S) (RI X.K X.mg R) from o).now rs _ walk_rng
        simpa using this
      · exact o.elim
    · exact o.elim
theorem i_rng2 {fs : Ro → Sto → Out (List T)} {p' : Pos} (hg : Gl X "range") (hm : X.mg "range" = none) (ha : DA X W [a, b] fs) (hs : starEach [a, b] X.env = [(false, eval a X.env), (false, eval b X.env)] := by rfl) (hs2 : starEach [b] X.env = [(false, eval b X.env)] := by rfl) :
    DI X W tg (.Call (.Name "range" p') [a, b] [] pos) (fun ρ S => (fs ρ S).bind rng2) :=
  PI.imp (pi_range2 hg hm ha hs hs2) fun σ H R h => At.bind (f := fs) (g := fun _ => rng2) h fun ρ ts S q H1 rs re o vs rv => by
    unfold rng2 at o
    split at o
    · rename_i i j
      obtain ⟨v, _, e, r1, u, _, e2, r2, e3⟩ := rv
      subst e e2 e3
      obtain rfl : v = .int i := r1
      obtain rfl : u = .int j := r2
      unfold rng at o
      split at o
      · rename_i hd
        have hd := of_decide_eq_true hd
        exact ⟨i, j, rfl, hd, (show PO X.K X.mg W q H1 (.ok _ S) (RI X.K X.mg R) from o).now rs _ walk_rng⟩
      · exact o.elim
    · exact o.elim

/-! ### loops -/
def loopF (g : T → Ro → Sto → Out Ro) (fb : Ro → Sto → Out Fl) : List T → Ro → Sto → Out Fl
  | [], ρ, S => .ok (.nx ρ) S
  | t :: ts, ρ, S => (g t ρ S).bind fun ρ1 S1 => (fb ρ1 S1).bind fun fl S2 => match fl with
    | .nx ρ2 => loopF g fb ts ρ2 S2
    | .ct ρ2 => loopF g fb ts ρ2 S2
    | .bk ρ2 => .ok (.nx ρ2) S2
    | .rt t => .ok (.rt t) S2
def foF (fi : Ro → Sto → Out (List T)) (g : T → Ro → Sto → Out Ro) (fb : Ro → Sto → Out Fl) : Ro → Sto → Out Fl := fun ρ S => (fi ρ S).bind fun ts S1 => loopF g fb ts ρ S1
theorem s_for {iter : Expr} {body : List Stmt} {fi : Ro → Sto → Out (List T)} {g : T → Ro → Sto → Out Ro} {fb : Ro → Sto → Out Fl} (hp : PassesOwn (model X.prog X.w) X.A X.env X.xe) (hc : X.calm = true) (hi : DI X W tg iter fi) (hg : DG X W tg g) (hb : DSs X W body fb)
    (hs : ∀ x, foldedSetIterable iter X.env x = pure x := by intro _; rfl) : DS X W (.For tg iter body [] pos) (foF fi g fb) := by
  refine PS.imp (ps_for hp hc hi hg hb hs) fun D σ H h => ?_
  refine At.bind (f := fi) (g := fun ρ ts S1 => loopF g fb ts ρ S1) h fun ρ ts S q H1 rs re o J wk => ?_
  refine ⟨fun i m σ' H' => m + i = ts.length ∧ ∃ p' ρ' S', Stp q H1 p' H' ∧ RelS X.K X.mg W p' H' S' ∧ RelE X.K X.mg W p' H' σ' ρ' ∧ PO X.K X.mg W p' H' (loopF g fb (ts.drop i) ρ' S') (RD X.K X.mg W D), ⟨ts.length, rfl, q, ρ, S, .refl, rs, re, o⟩, ?_⟩
  rintro i m σ' H' ⟨hm, p', ρ', S', st, rs', re', o'⟩
  by_cases hi : i < ts.length
  · refine .inr ⟨wk.go i p' H' hi st, fun σ2 H2 => ∃ p2 ρ2 S2, Stp q H1 p2 H2 ∧ RelS X.K X.mg W p2 H2 S2 ∧ RelE X.K X.mg W p2 H2 σ2 ρ2 ∧ PO X.K X.mg W p2 H2 (loopF g fb (ts.drop (i + 1)) ρ2 S2) (RD X.K X.mg W D), fun σ2 H2 h2 => ⟨m - 1, by omega, by omega, h2⟩, fun x H3 y => ?_⟩
    obtain ⟨gr, rx⟩ := wk.yld i p' H' x H3 ts[i] (List.getElem?_eq_getElem hi) st y
    have st3 := gr.stp (p := p')
    have rs3 := gr.rels rs'
    have rx := rx p' fun t v r => (r.stp st).stp st3
    rw [List.drop_eq_getElem_cons hi] at o'
    have o3 := PO.stp st3 o'
    refine ⟨p', ρ', S', ts[i], rs3, re'.stp st3, rx, PO.bind (f := fun ρ1 S1 => (fb ρ1 S1).bind fun fl S2 => match fl with | .nx ρ2 => loopF g fb (ts.drop (i + 1)) ρ2 S2 | .ct ρ2 => loopF g fb (ts.drop (i + 1)) ρ2 S2 | .bk ρ2 => .ok (.nx ρ2) S2 | .rt t => .ok (.rt t) S2) o3 fun ρ1 S1 q4 H4 st4 rs4 o4 σ4 re4 => ?_⟩
    have st5 := (st.trans st3).trans st4
    refine ⟨q4, ρ1, S1, rs4, re4, PO.flow (k := fun fl S2 => match fl with | .nx ρ2 => loopF g fb (ts.drop (i + 1)) ρ2 S2 | .ct ρ2 => loopF g fb (ts.drop (i + 1)) ρ2 S2 | .bk ρ2 => .ok (.nx ρ2) S2 | .rt t => .ok (.rt t) S2) o4 (fun ρ5 S5 q5 H5 σ5 b rs5 re5 o5 => ⟨q5, ρ5, S5, st5.trans b, rs5, re5, o5⟩)
      (fun t S5 q5 H5 v b rs5 rv o5 => po_rt (W := W) (D := D) t o5 rs5 rv) (fun ρ5 S5 q5 H5 σ5 b rs5 re5 o5 => po_nx (W := W) (D := D) ρ5 o5 rs5 re5) (fun ρ5 S5 q5 H5 σ5 b rs5 re5 o5 => ⟨q5, ρ5, S5, st5.trans b, rs5, re5, o5⟩)⟩
  · have e : i = ts.length := by omega
    subst e
    rw [List.drop_length] at o'
    exact .inl ⟨wk.stop p' H' st, po_nx (W := W) (D := D) ρ' o' rs' re'⟩
def loopW (gc : Ro → Sto → Out Bool) (fb : Ro → Sto → Out Fl) : Nat → Ro → Sto → Out Fl
  | 0, _, _ => .no
  | n + 1, ρ, S => (gc ρ S).bind fun b S1 => match b with
    | false => .ok (.nx ρ) S1
    | true => (fb ρ S1).bind fun fl S2 => match fl with
      | .nx ρ2 => loopW gc fb n ρ2 S2
      | .ct ρ2 => loopW gc fb n ρ2 S2
      | .bk ρ2 => .ok (.nx ρ2) S2
      | .rt t => .ok (.rt t) S2
theorem s_while (n : Nat) {c : Expr} {body : List Stmt} {gc : Ro → Sto → Out Bool} {fb : Ro → Sto → Out Fl} (hp : PassesOwn (model X.prog X.w) X.A X.env X.xe) (hc : DT X W c gc) (hb : DSs X W body fb) : DS X W (.While c body [] pos) (loopW gc fb n) := by
  refine PS.imp (ps_while hp hc hb) fun D σ H h => ?_
  refine ⟨fun m σ' H' => ∃ p' ρ' S', RelS X.K X.mg W p' H' S' ∧ RelE X.K X.mg W p' H' σ' ρ' ∧ PO X.K X.mg W p' H' (loopW gc fb m ρ' S') (RD X.K X.mg W D), ⟨n, h⟩, ?_⟩
  rintro m σ' H' ⟨p', ρ', S', rs', re', o'⟩
  cases m with
  | zero => exact o'.elim
  | succ m =>
    refine ⟨p', ρ', S', rs', re', PO.bind (o := gc ρ' S') (f := fun b S1 => match b with | false => Out.ok (Fl.nx ρ') S1 | true => (fb ρ' S1).bind fun fl S2 => match fl with | .nx ρ2 => loopW gc fb m ρ2 S2 | .ct ρ2 => loopW gc fb m ρ2 S2 | .bk ρ2 => .ok (.nx ρ2) S2 | .rt t => .ok (.rt t) S2) o' fun b S1 q1 H1 st1 rs1 o1 => ?_⟩
    have re1 := re'.stp st1
    cases b with
    | false => simp only [RB, Bool.false_eq_true, if_false]; exact po_nx (W := W) (D := D) ρ' o1 rs1 re1
    | true =>
      simp only [RB, if_true]
      refine ⟨fun σ2 H2 => ∃ p2 ρ2 S2, RelS X.K X.mg W p2 H2 S2 ∧ RelE X.K X.mg W p2 H2 σ2 ρ2 ∧ PO X.K X.mg W p2 H2 (loopW gc fb m ρ2 S2) (RD X.K X.mg W D), fun σ2 H2 h2 => ⟨m, Nat.lt_succ_self _, h2⟩, ?_⟩
      refine ⟨q1, ρ', S1, rs1, re1, PO.flow (k := fun fl S2 => match fl with | .nx ρ2 => loopW gc fb m ρ2 S2 | .ct ρ2 => loopW gc fb m ρ2 S2 | .bk ρ2 => .ok (.nx ρ2) S2 | .rt t => .ok (.rt t) S2) o1 (fun ρ5 S5 q5 H5 σ5 b rs5 re5 o5 => ⟨q5, ρ5, S5, rs5, re5, o5⟩)
        (fun t S5 q5 H5 v b rs5 rv o5 => po_rt (W := W) (D := D) t o5 rs5 rv) (fun ρ5 S5 q5 H5 σ5 b rs5 re5 o5 => po_nx (W := W) (D := D) ρ5 o5 rs5 re5) (fun ρ5 S5 q5 H5 σ5 b rs5 re5 o5 => ⟨q5, ρ5, S5, rs5, re5, o5⟩)⟩
end
end Mi


set_option Elab.async false
set_option linter.all false
set_option maxRecDepth 100000
set_option maxHeartbeats 1000000
namespace Mi
open PySem PySem.Spec PyProof.Rows L2
/-! ### defs that may ask repr: the guards are known, too -/
structure RoomG (k : Nat) (A : Around) : Prop where
  room : Room k A
  gd : A.guards = some []
theorem RoomG.mono {j k : Nat} {A : Around} (r : RoomG k A) (h : j ≤ k) : RoomG j A := ⟨r.room.mono h, r.gd⟩
theorem RoomG.deeper {k : Nat} {A : Around} (r : RoomG (k + 1) A) (env : Env) : RoomG k (A.deeper env) := ⟨r.room.deeper env, r.gd⟩
structure FnG (P : Program) (w : World) (K : PySem.W.Frag) (mg : Str → Option Value) (base : Heap) (CX : CXT) (k : Nat) (f : Addr) (fd : FuncData) (ps : List Str) (sp : Sp) : Prop where
  len : ∀ vs H Q E, sp vs H Q E → vs.length = ps.length
  run : ∀ (A : Around) (outer : List Env) (s : Shared) (H : Hp) (args : Args) (us : List Value) (vs : List V) (Q : VK) (E : XK), RoomG k A → Env0 P w K mg base A outer s H → BindsTo s fd args (ps.zip us) → Vals vs us → sp vs H Q E →
    codeAny (model P w) A (.call (.ref f) args) (CR CX outer P w H s Q E) s
theorem FnG.mono {P : Program} {w : World} {K : PySem.W.Frag} {mg : Str → Option Value} {base : Heap} {CX : CXT} {j k : Nat} {f : Addr} {fd : FuncData} {ps : List Str} {sp : Sp} (F : FnG P w K mg base CX j f fd ps sp) (h : j ≤ k) : FnG P w K mg base CX k f fd ps sp :=
  ⟨F.len, fun A outer s H args us vs Q E hr => F.run A outer s H args us vs Q E (hr.mono h)⟩
section
variable {X : Cx} {CX : CXT} {k : Nat} {f : Addr} {fd : FuncData} {ps : List Str} {sp : Sp} {dvs : List V} {ds : List Value} {E : XK} {x : Str} {p pos : Pos} {e : Expr} {es : List Expr} {t : TA}
theorem run_fnG {pins : List (Addr × Obj)} {σ : L2.St} {H : Hp} {s : Shared} {Q : VK} {us : List Value} {vs : List V} (F : FnG X.prog X.w X.K X.mg X.base CX k f fd ps sp) (hr : RoomG k X.A) (hb : Binds X.K fd ps ds) (hd : Vals dvs ds) (hx : Passes CX X E)
    (I : Inv X pins σ H s) (r : Vals vs us) (h : sp (vs ++ dvs) H Q E) : wpAny (model X.prog X.w) X.A (call (.ref f) us) (EP X pins σ Q) X.xe s := by
  have r2 : Vals (vs ++ dvs) (us ++ ds) := r.append hd
  have hl : (us ++ ds).length = ps.length := by rw [← r2.length]; exact F.len _ _ _ _ h
  refine wpAny_call (codeAny_mono (F.run X.A X.stack s H ⟨us, []⟩ (us ++ ds) (vs ++ dvs) Q E hr I.env0 (hb s us I.kIn hl) r2 h) fun r s' hq => ?_)
  cases r with
  | error e => exact hx pins σ H s e s' I hq
  | ok fl =>
    cases fl with
    | ret u => exact I.after hq
    | next => exact False.elim hq
    | brk => exact False.elim hq
    | cont => exact False.elim hq
theorem pe_callG (F : FnG X.prog X.w X.K X.mg X.base CX k f fd ps sp) (hr : RoomG k X.A) (hg : Gl X x) (hm : X.mg x = some (.ref f)) (hk : PySem.W.keepIn X.K (.ref f) = true) (hb : Binds X.K fd ps ds) (hd : Vals dvs ds) (hx : Passes CX X E)
    (ha : PA X (e :: es) t) (hdb : (x == ("__debug__" : Str)) = false := by decide) (he : starEach (e :: es) X.env = (false, eval e X.env) :: starEach es X.env := by rfl) (hpl : (backTo pos (starEach es X.env)).any (·.1) = false := by rfl) :
    PE X (.Call (.Name x p) (e :: es) [] pos) (tCall sp dvs E t) := by
  refine ⟨fun pins s σ H Q I h => ?_⟩
  refine wpAny_Call_Name_kw (ld_glob I hg hm ?_ hdb)
  refine PySem.W.callWith_K (h₀ := X.base) I.ok.mod.kin hk (thn (ha.run pos pins s σ H _ I h) fun us s1 ⟨vs, H1, I1, r, q⟩ => ⟨I1.kIn, ?_⟩) he hpl
  exact run_fnG F hr hb hd hx I1 r q
theorem pe_call0G (F : FnG X.prog X.w X.K X.mg X.base CX k f fd ps sp) (hr : RoomG k X.A) (hg : Gl X x) (hm : X.mg x = some (.ref f)) (hk : PySem.W.keepIn X.K (.ref f) = true) (hb : Binds X.K fd ps ds) (hd : Vals dvs ds) (hx : Passes CX X E)
    (hdb : (x == ("__debug__" : Str)) = false := by decide) : PE X (.Call (.Name x p) [] [] pos) (tCall sp dvs E tNil) := by
  refine ⟨fun pins s σ H Q I h => ?_⟩
  refine wpAny_Call_Name_kw (ld_glob I hg hm ?_ hdb)
  exact PySem.W.callWith_K0 I.kIn hk (run_fnG (us := []) F hr hb hd hx I .nil h)
/-- a local name that holds a def -/
theorem pe_callLG {i : Nat} (F : FnG X.prog X.w X.K X.mg X.base CX k f fd ps sp) (hr : RoomG k X.A) (hN : X.N[i]? = some x) (hv : Vis X.env.scope x) (hk : PySem.W.keepIn X.K (.ref f) = true) (hb : Binds X.K fd ps ds) (hd : Vals dvs ds) (hx : Passes CX X E) (ha : PA X (e :: es) t)
    (hdb : (x == ("__debug__" : Str)) = false := by decide) (hcd : (x == ("__classdict__" : Str)) = false := by decide)
    (he : starEach (e :: es) X.env = (false, eval e X.env) :: starEach es X.env := by rfl) (hpl : (backTo pos (starEach es X.env)).any (·.1) = false := by rfl) : PE X (.Call (.Name x p) (e :: es) [] pos) (tCallL i f sp dvs E t) := by
  refine ⟨fun pins s σ H Q I h => ?_⟩
  obtain ⟨hs, ht⟩ := h
  refine wpAny_Call_Name_kw (thn ((pe_var (pos := p) hN hv hdb hcd).run pins s σ H (fun v H1 => v = .ref f ∧ H1 = H) I ⟨.ref f, hs, rfl, rfl⟩) fun u s1 ⟨v, H1, I1, r1, q1⟩ => ?_)
  obtain ⟨rfl, rfl⟩ := q1
  cases r1
  refine PySem.W.callWith_K (h₀ := X.base) I.ok.mod.kin hk (thn (ha.run pos pins s1 σ _ _ I1 ht) fun us s2 ⟨vs, H2, I2, r, q⟩ => ⟨I2.kIn, ?_⟩) he hpl
  exact run_fnG F hr hb hd hx I2 r q
end
theorem fnG_of {CX : CXT} {P : Program} {w : World} {K : PySem.W.Frag} {mg : Str → Option Value} {base : Heap} {k : Nat} {f : Addr} {name qual : Str} {params : Arguments} {body : List Stmt} {scope : Scope} {dV kV doc pm cdv ct oc : Value} {an od : Option Addr}
    {osl : Array (Option Value)} {N ps : List Str} {sp : Sp} (lk : K.lookup f = some ⟨oc, od, .func (PySem.W.fnOf name qual params body scope dV kV doc pm an cdv ct), osl⟩) (hcd : PySem.W.codeIn K cdv qual = true) (S : FnScope N ps scope)
    (len : ∀ vs H Q E, sp vs H Q E → vs.length = ps.length)
    (hbody : ∀ (A : Around) (outer : List Env) (s : Shared) (H : Hp) (vs : List V) (Q : VK) (E : XK), RoomG k (A.deeper (envOfC qual scope s.heap.objs.size f cdv)) → sp vs H Q E →
      ∃ t, PSs (cxOf CX P w K mg base N qual scope f cdv A outer s H E) body t ∧ t { nx := fun _ H' => Q .non H', rt := Q } (L2.start N vs) H) :
    FnG P w K mg base CX (k + 1) f (PySem.W.fnOf name qual params body scope dV kV doc pm an cdv ct) ps sp := by
  refine ⟨len, fun A outer s H args us vs Q E hr e0 hb r hsp => ?_⟩
  exact LamX.run_ofS lk hcd S hr.room e0 hb r (len _ _ _ _ hsp) fun hr' => hbody A outer s H vs Q E ⟨hr', hr.gd⟩ hsp
section
variable {X : Cx} {pins : List (Addr × Obj)} {σ : L2.St} {H HZ : Hp} {s s1 : Shared}
/-- x(), in the def that got the lambda -/
theorem pe_actG {CXg : CXT} {Eg : XK} {Ng : List Str} {qg : Str} {sg : Scope} {g f c' : Addr} {cdg pm ctv : Value} {params : Arguments} {body : Expr} {scope : Scope} {k i : Nat} {a : Str} {pn : List (Addr × Obj)} {xe : Value → Shared → Prop} {W : WX} {E : XK} {tb : TE} {p1 p2 : Pos}
    (I : Inv X pins σ H s) (L : LamX.LamS X.env.scope scope) (hf : s.heap.get? f = some (PySem.W.kla_obj "<lambda>" (X.env.qual ++ "<lambda>") params body scope (cloFrom X.env.cells scope.names []) pm c' ctv)) (hfn : H f = none) (hfr : f ∉ frs X.stack)
    (hbind : bindArgs (PySem.W.kla_fn "<lambda>" (X.env.qual ++ "<lambda>") params body scope (cloFrom X.env.cells scope.names []) pm (.ref c') ctv) ⟨[], []⟩ = pure [])
    (tk : Takes ((cxOf CXg X.prog X.w X.K X.mg X.base Ng qg sg g cdg X.A X.stack s H Eg).tr pn xe) W) (hW : ∀ cls d σ' H', E cls d H' → W cls d σ' H') (hr : RoomG (k + 1) (X.A.deeper (envOfC qg sg s.heap.objs.size g cdg)))
    (hbody : ∀ (A : Around) (outer : List Env) (s : Shared) (H : Hp), RoomG k (A.deeper (LamX.lamEnv X scope s.heap.objs.size f c')) → PE (LamX.lamCx X A outer s H E scope f c') body tb)
    (hN : Ng[i]? = some a) (hv : Vis sg a) (hd : (a == ("__debug__" : Str)) = false := by decide) (hcd : (a == ("__classdict__" : Str)) = false := by decide) :
    PE ((cxOf CXg X.prog X.w X.K X.mg X.base Ng qg sg g cdg X.A X.stack s H Eg).tr pn xe) (.Call (.Name a p1) [] [] p2)
      (fun σZ HZ Q => σZ[i]? = some (some (.ref f)) ∧ HZ c' = some (LamX.CodeO c' (X.env.qual ++ "<lambda>")) ∧ tb σ HZ Q) := by
  refine ⟨fun pinsZ sZ σZ HZ Q IZ h => ?_⟩
  obtain ⟨hs, hc, ht⟩ := h
  refine wpAny_Call_Name_kw (thn ((pe_var (pos := p1) (i := i) hN hv hd hcd).run pinsZ sZ σZ HZ (fun v H1 => v = .ref f ∧ H1 = HZ) IZ ⟨.ref f, hs, rfl, rfl⟩) fun u s1 ⟨v, H1, I1, r1, q1⟩ => ?_)
  obtain ⟨ev, eH⟩ := q1
  subst ev
  rw [eH] at I1
  obtain rfl : u = Value.ref f := r1
  have of1 : s1.heap.get? f = some (PySem.W.kla_obj "<lambda>" (X.env.qual ++ "<lambda>") params body scope (cloFrom X.env.cells scope.names []) pm c' ctv) := I1.base.keep f _ hf hfn hfr (fun z => nomatch (show f ∈ ([] : List Addr) from z))
  refine PySem.W.callWith_F0 ⟨_, _, _, _, of1⟩ ?_
  have un : Un (frs X.stack) [] H HZ s.heap s1.heap := I1.base
  obtain ⟨⟨oc, vs, t, hoc, hdc, hvc⟩, _, _⟩ := I1.hok c' _ hc
  have rc : codeAny (model X.prog X.w) (X.A.deeper (envOfC qg sg s.heap.objs.size g cdg)) (.call (.ref f) ⟨[], []⟩) (CR (L2.CX X.prog X.w) (envOfC qg sg s.heap.objs.size g cdg :: X.stack) X.prog X.w HZ s1 Q E) s1 := by
    refine PySem.W.kla_callFunE hr.room.depth of1 rfl L.co L.gen rfl ⟨c', oc, vs, t, rfl, hoc, hdc, hvc⟩ ?_
    rw [hbind]
    refine wpAny_pure (wpAny_newFunctionEnv (fun y hy => (L.own y hy).2) (fun y hy => absurd hy (by simp)) (fun h₁ hns hsb => ⟨I1.nolimit.fresh _ hsb, ?_⟩) L.kind)
    show codeAny _ _ (.expr body (LamX.lamEnv X scope s1.heap.objs.size f c')) _ _
    have kp : ∀ b o, s1.heap.get? b = some o → h₁.get? b = some o := fun b o e => hsb.extBut b o (Nat.ne_of_lt (Heap.lt_size e)) (Heap.get?_push_of_some _ e)
    have J : Inv (LamX.lamCx X (X.A.deeper (envOfC qg sg s.heap.objs.size g cdg)) (envOfC qg sg s.heap.objs.size g cdg :: X.stack) s1 HZ E scope f c') [] σ HZ { s1 with heap := h₁, toks := s1.toks + ([] : List (Str × Value)).length } :=
      LamX.lam_start2 I L I1.env0 hr.room.hd un hns kp
    refine PySem.W.kla_codeExpr (wpAny_mono ((hbody _ _ s1 HZ (hr.deeper _)).run [] _ _ HZ Q J ht) (fun v s' hq => ?_) fun e s' hq => hq)
    obtain ⟨w', H', J', rv, q⟩ := hq
    exact ⟨w', H', J'.os, J'.bare, J'.base, J'.hok, rv, q⟩
  have hx : Passes (L2.CX X.prog X.w) ((cxOf CXg X.prog X.w X.K X.mg X.base Ng qg sg g cdg X.A X.stack s H Eg).tr pn xe) E := passes_call tk hW
  refine wpAny_call (codeAny_mono rc fun r s' hq => ?_)
  cases r with
  | error e => exact hx pinsZ σZ HZ s1 e s' I1 hq
  | ok fl =>
    cases fl with
    | ret u => exact I1.after hq
    | next => exact False.elim hq
    | brk => exact False.elim hq
    | cont => exact False.elim hq
end
section
variable {X : Cx}
/-- x(lambda: body) -/
theorem pe_lamcallG {T : List (Addr × Str)} {TT : (XK → Hp → VK → Prop) → Hp → VK → Prop} {x a : Str} {g c P : Addr} {k : Nat} {pg : Arguments} {bg : List Stmt} {sg : Scope} {dV kV doc pm cdv ct oc : Value} {an od : Option Addr} {osl : Array (Option Value)} {Ng : List Str}
    {params : Arguments} {body : Expr} {scope : Scope} {t : XK → TE} {p lpos pos : Pos} (hg : Gl X x) (hm : X.mg x = some (.ref g)) (hk : PySem.W.keepIn X.K (.ref g) = true)
    (lk : X.K.lookup g = some ⟨oc, od, .func (PySem.W.fnOf x x pg bg sg dV kV doc pm an cdv ct), osl⟩) (hcg : PySem.W.codeIn X.K cdv x = true) (hb : L2.Binds X.K (PySem.W.fnOf x x pg bg sg dV kV doc pm an cdv ct) [a] []) (Sg : FnScope Ng [a] sg) (hNg : Ng[0]? = some a) (hva : Vis sg a)
    (hG : LamX.GivesTo X Ng x sg g cdv bg a (X.env.qual ++ "<lambda>") TT)
    (TB : LamX.TabB X.base X.mg c P) (hcode : X.env.code = .ref c) (hmT : (P, X.env.qual ++ "<lambda>") ∈ T) (hu : ∀ p ∈ T, p.1 = P → p.2 = X.env.qual ++ "<lambda>") (hr : RoomG (k + 2) X.A) (L : LamX.LamS X.env.scope scope) (hdef : defaultsOf params X.env = ([], []))
    (hbind : ∀ (q : Str) (cl : List (Str × Addr)) (pm cv ctv : Value), bindArgs (PySem.W.kla_fn "<lambda>" q params body scope cl pm cv ctv) ⟨[], []⟩ = pure [])
    (hbody : ∀ (A : Around) (outer : List Env) (s : Shared) (H : Hp) (E : XK) (f c' : Addr), RoomG k (A.deeper (LamX.lamEnv X scope s.heap.objs.size f c')) → PE (LamX.lamCx X A outer s H E scope f c') body (t E))
    (hdb : (x == ("__debug__" : Str)) = false := by decide) (hd : (a == ("__debug__" : Str)) = false := by decide) (hcd : (a == ("__classdict__" : Str)) = false := by decide) :
    PE X (.Call (.Name x p) [.Lambda params body scope lpos] [] pos) (LamX.tLam T TT t) := by
  refine ⟨fun pins s σ H Q I h => ?_⟩
  obtain ⟨hT, h⟩ := h
  refine wpAny_Call_Name_kw (ld_glob I hg hm ?_ hdb)
  refine PySem.W.callWith_K (h₀ := X.base) I.ok.mod.kin hk ?_ (by rfl) (by rfl)
  show wpAny _ _ (spliced ((false, eval (.Lambda params body scope lpos) X.env) :: backTo pos (starEach [] X.env))) _ _ s
  refine Calls.spliced_cons (LamX.lam_make2 I TB hcode hmT hu hT hdef (L.has I.ok) fun f c' pm' ctv H1 s' I1 eN T1 hf hfn hfr hco => ?_)
  refine Calls.spliced_nil ⟨I1.kIn, ?_⟩
  have rc : codeAny (model X.prog X.w) X.A (.call (.ref g) ⟨[.ref f], []⟩) (CR C8.CX0 X.stack X.prog X.w H1 s' Q C8.E0) s' := by
    refine LamX.run_ofS (N := Ng) (ps := [a]) (us := [.ref f]) (vs := [.ref f]) lk hcg Sg hr.room I1.env0 (hb s' [.ref f] I1.kIn rfl) (.cons rfl .nil) rfl fun hr' => ?_
    obtain ⟨t', ht', hq'⟩ := hG f c' s' H1 Q (fun E H' Q' => t E σ H' Q') (fun W pn xe E p1 p2 tk hW => pe_actG (i := 0) I1 L hf hfn hfr (hbind _ _ _ _ _) tk hW ⟨hr', hr.gd⟩ (fun A outer s H hr2 => hbody A outer s H E f c' hr2) hNg hva hd hcd) hco (h H1 eN T1)
    exact ⟨t', ht'.nox, hq'⟩
  refine wpAny_call (codeAny_mono rc fun r s2 hq => ?_)
  cases r with
  | error e => exact (show False from hq).elim
  | ok fl =>
    cases fl with
    | ret u => exact I1.after hq
    | next => exact False.elim hq
    | brk => exact False.elim hq
    | cont => exact False.elim hq
end
end Mi


set_option Elab.async false
set_option linter.all false
set_option maxRecDepth 100000
namespace Mi
open PySem PySem.Spec PyProof.Rows L2
/-! ### defs -/
abbrev Spec := List T → Sto → Out T
def spOf (K : PySem.W.Frag) (mg : Str → Option Value) (tb : List (Addr × Str)) (n : Nat) (f : Spec) : Sp := fun vs H Q E => vs.length = n ∧ ∃ J p S ts, RelS K mg (plW E J tb) p H S ∧ RepL K mg p H ts vs ∧ PO K mg (plW E J tb) p H (f ts S) (RV K mg Q)
/-- the def at f does what the function says -/
structure FnD (P : Program) (w : World) (K : PySem.W.Frag) (mg : Str → Option Value) (tb : List (Addr × Str)) (base : Heap) (k : Nat) (x : Str) (n : Nat) (f : Spec) : Prop where
  ar : ∀ ts S, ts.length ≠ n → f ts S = .no
  ex : ∃ (a : Addr) (fd : FuncData) (ps : List Str), mg x = some (.ref a) ∧ PySem.W.keepIn K (.ref a) = true ∧ Binds K fd ps [] ∧ ps.length = n ∧ FnG P w K mg base (L2.CX P w) k a fd ps (spOf K mg tb n f)
theorem passL0 {X : Cx} {tb : List (Addr × Str)} {J : List Addr → List Addr → Hp → Prop} : Passes (L2.CX X.prog X.w) X (plW (fun _ _ _ => False) J tb).x := passL
/-- the held slot is no matter -/
theorem RelS.pl {K : PySem.W.Frag} {mg : Str → Option Value} {W : XW} {p : Pl} {H : Hp} {S : Sto} (R : RelS K mg W p H S) : RelS K mg (plW W.x W.J W.tb) p H S := ⟨R.len, R.nd, R.ob, R.de, R.tabs, R.pst⟩
theorem RelS.unpl {K : PySem.W.Frag} {mg : Str → Option Value} {W : XW} {p : Pl} {H : Hp} {S : Sto} (R : RelS K mg (plW W.x W.J W.tb) p H S) : RelS K mg W p H S := ⟨R.len, R.nd, R.ob, R.de, R.tabs, R.pst⟩
theorem PO.pl {K : PySem.W.Frag} {mg : Str → Option Value} {W : XW} {p : Pl} {H : Hp} {α : Type} {o : Out α} {R : α → Pl → Hp → Prop} (h : PO K mg W p H o R) : PO K mg (plW W.x W.J W.tb) p H o R := by
  cases o with
  | ok a S => exact fun q H' st rs => h q H' st rs.unpl
  | exc c fs S => exact fun q H' C d fvs st rs => h q H' C d fvs st rs.unpl
  | no => exact h
section
variable {X : Cx} {W : XW} {e : Expr} {es : List Expr} {fs : Ro → Sto → Out (List T)} {x : Str} {p pos : Pos} {k n : Nat} {f : Spec}
theorem d_call (F : FnD X.prog X.w X.K X.mg W.tb X.base k x n f) (hr : RoomG k X.A) (hx : Passes (L2.CX X.prog X.w) X W.x) (ha : DA X W (e :: es) fs) (hg : Gl X x := by rfl) (hdb : (x == ("__debug__" : Str)) = false := by decide)
    (he : starEach (e :: es) X.env = (false, eval e X.env) :: starEach es X.env := by rfl) (hpl : (backTo pos (starEach es X.env)).any (·.1) = false := by rfl) : DE X W (.Call (.Name x p) (e :: es) [] pos) (caF f fs) := by
  obtain ⟨a, fd, ps, hm, hk, hb, hl, ok⟩ := F.ex
  refine PE.imp (pe_callG ok hr hg hm hk hb (.nil : Vals [] []) hx ha hdb he hpl) fun σ H Q h => ?_
  refine At.bind (f := fs) (g := fun _ => f) h fun ρ ts S q H1 rs re o vs rv => ?_
  show spOf X.K X.mg W.tb n f (vs ++ []) H1 Q W.x
  rw [List.append_nil]
  refine ⟨?_, W.J, q, S, ts, rs.pl, rv, o.pl⟩
  rw [rv.length]
  by_cases hn : ts.length = n
  · exact hn
  · rw [F.ar ts S hn] at o; exact o.elim
theorem d_call0 (F : FnD X.prog X.w X.K X.mg W.tb X.base k x 0 f) (hr : RoomG k X.A) (hx : Passes (L2.CX X.prog X.w) X W.x) (hg : Gl X x := by rfl) (hdb : (x == ("__debug__" : Str)) = false := by decide) : DE X W (.Call (.Name x p) [] [] pos) (fun ρ S => f [] S) := by
  obtain ⟨a, fd, ps, hm, hk, hb, hl, ok⟩ := F.ex
  refine PE.imp (pe_call0G ok hr hg hm hk hb (.nil : Vals [] []) hx hdb) fun σ H Q ⟨p, ρ, S, rs, re, o⟩ => ?_
  exact ⟨rfl, W.J, p, S, [], rs.pl, rfl, o.pl⟩
end
/-! ### what a body gives, told without what it threw away -/
mutual
def T.lower (n : Nat) : T → Bool
  | .tup ts => T.lowerL n ts
  | .lst ts => T.lowerL n ts
  | .exn _ _ ts => T.lowerL n ts
  | .ref m => decide (m < n)
  | _ => true
def T.lowerL (n : Nat) : List T → Bool
  | [] => true
  | t :: ts => T.lower n t && T.lowerL n ts
end
def Ob.lower (n : Nat) : Ob → Bool
  | .lst ts => T.lowerL n ts
  | .dK kvs => kvs.all fun kv => T.lower n kv.2
section
variable {K : PySem.W.Frag} {mg : Str → Option Value} {p q : Pl} {H : Hp}
theorem ExnD.cut {n : Nat} {d : Option Addr} {ks : List Str} {vs : List V} (h : ExnD q H d ks vs) : ExnD ⟨q.mu.take n, q.de⟩ H d ks vs := by
  cases d with
  | none => exact h
  | some dx => exact ⟨h.1, fun z => h.2.1 (List.mem_of_mem_take z), h.2.2⟩
mutual
theorem Rep.cut {n : Nat} : ∀ {t : T} {v : V}, Rep K mg q H t v → T.lower n t = true → Rep K mg ⟨q.mu.take n, q.de⟩ H t v
  | .non, _, h, _ => h
  | .bl _, _, h, _ => h
  | .int _, _, h, _ => h
  | .str _, _, h, _ => h
  | .tup ts, _, h, b => by
    obtain ⟨a, vs, e, h1, h2⟩ := h
    exact ⟨a, vs, e, h1, RepL.cut' h2 b⟩
  | .lst ts, _, h, b => by
    obtain ⟨a, vs, e, h1, n1, n2, h2⟩ := h
    exact ⟨a, vs, e, h1, fun z => n1 (List.mem_of_mem_take z), n2, RepL.cut' h2 b⟩
  | .scr _, _, h, _ => h
  | .ref m, _, h, b => by
    obtain ⟨a, e, h1⟩ := h
    have hb : m < n := of_decide_eq_true b
    exact ⟨a, e, by rw [List.getElem?_take_of_lt hb]; exact h1⟩
  | .glob _, _, h, _ => h
  | .ty _, _, h, _ => h
  | .exn c ks ts, _, h, b => by
    obtain ⟨a, C, d, vs, e, h1, h2, h3, h4, h5, h6⟩ := h
    exact ⟨a, C, d, vs, e, h1, h2, fun z => h3 (List.mem_of_mem_take z), h4, RepL.cut' h5 b, h6.cut⟩
  | .mark, _, h, _ => h
theorem RepL.cut' {n : Nat} : ∀ {t : List T} {v : List V}, RepL K mg q H t v → T.lowerL n t = true → RepL K mg ⟨q.mu.take n, q.de⟩ H t v
  | [], _, h, _ => h
  | t :: ts, _, h, b => by
    obtain ⟨v, r, e, h1, h2⟩ := h
    have hb : T.lower n t = true ∧ T.lowerL n ts = true := by simpa [T.lowerL] using b
    exact ⟨v, r, e, Rep.cut h1 hb.1, RepL.cut' h2 hb.2⟩
end
mutual
theorem Rep.lower {n : Nat} : ∀ {t : T} {v : V}, Rep K mg p H t v → p.mu.length ≤ n → T.lower n t = true
  | .mark, _, _, _ | .non, _, _, _ | .bl _, _, _, _ | .int _, _, _, _ | .str _, _, _, _ | .scr _, _, _, _ | .glob _, _, _, _ | .ty _, _, _, _ => rfl
  | .tup ts, _, h, b => by obtain ⟨a, vs, e, h1, h2⟩ := h; exact RepL.lower h2 b
  | .lst ts, _, h, b => by obtain ⟨a, vs, e, h1, _, _, h2⟩ := h; exact RepL.lower h2 b
  | .exn c ks ts, _, h, b => by obtain ⟨a, C, d, vs, e, h1, h2, h3, h4, h5, h6⟩ := h; exact RepL.lower h5 b
  | .ref m, _, h, b => by
    obtain ⟨a, e, h1⟩ := h
    have := (List.getElem?_eq_some_iff.mp h1).1
    exact decide_eq_true (by omega)
theorem RepL.lower {n : Nat} : ∀ {t : List T} {v : List V}, RepL K mg p H t v → p.mu.length ≤ n → T.lowerL n t = true
  | [], _, _, _ => rfl
  | t :: ts, _, h, b => by
    obtain ⟨v, r, e, h1, h2⟩ := h
    simp [T.lowerL, Rep.lower h1 b, RepL.lower h2 b]
end
theorem RepKv.lower {n : Nat} (b : p.mu.length ≤ n) : ∀ {t : List (Key × T)} {v : List (Key × V)}, RepKv K mg p H t v → (t.all fun kv => T.lower n kv.2) = true
  | [], _, _ => rfl
  | (k, t) :: ts, _, h => by
    obtain ⟨v, r, e, h1, h2⟩ := h
    simp only [List.all_cons, Bool.and_eq_true]
    exact ⟨Rep.lower h1 b, RepKv.lower b h2⟩
theorem RepKv.cut {n : Nat} : ∀ {t : List (Key × T)} {v : List (Key × V)}, RepKv K mg q H t v → (t.all fun kv => T.lower n kv.2) = true → RepKv K mg ⟨q.mu.take n, q.de⟩ H t v
  | [], _, h, _ => h
  | (k, t) :: ts, _, h, b => by
    obtain ⟨v, r, e, h1, h2⟩ := h
    simp only [List.all_cons, Bool.and_eq_true] at b
    exact ⟨v, r, e, Rep.cut h1 b.1, RepKv.cut h2 b.2⟩
theorem RepO.lower {n : Nat} {a : Addr} {o : Ob} (h : RepO K mg p H a o) (b : p.mu.length ≤ n) : o.lower n = true := by
  cases o with
  | lst ts => obtain ⟨vs, _, r⟩ := h; exact r.lower b
  | dK ts => obtain ⟨vs, _, r⟩ := h; exact RepKv.lower b r
theorem RelS.cut {W : XW} {S S' G : Sto} (R : RelS K mg W q H S) (e : S = S' ++ G) (hb : ∀ o ∈ S', o.lower S'.length = true) (pst : ∀ r H', Stp ⟨q.mu.take S'.length, q.de⟩ H r H' → W.J r.mu r.de H') : RelS K mg W ⟨q.mu.take S'.length, q.de⟩ H S' := by
  have hl : S'.length ≤ q.mu.length := by rw [R.len, e]; simp
  refine ⟨by simp; omega, R.nd.sublist (List.take_sublist _ _), fun m o eo => ?_, fun b hb' => ⟨fun z => (R.de b hb').1 (List.mem_of_mem_take z), (R.de b hb').2⟩, R.tabs, pst⟩
  have hm : m < S'.length := (List.getElem?_eq_some_iff.mp eo).1
  obtain ⟨a, e1, r⟩ := R.ob m o (by rw [e, List.getElem?_append_left hm]; exact eo)
  refine ⟨a, by rw [List.getElem?_take_of_lt hm]; exact e1, ?_⟩
  have hbo := hb o (List.mem_of_getElem? eo)
  cases o with
  | lst ts => obtain ⟨vs, e2, r⟩ := r; exact ⟨vs, e2, r.cut' hbo⟩
  | dK ts => obtain ⟨vs, e2, r⟩ := r; exact ⟨vs, e2, r.cut hbo⟩
theorem Stp.cut {H' : Hp} {n : Nat} (st : Stp p H q H') (hn : p.mu.length ≤ n) : Stp p H ⟨q.mu.take n, q.de⟩ H' := by
  obtain ⟨ν, e, f⟩ := st.ext
  exact ⟨⟨ν.take (n - p.mu.length), by show q.mu.take n = _; rw [e, List.take_append, List.take_of_length_le hn], fun b hb => f b (List.mem_of_mem_take hb)⟩, st.de, st.tup, st.frz, st.kp, st.al⟩
end
/-! a result seen again: lists of the store behind the n-th told as values -/
mutual
def res (S : Sto) (n : Nat) : Nat → T → Option T
  | 0, _ => none
  | _ + 1, .non => some .non
  | _ + 1, .bl b => some (.bl b)
  | _ + 1, .int i => some (.int i)
  | _ + 1, .str x => some (.str x)
  | k + 1, .tup ts => (resL S n k ts).map .tup
  | k + 1, .lst ts => (resL S n k ts).map .lst
  | k + 1, .exn c ks ts => (resL S n k ts).map (.exn c ks)
  | _ + 1, .scr ns => some (.scr ns)
  | k + 1, .ref m => match decide (m < n) with
    | true => some (.ref m)
    | false => match S[m]? with
      | some (.lst ts) => (resL S n k ts).map .lst
      | _ => none
  | _ + 1, .glob x => some (.glob x)
  | _ + 1, .ty x => some (.ty x)
  | _ + 1, .mark => none
def resL (S : Sto) (n : Nat) : Nat → List T → Option (List T)
  | 0, _ => none
  | _ + 1, [] => some []
  | k + 1, t :: ts => match res S n k t, resL S n k ts with
    | some u, some us => some (u :: us)
    | _, _ => none
end
section
variable {K : PySem.W.Frag} {mg : Str → Option Value} {q : Pl} {H : Hp}
mutual
theorem res_rep {W : XW} {S : Sto} {n : Nat} (R : RelS K mg W q H S) : ∀ (k : Nat) {t u : T} {v : V}, res S n k t = some u → Rep K mg q H t v → Rep K mg ⟨q.mu.take n, q.de⟩ H u v
  | 0, _, _, _, e, _ => by simp [res] at e
  | k + 1, .non, _, _, e, h => by simp only [res] at e; cases e; exact h
  | k + 1, .bl _, _, _, e, h => by simp only [res] at e; cases e; exact h
  | k + 1, .int _, _, _, e, h => by simp only [res] at e; cases e; exact h
  | k + 1, .str _, _, _, e, h => by simp only [res] at e; cases e; exact h
  | k + 1, .scr _, _, _, e, h => by simp only [res] at e; cases e; exact h
  | k + 1, .mark, _, _, e, _ => by simp only [res] at e; cases e
  | k + 1, .glob _, _, _, e, h => by simp only [res] at e; cases e; exact h
  | k + 1, .ty _, _, _, e, h => by simp only [res] at e; cases e; exact h
  | k + 1, .tup ts, _, _, e, h => by
    simp only [res] at e
    obtain ⟨us, e1, rfl⟩ := Option.map_eq_some_iff.mp e
    obtain ⟨a, vs, e2, h1, h2⟩ := h
    exact ⟨a, vs, e2, h1, res_repL R k e1 h2⟩
  | k + 1, .lst ts, _, _, e, h => by
    simp only [res] at e
    obtain ⟨us, e1, rfl⟩ := Option.map_eq_some_iff.mp e
    obtain ⟨a, vs, e2, h1, n1, n2, h2⟩ := h
    exact ⟨a, vs, e2, h1, fun z => n1 (List.mem_of_mem_take z), n2, res_repL R k e1 h2⟩
  | k + 1, .exn c ks ts, _, _, e, h => by
    simp only [res] at e
    obtain ⟨us, e1, rfl⟩ := Option.map_eq_some_iff.mp e
    obtain ⟨a, C, d, vs, e2, h1, h2, h3, h4, h5, h6⟩ := h
    exact ⟨a, C, d, vs, e2, h1, h2, fun z => h3 (List.mem_of_mem_take z), h4, res_repL R k e1 h5, h6.cut⟩
  | k + 1, .ref m, _, _, e, h => by
    obtain ⟨a, e2, h1⟩ := h
    simp only [res] at e
    cases hd : decide (m < n) with
    | true =>
      rw [hd] at e; cases e
      exact ⟨a, e2, by rw [List.getElem?_take_of_lt (of_decide_eq_true hd)]; exact h1⟩
    | false =>
      rw [hd] at e
      simp only at e
      cases es : S[m]? with
      | none => rw [es] at e; cases e
      | some o =>
        rw [es] at e
        cases o with
        | dK _ => cases e
        | lst ts =>
          simp only at e
          obtain ⟨us, e1, rfl⟩ := Option.map_eq_some_iff.mp e
          obtain ⟨b, e3, vs, e4, r⟩ := R.ob m _ es
          rw [h1] at e3; cases e3
          have hm : ¬ m < n := of_decide_eq_false hd
          refine ⟨a, vs, e2, e4, fun z => ?_, fun z => (R.de a z).1 (List.mem_of_getElem? h1), res_repL R k e1 r⟩
          obtain ⟨j, hj, ej⟩ := List.mem_iff_getElem.mp z
          have hj2 : j < n := by simp at hj; omega
          have : q.mu[j]? = some a := by
            rw [List.getElem_take] at ej
            rw [← ej]; exact List.getElem?_eq_getElem _
          obtain ⟨h5, e5⟩ := List.getElem?_eq_some_iff.mp this
          obtain ⟨h6, e6⟩ := List.getElem?_eq_some_iff.mp h1
          have := (List.getElem_inj R.nd).mp (e5.trans e6.symm)
          omega
theorem res_repL {W : XW} {S : Sto} {n : Nat} (R : RelS K mg W q H S) : ∀ (k : Nat) {t u : List T} {v : List V}, resL S n k t = some u → RepL K mg q H t v → RepL K mg ⟨q.mu.take n, q.de⟩ H u v
  | 0, _, _, _, e, _ => by simp [resL] at e
  | k + 1, [], _, _, e, h => by simp only [resL] at e; cases e; exact h
  | k + 1, t :: ts, _, _, e, h => by
    obtain ⟨v, r, e2, h1, h2⟩ := h
    simp only [resL] at e
    cases q1 : res S n k t with
    | none => rw [q1] at e; cases e
    | some u =>
      cases q2 : resL S n k ts with
      | none => rw [q1, q2] at e; cases e
      | some us =>
        rw [q1, q2] at e
        cases e
        exact ⟨v, r, e2, res_rep R k q1 h1, res_repL R k q2 h2⟩
end
end
/-- a body's end as a function's: what is told (t, S') of what came (fl, S) -/
def Told (n : Nat) : Out Fl → Out T → Prop := fun b o => match o with
  | .no => True
  | .exc c fs S' => b = .exc c fs S'
  | .ok t S' => ∃ u fl G k, b = .ok fl (S' ++ G) ∧ (fl = .rt u ∨ (u = .non ∧ ∃ ρ, fl = .nx ρ)) ∧ n ≤ S'.length ∧ res (S' ++ G) S'.length k u = some t ∧ ∀ o ∈ S', o.lower S'.length = true
theorem told_po {K : PySem.W.Frag} {mg : Str → Option Value} {W : XW} {p : Pl} {H : Hp} {S0 : Sto} {b : Out Fl} {o : Out T} {D : Ends} (R0 : RelS K mg W p H S0) (h : Told p.mu.length b o) (po : PO K mg W p H o (RV K mg D.rt)) (hn : ∀ σ H', D.rt .non H' → D.nx σ H') : PO K mg W p H b (RD K mg W D) := by
  cases o with
  | no => exact po.elim
  | exc c fs S' => have hb : b = .exc c fs S' := h; rw [hb]; exact po
  | ok t S' =>
    obtain ⟨u, fl, G, k, rfl, hf, hl, hr, hbl⟩ := h
    intro q H' st rs
    have st' := st.cut (n := S'.length) hl
    have rs' := rs.cut rfl hbl (R0.pstS st')
    rcases hf with rfl | ⟨rfl, ρ, rfl⟩
    · intro v rv
      exact po _ H' st' rs' v (res_rep rs k hr rv)
    · intro σ _
      refine hn σ H' (po _ H' st' rs' _ ?_)
      have := res_rep rs k hr (show Rep K mg q H' .non V.non from rfl)
      exact this
section
variable {P : Program} {w : World} {K : PySem.W.Frag} {mg : Str → Option Value} {base : Heap}
/-- the start of a body -/
def startT (n : Nat) (ts : List T) : Ro := ts.map some ++ List.replicate (n - ts.length) none
theorem start_rel {W : XW} {N : List Str} {p : Pl} {H : Hp} {ts : List T} {vs : List V} (r : RepL K mg p H ts vs) (hs : ∀ j a, W.hs = some (j, a) → (startT N.length ts)[j]? = some (some .mark) → (L2.start N vs)[j]? = some (some (.ref a))) : RelE K mg W p H (L2.start N vs) (startT N.length ts) := by
  refine ⟨by simp [L2.start, startT, r.length], fun i t e => ?_, hs⟩
  unfold startT at e
  by_cases hi : i < ts.length
  · rw [List.getElem?_append_left (by simpa using hi), List.getElem?_map] at e
    cases q : ts[i]? with
    | none => rw [q] at e; cases e
    | some t' =>
      rw [q] at e
      cases e
      obtain ⟨v, e1, rv⟩ := r.get q
      refine ⟨v, ?_, rv⟩
      unfold L2.start
      rw [List.getElem?_append_left (by simp [r.length]; exact hi), List.getElem?_map, e1]; rfl
  · rw [List.getElem?_append_right (by simpa using Nat.le_of_not_lt hi), List.getElem?_replicate] at e
    split at e <;> cases e
/-- THE RULE of a def: its body's meaning, and what is told of it -/
theorem fn_def {tb : List (Addr × Str)} {x qual : Str} {st : Stmt} {a : Addr} {fd : FuncData} {N ps : List Str} {k n : Nat} {f : Spec} (F : Fun K x qual st a fd) (hm : mg x = some (.ref a)) (hb : Binds K fd ps []) (S : FnScope N ps (defScope st)) (hn : ps.length = n)
    (ar : ∀ ts S, ts.length ≠ n → f ts S = .no)
    (body : Ro → Sto → Out Fl)
    (hbody : ∀ (cdv : Value) (A : Around) (outer : List Env) (s : Shared) (H : Hp) (E : XK) (J : List Addr → List Addr → Hp → Prop), fd.code = cdv → RoomG k (A.deeper (envOfC qual (defScope st) s.heap.objs.size a cdv)) →
      DSs (cxOf (L2.CX P w) P w K mg base N qual (defScope st) a cdv A outer s H E) (plW E J tb) (defBody st) body)
    (told : ∀ ts S, ts.length = n → Told S.length (body (startT N.length ts) S) (f ts S)) : FnD P w K mg tb base (k + 1) x n f := by
  refine ⟨ar, a, fd, ps, hm, F.kp, hb, hn, ?_⟩
  obtain ⟨oc, od, kV, doc, pm, an, cdv, ct, osl, rfl, lk, hcd⟩ := F.ex
  refine fnG_of lk hcd S (fun vs H Q E h => by rw [h.1, hn]) fun A outer s H vs Q E hr h => ?_
  obtain ⟨hl, J, p, S0, ts, rs, rv, o⟩ := h
  refine ⟨_, hbody cdv A outer s H E J rfl hr, p, startT N.length ts, S0, rs, start_rel rv (fun _ _ h => nomatch h), ?_⟩
  refine told_po (D := { nx := fun _ H' => Q .non H', rt := Q }) rs ?_ o fun _ _ h => h
  rw [rs.len]
  exact told ts S0 (by rw [← rv.length]; exact hl)
end
end Mi


set_option Elab.async false
set_option linter.all false
set_option maxRecDepth 100000
namespace Mi
open PySem PySem.Spec PyProof.Rows L2
/-! ### targets of comprehensions: what they may store -/
theorem wipe_get {σ : L2.St} {i : Nat} : ∀ {vs : List Nat}, (wipe σ vs)[i]? = if i ∈ vs then σ[i]?.map fun _ => none else σ[i]?
  | [] => by simp [wipe]
  | v :: vs => by
    unfold wipe
    by_cases hv : v = i
    · subst hv
      by_cases hl : v < (wipe σ vs).length
      · rw [List.getElem?_set_self hl, if_pos (by simp)]
        rw [wipe_length] at hl
        rw [List.getElem?_eq_getElem hl]; rfl
      · rw [List.getElem?_eq_none (by simp; omega), if_pos (by simp)]
        rw [wipe_length] at hl
        rw [List.getElem?_eq_none (by omega)]; rfl
    · rw [List.getElem?_set_ne hv, wipe_get]
      have : (i ∈ v :: vs) ↔ i ∈ vs := by simp [Ne.symm hv]
      by_cases h : i ∈ vs
      · rw [if_pos h, if_pos (this.mpr h)]
      · rw [if_neg h, if_neg (fun z => h (this.mp z))]
theorem wipe_set {σ : L2.St} {i : Nat} {x : Option V} {vs : List Nat} (h : i ∈ vs) : wipe (σ.set i x) vs = wipe σ vs := by
  apply List.ext_getElem?
  intro j
  rw [wipe_get, wipe_get]
  by_cases hj : j ∈ vs
  · rw [if_pos hj, if_pos hj]
    by_cases e : i = j
    · subst e
      by_cases hl : i < σ.length
      · rw [List.getElem?_set_self hl, List.getElem?_eq_getElem hl]; rfl
      · rw [List.getElem?_eq_none (by simp; omega), List.getElem?_eq_none (by omega)]
    · rw [List.getElem?_set_ne e]
  · rw [if_neg hj, if_neg hj, List.getElem?_set_ne (fun e => hj (by rw [← e]; exact h))]
theorem wipe_wipe {σ : L2.St} {vs : List Nat} : wipe (wipe σ vs) vs = wipe σ vs := by
  apply List.ext_getElem?
  intro j
  rw [wipe_get, wipe_get]
  split
  · cases σ[j]? <;> rfl
  · rfl
/-- within a comprehension -/
abbrev w0 (tb : List (Addr × Str)) : XW := plW (fun _ _ _ => False) (fun _ _ _ => True) tb
def wipeT (ρ : Ro) : List Nat → Ro
  | [] => ρ
  | v :: vs => (wipeT ρ vs).set v none
section
variable {K : PySem.W.Frag} {mg : Str → Option Value} {p : Pl} {H : Hp}
theorem RelE.setN {tb : List (Addr × Str)} {σ : L2.St} {ρ : Ro} (h : RelE K mg (w0 tb) p H σ ρ) (i : Nat) : RelE K mg (w0 tb) p H (σ.set i none) (ρ.set i none) := by
  refine ⟨by simp [h.len], fun j t e => ?_, fun _ _ h => nomatch h⟩
  by_cases hj : i = j
  · subst hj
    by_cases hi : i < ρ.length
    · rw [List.getElem?_set_self hi] at e; cases e
    · rw [List.getElem?_eq_none (by simp; omega)] at e; cases e
  · rw [List.getElem?_set_ne hj] at e ⊢
    exact h.at_ j t e
theorem RelE.w0 {W : XW} {σ : L2.St} {ρ : Ro} (h : RelE K mg W p H σ ρ) : RelE K mg (Mi.w0 W.tb) p H σ ρ := ⟨h.len, h.at_, fun _ _ h => nomatch h⟩
theorem RelE.wipe {tb : List (Addr × Str)} {σ : L2.St} {ρ : Ro} (h : RelE K mg (Mi.w0 tb) p H σ ρ) : ∀ vs : List Nat, RelE K mg (Mi.w0 tb) p H (L2.wipe σ vs) (wipeT ρ vs)
  | [] => h
  | v :: vs => (RelE.wipe h vs).setN v
end
def RGw (K : PySem.W.Frag) (mg : Str → Option Value) (tb : List (Addr × Str)) (vs : List Nat) (σ0 : L2.St) (Q : L2.St → Hp → Prop) : Ro → Pl → Hp → Prop := fun ρ q H' => ∀ σ, RelE K mg (w0 tb) q H' σ ρ → wipe σ vs = wipe σ0 vs → Q σ H'
def DGw (X : Cx) (tb : List (Addr × Str)) (vs : List Nat) (tg : Expr) (g : T → Ro → Sto → Out Ro) : Prop := PG X tg fun v σ H Q => ∃ p ρ S t, RelS X.K X.mg (w0 tb) p H S ∧ RelE X.K X.mg (w0 tb) p H σ ρ ∧ Rep X.K X.mg p H t v ∧ PO X.K X.mg (w0 tb) p H (g t ρ S) (RGw X.K X.mg tb vs σ Q)
def DGws (X : Cx) (tb : List (Addr × Str)) (vs : List Nat) (tg : List Expr) (g : List T → Ro → Sto → Out Ro) : Prop := PGs X tg fun v σ H Q => ∃ p ρ S t, RelS X.K X.mg (w0 tb) p H S ∧ RelE X.K X.mg (w0 tb) p H σ ρ ∧ RepL X.K X.mg p H t v ∧ PO X.K X.mg (w0 tb) p H (g t ρ S) (RGw X.K X.mg tb vs σ Q)
section
variable {X : Cx} {tb : List (Addr × Str)} {W : XW} {vs : List Nat} {e : Expr} {es : List Expr} {g : T → Ro → Sto → Out Ro} {gs : List T → Ro → Sto → Out Ro} {pos : Pos}
theorem gw_name (i : Nat) {x : Str} (hN : X.N.Nodup) (hi : X.N[i]? = some x := by rfl) (hx : Loc X.env.scope x := by first | exact Or.inl rfl | exact Or.inr rfl) (hv : i ∈ vs := by simp) (hf : X.fn x = true ∨ X.env.scope.names.lookup x = some .local := by first | exact .inr rfl | exact .inl rfl | assumption) : DGw X tb vs (.Name x pos) (gN i) :=
  PG.imp (pg_name hN hi hx hf) fun v σ H Q ⟨p, ρ, S, t, rs, re, rt, o⟩ => (show PO X.K X.mg (w0 tb) p H (.ok (ρ.set i (some t)) S) (RGw X.K X.mg tb vs σ Q) from o).now rs _ (re.set rt i (plW_off i)) (wipe_set hv)
theorem gw_nil : DGws X tb vs [] gNil' := PGs.imp pgs_nil fun v σ H Q ⟨p, ρ, S, t, rs, re, rt, o⟩ => by
  cases t with
  | nil => exact ⟨rt, (show PO X.K X.mg (w0 tb) p H (.ok ρ S) (RGw X.K X.mg tb vs σ Q) from o).now rs _ re rfl⟩
  | cons _ _ => exact o.elim
theorem gw_cons (h1 : DGw X tb vs e g) (h2 : DGws X tb vs es gs) (hs : (assignEach (e :: es) X.env).map (·.2) = assign e X.env :: (assignEach es X.env).map (·.2) := by rfl) : DGws X tb vs (e :: es) (gCons' g gs) :=
  PGs.imp (pgs_cons h1 h2 hs) fun v σ H Q ⟨p, ρ, S, t, rs, re, rt, o⟩ => by
    cases t with
    | nil => exact o.elim
    | cons t ts =>
      obtain ⟨v, r, rfl, r1, r2⟩ := rt
      refine ⟨v, r, rfl, p, ρ, S, t, rs, re, r1, PO.bind (f := fun ρ1 S1 => gs ts ρ1 S1) o fun ρ1 S1 q H1 b rs1 o1 σ1 re1 hw => ⟨q, ρ1, S1, ts, rs1, re1, r2.stp b, PO.imp o1 fun ρ2 S2 q2 H2 _ _ _ h σ2 re2 hw2 => h σ2 re2 (hw2.trans hw)⟩⟩
theorem gw_tup {k n : Nat} (hc : X.calm = true) (h : DGws X tb vs es gs) (hn : (assignEach es X.env).length = n := by rfl) (hst : (assignEach es X.env).findIdx? (·.1) = none := by rfl) : DGw X tb vs (.Tuple es k pos) (gT n gs) :=
  PG.imp (pg_tup hc h hn hst) fun v σ H Q ⟨p, ρ, S, t, rs, re, rt, o⟩ => by
    cases t with
    | tup ts =>
      obtain ⟨a, vs, rfl, h1, r1⟩ := rt
      unfold gT at o
      cases e : decide (ts.length = n) with
      | false => simp only [e] at o; exact o.elim
      | true =>
        simp only [e] at o
        exact ⟨a, vs, rfl, h1, by rw [r1.length]; exact of_decide_eq_true e, p, ρ, S, ts, rs, re, r1, o⟩
    | _ => exact o.elim
/-! ### tests of a clause -/
def DTs (X : Cx) (tb : List (Addr × Str)) (ifs : List Expr) (f : Ro → Sto → Out Bool) : Prop := PTs X ifs fun σ H Q => At X.K X.mg (w0 tb) f (RB Q) σ H
def yesF : Ro → Sto → Out Bool := fun _ S => .ok true S
theorem PTs.imp {X : Cx} {e : List Expr} {t t' : TT} (h : PTs X e t) (k : ∀ σ H Q, t' σ H Q → t σ H Q) : PTs X e t' := ⟨fun pins s σ H Q I q => h.run pins s σ H Q I (k σ H Q q)⟩
theorem ts_nil : DTs X tb [] yesF := PTs.imp pts_nil fun σ H Q ⟨p, ρ, S, rs, re, o⟩ => po_b (Q := Q) true o rs
theorem ts_one {c : Expr} {f : Ro → Sto → Out Bool} (h : DT X (w0 tb) c f) : DTs X tb [c] f := pts_one h
theorem bind_ok {α β : Type} {a : α} {S : Sto} {f : α → Sto → Out β} : (Out.ok a S).bind f = f a S := rfl
theorem fit_le {K : PySem.W.Frag} {mg : Str → Option Value} {α β : Type} {W : XW} {p : Pl} {H : Hp} {n : Nat} {o : Out α} {f : α → Sto → Out β} {R : β → Pl → Hp → Prop} (h : PO K mg W p H ((fit n o).bind f) R) : n ≤ sizeLine := by
  unfold fit at h
  cases e : Nat.ble n 16777216 with
  | true => rw [sizeLine_eq]; exact Nat.le_of_ble_eq_true e
  | false => rw [e] at h; exact h.elim
/-! ### a comprehension -/
theorem RelS.un0 {K : PySem.W.Frag} {mg : Str → Option Value} {W : XW} {p : Pl} {H : Hp} {S : Sto} (R : RelS K mg (w0 W.tb) p H S) (pst : ∀ r H', Stp p H r H' → W.J r.mu r.de H') : RelS K mg W p H S := ⟨R.len, R.nd, R.ob, R.de, R.tabs, pst⟩
theorem RelS.to0 {K : PySem.W.Frag} {mg : Str → Option Value} {W : XW} {p : Pl} {H : Hp} {S : Sto} (R : RelS K mg W p H S) : RelS K mg (w0 W.tb) p H S := ⟨R.len, R.nd, R.ob, R.de, R.tabs, fun _ _ _ => trivial⟩
/-- an error within is none of ours -/
def noX {α : Type} (o : Out α) : Out α := match o with
  | .ok a S => .ok a S
  | _ => .no
theorem noX_po {K : PySem.W.Frag} {mg : Str → Option Value} {α : Type} {W : XW} {p : Pl} {H : Hp} {S0 : Sto} {o : Out α} {R : α → Pl → Hp → Prop} (rs : RelS K mg W p H S0) (h : PO K mg W p H (noX o) R) : PO K mg (w0 W.tb) p H o R := by
  cases o with
  | ok a S => exact fun q H' st rs' => h q H' st (rs'.un0 (rs.pstS st))
  | exc _ _ _ => exact h.elim
  | no => exact h.elim
def compF (g : T → Ro → Sto → Out Ro) (gt : Ro → Sto → Out Bool) (fe : Ro → Sto → Out T) (ρ0 : Ro) : List T → List T → Sto → Out (List T)
  | [], acc, S => .ok acc S
  | t :: ts, acc, S => (noX (g t ρ0 S)).bind fun ρ1 S1 => (noX (gt ρ1 S1)).bind fun b S2 => match b with
    | false => compF g gt fe ρ0 ts acc S2
    | true => (noX (fe ρ1 S2)).bind fun x S3 => fit (acc.length + 1) (compF g gt fe ρ0 ts (acc ++ [x]) S3)
def lcF (vs : List Nat) (fi : Ro → Sto → Out (List T)) (g : T → Ro → Sto → Out Ro) (gt : Ro → Sto → Out Bool) (fe : Ro → Sto → Out T) : Ro → Sto → Out T := fun ρ S => (fi ρ S).bind fun ts S1 => (compF g gt fe (wipeT ρ vs) ts [] S1).bind fun acc S2 => .ok (.lst acc) S2
/-! a list of one's own grows at D: the rest stays -/
mutual
theorem Rep.into {K : PySem.W.Frag} {mg : Str → Option Value} {q : Pl} {mu' : List Addr} {H H' : Hp} {D : Addr} (h : H D = none) (st : Stp q H ⟨mu', q.de⟩ H') : ∀ {t : T} {v : V}, Rep K mg q H t v → Rep K mg ⟨mu', D :: q.de⟩ H' t v
  | .mark, _, r | .non, _, r | .bl _, _, r | .int _, _, r | .str _, _, r | .glob _, _, r | .ty _, _, r => r
  | .ref _, _, r => Rep.stp st r
  | .scr ns, _, r => Rep.stp st r
  | .tup ts, _, r => by
    obtain ⟨a, vs, e, h1, h2⟩ := r
    exact ⟨a, vs, e, SqT.stp st h1, RepL.into h st h2⟩
  | .lst ts, v, r => by
    obtain ⟨a, vs, e, h1, n1, n2, h2⟩ := Rep.stp st r
    obtain ⟨a', vs', e', h1', n1', n2', h2'⟩ := r
    rw [e] at e'; cases e'
    have ha : a ≠ D := fun z => by rw [z, h] at h1'; cases h1'
    have hv : vs' = vs := by have := st.kp a _ n1' .lst h1'; rw [h1] at this; cases this; rfl
    subst hv
    exact ⟨a, vs', e, h1, n1, fun z => (List.mem_cons.mp z).elim ha n2, RepL.into h st h2'⟩
  | .exn c ks ts, v, r => by
    obtain ⟨a, C, d, vs, e, h1, h2, h3, h4, h5, h6⟩ := r
    have ha : a ≠ D := fun z => by rw [z, h] at h2; cases h2
    refine ⟨a, C, d, vs, e, h1, st.kp _ _ h3 .exo h2, st.off h3 .exo h2, fun z => (List.mem_cons.mp z).elim ha h4, RepL.into h st h5, ?_⟩
    cases d with
    | none => exact h6
    | some dx =>
      obtain ⟨g1, g2, g3⟩ := h6
      have hd : dx ≠ D := fun z => by rw [z, h] at g1; cases g1
      exact ⟨st.kp _ _ g2 .exd g1, st.off g2 .exd g1, fun z => (List.mem_cons.mp z).elim hd g3⟩
theorem RepL.into {K : PySem.W.Frag} {mg : Str → Option Value} {q : Pl} {mu' : List Addr} {H H' : Hp} {D : Addr} (h : H D = none) (st : Stp q H ⟨mu', q.de⟩ H') : ∀ {t : List T} {v : List V}, RepL K mg q H t v → RepL K mg ⟨mu', D :: q.de⟩ H' t v
  | [], _, r => r
  | t :: ts, _, r => by
    obtain ⟨v, r, e, h1, h2⟩ := r
    exact ⟨v, r, e, Rep.into h st h1, RepL.into h st h2⟩
end
theorem Stp.de_free {mu mu2 d d' : List Addr} {H H2 : Hp} (st : Stp ⟨mu, d⟩ H ⟨mu2, d⟩ H2) : Stp ⟨mu, d'⟩ H ⟨mu2, d'⟩ H2 := ⟨st.ext, rfl, st.tup, st.frz, st.kp, st.al⟩
theorem Stp.own {q r : Pl} {H H5 : Hp} {D : Addr} {o : HO} (h : H D = none) (st : Stp q H r H5) : Stp q H r (L2.upd H5 D o) := by
  have ne : ∀ b, H b ≠ none → b ≠ D := fun b hb z => hb (by rw [z]; exact h)
  refine ⟨st.ext, st.de, fun b xs e => ?_, fun b ob u e => ?_, fun b ob n hn e => ?_, fun b ob hn e => ?_⟩
  · rw [upd_ne (ne b (by rw [e]; exact fun z => nomatch z))]; exact st.tup b xs e
  · rw [upd_ne (ne b (by rw [e]; exact fun z => nomatch z))]; exact st.frz b ob u e
  · rw [upd_ne (ne b (by rw [e]; exact fun z => nomatch z))]; exact st.kp b ob n hn e
  · rw [upd_ne (ne b (by rw [e]; exact fun z => nomatch z))]; exact st.al b ob hn e
mutual
theorem Rep.grow {K : PySem.W.Frag} {mg : Str → Option Value} {p : Pl} {H : Hp} {D : Addr} {o o' : HO} (hd : D ∈ p.de) (h : H D = some o) (so : Soft o) : ∀ {t : T} {v : V}, Rep K mg p H t v → Rep K mg p (L2.upd H D o') t v
  | .mark, _, r | .non, _, r | .bl _, _, r | .int _, _, r | .str _, _, r | .glob _, _, r | .ty _, _, r | .ref _, _, r => r
  | .scr ns, _, r => by
    obtain ⟨a, e, r⟩ := r
    refine ⟨a, e, ?_⟩
    rcases r with ⟨ob, r⟩ | r
    · have ha : a ≠ D := fun z => by rw [z, h] at r; exact so.frz _ _ (Option.some.inj r)
      exact .inl ⟨ob, by rw [upd_ne ha]; exact r⟩
    · exact .inr r
  | .tup ts, _, r => by
    obtain ⟨a, vs, e, h1, h2⟩ := r
    refine ⟨a, vs, e, ?_, RepL.grow hd h so h2⟩
    rcases h1 with (h1 | ⟨ob, h1⟩) | h1
    · have ha : a ≠ D := fun z => by rw [z, h] at h1; exact so.tup _ (Option.some.inj h1)
      exact .inl (.inl (by rw [upd_ne ha]; exact h1))
    · have ha : a ≠ D := fun z => by rw [z, h] at h1; exact so.frz _ _ (Option.some.inj h1)
      exact .inl (.inr ⟨ob, by rw [upd_ne ha]; exact h1⟩)
    · exact .inr h1
  | .lst ts, _, r => by
    obtain ⟨a, vs, e, h1, n1, n2, h2⟩ := r
    have ha : a ≠ D := fun z => n2 (by rw [z]; exact hd)
    exact ⟨a, vs, e, by rw [upd_ne ha]; exact h1, n1, n2, RepL.grow hd h so h2⟩
  | .exn c ks ts, _, r => by
    obtain ⟨a, C, d, vs, e, h1, h2, h3, h4, h5, h6⟩ := r
    have ha : a ≠ D := fun z => h4 (by rw [z]; exact hd)
    refine ⟨a, C, d, vs, e, h1, by rw [upd_ne ha]; exact h2, h3, h4, RepL.grow hd h so h5, ?_⟩
    cases d with
    | none => exact h6
    | some dx =>
      have hx : dx ≠ D := fun z => h6.2.2 (by rw [z]; exact hd)
      exact ⟨by rw [upd_ne hx]; exact h6.1, h6.2⟩
theorem RepL.grow {K : PySem.W.Frag} {mg : Str → Option Value} {p : Pl} {H : Hp} {D : Addr} {o o' : HO} (hd : D ∈ p.de) (h : H D = some o) (so : Soft o) : ∀ {t : List T} {v : List V}, RepL K mg p H t v → RepL K mg p (L2.upd H D o') t v
  | [], _, r => r
  | t :: ts, _, r => by
    obtain ⟨v, r, e, h1, h2⟩ := r
    exact ⟨v, r, e, Rep.grow hd h so h1, RepL.grow hd h so h2⟩
end
theorem RepKv.grow {K : PySem.W.Frag} {mg : Str → Option Value} {p : Pl} {H : Hp} {D : Addr} {o o' : HO} (hd : D ∈ p.de) (h : H D = some o) (so : Soft o) : ∀ {t : List (Key × T)} {v : List (Key × V)}, RepKv K mg p H t v → RepKv K mg p (L2.upd H D o') t v
  | [], _, r => r
  | (k, t) :: ts, _, r => by
    obtain ⟨v, r, e, h1, h2⟩ := r
    exact ⟨v, r, e, Rep.grow hd h so h1, RepKv.grow hd h so h2⟩
theorem RelS.grow {K : PySem.W.Frag} {mg : Str → Option Value} {tb : List (Addr × Str)} {p : Pl} {H : Hp} {S : Sto} {D : Addr} {o o' : HO} (R : RelS K mg (w0 tb) p H S) (hd : D ∈ p.de) (h : H D = some o) (so : Soft o) (so' : Soft o') : RelS K mg (w0 tb) p (L2.upd H D o') S := by
  refine ⟨R.len, R.nd, fun n ob e => ?_, fun b hb => ⟨(R.de b hb).1, ?_⟩, tabs_write R.tabs h so, fun _ _ _ => trivial⟩
  · obtain ⟨a, e1, r⟩ := R.ob n ob e
    have ha : a ≠ D := fun z => (R.de D hd).1 (by rw [← z]; exact List.mem_of_getElem? e1)
    refine ⟨a, e1, ?_⟩
    cases ob with
    | lst ts => obtain ⟨vs, e2, r⟩ := r; exact ⟨vs, by rw [upd_ne ha]; exact e2, r.grow hd h so⟩
    | dK ts => obtain ⟨vs, e2, r⟩ := r; exact ⟨vs, by rw [upd_ne ha]; exact e2, r.grow hd h so⟩
  · by_cases hb2 : b = D
    · exact ⟨o', so'.tbl, by rw [hb2, upd_same]⟩
    · obtain ⟨u, n, e⟩ := (R.de b hb).2
      exact ⟨u, n, by rw [upd_ne hb2]; exact e⟩
mutual
theorem Rep.out {K : PySem.W.Frag} {mg : Str → Option Value} {mu : List Addr} {de : List Addr} {H : Hp} {D : Addr} : ∀ {t : T} {v : V}, Rep K mg ⟨mu, D :: de⟩ H t v → Rep K mg ⟨mu, de⟩ H t v
  | .mark, _, r | .non, _, r | .bl _, _, r | .int _, _, r | .str _, _, r | .glob _, _, r | .ty _, _, r | .ref _, _, r | .scr _, _, r => r
  | .tup ts, _, r => by
    obtain ⟨a, vs, e, h1, h2⟩ := r
    exact ⟨a, vs, e, h1, RepL.out h2⟩
  | .lst ts, _, r => by
    obtain ⟨a, vs, e, h1, n1, n2, h2⟩ := r
    exact ⟨a, vs, e, h1, n1, fun z => n2 (List.mem_cons_of_mem _ z), RepL.out h2⟩
  | .exn c ks ts, _, r => by
    obtain ⟨a, C, d, vs, e, h1, h2, h3, h4, h5, h6⟩ := r
    refine ⟨a, C, d, vs, e, h1, h2, h3, fun z => h4 (List.mem_cons_of_mem _ z), RepL.out h5, ?_⟩
    cases d with
    | none => exact h6
    | some dx => exact ⟨h6.1, h6.2.1, fun z => h6.2.2 (List.mem_cons_of_mem _ z)⟩
theorem RepL.out {K : PySem.W.Frag} {mg : Str → Option Value} {mu : List Addr} {de : List Addr} {H : Hp} {D : Addr} : ∀ {t : List T} {v : List V}, RepL K mg ⟨mu, D :: de⟩ H t v → RepL K mg ⟨mu, de⟩ H t v
  | [], _, r => r
  | t :: ts, _, r => by
    obtain ⟨v, r, e, h1, h2⟩ := r
    exact ⟨v, r, e, Rep.out h1, RepL.out h2⟩
end
theorem RepKv.out {K : PySem.W.Frag} {mg : Str → Option Value} {mu : List Addr} {de : List Addr} {H : Hp} {D : Addr} : ∀ {t : List (Key × T)} {v : List (Key × V)}, RepKv K mg ⟨mu, D :: de⟩ H t v → RepKv K mg ⟨mu, de⟩ H t v
  | [], _, r => r
  | (k, t) :: ts, _, r => by
    obtain ⟨v, r, e, h1, h2⟩ := r
    exact ⟨v, r, e, Rep.out h1, RepKv.out h2⟩
theorem RelS.out {K : PySem.W.Frag} {mg : Str → Option Value} {W : XW} {mu : List Addr} {de : List Addr} {H : Hp} {S : Sto} {D : Addr} (R : RelS K mg (w0 W.tb) ⟨mu, D :: de⟩ H S) (pst : ∀ r H', Stp ⟨mu, de⟩ H r H' → W.J r.mu r.de H') : RelS K mg W ⟨mu, de⟩ H S := by
  refine ⟨R.len, R.nd, fun n ob e => ?_, fun b hb => R.de b (List.mem_cons_of_mem _ hb), R.tabs, pst⟩
  obtain ⟨a, e1, r⟩ := R.ob n ob e
  refine ⟨a, e1, ?_⟩
  cases ob with
  | lst ts => obtain ⟨vs, e2, r⟩ := r; exact ⟨vs, e2, r.out⟩
  | dK ts => obtain ⟨vs, e2, r⟩ := r; exact ⟨vs, e2, r.out⟩
theorem RepKv.into {K : PySem.W.Frag} {mg : Str → Option Value} {q : Pl} {mu' : List Addr} {H H' : Hp} {D : Addr} (h : H D = none) (st : Stp q H ⟨mu', q.de⟩ H') : ∀ {t : List (Key × T)} {v : List (Key × V)}, RepKv K mg q H t v → RepKv K mg ⟨mu', D :: q.de⟩ H' t v
  | [], _, r => r
  | (k, t) :: ts, _, r => by
    obtain ⟨v, r, e, h1, h2⟩ := r
    exact ⟨v, r, e, Rep.into h st h1, RepKv.into h st h2⟩
theorem RelS.within {K : PySem.W.Frag} {mg : Str → Option Value} {W : XW} {p : Pl} {H : Hp} {S : Sto} {D : Addr} {o : HO} (R : RelS K mg W p H S) (h : H D = none) (so : NT o) : RelS K mg (w0 W.tb) ⟨p.mu, D :: p.de⟩ (L2.upd H D o) S := by
  have nn := R.new h
  have st := Stp.upd (p := p) (o := o) h
  refine ⟨R.len, R.nd, fun n ob e => ?_, fun b hb => ?_, tabs_upd R.tabs h, fun _ _ _ => trivial⟩
  · obtain ⟨a, e1, r⟩ := R.ob n ob e
    have ha : a ≠ D := fun z => nn.1 (z ▸ List.mem_of_getElem? e1)
    refine ⟨a, e1, ?_⟩
    cases ob with
    | lst ts => obtain ⟨vs, e2, r⟩ := r; exact ⟨vs, by rw [upd_ne ha]; exact e2, RepL.into h st r⟩
    | dK ts => obtain ⟨vs, e2, r⟩ := r; exact ⟨vs, by rw [upd_ne ha]; exact e2, RepKv.into h st r⟩
  · rcases List.mem_cons.mp hb with rfl | hb
    · exact ⟨nn.1, o, so, upd_same⟩
    · obtain ⟨u, n, e⟩ := (R.de b hb).2
      exact ⟨(R.de b hb).1, st.al b u n e⟩

theorem d_lcAt {K : PySem.W.Frag} {mg : Str → Option Value} {fi : Ro → Sto → Out (List T)} {gt : Ro → Sto → Out Bool} {fe : Ro → Sto → Out T} {σ : L2.St} {H : Hp} {Q : VK} (h : At K mg W (lcF vs fi g gt fe) (RV K mg Q) σ H) :
    tLc (fun σ H R => At K mg W fi (RI K mg R) σ H) (fun v σ H Q => ∃ p ρ S t, RelS K mg (w0 W.tb) p H S ∧ RelE K mg (w0 W.tb) p H σ ρ ∧ Rep K mg p H t v ∧ PO K mg (w0 W.tb) p H (g t ρ S) (RGw K mg W.tb vs σ Q))
      (fun σ H Q => At K mg (w0 W.tb) gt (RB Q) σ H) (fun σ H Q => At K mg (w0 W.tb) fe (RV K mg Q) σ H) vs σ H Q := by
  refine At.bind (f := fi) (g := fun ρ ts S1 => (compF g gt fe (wipeT ρ vs) ts [] S1).bind fun acc S2 => .ok (T.lst acc) S2) h fun ρ ts S q H1 rs re o J wk D hD => ?_
  have nn := rs.new hD
  have st0 : Stp q H1 ⟨q.mu, q.de⟩ (L2.upd H1 D (.lst [])) := Stp.upd (p := q) hD
  refine ⟨fun i m H' => m + i = ts.length ∧ ∃ mu' S' acc accv, Stp q H1 ⟨mu', q.de⟩ H' ∧ RelS K mg (w0 W.tb) ⟨mu', D :: q.de⟩ H' S' ∧ H' D = some (.lst accv) ∧ RepL K mg ⟨mu', D :: q.de⟩ H' acc accv ∧
    compF g gt fe (wipeT ρ vs) ts [] S = compF g gt fe (wipeT ρ vs) (ts.drop i) acc S', ⟨ts.length, rfl, q.mu, S, [], [], st0, rs.within hD .lst, upd_same, rfl, rfl⟩, ?_⟩
  rintro i m H' ⟨hm, mu', S', acc, accv, st, rs', hacc, ra, eq⟩
  have hDm : ∀ {mu : List Addr} {H : Hp} {S : Sto}, RelS K mg (w0 W.tb) ⟨mu, D :: q.de⟩ H S → D ∉ mu := fun r => (r.de D (by simp)).1
  by_cases hi : i < ts.length
  · refine .inr ⟨wk.go i ⟨mu', q.de⟩ H' hi st, fun H2 => ∃ mu2 S2 acc2 accv2, Stp q H1 ⟨mu2, q.de⟩ H2 ∧ RelS K mg (w0 W.tb) ⟨mu2, D :: q.de⟩ H2 S2 ∧ H2 D = some (.lst accv2) ∧ RepL K mg ⟨mu2, D :: q.de⟩ H2 acc2 accv2 ∧
      compF g gt fe (wipeT ρ vs) ts [] S = compF g gt fe (wipeT ρ vs) (ts.drop (i + 1)) acc2 S2, fun H2 h2 => ⟨m - 1, by omega, by omega, h2⟩, fun x H3 y => ?_⟩
    obtain ⟨gr, rx⟩ := wk.yld i ⟨mu', q.de⟩ H' x H3 ts[i] (List.getElem?_eq_getElem hi) st y
    have st3 := gr.stp (p := ⟨mu', D :: q.de⟩)
    have stq3 : Stp q H1 ⟨mu', q.de⟩ H3 := st.trans st3.de_free
    have rs3 := gr.rels rs'
    have rx := rx ⟨mu', D :: q.de⟩ fun t v r => Rep.into hD stq3 r
    have hacc3 := gr.at_ hacc
    have ra3 := ra.stp st3
    have re3 : RelE K mg (w0 W.tb) ⟨mu', D :: q.de⟩ H3 (wipe σ vs) (wipeT ρ vs) := ⟨(re.w0.wipe vs).len, fun i t e => (let ⟨v, e1, r⟩ := (re.w0.wipe vs).at_ i t e; ⟨v, e1, Rep.into hD stq3 r⟩), fun _ _ h => nomatch h⟩
    rw [List.drop_eq_getElem_cons hi] at eq
    have og : ∃ ρ1 S1, g ts[i] (wipeT ρ vs) S' = .ok ρ1 S1 := by
      cases e : g ts[i] (wipeT ρ vs) S' with
      | ok ρ1 S1 => exact ⟨ρ1, S1, rfl⟩
      | exc _ _ _ => rw [eq] at o; simp only [compF, e, noX, Out.bind] at o; exact o.elim
      | no => rw [eq] at o; simp only [compF, e, noX, Out.bind] at o; exact o.elim
    obtain ⟨ρ1, S1, eg⟩ := og
    refine ⟨⟨mu', D :: q.de⟩, wipeT ρ vs, S', ts[i], rs3, re3, rx, ?_⟩
    rw [eg]
    rintro ⟨mu4, de4⟩ H4 st4 rs4 σ4 re4 hw4
    obtain rfl : de4 = D :: q.de := st4.de
    rw [wipe_wipe] at hw4
    refine ⟨hw4, ⟨mu4, D :: q.de⟩, ρ1, S1, rs4, re4, ?_⟩
    have hacc4 := st4.kp D _ (hDm rs3) .lst hacc3
    have ot : ∃ b S2, gt ρ1 S1 = .ok b S2 := by
      cases e : gt ρ1 S1 with
      | ok b S2 => exact ⟨b, S2, rfl⟩
      | exc _ _ _ => rw [eq] at o; simp only [compF, eg, e, noX, Out.bind] at o; exact o.elim
      | no => rw [eq] at o; simp only [compF, eg, e, noX, Out.bind] at o; exact o.elim
    obtain ⟨b, S2, et⟩ := ot
    rw [et]
    rintro ⟨mu5, de5⟩ H5 st5 rs5
    obtain rfl : de5 = D :: q.de := st5.de
    have hacc5 := st5.kp D _ (hDm rs4) .lst hacc4
    have st35 := st4.trans st5
    have stq5 : Stp q H1 ⟨mu5, q.de⟩ H5 := stq3.trans st35.de_free
    have ra5 := ra3.stp st35
    cases b with
    | false =>
      simp only [RB, Bool.false_eq_true, if_false]
      refine ⟨mu5, S2, acc, accv, stq5, rs5, hacc5, ra5, ?_⟩
      rw [eq]; simp only [compF, eg, et, noX, Out.bind]
    | true =>
      simp only [RB, if_true]
      have oe : ∃ t S3, fe ρ1 S2 = .ok t S3 := by
        cases e : fe ρ1 S2 with
        | ok b S2 => exact ⟨b, S2, rfl⟩
        | exc _ _ _ => rw [eq] at o; simp only [compF, eg, et, e, noX, Out.bind] at o; exact o.elim
        | no => rw [eq] at o; simp only [compF, eg, et, e, noX, Out.bind] at o; exact o.elim
      obtain ⟨t, S3, ee⟩ := oe
      refine ⟨⟨mu5, D :: q.de⟩, ρ1, S2, rs5, re4.stp st5, ?_⟩
      rw [ee]
      rintro ⟨mu6, de6⟩ H6 st6 rs6 v rv
      obtain rfl : de6 = D :: q.de := st6.de
      have hacc6 := st6.kp D _ (hDm rs5) .lst hacc5
      have hf : acc.length + 1 ≤ sizeLine := by
        rw [eq] at o
        simp only [compF, eg, et, ee, noX, bind_ok] at o
        exact fit_le o
      have eq2 : compF g gt fe (wipeT ρ vs) ts [] S = compF g gt fe (wipeT ρ vs) (ts.drop (i + 1)) (acc ++ [t]) S3 := by
        rw [eq]; simp only [compF, eg, et, ee, noX, Out.bind]
        exact fit_pos (by rw [sizeLine_eq] at hf; exact hf)
      refine ⟨accv, hacc6, by have := ra5.length; omega, mu6, S3, acc ++ [t], accv ++ [v], (stq5.trans st6.de_free).own hD, rs6.grow (by simp) hacc6 soft_lst soft_lst, upd_same, ?_, eq2⟩
      exact ((ra5.stp st6).append (RepL.cons rv RepL.nil)).grow (by simp) hacc6 soft_lst
  · have e : i = ts.length := by omega
    subst e
    rw [List.drop_length] at eq
    refine .inl ⟨wk.stop ⟨mu', q.de⟩ H' st, ?_⟩
    rw [eq] at o
    refine (show PO K mg W q H1 (.ok (T.lst acc) S') (RV K mg Q) from o) ⟨mu', q.de⟩ H' st (rs'.out (rs.pstS st)) _ ⟨D, accv, rfl, hacc, hDm rs', nn.2, ra.out⟩
end
end Mi


set_option Elab.async false
set_option linter.all false
set_option maxRecDepth 100000
namespace Mi
open PySem PySem.Spec PyProof.Rows L2
section
variable {X : Cx} {W : XW}
/-! ### list comprehensions -/
theorem d_lc {elt tg iter : Expr} {ifs : List Expr} {scope : Scope} {own : List (Str × Nat)} {sl : List Nat} {pos : Pos} {fi : Ro → Sto → Out (List T)} {g : T → Ro → Sto → Out Ro} {gt : Ro → Sto → Out Bool} {fe : Ro → Sto → Out T} (hc : X.calm = true) (hN : X.N.Nodup) (ok : BlkOk X.N X.env.scope scope own) (hi : DI X W tg iter fi)
    (hg : ∀ (s : Shared) (H : Hp) (C : Addr) (cl : List (Str × Addr)) (fp : List Addr), DGw (X.blk s H scope (compEnvC scope cl C X.env) fp) W.tb sl tg g) (ht : ∀ (s : Shared) (H : Hp) (C : Addr) (cl : List (Str × Addr)) (fp : List Addr), DTs (X.blk s H scope (compEnvC scope cl C X.env) fp) W.tb ifs gt)
    (he : ∀ (s : Shared) (H : Hp) (C : Addr) (cl : List (Str × Addr)) (fp : List Addr), DE (X.blk s H scope (compEnvC scope cl C X.env) fp) (w0 W.tb) elt fe) (hsl : sl = own.map (fun x => x.2) := by rfl) (hs : ∀ x, foldedSetIterable iter X.env x = pure x := by intro _; rfl) :
    DE X W (.ListComp elt [⟨tg, iter, ifs, 0⟩] scope pos) (lcF sl fi g gt fe) := by
  subst hsl
  exact PE.imp (pe_lc (wi := fun σ H R => At X.K X.mg W fi (RI X.K X.mg R) σ H) (g := fun v σ H Q => ∃ p ρ S t, RelS X.K X.mg (w0 W.tb) p H S ∧ RelE X.K X.mg (w0 W.tb) p H σ ρ ∧ Rep X.K X.mg p H t v ∧ PO X.K X.mg (w0 W.tb) p H (g t ρ S) (RGw X.K X.mg W.tb (own.map fun x : Str × Nat => x.2) σ Q)) (tt := fun σ H Q => At X.K X.mg (w0 W.tb) gt (RB Q) σ H) (te := fun σ H Q => At X.K X.mg (w0 W.tb) fe (RV X.K X.mg Q) σ H) hc hN hi ok hg ht he hs) fun _ _ _ h => d_lcAt h
theorem s_setLc {i : Nat} {y : Str} {py : Pos} {elt tg iter : Expr} {ifs : List Expr} {scope : Scope} {own : List (Str × Nat)} {sl : List Nat} {pos spos : Pos} {fi : Ro → Sto → Out (List T)} {g : T → Ro → Sto → Out Ro} {gt : Ro → Sto → Out Bool} {fe : Ro → Sto → Out T} (hc : X.calm = true) (hN : X.N.Nodup) (hy : X.N[i]? = some y) (hyl : X.env.scope.names.lookup y = some .local)
    (hsw : swapsWith (.ListComp elt [⟨tg, iter, ifs, 0⟩] scope pos) (some (.Name y py)) spos.line X.env = pure true) (ok : BlkOk X.N X.env.scope scope own) (hi : DI X W tg iter fi)
    (hg : ∀ (s : Shared) (H : Hp) (C : Addr) (cl : List (Str × Addr)) (fp : List Addr), DGw (X.blk s H scope (compEnvC scope cl C X.env) fp) W.tb sl tg g) (ht : ∀ (s : Shared) (H : Hp) (C : Addr) (cl : List (Str × Addr)) (fp : List Addr), DTs (X.blk s H scope (compEnvC scope cl C X.env) fp) W.tb ifs gt)
    (he : ∀ (s : Shared) (H : Hp) (C : Addr) (cl : List (Str × Addr)) (fp : List Addr), DE (X.blk s H scope (compEnvC scope cl C X.env) fp) (w0 W.tb) elt fe) (hsl : sl = own.map (fun x => x.2) := by rfl) (hs : ∀ x, foldedSetIterable iter X.env x = pure x := by intro _; rfl) (ho : W.off i := by first | exact plW_off _ | exact off_at (by decide) | exact fun _ _ h => nomatch h | assumption) :
    DS X W (.Assign [.Name y py] (.ListComp elt [⟨tg, iter, ifs, 0⟩] scope pos) spos) (asgF (lcF sl fi g gt fe) (gN i)) := by
  subst hsl
  refine PS.imp (ps_setLc (wi := fun σ H R => At X.K X.mg W fi (RI X.K X.mg R) σ H) (g := fun v σ H Q => ∃ p ρ S t, RelS X.K X.mg (w0 W.tb) p H S ∧ RelE X.K X.mg (w0 W.tb) p H σ ρ ∧ Rep X.K X.mg p H t v ∧ PO X.K X.mg (w0 W.tb) p H (g t ρ S) (RGw X.K X.mg W.tb (own.map fun x : Str × Nat => x.2) σ Q)) (tt := fun σ H Q => At X.K X.mg (w0 W.tb) gt (RB Q) σ H) (te := fun σ H Q => At X.K X.mg (w0 W.tb) fe (RV X.K X.mg Q) σ H) hc hN hy hyl hsw hi ok hg ht he hs) fun D σ H h => ?_
  refine d_lcAt (W := W) (At.bind (f := lcF (own.map (·.2)) fi g gt fe) (g := fun ρ t S1 => (gN i t ρ S1).bind fun ρ1 S2 => .ok (Fl.nx ρ1) S2) h fun ρ t S q H1 rs re o v rv => ?_)
  exact po_nx (ρ.set i (some t)) (show PO X.K X.mg W q H1 (.ok (Fl.nx (ρ.set i (some t))) S) (RD X.K X.mg W D) from o) rs (re.set rv i ho)
end
/-! ### built-ins -/
section
variable {K : PySem.W.Frag} {mg : Str → Option Value} {X : Cx} {W : XW}
theorem RepL.one {p : Pl} {H : Hp} {t : T} {vs : List V} (r : RepL K mg p H [t] vs) : ∃ v, vs = [v] ∧ Rep K mg p H t v := by
  obtain ⟨v, _, e, r1, e2⟩ := r
  exact ⟨v, by rw [e, show _ = [] from e2], r1⟩
theorem RepL.two {p : Pl} {H : Hp} {t u : T} {vs : List V} (r : RepL K mg p H [t, u] vs) : ∃ v w, vs = [v, w] ∧ Rep K mg p H t v ∧ Rep K mg p H u w := by
  obtain ⟨v, _, e, r1, w, _, e2, r2, e3⟩ := r
  exact ⟨v, w, by rw [e, e2, show _ = [] from e3], r1, r2⟩
def lenT (S : Sto) : T → Option Nat
  | .str y => match Nat.ble y.length 16777216 with
    | true => some y.length
    | false => none
  | .tup ts => some ts.length
  | .lst ts => some ts.length
  | .scr ns => some ns.length
  | .ref n => match S[n]? with
    | some (.lst ts) => some ts.length
    | _ => none
  | _ => none
def lenG : List T → Sto → Out T := fun ts S => match ts with
  | [t] => match lenT S t with
    | some n => .ok (.int n) S
    | none => .no
  | _ => .no
theorem lenG_ok : CallG K mg (fun xs H Q => ∃ x n, xs = [x] ∧ LenV K x H n ∧ Q (.int n) H) lenG := fun W p H S ts vs Q R r o => by
  match ts, r, o with
  | [t], r, o =>
    obtain ⟨v, rfl, rv⟩ := r.one
    cases e : lenT S t with
    | none => simp only [lenG, e] at o; exact o.elim
    | some n =>
      simp only [lenG, e] at o
      refine ⟨v, n, rfl, ?_, po_val (.int n) o R rfl⟩
      cases t with
      | str y =>
        rw [show v = V.str y from rv]
        simp only [lenT] at e
        split at e
        · rename_i h; cases e; exact ⟨by rw [sizeLine_eq]; exact Nat.le_of_ble_eq_true h, rfl⟩
        · cases e
      | tup us =>
        obtain ⟨a, vs, rfl, h1, r1⟩ := rv
        cases e
        exact .inr ⟨vs, h1, by rw [r1.length]⟩
      | lst us =>
        obtain ⟨a, vs, rfl, h1, _, _, r1⟩ := rv
        cases e
        exact .inl ⟨vs, SqL.of h1, by rw [r1.length]⟩
      | scr ns =>
        obtain ⟨a, rfl, h1, _⟩ := scr_seq rv
        cases e
        exact .inl ⟨_, h1, by simp⟩
      | ref m =>
        obtain ⟨a, rfl, e2⟩ := rv
        cases q : S[m]? with
        | none => simp only [lenT, q] at e; cases e
        | some ob =>
          simp only [lenT, q] at e
          cases ob with
          | lst us =>
            cases e
            obtain ⟨b, e4, vs, e5, e6⟩ := R.ob m _ q
            rw [e2] at e4; cases e4
            exact .inl ⟨vs, SqL.of e5, by rw [e6.length]⟩
          | dK _ => cases e
      | _ => cases e
  | [], _, o => exact o.elim
  | _ :: _ :: _, _, o => exact o.elim
/-- list(x), tuple(x) -/
def seqAt (S : Sto) : T → Option (List T)
  | .tup ts => some ts
  | .scr ns => some (ns.map T.int)
  | t => lstAt S t
theorem seq_at {p : Pl} {H : Hp} {S : Sto} (R : RelS K mg W p H S) {t : T} {v : V} {ts : List T} (e : seqAt S t = some ts) (r : Rep K mg p H t v) : ∃ a vs, v = .ref a ∧ (SqL K H a vs ∨ SqT K H a vs) ∧ RepL K mg p H ts vs := by
  cases t with
  | tup us => cases e; obtain ⟨a, vs, e1, e2, e3⟩ := r; exact ⟨a, vs, e1, .inr e2, e3⟩
  | scr ns => cases e; obtain ⟨a, e1, e2, _⟩ := scr_seq r; exact ⟨a, _, e1, .inl e2, RepL.of_ints⟩
  | lst us => obtain ⟨a, vs, e1, e2, e3⟩ := lst_at R (t := T.lst us) (show lstAt S (T.lst us) = some ts from e) r; exact ⟨a, vs, e1, .inl (SqL.of e2), e3⟩
  | ref n => obtain ⟨a, vs, e1, e2, e3⟩ := lst_at R (t := T.ref n) (show lstAt S (T.ref n) = some ts from e) r; exact ⟨a, vs, e1, .inl (SqL.of e2), e3⟩
  | _ => cases e
def listG : List T → Sto → Out T := fun ts S => match ts with
  | [t] => match seqAt S t with
    | some us => .ok (.lst us) S
    | none => .no
  | _ => .no
def listRG : List T → Sto → Out T := fun ts S => match ts with
  | [t] => match seqAt S t with
    | some us => .ok (.ref S.length) (S ++ [.lst us])
    | none => .no
  | _ => .no
theorem listG_ok : CallG K mg (fun xs H Q => ∃ p ys, xs = [.ref p] ∧ (SqL K H p ys ∨ SqT K H p ys) ∧ ∀ l, H l = none → Q (.ref l) (upd H l (.lst ys))) listG := fun W p H S ts vs Q R r o => by
  match ts, r, o with
  | [t], r, o =>
    obtain ⟨v, rfl, rv⟩ := r.one
    cases e : seqAt S t with
    | none => simp only [listG, e] at o; exact o.elim
    | some us =>
      simp only [listG, e] at o
      obtain ⟨a, ys, rfl, h, r1⟩ := seq_at R e rv
      exact ⟨a, ys, rfl, h, fun l hl => po_lst o R r1 hl⟩
  | [], _, o => exact o.elim
  | _ :: _ :: _, _, o => exact o.elim
theorem listRG_ok : CallG K mg (fun xs H Q => ∃ p ys, xs = [.ref p] ∧ (SqL K H p ys ∨ SqT K H p ys) ∧ ∀ l, H l = none → Q (.ref l) (upd H l (.lst ys))) listRG := fun W p H S ts vs Q R r o => by
  match ts, r, o with
  | [t], r, o =>
    obtain ⟨v, rfl, rv⟩ := r.one
    cases e : seqAt S t with
    | none => simp only [listRG, e] at o; exact o.elim
    | some us =>
      simp only [listRG, e] at o
      obtain ⟨a, ys, rfl, h, r1⟩ := seq_at R e rv
      exact ⟨a, ys, rfl, h, fun l hl => po_ref o R r1 hl⟩
  | [], _, o => exact o.elim
  | _ :: _ :: _, _, o => exact o.elim
def tupleG : List T → Sto → Out T := fun ts S => match ts with
  | [t] => match t with
    | .tup us => .ok (.tup us) S
    | t => match lstAt S t with
      | some us => .ok (.tup us) S
      | none => .no
  | _ => .no
theorem tupleG_ok : CallG K mg (fun xs H Q => ∃ p ys, xs = [.ref p] ∧ ((SqL K H p ys ∧ ∀ l, H l = none → Q (.ref l) (upd H l (.tup ys))) ∨ (SqT K H p ys ∧ Q (.ref p) H))) tupleG := fun W p H S ts vs Q R r o => by
  match ts, r, o with
  | [t], r, o =>
    obtain ⟨v, rfl, rv⟩ := r.one
    have go : ∀ us, lstAt S t = some us → PO K mg W p H (.ok (.tup us) S) (RV K mg Q) → ∃ p ys, [v] = [.ref p] ∧ ((SqL K H p ys ∧ ∀ l, H l = none → Q (.ref l) (upd H l (.tup ys))) ∨ (SqT K H p ys ∧ Q (.ref p) H)) := fun us e o => by
      obtain ⟨a, ys, rfl, h, r1⟩ := lst_at R e rv
      exact ⟨a, ys, rfl, .inl ⟨SqL.of h, fun l hl => po_tup o R r1 hl⟩⟩
    cases t with
    | tup us =>
      obtain ⟨a, ys, rfl, h, r1⟩ := rv
      exact ⟨a, ys, rfl, .inr ⟨h, po_val (.tup us) o R ⟨a, ys, rfl, h, r1⟩⟩⟩
    | lst us => exact go us rfl o
    | ref n =>
      cases e : lstAt S (.ref n) with
      | none => simp only [tupleG, e] at o; exact o.elim
      | some us => simp only [tupleG, e] at o; exact go us e o
    | _ => exact o.elim
  | [], _, o => exact o.elim
  | _ :: _ :: _, _, o => exact o.elim
/-- ints in -/
def absG : List T → Sto → Out T := fun ts S => match ts with
  | [.int i] => .ok (.int (if i < 0 then -i else i)) S
  | _ => .no
theorem absG_ok : CallG K mg (fun xs H Q => ∃ i, xs = [.int i] ∧ Q (.int (if i < 0 then -i else i)) H) absG := fun W p H S ts vs Q R r o => by
  unfold absG at o
  split at o
  · rename_i i
    obtain ⟨v, rfl, rv⟩ := r.one
    obtain rfl : v = .int i := rv
    exact ⟨i, rfl, o.now R _ rfl⟩
  · exact o.elim
def minG : List T → Sto → Out T := fun ts S => match ts with
  | [.int i, .int j] => .ok (.int (if j < i then j else i)) S
  | _ => .no
def maxG : List T → Sto → Out T := fun ts S => match ts with
  | [.int i, .int j] => .ok (.int (if j > i then j else i)) S
  | _ => .no
theorem minG_ok : CallG K mg (fun xs H Q => ∃ i j, xs = [.int i, .int j] ∧ Q (.int (if j < i then j else i)) H) minG := fun W p H S ts vs Q R r o => by
  unfold minG at o
  split at o
  · rename_i i j
    obtain ⟨v, u, rfl, rv, ru⟩ := r.two
    obtain rfl : v = .int i := rv
    obtain rfl : u = .int j := ru
    exact ⟨i, j, rfl, o.now R _ rfl⟩
  · exact o.elim
theorem maxG_ok : CallG K mg (fun xs H Q => ∃ i j, xs = [.int i, .int j] ∧ Q (.int (if j > i then j else i)) H) maxG := fun W p H S ts vs Q R r o => by
  unfold maxG at o
  split at o
  · rename_i i j
    obtain ⟨v, u, rfl, rv, ru⟩ := r.two
    obtain rfl : v = .int i := rv
    obtain rfl : u = .int j := ru
    exact ⟨i, j, rfl, o.now R _ rfl⟩
  · exact o.elim
def intG : List T → Sto → Out T := fun ts S => match ts with
  | [.int i] => .ok (.int i) S
  | [.bl k] => .ok (.int (if k then 1 else 0)) S
  | _ => .no
theorem intG_ok : CallG K mg (fun xs H Q => (∃ i, xs = [.int i] ∧ Q (.int i) H) ∨ ∃ k, xs = [.bl k] ∧ Q (.int (if k then 1 else 0)) H) intG := fun W p H S ts vs Q R r o => by
  unfold intG at o
  split at o
  · rename_i i
    obtain ⟨v, rfl, rv⟩ := r.one
    obtain rfl : v = .int i := rv
    exact .inl ⟨i, rfl, o.now R _ rfl⟩
  · rename_i i
    obtain ⟨v, rfl, rv⟩ := r.one
    obtain rfl : v = .bl i := rv
    exact .inr ⟨i, rfl, o.now R _ rfl⟩
  · exact o.elim
def divmodG : List T → Sto → Out T := fun ts S => match ts with
  | [.int i, .int j] => match decide (0 < j ∧ j < 1073741824) with
    | true => .ok (.tup [.int (i / j), .int (i % j)]) S
    | false => .no
  | _ => .no
theorem divmodG_ok : CallG K mg (fun xs H Q => ∃ i j, xs = [.int i, .int j] ∧ CDiv i j ∧ ∀ p, H p = none → Q (.ref p) (upd H p (.tup [.int (i / j), .int (i % j)]))) divmodG := fun W p H S ts vs Q R r o => by
  unfold divmodG at o
  split at o
  · rename_i i j
    obtain ⟨v, u, rfl, rv, ru⟩ := r.two
    obtain rfl : v = .int i := rv
    obtain rfl : u = .int j := ru
    split at o
    · rename_i hd
      have hd' : 0 < j ∧ j < 1073741824 := of_decide_eq_true hd
      exact ⟨i, j, rfl, hd', fun b hb => po_tup o R (.cons rfl (.cons rfl .nil)) hb⟩
    · exact o.elim
  · exact o.elim
/-- all, any of a list of bools -/
def asBs : List T → Option (List Bool)
  | [] => some []
  | .bl b :: ts => (asBs ts).map (b :: ·)
  | _ :: _ => none
theorem asBs_map : ∀ {ts : List T} {bs : List Bool}, asBs ts = some bs → ts = bs.map T.bl
  | [], _, e => by cases e; rfl
  | .bl b :: ts, _, e => by
    simp only [asBs] at e
    obtain ⟨us, e1, rfl⟩ := Option.map_eq_some_iff.mp e
    rw [asBs_map e1]; rfl
  | .non :: _, _, e | .int _ :: _, _, e | .str _ :: _, _, e | .tup _ :: _, _, e | .lst _ :: _, _, e | .scr _ :: _, _, e | .ref _ :: _, _, e | .glob _ :: _, _, e | .ty _ :: _, _, e => by cases e
def blsG (f : List Bool → Bool) : List T → Sto → Out T := fun ts S => match ts with
  | [t] => match (lstAt S t).bind asBs with
    | some bs => .ok (.bl (f bs)) S
    | none => .no
  | _ => .no
theorem blsG_ok {f : List Bool → Bool} : CallG K mg (fun vs H Q => ∃ (a : Addr) (bs : List Bool), vs = [V.ref a] ∧ SqL K H a (bs.map V.bl) ∧ Q (.bl (f bs)) H) (blsG f) := fun W p H S ts vs Q R r o => by
  match ts, r, o with
  | [t], r, o =>
    obtain ⟨v, rfl, rv⟩ := r.one
    cases e : (lstAt S t).bind asBs with
    | none => simp only [blsG, e] at o; exact o.elim
    | some bs =>
      simp only [blsG, e] at o
      obtain ⟨us, e1, e2⟩ := Option.bind_eq_some_iff.mp e
      obtain ⟨a, ys, rfl, h, r1⟩ := lst_at R e1 rv
      rw [asBs_map e2] at r1
      refine ⟨a, bs, rfl, ?_, po_val (.bl (f bs)) o R rfl⟩
      rw [← r1.bls]
      exact SqL.of h
  | [], _, o => exact o.elim
  | _ :: _ :: _, _, o => exact o.elim
/-- least, greatest of a list of ints -/
def asIs : List T → Option (List Int)
  | [] => some []
  | .int b :: ts => (asIs ts).map (b :: ·)
  | _ :: _ => none
theorem asIs_map : ∀ {ts : List T} {bs : List Int}, asIs ts = some bs → ts = bs.map T.int
  | [], _, e => by cases e; rfl
  | .int b :: ts, _, e => by
    simp only [asIs] at e
    obtain ⟨us, e1, rfl⟩ := Option.map_eq_some_iff.mp e
    rw [asIs_map e1]; rfl
  | .non :: _, _, e | .bl _ :: _, _, e | .str _ :: _, _, e | .tup _ :: _, _, e | .lst _ :: _, _, e | .scr _ :: _, _, e | .ref _ :: _, _, e | .glob _ :: _, _, e | .ty _ :: _, _, e => by cases e
theorem asIs_ints (ns : List Int) : asIs (ns.map T.int) = some ns := by
  induction ns with
  | nil => rfl
  | cons n ns ih => simp [asIs, ih]
theorem asBs_bls (ns : List Bool) : asBs (ns.map T.bl) = some ns := by
  induction ns with
  | nil => rfl
  | cons n ns ih => simp [asBs, ih]
def least : List Int → Int → Int
  | [], m => m
  | n :: ns, m => least ns (if n < m then n else m)
def most : List Int → Int → Int
  | [], m => m
  | n :: ns, m => most ns (if m < n then n else m)
theorem least_spec : ∀ (ns : List Int) (m : Int), (least ns m = m ∨ least ns m ∈ ns) ∧ least ns m ≤ m ∧ ∀ n ∈ ns, least ns m ≤ n
  | [], m => ⟨.inl rfl, Int.le_refl _, fun _ h => nomatch h⟩
  | n :: ns, m => by
    obtain ⟨h1, h2, h3⟩ := least_spec ns (if n < m then n else m)
    rw [show least (n :: ns) m = least ns (if n < m then n else m) from rfl]
    have hk : ((if n < m then n else m) = n ∨ (if n < m then n else m) = m) := by split <;> simp
    have hb : (if n < m then n else m) ≤ n ∧ (if n < m then n else m) ≤ m := by split <;> omega
    generalize (if n < m then n else m) = k at h1 h2 h3 hk hb ⊢
    refine ⟨?_, by omega, fun x hx => ?_⟩
    · rcases h1 with h1 | h1
      · rcases hk with hk | hk
        · exact .inr (by rw [h1, hk]; simp)
        · exact .inl (by rw [h1, hk])
      · exact .inr (List.mem_cons_of_mem _ h1)
    · rcases List.mem_cons.mp hx with rfl | hx
      · omega
      · exact h3 x hx
theorem most_spec : ∀ (ns : List Int) (m : Int), (most ns m = m ∨ most ns m ∈ ns) ∧ m ≤ most ns m ∧ ∀ n ∈ ns, n ≤ most ns m
  | [], m => ⟨.inl rfl, Int.le_refl _, fun _ h => nomatch h⟩
  | n :: ns, m => by
    obtain ⟨h1, h2, h3⟩ := most_spec ns (if m < n then n else m)
    rw [show most (n :: ns) m = most ns (if m < n then n else m) from rfl]
    have hk : ((if m < n then n else m) = n ∨ (if m < n then n else m) = m) := by split <;> simp
    have hb : n ≤ (if m < n then n else m) ∧ m ≤ (if m < n then n else m) := by split <;> omega
    generalize (if m < n then n else m) = k at h1 h2 h3 hk hb ⊢
    refine ⟨?_, by omega, fun x hx => ?_⟩
    · rcases h1 with h1 | h1
      · rcases hk with hk | hk
        · exact .inr (by rw [h1, hk]; simp)
        · exact .inl (by rw [h1, hk])
      · exact .inr (List.mem_cons_of_mem _ h1)
    · rcases List.mem_cons.mp hx with rfl | hx
      · omega
      · exact h3 x hx
def leastG : List T → Sto → Out T := fun ts S => match ts with
  | [t] => match (lstAt S t).bind asIs with
    | some (n :: ns) => .ok (.int (least ns n)) S
    | _ => .no
  | _ => .no
def mostG : List T → Sto → Out T := fun ts S => match ts with
  | [t] => match (lstAt S t).bind asIs with
    | some (n :: ns) => .ok (.int (most ns n)) S
    | _ => .no
  | _ => .no
theorem leastG_ok : CallG K mg (rMin K) leastG := fun W p H S ts vs Q R r o => by
  match ts, r, o with
  | [t], r, o =>
    obtain ⟨v, rfl, rv⟩ := r.one
    cases e : (lstAt S t).bind asIs with
    | none => simp only [leastG, e] at o; exact o.elim
    | some bs =>
      cases bs with
      | nil => simp only [leastG, e] at o; exact o.elim
      | cons n ns =>
        simp only [leastG, e] at o
        obtain ⟨us, e1, e2⟩ := Option.bind_eq_some_iff.mp e
        obtain ⟨a, ys, rfl, h, r1⟩ := lst_at R e1 rv
        rw [asIs_map e2] at r1
        refine ⟨a, n :: ns, rfl, by rw [← r1.ints]; exact SqL.of h, by simp, fun m hm hl => ?_⟩
        obtain ⟨s1, s2, s3⟩ := least_spec ns n
        have : m = least ns n := by
          apply Int.le_antisymm
          · rcases s1 with s1 | s1
            · rw [s1]; exact hl n (by simp)
            · exact hl _ (List.mem_cons_of_mem _ s1)
          · rcases List.mem_cons.mp hm with rfl | hm
            · exact s2
            · exact s3 m hm
        rw [this]
        exact po_val (.int _) o R rfl
  | [], _, o => exact o.elim
  | _ :: _ :: _, _, o => exact o.elim
theorem mostG_ok : CallG K mg (rMax K) mostG := fun W p H S ts vs Q R r o => by
  match ts, r, o with
  | [t], r, o =>
    obtain ⟨v, rfl, rv⟩ := r.one
    cases e : (lstAt S t).bind asIs with
    | none => simp only [mostG, e] at o; exact o.elim
    | some bs =>
      cases bs with
      | nil => simp only [mostG, e] at o; exact o.elim
      | cons n ns =>
        simp only [mostG, e] at o
        obtain ⟨us, e1, e2⟩ := Option.bind_eq_some_iff.mp e
        obtain ⟨a, ys, rfl, h, r1⟩ := lst_at R e1 rv
        rw [asIs_map e2] at r1
        refine ⟨a, n :: ns, rfl, by rw [← r1.ints]; exact SqL.of h, by simp, fun m hm hl => ?_⟩
        obtain ⟨s1, s2, s3⟩ := most_spec ns n
        have : m = most ns n := by
          apply Int.le_antisymm
          · rcases List.mem_cons.mp hm with rfl | hm
            · exact s2
            · exact s3 m hm
          · rcases s1 with s1 | s1
            · rw [s1]; exact hl n (by simp)
            · exact hl _ (List.mem_cons_of_mem _ s1)
        rw [this]
        exact po_val (.int _) o R rfl
  | [], _, o => exact o.elim
  | _ :: _ :: _, _, o => exact o.elim
/-- isinstance(x, T) of a built-in T -/
def kindT (S : Sto) : T → Option String
  | .non => some "NoneType"
  | .bl _ => some "bool"
  | .int _ => some "int"
  | .str _ => some "str"
  | .tup _ => some "tuple"
  | .lst _ => some "list"
  | .ref n => match S[n]? with
    | some (.lst _) => some "list"
    | some (.dK _) => some "dict"
    | none => none
  | _ => none
def isiT (c : String) (k : String) : Option Bool := match c with
  | "int" => some (k == "int" || k == "bool")
  | "bool" => some (k == "bool")
  | "str" => some (k == "str")
  | "tuple" => some (k == "tuple")
  | "list" => some (k == "list")
  | "dict" => some (k == "dict")
  | _ => none
theorem kind_ok {p : Pl} {H : Hp} {S : Sto} (R : RelS K mg W p H S) {t : T} {v : V} {k : String} (e : kindT S t = some k) (r : Rep K mg p H t v) : TyX K H v (.type k) ∧ k ∈ ["NoneType", "bool", "int", "str", "tuple", "list", "dict"] := by
  cases t with
  | non => cases e; rw [show v = V.non from r]; exact ⟨.base .non, by simp⟩
  | bl b => cases e; rw [show v = V.bl b from r]; exact ⟨.base (.bl b), by simp⟩
  | int b => cases e; rw [show v = V.int b from r]; exact ⟨.base (.int b), by simp⟩
  | str b => cases e; rw [show v = V.str b from r]; exact ⟨.base (.str b), by simp⟩
  | tup ts =>
    cases e
    obtain ⟨a, vs, rfl, h, _⟩ := r
    refine ⟨?_, by simp⟩
    rcases h with (h | ⟨o, h⟩) | ⟨o, its, n, h1, h2, _⟩
    · exact .base (.tup h)
    · exact .fTuple h
    · exact .kTuple h1 h2
  | lst ts => cases e; obtain ⟨a, vs, rfl, h, _⟩ := r; exact ⟨.base (.lst h), by simp⟩
  | ref n =>
    obtain ⟨a, rfl, e2⟩ := r
    cases q : S[n]? with
    | none => simp only [kindT, q] at e; cases e
    | some ob =>
      obtain ⟨b, e4, ro⟩ := R.ob n _ q
      rw [e2] at e4; cases e4
      cases ob with
      | lst us => simp only [kindT, q] at e; cases e; obtain ⟨vs, e5, _⟩ := ro; exact ⟨.base (.lst e5), by simp⟩
      | dK us => simp only [kindT, q] at e; cases e; obtain ⟨vs, e5, _⟩ := ro; exact ⟨.base (.dK e5), by simp⟩
  | _ => cases e
theorem isiT_kit : ∀ k ∈ ["NoneType", "bool", "int", "str", "tuple", "list", "dict"], ∀ c ∈ ["int", "bool", "str", "tuple", "list", "dict"], kitB k c = isiT c k := by decide +kernel
def isiG : List T → Sto → Out T := fun ts S => match ts with
  | [t, .ty c] => match (kindT S t).bind (isiT c) with
    | some b => .ok (.bl b) S
    | none => .no
  | _ => .no
theorem isiG_ok : CallG K mg (rIsi K) isiG := fun W p H S ts vs Q R r o => by
  unfold isiG at o
  split at o
  · rename_i t c
    obtain ⟨v, u, rfl, rv, ru⟩ := r.two
    obtain rfl : u = .ty c := ru
    cases e : (kindT S t).bind (isiT c) with
    | none => simp only [e] at o; exact o.elim
    | some b =>
      simp only [e] at o
      obtain ⟨k, e1, e2⟩ := Option.bind_eq_some_iff.mp e
      obtain ⟨h1, h2⟩ := kind_ok R e1 rv
      have hc : c ∈ ["int", "bool", "str", "tuple", "list", "dict"] := by
        unfold isiT at e2
        split at e2 <;> first | (cases e2; done) | (simp; done)
      refine ⟨v, .ty c, .type k, .type c, b, rfl, .ty c, h1, kit_ty ?_, po_val (.bl b) o R rfl⟩
      rw [isiT_kit k h2 c hc, e2]
  · exact o.elim
end
end Mi


set_option Elab.async false
set_option linter.all false
set_option maxRecDepth 100000
namespace Mi
open PySem PySem.Spec PyProof.Rows L2
/-! ### methods of lists in the store -/
def MtG (K : PySem.W.Frag) (mg : Str → Option Value) (r : V → List V → Hp → VK → Prop) (g : T → List T → Sto → Out T) : Prop :=
  ∀ (W : XW) p H S x ts vx vs Q, RelS K mg W p H S → Rep K mg p H x vx → RepL K mg p H ts vs → PO K mg W p H (g x ts S) (RV K mg Q) → r vx vs H Q
def isTy (c : String) (x : T) (S : Sto) : Bool := match x with
  | .str _ => c == "str"
  | .int _ => c == "int"
  | .lst _ => c == "list"
  | .ref n => match S[n]? with
    | some (.lst _) => c == "list"
    | some (.dK _) => c == "dict"
    | none => false
  | _ => false
theorem isTy_ok {K : PySem.W.Frag} {mg : Str → Option Value} {p : Pl} {H : Hp} {S : Sto} (R : RelS K mg W p H S) {c : String} {x : T} {v : V} (e : isTy c x S = true) (r : Rep K mg p H x v) : tyV K c v H := by
  cases x with
  | str z => rw [show v = V.str z from r]; exact beq_iff_eq.mp e
  | int z => rw [show v = V.int z from r]; exact beq_iff_eq.mp e
  | lst ts => obtain ⟨a, vs, rfl, h, _⟩ := r; exact .inl ⟨beq_iff_eq.mp e, vs, SqL.of h⟩
  | ref n =>
    obtain ⟨a, rfl, e2⟩ := r
    cases q : S[n]? with
    | none => simp only [isTy, q] at e; cases e
    | some ob =>
      obtain ⟨b, e4, ro⟩ := R.ob n _ q
      rw [e2] at e4; cases e4
      cases ob with
      | lst us => simp only [isTy, q] at e; obtain ⟨vs, e5, _⟩ := ro; exact .inl ⟨beq_iff_eq.mp e, vs, SqL.of e5⟩
      | dK us => simp only [isTy, q] at e; obtain ⟨vs, e5, _⟩ := ro; exact .inr (.inr (.inl ⟨beq_iff_eq.mp e, .inl ⟨vs, e5⟩⟩))
  | _ => cases e
def mF (c : String) (g : T → List T → Sto → Out T) (fo : Ro → Sto → Out T) (fs : Ro → Sto → Out (List T)) : Ro → Sto → Out T := fun ρ S => (fo ρ S).bind fun x S1 => match isTy c x S1 with
  | true => (fs ρ S1).bind fun ts S2 => g x ts S2
  | false => .no
section
variable {X : Cx} {W : XW} {o e : Expr} {es : List Expr} {fo : Ro → Sto → Out T} {fs : Ro → Sto → Out (List T)} {name : Str} {apos cpos : Pos} {T' id : String} {r : V → List V → Hp → VK → Prop} {g : T → List T → Sto → Out T}
theorem d_bm (pa : PlainAttrs T') (slot : Slot T' name id) (hty : typeOf (.builtin id) = pure (.type "method_descriptor")) (hm : MtR X id r) (hgr : MtG X.K X.mg r g) (ho : DE X W o fo) (ha : DA X W (e :: es) fs)
    (hbase : attributeBase o name X.env (eval o X.env) = eval o X.env := by rfl)
    (hfew : ((backTo cpos (starEach (e :: es) X.env)).all (fun x => !x.1) && (backToKw cpos (keywordEach [] X.env)).all (fun x => x.1.isSome)
      && decide ((e :: es).length + ([] : List Keyword).length + (if ([] : List Keyword).isEmpty then 0 else 1) < 30)) = true := by rfl)
    (hline : (apos.endLine == cpos.line) = true := by rfl) (hs : starEach (e :: es) X.env = (false, eval e X.env) :: starEach es X.env := by rfl) (hplain : (backTo cpos (starEach es X.env)).any (·.1) = false := by rfl) :
    DE X W (.Call (.Attribute o name apos) (e :: es) [] cpos) (mF T' g fo fs) :=
  PE.imp (pe_bm pa slot hty hm ho ha hbase hfew hline hs hplain) fun σ H Q h => At.bind (f := fo) (g := fun ρ x S1 => match isTy T' x S1 with | true => (fs ρ S1).bind fun ts S2 => g x ts S2 | false => .no) h fun ρ x S q H1 rs re o v rv => by
    cases he : isTy T' x S with
    | false => simp only [he] at o; exact o.elim
    | true =>
      simp only [he] at o
      exact ⟨isTy_ok rs he rv, q, ρ, S, rs, re, PO.bind o fun ts S2 q2 H2 b rs2 o2 vs rvs => hgr W q2 H2 S2 x ts v vs Q rs2 (rv.stp b) rvs o2⟩
theorem d_bm0 (pa : PlainAttrs T') (slot : Slot T' name id) (hty : typeOf (.builtin id) = pure (.type "method_descriptor")) (hm : MtR X id r) (hgr : MtG X.K X.mg r g) (ho : DE X W o fo)
    (hbase : attributeBase o name X.env (eval o X.env) = eval o X.env := by rfl) (hline : (apos.endLine == cpos.line) = true := by rfl) : DE X W (.Call (.Attribute o name apos) [] [] cpos) (mF T' g fo aNil) :=
  PE.imp (pe_bm0 pa slot hty hm ho hbase hline) fun σ H Q h => At.bind (f := fo) (g := fun ρ x S1 => match isTy T' x S1 with | true => (aNil ρ S1).bind fun ts S2 => g x ts S2 | false => .no) h fun ρ x S q H1 rs re o v rv => by
    cases he : isTy T' x S with
    | false => simp only [he] at o; exact o.elim
    | true =>
      simp only [he] at o
      exact ⟨isTy_ok rs he rv, hgr W q H1 S x [] v [] Q rs rv rfl o⟩
end
def appG : T → List T → Sto → Out T := fun x ts S => match x, ts with
  | .ref n, [t] => match S[n]? with
    | some (.lst us) => fit (us.length + 1) (.ok .non (S.set n (.lst (us ++ [t]))))
    | _ => .no
  | _, _ => .no
def extG : T → List T → Sto → Out T := fun x ts S => match x, ts with
  | .ref n, [t] => match S[n]?, lstAt S t with
    | some (.lst us), some ws => fit (us.length + ws.length) (.ok .non (S.set n (.lst (us ++ ws))))
    | _, _ => .no
  | _, _ => .no
def popG : T → List T → Sto → Out T := fun x ts S => match x, ts with
  | .ref n, [] => match S[n]? with
    | some (.lst us) => match us[us.length - 1]? with
      | some t => .ok t (S.set n (.lst us.dropLast))
      | none => .no
    | _ => .no
  | _, _ => .no
def popAtG : T → List T → Sto → Out T := fun x ts S => match x, ts with
  | .ref n, [.int i] => match S[n]? with
    | some (.lst us) => match decide (-(2 ^ 63) ≤ i ∧ i < 2 ^ 63), ixN us.length i with
      | true, some k => match us[k]? with
        | some t => .ok t (S.set n (.lst (us.eraseIdx k)))
        | none => .no
      | _, _ => .no
    | _ => .no
  | _, _ => .no
section
variable {K : PySem.W.Frag} {mg : Str → Option Value}
theorem RepL.dropLast {p : Pl} {H : Hp} : ∀ {ts : List T} {vs : List V}, RepL K mg p H ts vs → RepL K mg p H ts.dropLast vs.dropLast
  | [], _, h => by cases h; exact rfl
  | [t], _, h => by obtain ⟨v, rfl, _⟩ := h.one; exact rfl
  | t :: u :: ts, _, h => by
    obtain ⟨v, r, rfl, h1, h2⟩ := h
    obtain ⟨w, r', e, h3, h4⟩ := id h2
    subst e
    exact ⟨v, _, rfl, h1, RepL.dropLast h2⟩
theorem RepL.erase {p : Pl} {H : Hp} : ∀ {ts : List T} {vs : List V} (k : Nat), RepL K mg p H ts vs → RepL K mg p H (ts.eraseIdx k) (vs.eraseIdx k)
  | [], _, _, h => by cases h; exact rfl
  | t :: ts, _, 0, h => by obtain ⟨v, r, rfl, h1, h2⟩ := h; exact h2
  | t :: ts, _, k + 1, h => by obtain ⟨v, r, rfl, h1, h2⟩ := h; exact ⟨v, _, rfl, h1, RepL.erase k h2⟩
/-- a list of the store, to be changed -/
theorem ref_lst {p : Pl} {H : Hp} {S : Sto} (R : RelS K mg W p H S) {n : Nat} {v : V} {us : List T} (e : S[n]? = some (.lst us)) (r : Rep K mg p H (.ref n) v) : ∃ a vs, v = .ref a ∧ p.mu[n]? = some a ∧ H a = some (.lst vs) ∧ RepL K mg p H us vs := by
  obtain ⟨a, e1, e2⟩ := r
  obtain ⟨b, e3, vs, e4, e5⟩ := R.ob n _ e
  rw [e2] at e3; cases e3
  exact ⟨a, vs, e1, e2, e4, e5⟩
theorem po_write {W : XW} {p : Pl} {H : Hp} {S : Sto} {Q : VK} {n : Nat} {a : Addr} {vs ws : List V} {ts : List T} {t : T} {v : V} (o : PO K mg W p H (.ok t (S.set n (.lst ts))) (RV K mg Q)) (R : RelS K mg W p H S) (e2 : p.mu[n]? = some a) (e4 : H a = some (.lst vs)) (r : RepL K mg p H ts ws) (rv : Rep K mg p H t v) :
    Q v (upd H a (.lst ws)) := by
  have st : Stp p H p (upd H a (.lst ws)) := Stp.write (List.mem_of_getElem? e2) e4 soft_lst soft_lst
  exact o.of st (R.write e2 e4 soft_lst soft_lst ⟨ws, upd_same, r.stp st⟩) v (rv.stp st)
theorem appG_ok : MtG K mg rAppend appG := fun W p H S x ts vx vs Q R rx r o => by
  unfold appG at o
  split at o
  · rename_i n t
    obtain ⟨v, rfl, rv⟩ := r.one
    split at o
    · rename_i us e
      obtain ⟨hz, o⟩ := fit_po o
      obtain ⟨a, ws, rfl, e2, e4, rw'⟩ := ref_lst R e rx
      refine ⟨a, ws, v, rfl, rfl, e4, by rw [rw'.length]; omega, ?_⟩
      exact po_write o R e2 e4 (rw'.append (RepL.cons rv RepL.nil)) rfl
    · exact o.elim
  · exact o.elim
theorem extG_ok : MtG K mg rExtend extG := fun W p H S x ts vx vs Q R rx r o => by
  unfold extG at o
  split at o
  · rename_i n t
    obtain ⟨v, rfl, rv⟩ := r.one
    split at o
    · rename_i us ws e e'
      obtain ⟨hz, o⟩ := fit_po o
      obtain ⟨a, vs, rfl, e2, e4, rw'⟩ := ref_lst R e rx
      obtain ⟨b, us', rfl, e5, r5⟩ := lst_at R e' rv
      refine ⟨a, b, vs, us', rfl, rfl, e4, e5, by rw [rw'.length, r5.length]; omega, ?_⟩
      exact po_write o R e2 e4 (rw'.append r5) rfl
    · exact o.elim
  · exact o.elim
theorem popG_ok : MtG K mg rPop popG := fun W p H S x ts vx vs Q R rx r o => by
  unfold popG at o
  split at o
  · rename_i n
    split at o
    · rename_i us e
      split at o
      · rename_i t et
        obtain ⟨a, ws, rfl, e2, e4, rw'⟩ := ref_lst R e rx
        obtain ⟨v, ev, rv⟩ := rw'.get et
        refine ⟨a, ws, v, rfl, r, e4, by rw [rw'.length]; exact ev, ?_⟩
        exact po_write o R e2 e4 rw'.dropLast rv
      · exact o.elim
    · exact o.elim
  · exact o.elim
theorem popAtG_ok : MtG K mg rPopAt popAtG := fun W p H S x ts vx vs Q R rx r o => by
  unfold popAtG at o
  split at o
  · rename_i n i
    obtain ⟨v, rfl, rv⟩ := r.one
    obtain rfl : v = .int i := rv
    split at o
    · rename_i us e
      split at o
      · rename_i k hd hk
        split at o
        · rename_i t et
          obtain ⟨a, ws, rfl, e2, e4, rw'⟩ := ref_lst R e rx
          obtain ⟨v, ev, rv⟩ := rw'.get et
          have hd : -(2 ^ 63) ≤ i ∧ i < 2 ^ 63 := of_decide_eq_true hd
          refine ⟨a, ws, i, k, v, rfl, rfl, e4, hd.1, hd.2, by rw [rw'.length]; exact (ixN_seq hk).1, ev, ?_⟩
          exact po_write o R e2 e4 (rw'.erase k) rv
        · exact o.elim
      · exact o.elim
    · exact o.elim
  · exact o.elim
end
/-! ### dicts with ints and texts as keys -/
def keyT : T → Option Key
  | .int i => some (.inl i)
  | .str x => some (.inr x)
  | _ => none
def valT (kvs : List (Key × T)) (k : Key) : Option T := (kvs.find? fun kv => decide (kv.1 = k)).map (·.2)
def putT (kvs : List (Key × T)) (k : Key) (v : T) : List (Key × T) := if (kvs.any fun kv => decide (kv.1 = k)) then kvs.map fun kv => if kv.1 = k then (kv.1, v) else kv else kvs ++ [(k, v)]
section
variable {K : PySem.W.Frag} {mg : Str → Option Value} {p : Pl} {H : Hp}
theorem keyT_ok {t : T} {v : V} {k : Key} (e : keyT t = some k) (r : Rep K mg p H t v) : v = kV k := by
  cases t with
  | int i => cases e; exact r
  | str i => cases e; exact r
  | _ => cases e
theorem RepKv.val {k : Key} : ∀ {ts : List (Key × T)} {vs : List (Key × V)} {t : T}, RepKv K mg p H ts vs → valT ts k = some t → ∃ v, valV vs k = some v ∧ Rep K mg p H t v
  | [], _, _, _, e => by simp [valT] at e
  | (k', t') :: ts, _, t, h, e => by
    obtain ⟨v, r, rfl, h1, h2⟩ := h
    by_cases hk : k' = k
    · subst hk
      simp [valT] at e
      subst e
      exact ⟨v, valV_pos rfl, h1⟩
    · have e' : valT ts k = some t := by
        simp only [valT, List.find?_cons, decide_eq_false hk] at e
        exact e
      obtain ⟨u, h3, h4⟩ := RepKv.val h2 e'
      exact ⟨u, by rw [valV_neg hk]; exact h3, h4⟩
theorem RepKv.any {k : Key} : ∀ {ts : List (Key × T)} {vs : List (Key × V)}, RepKv K mg p H ts vs → (vs.any fun kv => decide (kv.1 = k)) = ts.any fun kv => decide (kv.1 = k)
  | [], _, h => by cases h; rfl
  | (k', t') :: ts, _, h => by
    obtain ⟨v, r, rfl, h1, h2⟩ := h
    rw [List.any_cons, List.any_cons, RepKv.any h2]
theorem RepKv.map {k : Key} {t : T} {v : V} (rv : Rep K mg p H t v) : ∀ {ts : List (Key × T)} {vs : List (Key × V)}, RepKv K mg p H ts vs → RepKv K mg p H (ts.map fun kv => if kv.1 = k then (kv.1, t) else kv) (vs.map fun kv => if kv.1 = k then (kv.1, v) else kv)
  | [], _, h => by cases h; rfl
  | (k', t') :: ts, _, h => by
    obtain ⟨u, r, rfl, h1, h2⟩ := h
    by_cases hk : k' = k
    · simp only [List.map_cons, if_pos hk]; exact ⟨v, _, rfl, rv, RepKv.map rv h2⟩
    · simp only [List.map_cons, if_neg hk]; exact ⟨u, _, rfl, h1, RepKv.map rv h2⟩
theorem RepKv.snoc {k : Key} {t : T} {v : V} (rv : Rep K mg p H t v) : ∀ {ts : List (Key × T)} {vs : List (Key × V)}, RepKv K mg p H ts vs → RepKv K mg p H (ts ++ [(k, t)]) (vs ++ [(k, v)])
  | [], _, h => by cases h; exact ⟨v, [], rfl, rv, rfl⟩
  | (k', t') :: ts, _, h => by
    obtain ⟨u, r, rfl, h1, h2⟩ := h
    exact ⟨u, _, rfl, h1, RepKv.snoc rv h2⟩
theorem RepKv.put {k : Key} {t : T} {v : V} (rv : Rep K mg p H t v) {ts : List (Key × T)} {vs : List (Key × V)} (h : RepKv K mg p H ts vs) : RepKv K mg p H (putT ts k t) (putK vs k v) := by
  unfold putT putK
  rw [h.any]
  split
  · exact h.map rv
  · exact h.snoc rv
theorem ref_dK {S : Sto} (R : RelS K mg W p H S) {n : Nat} {v : V} {us : List (Key × T)} (e : S[n]? = some (.dK us)) (r : Rep K mg p H (.ref n) v) : ∃ a vs, v = .ref a ∧ p.mu[n]? = some a ∧ H a = some (.dK vs) ∧ RepKv K mg p H us vs := by
  obtain ⟨a, e1, e2⟩ := r
  obtain ⟨b, e3, vs, e4, e5⟩ := R.ob n _ e
  rw [e2] at e3; cases e3
  exact ⟨a, vs, e1, e2, e4, e5⟩
end
def dgG (x y : T) (S : Sto) : Out T := match x with
  | .ref n => match S[n]?, keyT y with
    | some (.dK kvs), some k => match valT kvs k with
      | some t => .ok t S
      | none => .no
    | _, _ => .no
  | _ => .no
def dputF (fo fi fv : Ro → Sto → Out T) : Ro → Sto → Out Fl := fun ρ S => (fv ρ S).bind fun v S1 => (fo ρ S1).bind fun x S2 => (fi ρ S2).bind fun y S3 => match x with
  | .ref n => match S3[n]?, keyT y with
    | some (.dK kvs), some k => fit (kvs.length + 1) (.ok (.nx ρ) (S3.set n (.dK (putT kvs k v))))
    | _, _ => .no
  | _ => .no
section
variable {X : Cx} {W : XW} {o i value : Expr} {fo fi fv : Ro → Sto → Out T} {pos pos' : Pos}
theorem d_dget (hu : X.A.units + 1 < cLine) (ho : DE X W o fo) (hi : DE X W i fi) (hs : NoSl i := by exact fun _ _ => rfl) : DE X W (.Subscript o i pos) (bF dgG fo fi) :=
  PE.imp (pe_dget hu ho hi hs) fun σ H Q h => At.bind (f := fo) (g := fun ρ x S1 => (fi ρ S1).bind fun y S2 => dgG x y S2) h fun ρ x S q H1 rs re o v rv =>
    ⟨q, ρ, S, rs, re, PO.bind o fun y S2 q2 H2 b rs2 o2 u ru => by
      unfold dgG at o2
      split at o2
      · rename_i n
        split at o2
        · rename_i kvs k e ek
          split at o2
          · rename_i t et
            obtain ⟨a, vs, rfl, _, e4, r4⟩ := ref_dK rs2 e (rv.stp b)
            obtain ⟨w', e5, r5⟩ := r4.val et
            have := keyT_ok ek ru
            subst this
            exact ⟨a, w', rfl, by rw [← e5]; exact DGet.k e4, po_val t o2 rs2 r5⟩
          · exact o2.elim
        · exact o2.elim
      · exact o2.elim⟩
theorem s_dput (hu : X.A.units + 1 < cLine) (ho : DE X W o fo) (hi : DE X W i fi) (hv : DE X W value fv) (hs : swapsWith value (some (.Subscript o i pos')) pos.line X.env = pure false := by rfl) : DS X W (.Assign [.Subscript o i pos'] value pos) (dputF fo fi fv) :=
  PS.imp (ps_dput hu ho hi hv hs) fun D σ H h => At.bind (f := fv) (g := fun ρ v S1 => (fo ρ S1).bind fun x S2 => (fi ρ S2).bind fun y S3 => match x with
  | .ref n => match S3[n]?, keyT y with
    | some (.dK kvs), some k => fit (kvs.length + 1) (.ok (Fl.nx ρ) (S3.set n (.dK (putT kvs k v))))
    | _, _ => .no
  | _ => .no) h fun ρ t S q H1 rs re o v rv =>
    ⟨q, ρ, S, rs, re, PO.bind o fun x S2 q2 H2 b rs2 o2 vx rx => ⟨q2, ρ, S2, rs2, re.stp b, PO.bind o2 fun y S3 q3 H3 b3 rs3 o3 vy ry => by
      split at o3
      · rename_i n
        split at o3
        · rename_i kvs k e ek
          obtain ⟨hz, o3⟩ := fit_po o3
          obtain ⟨a, vs, rfl, e2, e4, r4⟩ := ref_dK rs3 e (rx.stp b3)
          have := keyT_ok ek ry
          subst this
          refine ⟨a, _, rfl, DPut.k e4 (by rw [r4.length]; omega), ?_⟩
          have rt := (rv.stp b).stp b3
          have st : Stp q3 H3 q3 (upd H3 a (.dK (putK vs k v))) := Stp.write (List.mem_of_getElem? e2) e4 soft_dK soft_dK
          exact o3.of st (rs3.write e2 e4 soft_dK soft_dK ⟨_, upd_same, (r4.put rt).stp st⟩) σ (((re.stp b).stp b3).stp st)
        · exact o3.elim
      · exact o3.elim⟩⟩
/-- {k: v, ..} with written texts as keys: a new dict of the store -/
def dispF : List (Str × (Ro → Sto → Out T)) → Ro → Sto → Out (List (Key × T))
  | [], _, S => .ok [] S
  | (x, f) :: r, ρ, S => (f ρ S).bind fun t S1 => (dispF r ρ S1).bind fun kvs S2 => .ok ((.inr x, t) :: kvs) S2
def mergeT (kvs : List (Key × T)) : List (Key × T) := kvs.foldl (fun acc kv => putT acc kv.1 kv.2) []
def disF (fs : List (Str × (Ro → Sto → Out T))) : Ro → Sto → Out T := fun ρ S => (dispF fs ρ S).bind fun kvs S1 => .ok (.ref S1.length) (S1 ++ [.dK (mergeT kvs)])

def trsOf (K : PySem.W.Frag) (mg : Str → Option Value) (W : XW) (fs : List (Str × (Ro → Sto → Out T))) : List (TE × TE) := fs.map fun xf => (tC (.str xf.1), fun σ H Q => At K mg W xf.2 (RV K mg Q) σ H)
theorem disp_At {K : PySem.W.Frag} {mg : Str → Option Value} : ∀ (fs : List (Str × (Ro → Sto → Out T))) {p : Pl} {ρ : Ro} {S : Sto} {σ : L2.St} {H : Hp} {Q : List (V × V) → Hp → Prop}, RelS K mg W p H S → RelE K mg W p H σ ρ →
    PO K mg W p H (dispF fs ρ S) (fun kvs q H' => ∀ kvv, RepKv K mg q H' kvs kvv → Q (kvv.map fun kv => (kV kv.1, kv.2)) H') → tPairs (trsOf K mg W fs) σ H Q
  | [], p, ρ, S, σ, H, Q, rs, re, o => (show PO K mg W p H (.ok [] S) (fun kvs q H' => ∀ kvv, RepKv K mg q H' kvs kvv → Q (kvv.map fun kv => (kV kv.1, kv.2)) H') from o).now rs [] rfl
  | (x, f) :: r, p, ρ, S, σ, H, Q, rs, re, o => by
    refine ⟨p, ρ, S, rs, re, PO.bind (o := f ρ S) (f := fun t S1 => (dispF r ρ S1).bind fun kvs S2 => Out.ok (((Sum.inr x : Key), t) :: kvs) S2) o fun t S1 q H1 st rs1 o1 v rv => ?_⟩
    refine disp_At r rs1 (re.stp st) (PO.bind (f := fun kvs S2 => Out.ok (((Sum.inr x : Key), t) :: kvs) S2) o1 fun kvs S2 q2 H2 st2 rs2 o2 kvv rkv => ?_)
    exact (show PO K mg W q2 H2 (.ok ((.inr x, t) :: kvs) S2) (fun kvs q H' => ∀ kvv, RepKv K mg q H' kvs kvv → Q (kvv.map fun kv => (kV kv.1, kv.2)) H') from o2).now rs2 ((.inr x, v) :: kvv) ⟨v, kvv, rfl, rv.stp st2, rkv⟩
mutual
theorem Rep.swap {K : PySem.W.Frag} {mg : Str → Option Value} {mu de : List Addr} {H : Hp} {D : Addr} : ∀ {t : T} {v : V}, Rep K mg ⟨mu, D :: de⟩ H t v → Rep K mg ⟨mu ++ [D], de⟩ H t v
  | .mark, _, r | .non, _, r | .bl _, _, r | .int _, _, r | .str _, _, r | .glob _, _, r | .ty _, _, r | .scr _, _, r => r
  | .ref n, _, r => by
    obtain ⟨a, e, h⟩ := r
    exact ⟨a, e, by show (mu ++ [D])[n]? = some a; rw [List.getElem?_append_left (List.getElem?_eq_some_iff.mp h).1]; exact h⟩
  | .tup ts, _, r => by
    obtain ⟨a, vs, e, h1, h2⟩ := r
    exact ⟨a, vs, e, h1, RepL.swap h2⟩
  | .lst ts, _, r => by
    obtain ⟨a, vs, e, h1, n1, n2, h2⟩ := r
    exact ⟨a, vs, e, h1, fun z => (List.mem_append.mp z).elim n1 fun z => n2 (by rw [List.mem_singleton.mp z]; simp), fun z => n2 (List.mem_cons_of_mem _ z), RepL.swap h2⟩
  | .exn c ks ts, _, r => by
    obtain ⟨a, C, d, vs, e, h1, h2, h3, h4, h5, h6⟩ := r
    refine ⟨a, C, d, vs, e, h1, h2, fun z => (List.mem_append.mp z).elim h3 fun z => h4 (by rw [List.mem_singleton.mp z]; simp), fun z => h4 (List.mem_cons_of_mem _ z), RepL.swap h5, ?_⟩
    cases d with
    | none => exact h6
    | some dx => exact ⟨h6.1, fun z => (List.mem_append.mp z).elim h6.2.1 fun z => h6.2.2 (by rw [List.mem_singleton.mp z]; simp), fun z => h6.2.2 (List.mem_cons_of_mem _ z)⟩
theorem RepL.swap {K : PySem.W.Frag} {mg : Str → Option Value} {mu de : List Addr} {H : Hp} {D : Addr} : ∀ {t : List T} {v : List V}, RepL K mg ⟨mu, D :: de⟩ H t v → RepL K mg ⟨mu ++ [D], de⟩ H t v
  | [], _, r => r
  | t :: ts, _, r => by
    obtain ⟨v, r, e, h1, h2⟩ := r
    exact ⟨v, r, e, Rep.swap h1, RepL.swap h2⟩
end
theorem RepKv.swap {K : PySem.W.Frag} {mg : Str → Option Value} {mu de : List Addr} {H : Hp} {D : Addr} : ∀ {t : List (Key × T)} {v : List (Key × V)}, RepKv K mg ⟨mu, D :: de⟩ H t v → RepKv K mg ⟨mu ++ [D], de⟩ H t v
  | [], _, r => r
  | (k, t) :: ts, _, r => by
    obtain ⟨v, r, e, h1, h2⟩ := r
    exact ⟨v, r, e, Rep.swap h1, RepKv.swap h2⟩
theorem RelS.swap {K : PySem.W.Frag} {mg : Str → Option Value} {mu de : List Addr} {H : Hp} {S : Sto} {D : Addr} {ob : Ob} {W : XW} (R : RelS K mg (w0 W.tb) ⟨mu, D :: de⟩ H S) (hd : D ∉ de) (r : RepO K mg ⟨mu ++ [D], de⟩ H D ob) (pst : ∀ r H', Stp ⟨mu ++ [D], de⟩ H r H' → W.J r.mu r.de H') : RelS K mg W ⟨mu ++ [D], de⟩ H (S ++ [ob]) := by
  have hm := (R.de D (by simp)).1
  have hlen : mu.length = S.length := R.len
  refine ⟨by simp [hlen], List.nodup_append.mpr ⟨R.nd, by simp, fun x hx y hy z => hm (by rw [← List.mem_singleton.mp hy, ← z]; exact hx)⟩, fun n u e => ?_, fun b hb => ⟨fun z => ?_, (R.de b (List.mem_cons_of_mem _ hb)).2⟩, R.tabs, pst⟩
  · by_cases hn : n < S.length
    · rw [List.getElem?_append_left hn] at e
      obtain ⟨c, e1, q⟩ := R.ob n u e
      refine ⟨c, by show (mu ++ [D])[n]? = some c; rw [List.getElem?_append_left (by omega)]; exact e1, ?_⟩
      cases u with
      | lst ts => obtain ⟨vs, e2, q⟩ := q; exact ⟨vs, e2, q.swap⟩
      | dK ts => obtain ⟨vs, e2, q⟩ := q; exact ⟨vs, e2, q.swap⟩
    · have hn' : n = S.length := by
        have := (List.getElem?_eq_some_iff.mp e).1
        simp at this; omega
      subst hn'
      rw [List.getElem?_append_right (Nat.le_refl _)] at e
      simp at e
      subst e
      exact ⟨D, by show (mu ++ [D])[S.length]? = some D; rw [← hlen]; simp, r⟩
  · rcases List.mem_append.mp z with z | z
    · exact (R.de b (List.mem_cons_of_mem _ hb)).1 z
    · rw [List.mem_singleton.mp z] at hb; exact hd hb
theorem RepKv.merge {K : PySem.W.Frag} {mg : Str → Option Value} {p : Pl} {H : Hp} : ∀ {ts : List (Key × T)} {vs : List (Key × V)} {us : List (Key × T)} {ws : List (Key × V)}, RepKv K mg p H ts vs → RepKv K mg p H us ws → RepKv K mg p H (ts.foldl (fun acc kv => putT acc kv.1 kv.2) us) (mergeK ws vs)
  | [], _, _, _, h, k => by cases h; exact k
  | (k', t) :: ts, _, us, ws, h, k => by
    obtain ⟨v, r, rfl, h1, h2⟩ := h
    exact show RepKv K mg p H (ts.foldl (fun acc kv => putT acc kv.1 kv.2) (putT us k' t)) (mergeK (putK ws k' v) r) from RepKv.merge h2 (RepKv.put h1 k)
theorem dispF_len : ∀ (fs : List (Str × (Ro → Sto → Out T))) {ρ : Ro} {S S' : Sto} {kvs : List (Key × T)}, dispF fs ρ S = .ok kvs S' → kvs.length = fs.length
  | [], _, _, _, _, e => by cases e; rfl
  | (x, f) :: r, ρ, S, S', kvs, e => by
    unfold dispF at e
    cases e1 : f ρ S with
    | ok t S1 =>
      rw [e1] at e
      simp only [bind_ok] at e
      cases e2 : dispF r ρ S1 with
      | ok k2 S2 =>
        rw [e2] at e
        simp only [bind_ok] at e
        cases e
        simp [dispF_len r e2]
      | exc _ _ _ => rw [e2] at e; cases e
      | no => rw [e2] at e; cases e
    | exc _ _ _ => rw [e1] at e; cases e
    | no => rw [e1] at e; cases e
theorem d_disp {keys : List (Option Expr)} {values : List Expr} {fs : List (Str × (Ro → Sto → Out T))} (h : PPs X pos keys values (trsOf X.K X.mg (w0 W.tb) fs)) (hf : fs.length ≤ 15) (hall : keys.all (·.isSome) = true) (hl : keys.length = values.length) (h0 : keys ≠ [])
    (h15 : keys.length ≤ 15) : DE X W (.Dict keys values pos) (fun ρ S => noX (disF fs ρ S)) :=
  PE.imp (pe_disp h hall hl h0 h15) fun σ H Q ⟨p, ρ, S, rs, re, o⟩ D hD => by
    have nn := rs.new hD
    have st0 : Stp p H ⟨p.mu, p.de⟩ (upd H D (.dK [])) := Stp.upd (p := p) hD
    have rs1 := rs.within (o := .dK []) hD .dK
    have re1 : RelE X.K X.mg (w0 W.tb) ⟨p.mu, D :: p.de⟩ (upd H D (.dK [])) σ ρ := ⟨re.len, fun i t e => (let ⟨v, e1, r⟩ := re.at_ i t e; ⟨v, e1, Rep.into hD st0 r⟩), fun _ _ h => nomatch h⟩
    refine disp_At fs rs1 re1 ?_
    have od : ∃ kvs S1, dispF fs ρ S = .ok kvs S1 := by
      cases e : dispF fs ρ S with
      | ok kvs S1 => exact ⟨kvs, S1, rfl⟩
      | exc _ _ _ => simp only [disF, e, Out.bind, noX] at o; exact o.elim
      | no => simp only [disF, e, Out.bind, noX] at o; exact o.elim
    obtain ⟨kvs, S1, ed⟩ := od
    rw [ed]
    rintro ⟨mu2, de2⟩ H2 st2 rs2 kvv rkv
    obtain rfl : de2 = D :: p.de := st2.de
    have hD2 : H2 D = some (.dK []) := st2.kp D _ nn.1 .dK upd_same
    refine ⟨hD2, kvv, rfl, by rw [rkv.length, dispF_len fs ed]; exact hf, ?_⟩
    simp only [disF, ed, bind_ok, noX] at o
    have stf : Stp p H ⟨mu2, p.de⟩ H2 := st0.trans st2.de_free
    have sto := stf.own (D := D) (o := .dK (mergeK [] kvv)) hD
    have hm2 := (rs2.de D (by simp)).1
    have stz : Stp p H ⟨mu2 ++ [D], p.de⟩ (upd H2 D (.dK (mergeK [] kvv))) := by
      obtain ⟨ν, e1, e2⟩ := sto.ext
      exact ⟨⟨ν ++ [D], by show mu2 ++ [D] = p.mu ++ (ν ++ [D]); rw [show mu2 = p.mu ++ ν from e1, List.append_assoc], fun b hb => (List.mem_append.mp hb).elim (e2 b) fun z => by rw [List.mem_singleton.mp z, hD]; exact fun _ z => nomatch z⟩, rfl, sto.tup, sto.frz, sto.kp, sto.al⟩
    refine o ⟨mu2 ++ [D], p.de⟩ (upd H2 D (.dK (mergeK [] kvv))) stz ?_ _ ⟨D, rfl, by show (mu2 ++ [D])[S1.length]? = some D; rw [← show mu2.length = S1.length from rs2.len]; simp⟩
    refine (rs2.grow (by simp) hD2 soft_dK soft_dK).swap nn.2 ⟨_, upd_same, ?_⟩ (rs.pstS stz)
    exact RepKv.merge (RepKv.swap (rkv.grow (by simp) hD2 soft_dK)) (us := []) (ws := []) rfl
end
end Mi


set_option Elab.async false
set_option linter.all false
set_option maxRecDepth 100000
namespace Mi
open PySem PySem.Spec PyProof.Rows L2
section
variable {X : Cx} {W : XW} {x : Str} {pos : Pos}
theorem d_gint' {i : Int} (hg : Gl X x) (hm : ∃ t, X.mg x = some (.int i t)) (hd : (x == ("__debug__" : Str)) = false := by decide) : DE X W (.Name x pos) (cF (.int i)) := by
  obtain ⟨t, hm⟩ := hm
  exact d_gint hg hm hd
theorem d_gstr' {i : Str} (hg : Gl X x) (hm : ∃ t, X.mg x = some (.str i t)) (hd : (x == ("__debug__" : Str)) = false := by decide) : DE X W (.Name x pos) (cF (.str i)) := by
  obtain ⟨t, hm⟩ := hm
  exact d_gstr hg hm hd
theorem d_gty {n : String} (hg : Gl X x) (hm : X.mg x = none) (hv : bootBuiltins x = some (.type n)) (hn : x ≠ "__name__" := by decide) (hd : (x == ("__debug__" : Str)) = false := by decide) : DE X W (.Name x pos) (cF (.ty n)) :=
  d_const (pe_bltn hg hm hv (v := .ty n) rfl hn hd) fun _ _ => rfl
theorem PySem_boot_int : bootBuiltins "int" = some (.type "int") := by decide +kernel
theorem PySem_boot_bool : bootBuiltins "bool" = some (.type "bool") := by decide +kernel
theorem PySem_boot_str : bootBuiltins "str" = some (.type "str") := by decide +kernel
theorem PySem_boot_tuple : bootBuiltins "tuple" = some (.type "tuple") := by decide +kernel
theorem PySem_boot_list : bootBuiltins "list" = some (.type "list") := by decide +kernel
theorem PySem_boot_dict : bootBuiltins "dict" = some (.type "dict") := by decide +kernel
/-! ### x += e -/
def addI := i0G fun i j => .int (i + j)
def subI := i0G fun i j => .int (i - j)
theorem ipAdd_ok {K : PySem.W.Frag} {mg : Str → Option Value} : OpG K mg (ipI fun i j => i + j) addI := i0G_ok fun _ _ _ _ => rfl
theorem ipSub_ok {K : PySem.W.Frag} {mg : Str → Option Value} : OpG K mg (ipI fun i j => i - j) subI := i0G_ok fun _ _ _ _ => rfl
/-- turns of a while that are more than any -/
def FUEL : Nat := 10 ^ 100
/-! ### xs[i] = v -/
def lputF (fo fi fv : Ro → Sto → Out T) : Ro → Sto → Out Fl := fun ρ S => (fv ρ S).bind fun v S1 => (fo ρ S1).bind fun x S2 => (fi ρ S2).bind fun y S3 => match x, y with
  | .ref n, .int i => match S3[n]? with
    | some (.lst us) => match ixN us.length i with
      | some j => .ok (.nx ρ) (S3.set n (.lst (us.set j v)))
      | none => .no
    | _ => .no
  | _, _ => .no
theorem s_lput {o i value : Expr} {fo fi fv : Ro → Sto → Out T} {pos' : Pos} (ho : DE X W o fo) (hi : DE X W i fi) (hv : DE X W value fv)
    (ha : ∀ v, assign (.Subscript o i pos') X.env v = (do
      let ov ← holding [v] (eval o X.env)
      let iv ← holding [v, ov] (eval i X.env)
      standAt pos'
      holding [v, ov, iv] (setItem ov iv v)
      release [v, ov, iv] []) := by intro _; rfl)
    (hs : swapsWithSole [.Subscript o i pos'] value pos.line X.env = pure false := by rfl) (hw : swappedStores [.Subscript o i pos'] value X.env = pure none := by rfl) (h1 : (assignEach [.Subscript o i pos'] X.env).map (·.2) = [assign (.Subscript o i pos') X.env] := by rfl) :
    DS X W (.Assign [.Subscript o i pos'] value pos) (lputF fo fi fv) :=
  PS.imp (ps_asg hv (pg_sub ho hi set_list ha) hs hw h1) fun D σ H h => At.bind (f := fv) (g := fun ρ v S1 => (fo ρ S1).bind fun x S2 => (fi ρ S2).bind fun y S3 => match x, y with
  | .ref n, .int i => match S3[n]? with
    | some (.lst us) => match ixN us.length i with
      | some j => .ok (Fl.nx ρ) (S3.set n (.lst (us.set j v)))
      | none => .no
    | _ => .no
  | _, _ => .no) h fun ρ t S q H1 rs re o v rv =>
    ⟨q, ρ, S, rs, re, PO.bind o fun x S2 q2 H2 b rs2 o2 vx rx => ⟨q2, ρ, S2, rs2, re.stp b, PO.bind o2 fun y S3 q3 H3 b3 rs3 o3 vy ry => by
      split at o3
      · rename_i n i
        split at o3
        · rename_i us e
          split at o3
          · rename_i j ej
            obtain ⟨a, vs, rfl, e2, e4, r4⟩ := ref_lst rs3 e (rx.stp b3)
            obtain rfl : vy = .int i := ry
            have rt := (rv.stp b).stp b3
            refine ⟨a, vs, i, j, rfl, rfl, e4, by rw [r4.length]; exact ej, ?_⟩
            have st : Stp q3 H3 q3 (upd H3 a (.lst (vs.set j v))) := Stp.write (List.mem_of_getElem? e2) e4 soft_lst soft_lst
            exact o3.of st (rs3.write e2 e4 soft_lst soft_lst ⟨_, upd_same, (r4.set rt j).stp st⟩) σ (((re.stp b).stp b3).stp st)
          · exact o3.elim
        · exact o3.elim
      · exact o3.elim⟩⟩
/-! ### in -/
def flatT : T → Bool
  | .non => true
  | .bl _ => true
  | .int _ => true
  | .str _ => true
  | _ => false
def eqF : T → T → Bool
  | .non, .non => true
  | .bl a, .bl b => a == b
  | .bl a, .int b => (if a then 1 else 0) == b
  | .int a, .bl b => a == (if b then 1 else 0)
  | .int a, .int b => a == b
  | .str a, .str b => a == b
  | _, _ => false
def inT (x : T) (ts : List T) : Bool := ts.any fun y => eqF y x
/-- neg: not in -/
def inG (neg : Bool) (x y : T) (S : Sto) : Out T := match y with
  | .str b => match x with
    | .str a => .ok (.bl (if neg then !(!(Builtin.Str.occurrences b a 0 b.length 1).isEmpty) else !(Builtin.Str.occurrences b a 0 b.length 1).isEmpty)) S
    | _ => .no
  | .tup ts => match flatT x && ts.all flatT with
    | true => .ok (.bl (if neg then !inT x ts else inT x ts)) S
    | false => .no
  | y => match lstAt S y, dat x with
    | some ts, some d => match datL ts with
      | some ds => if SeqAt.shaped d = true ∧ SeqAt.shaped (.list ds) = true then .ok (.bl (if neg then !(ds.any fun z => PyData.eqv z d) else ds.any fun z => PyData.eqv z d)) S else .no
      | none => .no
    | _, _ => .no
def rInAll (K : PySem.W.Frag) : R2 := fun x y H Q => (∃ i j, x = .str i ∧ y = .str j ∧ Q (.bl (!(Builtin.Str.occurrences j i 0 j.length 1).isEmpty)) H) ∨ (rIn K false x y H Q ∨ rInD K x y H Q)
def rNinAll (K : PySem.W.Frag) : R2 := fun x y H Q => (∃ i j, x = .str i ∧ y = .str j ∧ Q (.bl (!(!(Builtin.Str.occurrences j i 0 j.length 1).isEmpty))) H) ∨ (rIn K true x y H Q ∨ rNotInD K x y H Q)
theorem op_inAll (hu : X.A.units + 65 < cLine) : OpR X (compareOp .In) (rInAll X.K) := op_in_str.or (op_in_seq.or (op_inD hu))
theorem op_ninAll (hu : X.A.units + 65 < cLine) : OpR X (compareOp .NotIn) (rNinAll X.K) := op_notIn_str.or (op_notIn_seq.or (op_notInD hu))
theorem flatT_ok {K : PySem.W.Frag} {mg : Str → Option Value} {p : Pl} {H : Hp} {t : T} {v : V} (e : flatT t = true) (r : Rep K mg p H t v) : flatV v = true := by
  cases t with
  | non => rw [show v = V.non from r]; rfl
  | bl _ => rw [show v = V.bl _ from r]; rfl
  | int _ => rw [show v = V.int _ from r]; rfl
  | str _ => rw [show v = V.str _ from r]; rfl
  | _ => cases e
theorem eqF_ok {K : PySem.W.Frag} {mg : Str → Option Value} {p : Pl} {H : Hp} {t u : T} {v w : V} (e : flatT t = true) (e2 : flatT u = true) (r : Rep K mg p H t v) (r2 : Rep K mg p H u w) : eqV v w = eqF t u := by
  cases t with
  | non => rw [show v = V.non from r]; cases u with
    | non => rw [show w = V.non from r2]; rfl
    | bl _ => rw [show w = V.bl _ from r2]; rfl
    | int _ => rw [show w = V.int _ from r2]; rfl
    | str _ => rw [show w = V.str _ from r2]; rfl
    | _ => cases e2
  | bl _ => rw [show v = V.bl _ from r]; cases u with
    | non => rw [show w = V.non from r2]; rfl
    | bl _ => rw [show w = V.bl _ from r2]; rfl
    | int _ => rw [show w = V.int _ from r2]; rfl
    | str _ => rw [show w = V.str _ from r2]; rfl
    | _ => cases e2
  | int _ => rw [show v = V.int _ from r]; cases u with
    | non => rw [show w = V.non from r2]; rfl
    | bl _ => rw [show w = V.bl _ from r2]; rfl
    | int _ => rw [show w = V.int _ from r2]; rfl
    | str _ => rw [show w = V.str _ from r2]; rfl
    | _ => cases e2
  | str _ => rw [show v = V.str _ from r]; cases u with
    | non => rw [show w = V.non from r2]; rfl
    | bl _ => rw [show w = V.bl _ from r2]; rfl
    | int _ => rw [show w = V.int _ from r2]; rfl
    | str _ => rw [show w = V.str _ from r2]; rfl
    | _ => cases e2
  | _ => cases e
theorem inT_ok {K : PySem.W.Frag} {mg : Str → Option Value} {p : Pl} {H : Hp} {t : T} {v : V} (e : flatT t = true) (r : Rep K mg p H t v) : ∀ {ts : List T} {vs : List V}, ts.all flatT = true → RepL K mg p H ts vs → vs.all flatV = true ∧ inV v vs = inT t ts
  | [], _, _, h => by cases h; exact ⟨rfl, rfl⟩
  | u :: ts, _, e2, h => by
    obtain ⟨w, r', rfl, h1, h2⟩ := h
    rw [List.all_cons, Bool.and_eq_true] at e2
    obtain ⟨i1, i2⟩ := inT_ok e r e2.2 h2
    refine ⟨by rw [List.all_cons, flatT_ok e2.1 h1, i1]; rfl, ?_⟩
    unfold inV inT at *
    rw [List.any_cons, List.any_cons, i2, eqF_ok e2.1 e h1 r]
theorem inG_ok {K : PySem.W.Frag} {mg : Str → Option Value} : OpG K mg (rInAll K) (inG false) := fun W p H S x y vx vy Q R rx ry o => by
  have lists : ∀ y vy, Rep K mg p H y vy → PO K mg W p H (match lstAt S y, dat x with
    | some ts, some d => match datL ts with
      | some ds => if SeqAt.shaped d = true ∧ SeqAt.shaped (.list ds) = true then .ok (.bl (if false = true then !(ds.any fun z => PyData.eqv z d) else ds.any fun z => PyData.eqv z d)) S else .no
      | none => .no
    | _, _ => .no) (RV K mg Q) → rInAll K vx vy H Q := fun y vy ry o => by
    split at o
    · rename_i ts d e1 e2
      split at o
      · rename_i ds e3
        split at o
        · rename_i hz
          obtain ⟨a, vs, rfl, h1, r1⟩ := lst_at R e1 ry
          exact .inr (.inr ⟨d, ds, dat_dp e2 rx, .lst (SqL.of h1) (dat_dpL e3 r1), hz.1, hz.2, o.now R _ rfl⟩)
        · exact o.elim
      · exact o.elim
    · exact o.elim
  cases y with
  | str b =>
    cases x with
    | str a => exact .inl ⟨a, b, rx, ry, o.now R _ rfl⟩
    | _ => exact o.elim
  | tup ts =>
    obtain ⟨a, vs, rfl, h1, r1⟩ := ry
    simp only [inG] at o
    split at o
    · rename_i hz
      rw [Bool.and_eq_true] at hz
      obtain ⟨i1, i2⟩ := inT_ok hz.1 rx hz.2 r1
      exact .inr (.inl ⟨a, vs, rfl, .inr h1, flatT_ok hz.1 rx, i1, by rw [i2]; exact o.now R _ rfl⟩)
    · exact o.elim
  | _ => exact lists _ _ ry o
theorem ninG_ok {K : PySem.W.Frag} {mg : Str → Option Value} : OpG K mg (rNinAll K) (inG true) := fun W p H S x y vx vy Q R rx ry o => by
  have lists : ∀ y vy, Rep K mg p H y vy → PO K mg W p H (match lstAt S y, dat x with
    | some ts, some d => match datL ts with
      | some ds => if SeqAt.shaped d = true ∧ SeqAt.shaped (.list ds) = true then .ok (.bl (if true = true then !(ds.any fun z => PyData.eqv z d) else ds.any fun z => PyData.eqv z d)) S else .no
      | none => .no
    | _, _ => .no) (RV K mg Q) → rNinAll K vx vy H Q := fun y vy ry o => by
    split at o
    · rename_i ts d e1 e2
      split at o
      · rename_i ds e3
        split at o
        · rename_i hz
          obtain ⟨a, vs, rfl, h1, r1⟩ := lst_at R e1 ry
          exact .inr (.inr ⟨d, ds, dat_dp e2 rx, .lst (SqL.of h1) (dat_dpL e3 r1), hz.1, hz.2, o.now R _ rfl⟩)
        · exact o.elim
      · exact o.elim
    · exact o.elim
  cases y with
  | str b =>
    cases x with
    | str a => exact .inl ⟨a, b, rx, ry, o.now R _ rfl⟩
    | _ => exact o.elim
  | tup ts =>
    obtain ⟨a, vs, rfl, h1, r1⟩ := ry
    simp only [inG] at o
    split at o
    · rename_i hz
      rw [Bool.and_eq_true] at hz
      obtain ⟨i1, i2⟩ := inT_ok hz.1 rx hz.2 r1
      exact .inr (.inl ⟨a, vs, rfl, .inr h1, flatT_ok hz.1 rx, i1, by rw [i2]; exact o.now R _ rfl⟩)
    · exact o.elim
  | _ => exact lists _ _ ry o
variable {a b : Expr} {fa fb : Ro → Sto → Out T}
theorem room65 {k : Nat} {A : Around} (r : Room k A) : A.units + 65 < cLine := by have := r.un; omega
theorem d_in (hu : X.A.units + 65 < cLine) (ha : DE X W a fa) (hb : DE X W b fb) (hm : behindInMarks .In b = false := by with_unfolding_all rfl) : DE X W (.Compare a [.In] [b] pos) (bF (inG false) fa fb) := d_cmp (op_inAll hu) inG_ok ha hb hm
theorem d_nin (hu : X.A.units + 65 < cLine) (ha : DE X W a fa) (hb : DE X W b fb) (hm : behindInMarks .NotIn b = false := by with_unfolding_all rfl) : DE X W (.Compare a [.NotIn] [b] pos) (bF (inG true) fa fb) := d_cmp (op_ninAll hu) ninG_ok ha hb hm
theorem t_in (hu : X.A.units + 65 < cLine) (ha : DE X W a fa) (hb : DE X W b fb) (hm : behindInMarks .In b = false := by with_unfolding_all rfl) : DT X W (.Compare a [.In] [b] pos) (fun ρ S => asB (bF (inG false) fa fb ρ S)) := d_cmpT (op_inAll hu) inG_ok ha hb hm
theorem t_nin (hu : X.A.units + 65 < cLine) (ha : DE X W a fa) (hb : DE X W b fb) (hm : behindInMarks .NotIn b = false := by with_unfolding_all rfl) : DT X W (.Compare a [.NotIn] [b] pos) (fun ρ S => asB (bF (inG true) fa fb ρ S)) := d_cmpT (op_ninAll hu) ninG_ok ha hb hm
end
end Mi


set_option Elab.async false
set_option linter.all false
set_option maxRecDepth 100000
namespace Mi
open PySem PySem.Spec PyProof.Rows L2
/-! ### own error classes -/
/-- what an __init__ does that lays its arguments into the fields ks -/
def spInit (K : PySem.W.Frag) (ks : List Str) : Sp := fun vs H Q _ => ∃ (a C : Addr) (ws : List V), vs = .ref a :: ws ∧ ws.length = ks.length ∧ OexC K C ∧ (∀ f ∈ ks, PySem.W.findIn K (.ref C) f = some none) ∧ H a = some (exo a C none) ∧
  ∀ (dx : Addr) (H2 : Hp), H dx = none → dx ≠ a → H2 a = some (exo a C (some dx)) → H2 dx = some (exd dx (ks.zip ws).reverse) → (∀ b, b ≠ a → b ≠ dx → H2 b = H b) → Q .non H2
section
variable {P : Program} {w : World} {K : PySem.W.Frag} {mg : Str → Option Value} {base : Heap}
theorem exo_ne {a C dx : Addr} {H : Hp} {o : HO} (h : H dx = none) (e : H a = some o) : dx ≠ a := fun z => by rw [z, e] at h; cases h
theorem init1 {x qual f y : Str} {st : Stmt} {fI : Addr} {fd : FuncData} {k : Nat} {p1 p2 p3 p4 : Pos} (F : Fun K x qual st fI fd) (S : FnScope ["self", y] ["self", y] (defScope st))
    (hb : defBody st = [.Assign [.Attribute (.Name "self" p1) f p2] (.Name y p3) p4])
    (v1 : (defScope st).names.lookup ("self" : Str) = some .local := by rfl) (v2 : (defScope st).names.lookup y = some .local := by rfl) (d1 : (y == ("__debug__" : Str)) = false := by decide) (d2 : (y == ("__classdict__" : Str)) = false := by decide) : FnOk P w K mg base (L2.CX P w) (k + 1) fI fd ["self", y] (spInit K [f]) := by
  refine F.okX S (fun vs H Q E h => ?_) fun cdv A outer s H vs Q E hr h => ?_
  · obtain ⟨a, C, ws, e, hl, _⟩ := h
    rw [e, List.length_cons, hl]; rfl
  · obtain ⟨a, C, ws, e, hl, T, hf, ha, hq⟩ := h
    match ws, hl with
    | [u], _ =>
      subst e
      rw [hb]
      refine ⟨_, pss_one (ps_ost (pe_var (i := 0) rfl (.inl v1)) (pe_var (i := 1) rfl (.inl v2) d1 d2)), ?_⟩
      refine ⟨u, rfl, .ref a, rfl, a, C, rfl, T, hf f (by simp), .inl ⟨ha, fun dx h1 h2 => ?_⟩⟩
      refine hq dx _ h1 h2 upd_same ?_ fun b n1 n2 => by rw [upd_ne n1, upd_ne n2]
      rw [upd_ne h2, upd_same]
      rfl
theorem init2 {x qual f g y z : Str} {st : Stmt} {fI : Addr} {fd : FuncData} {k : Nat} {p1 p2 p3 p4 q1 q2 q3 q4 : Pos} (F : Fun K x qual st fI fd) (S : FnScope ["self", y, z] ["self", y, z] (defScope st))
    (hb : defBody st = [.Assign [.Attribute (.Name "self" p1) f p2] (.Name y p3) p4, .Assign [.Attribute (.Name "self" q1) g q2] (.Name z q3) q4])
    (v1 : (defScope st).names.lookup ("self" : Str) = some .local := by rfl) (v2 : (defScope st).names.lookup y = some .local := by rfl) (v3 : (defScope st).names.lookup z = some .local := by rfl)
    (d1 : (y == ("__debug__" : Str)) = false := by decide) (d2 : (y == ("__classdict__" : Str)) = false := by decide) (d3 : (z == ("__debug__" : Str)) = false := by decide) (d4 : (z == ("__classdict__" : Str)) = false := by decide) :
    FnOk P w K mg base (L2.CX P w) (k + 1) fI fd ["self", y, z] (spInit K [f, g]) := by
  refine F.okX S (fun vs H Q E h => ?_) fun cdv A outer s H vs Q E hr h => ?_
  · obtain ⟨a, C, ws, e, hl, _⟩ := h
    rw [e, List.length_cons, hl]; rfl
  · obtain ⟨a, C, ws, e, hl, T, hf, ha, hq⟩ := h
    match ws, hl with
    | [u, v], _ =>
      subst e
      rw [hb]
      refine ⟨_, pss_cons (ps_ost (pe_var (i := 0) rfl (.inl v1)) (pe_var (i := 1) rfl (.inl v2) d1 d2)) (pss_one (ps_ost (pe_var (i := 0) rfl (.inl v1)) (pe_var (i := 2) rfl (.inl v3) d3 d4))), ?_⟩
      refine ⟨u, rfl, .ref a, rfl, a, C, rfl, T, hf f (by simp), .inl ⟨ha, fun dx h1 h2 => ?_⟩⟩
      refine ⟨v, rfl, .ref a, rfl, a, C, rfl, T, hf g (by simp), .inr ⟨dx, [(f, u)], upd_same, by rw [upd_ne h2, upd_same], by simp, ?_⟩⟩
      refine hq dx _ h1 h2 ?_ upd_same fun b n1 n2 => by rw [upd_ne n2, upd_ne n1, upd_ne n2]
      rw [upd_ne (Ne.symm h2), upd_same]
end
/-- the class x with the fields ks: what the head says -/
structure ErrC (P : Program) (w : World) (K : PySem.W.Frag) (mg : Str → Option Value) (base : Heap) (x : Str) (ks : List Str) : Prop where
  ex : ∃ (C fI : Addr) (fd : FuncData) (ps : List Str), mg x = some (.ref C) ∧ OexC K C ∧ PySem.W.findIn K (.ref C) "__init__" = some (some (.ref fI)) ∧ PySem.W.typeIn K (.ref fI) = some (.type "function") ∧
    FnOk P w K mg base (L2.CX P w) 1 fI fd ps (spInit K ks) ∧ Binds K fd ps [] ∧ (∀ f ∈ ks, PySem.W.findIn K (.ref C) f = some none) ∧ ks.length ≤ 900
theorem RepF.of {K : PySem.W.Frag} {mg : Str → Option Value} {p : Pl} {H : Hp} : ∀ {ks : List Str} {ts : List T} {vs : List V}, RepL K mg p H ts vs → RepF K mg p H (ks.zip ts) (ks.zip vs)
  | [], _, _, _ => rfl
  | k :: ks, [], _, h => by cases h; rfl
  | k :: ks, t :: ts, _, h => by
    obtain ⟨v, r, rfl, h1, h2⟩ := h
    exact ⟨v, _, rfl, h1, RepF.of h2⟩
theorem RepF.stp {K : PySem.W.Frag} {mg : Str → Option Value} {p q : Pl} {H H1 : Hp} (a : Stp p H q H1) : ∀ {t : List (Str × T)} {v : List (Str × V)}, RepF K mg p H t v → RepF K mg q H1 t v
  | [], _, h => h
  | (k, t) :: ts, _, h => by
    obtain ⟨v, r, e, h1, h2⟩ := h
    exact ⟨v, r, e, Rep.stp a h1, RepF.stp a h2⟩
theorem RepF.app {K : PySem.W.Frag} {mg : Str → Option Value} {p : Pl} {H : Hp} : ∀ {ts us : List (Str × T)} {vs ws : List (Str × V)}, RepF K mg p H ts vs → RepF K mg p H us ws → RepF K mg p H (ts ++ us) (vs ++ ws)
  | [], _, _, _, h, k => by cases h; exact k
  | (x, t) :: ts, _, _, _, h, k => by
    obtain ⟨v, r, rfl, h1, h2⟩ := h
    exact ⟨v, _, rfl, h1, RepF.app h2 k⟩
theorem RepF.rev {K : PySem.W.Frag} {mg : Str → Option Value} {p : Pl} {H : Hp} : ∀ {ts : List (Str × T)} {vs : List (Str × V)}, RepF K mg p H ts vs → RepF K mg p H ts.reverse vs.reverse
  | [], _, h => by cases h; rfl
  | (x, t) :: ts, _, h => by
    obtain ⟨v, r, rfl, h1, h2⟩ := h
    rw [List.reverse_cons, List.reverse_cons]
    exact RepF.app (RepF.rev h2) ⟨v, [], rfl, h1, rfl⟩
theorem RepF.get {K : PySem.W.Frag} {mg : Str → Option Value} {p : Pl} {H : Hp} {f : Str} {t : T} : ∀ {ts : List (Str × T)} {vs : List (Str × V)}, RepF K mg p H ts vs → ts.lookup f = some t → ∃ v, vs.lookup f = some v ∧ Rep K mg p H t v
  | [], _, _, e => by cases e
  | (x, u) :: ts, _, h, e => by
    obtain ⟨v, r, rfl, h1, h2⟩ := h
    rw [List.lookup] at e ⊢
    cases q : f == x with
    | true => rw [q] at e; simp only at e ⊢; cases e; exact ⟨v, rfl, h1⟩
    | false => rw [q] at e; simp only at e ⊢; exact RepF.get h2 e
def raF (x : Str) (ks : List Str) (fs : Ro → Sto → Out (List T)) : Ro → Sto → Out Fl := fun ρ S => (fs ρ S).bind fun ts S1 => match decide (ts.length = ks.length) with
  | true => .exc x (ks.zip ts).reverse S1
  | false => .no
section
variable {X : Cx} {W : XW} {e : Expr} {es : List Expr} {fs : Ro → Sto → Out (List T)} {x : Str} {ks : List Str} {p p2 pos : Pos} {k : Nat}
theorem made_eq {H1 H2 : Hp} {a dx : Addr} {o u : HO} (n : H1 a = none) (hd : dx ≠ a) (h : ∀ b, b ≠ a → b ≠ dx → H2 b = L2.upd H1 a o b) : L2.upd (del H2 a) dx u = L2.upd H1 dx u := by
  funext b
  by_cases h1 : b = dx
  · rw [h1, upd_same, upd_same]
  · rw [upd_ne h1, upd_ne h1]
    by_cases h2 : b = a
    · rw [h2, del_same, n]
    · rw [del_ne h2, h b h2 h1, upd_ne h2]
/-- raise x(e, ..) -/
theorem s_raise (T : ErrC X.prog X.w X.K X.mg X.base x ks) (hr : RoomG 2 X.A) (hc : X.calm = true) (htk : Takes X fun c d _ H => W.x c d H) (ha : DA X W (e :: es) fs) (hg : Gl X x := by rfl) (hdb : (x == ("__debug__" : Str)) = false := by decide)
    (he : starEach (e :: es) X.env = (false, eval e X.env) :: starEach es X.env := by rfl) (hpl : (backTo p2 (starEach es X.env)).any (·.1) = false := by rfl) : DS X W (.Raise (some (.Call (.Name x p) (e :: es) [] p2)) none pos) (raF x ks fs) := by
  obtain ⟨C, fI, fd, ps, hm, O, iC, tI, F1, hb, hf, hl⟩ := T.ex
  refine PS.imp (ps_raise hc htk (pmk_oex O iC tI F1 hr.room hb (.nil : Vals [] []) passL hg hm ha hdb he hpl)) fun D σ H h => ?_
  refine At.bind (f := fs) (g := fun _ ts S1 => match decide (ts.length = ks.length) with | true => (Out.exc x (ks.zip ts).reverse S1 : Out Fl) | false => .no) h fun ρ ts S q H1 rs re o vs rv => ?_
  by_cases hn : ts.length = ks.length
  · simp only [hn, decide_true] at o
    refine ⟨by rw [rv.length, hn]; omega, fun a na => ?_⟩
    rw [List.append_nil]
    refine ⟨a, C, vs, rfl, by rw [rv.length, hn], O, hf, upd_same, fun dx H2 h1 h2 h3 h4 h5 => ⟨rfl, dx, (ks.zip vs).reverse, h3, h4, ?_, ?_⟩⟩
    · rw [upd_ne h2] at h1; exact h1
    · rw [upd_ne h2] at h1
      rw [made_eq na h2 h5]
      have st : Stp q H1 q (L2.upd H1 dx (.xd (ks.zip vs).reverse)) := Stp.upd h1
      exact o q _ C dx _ st (rs.upd h1) hm upd_same (rs.new h1).1 (rs.new h1).2 ((RepF.of rv).rev.stp st)
  · simp only [hn, decide_false] at o
    exact o.elim
end
end Mi


set_option Elab.async false
set_option linter.all false
set_option maxRecDepth 100000
set_option maxHeartbeats 1000000
namespace PySem.W
open PySem PySem.Spec PySem.Calls PyProof.Rows
section
variable {M : Model} {K : Frag}
theorem mi_tup1 {c1 cls : Value} {tp e : Addr} {b : Bool} {h : Heap} (X : K.In h) (LT : Looks M h (typeOf (.ref e)) cls) (hp : h.get? tp = some { cls := .type "tuple", data := .seq [c1].toArray }) (hx : exmOne K cls c1 = some b) :
    Looks M h (excMatches (.ref e) (.ref tp)) b := by
  intro A Q E s k₀ q
  obtain ⟨hh, g, d, tk, os⟩ := s
  have k : ∀ b o, h.get? b = some o → hh.get? b = some o := k₀
  have LT0 : Looks M h (isInstance (.ref tp) (.type "tuple")) true := ((Looks.ld hp).andThen .now).andThen (Looks.of_pure isSubtype_tuple_tuple)
  obtain ⟨e1, S1⟩ := exm_cls (M := M) X hx
  have e1 := e1.keeps k
  have S1 := S1.keeps k
  have LT := LT.keeps k
  have LT0 := LT0.keeps k
  have hp' := k _ _ hp
  unfold excMatches
  refine wpAny_bind (LT0.at ?_)
  dsimp only
  rw [if_pos rfl]
  first
    | refine wpAny_bind (wpAny_seqItems hp' rfl ?_)
    | refine wpAny_bind (wpAny_bind (wpAny_seqItems hp' rfl (wpAny_pure ?_)))
  dsimp only [Option.getD_some, Option.getD]
  cases b <;> ((repeat (first | simp only [List.forIn_cons, List.forIn_nil, Bool.not_true, Bool.false_eq_true, if_false, if_true] | lk)); exact q)
end
end PySem.W
namespace Mi
open PySem PySem.Spec PyProof.Rows L2
/-! ### try: several clauses, each a class or a tuple of one class, with or without a name -/
/-- the expression of a clause -/
inductive TyE (x : Str) : Expr → Prop
  | name {np : Pos} : TyE x (.Name x np)
  | tup {np tp : Pos} {k : Nat} : TyE x (.Tuple [.Name x np] k tp)
abbrev Sui := Addr → Value → Option Addr → TS
def nmGone : Option (Str × Nat) → Ends → Ends
  | none, D => D
  | some (_, i), D => { nx := fun σ' H' => D.nx (σ'.set i none) H', rt := D.rt, bk := fun σ' H' => D.bk (σ'.set i none) H', ct := fun σ' H' => D.ct (σ'.set i none) H' }
def nmSet : Option (Str × Nat) → Addr → L2.St → L2.St
  | none, _, σ => σ
  | some (_, i), a, σ => σ.set i (some (.ref a))
def wM (K : PySem.W.Frag) (n : Nat) (Wout : WX) (D : Ends) : List (Value × Option (Str × Nat) × Sui) → WX
  | [] => Wout
  | (c, nm, ts) :: r => fun cls d σ H => ∃ b, PySem.W.exmOne K cls c = some b ∧ (b = true → σ.length = n → ∀ a, H a = none → ts a cls d (nmGone nm D) (nmSet nm a σ) H) ∧ (b = false → wM K n Wout D r cls d σ H)
def NmOk (X : Cx) : Option (Str × Nat) → Prop
  | none => True
  | some (n, i) => X.N[i]? = some n ∧ X.env.kindOf n = some .local
inductive HdM (X : Cx) : List ExceptHandler → List (Value × Option (Str × Nat) × Sui) → Prop
  | nil : HdM X [] []
  | cons {x : Str} {te : Expr} {c : Value} {nm : Option (Str × Nat)} {ts : Sui} {b₀ : Stmt} {suite : List Stmt} {pos' : Pos} {hds : List ExceptHandler} {l : List (Value × Option (Str × Nat) × Sui)} (ht : TyE x te) (hc : Names X x c) (hn : NmOk X nm)
      (hsu : ∀ (a : Addr) (oe : Obj) (cls : Value) (d : Option Addr) (pn : List (Addr × Obj)), Zc cls d oe → (∃ vs, oe.data = .fields vs) → PSs (X.suite a ((a, oe) :: pn)) (b₀ :: suite) (ts a cls d)) (r : HdM X hds l) :
      HdM X (.ExceptHandler (some te) (nm.map (·.1)) (b₀ :: suite) pos' :: hds) ((c, nm, ts) :: l)
theorem fly_push {B h : Heap} {l : List Env} {a : Addr} {Z : Obj → Prop} {o : Obj} (x : HandSPX.FlyingZ B l a Z h) : HandSPX.FlyingZ B l a Z (h.push o) := by
  obtain ⟨k1, k2, k3, oe, vs, T, oT, ts, e1, e2, e3, e4, e5, e6, e7, e8, e9⟩ := x
  exact ⟨fun b u e => Heap.get?_push_of_some _ (k1 b u e), k2, k3.of_keeps fun b u e _ => ⟨u, Heap.get?_push_of_some _ e, rfl⟩, oe, vs, T, oT, ts, Heap.get?_push_of_some _ e1, e2, e3, e4, e5, e6, Heap.get?_push_of_some _ e7, e8, e9⟩
theorem up_push {h : Heap} {o : Obj} : h.UpToSlots (h.push o) := fun b u e _ => ⟨u.slots, Heap.get?_push_of_some _ e⟩
section
variable {X : Cx} {body : List Stmt} {h₀ : ExceptHandler} {hds : List ExceptHandler} {l : List (Value × Option (Str × Nat) × Sui)} {pos : Pos} {tb : WX → TS} {Wout : WX}
theorem ps_tryM (hs : X.stack = X.env :: X.outer) (hf : X.env.frame = some X.env.locals) (hN : X.N.Nodup) (tk : Takes X Wout)
    (hb : ∀ (W : WX) (pn : List (Addr × Obj)) (xe : Value → Shared → Prop), Takes (X.tr pn xe) W → PassesOwn (model X.prog X.w) X.A X.env xe → PSs (X.tr pn xe) body (tb W))
    (hh : HdM X (h₀ :: hds) l) : PS X (.Try body (h₀ :: hds) [] [] pos) (fun D σ H => tb (wM X.K X.N.length Wout D l) D σ H) := by
  refine ⟨fun pins s σ H D I h => ?_⟩
  have ok := I.ok
  have hfr : X.A.frames = some (X.env :: X.outer) := by rw [ok.frames, hs]
  refine wpAny_Try_except ?_
  refine wpAny_mono ((hb (wM X.K X.N.length Wout D l) (X.pn ++ pins) (fun e s₁ => wpAny (model X.prog X.w) X.A (noteFrame e X.env) (fun _ s₂ => wpAny (model X.prog X.w) X.A (setFlight e none) (fun _ s₃ =>
    wpAny (model X.prog X.w) X.A (handleBy e X.env (h₀ :: hds)) (SP X pins D) X.xe s₃) X.xe s₂) X.xe s₁) (fun u s' xx => ?_) PassesOwn.looking).run [] s σ H D (I.toTry _) h) (fun f s1 hsp => ?_) (fun e s1 he => he)
  · -- the catch
    obtain ⟨a, B, sI, pins', σ', H', cls, d, rfl, J', nb, up, sky, na, os, ag, w⟩ := xx
    have J : Inv X pins σ' H' sI := J'.ofTry ok
    have sky' : Sky B (X.env :: X.outer) a (Zc cls d) X.env.locals s'.heap := by rw [← hs]; exact sky
    show wpAny (model X.prog X.w) X.A (noteFrame (.ref a) X.env) _ _ _
    refine Sky.land Zc.steady hfr hf sky' fun h3 fl3 up3 => ?_
    have notFr : ∀ {h : Heap} {o : Obj} {vs : Array Value}, h.FunFrames B (X.env :: X.outer) → h.get? a = some o → o.data = .fields vs → a ∉ frs (X.env :: X.outer) := fun {h o vs} ff e dd hm => by
      obtain ⟨_, o', e', hnf⟩ := ff.mem hm
      rw [e] at e'; cases e'
      exact hnf _ dd
    obtain ⟨oe0, vs0, he0, hz0, hd0⟩ := fl3.there
    have nfr := notFr fl3.2.2.1 he0 hd0
    have nL : a ≠ X.env.locals := fun z => nfr (List.mem_filterMap.mpr ⟨X.env, List.mem_cons_self, by rw [hf, z]⟩)
    have nF : a ∉ X.fs := fun hm => by
      obtain ⟨e, he, q⟩ := List.mem_filterMap.mp hm
      exact nfr (List.mem_filterMap.mpr ⟨e, List.mem_cons_of_mem _ he, q⟩)
    have go : ∀ {hds' : List ExceptHandler} {l' : List (Value × Option (Str × Nat) × Sui)}, HdM X hds' l' → wM X.K X.N.length Wout D l' cls d σ' H' → ∀ (h3 : Heap), HandSPX.FlyingZ B (X.env :: X.outer) a (Zc cls d) h3 → s'.heap.UpToSlots h3 →
        wpAny (model X.prog X.w) X.A (handleBy (.ref a) X.env hds') (SP X pins D) X.xe { s' with heap := h3 } := by
      intro hds' l' hk
      induction hk with
      | nil =>
        intro w h3 fl3 up3
        refine wpAny_handleBy_nil ?_
        obtain ⟨k1, k2, k3, oe, vs, T, oT, ts', he, hz, hd, h1, hr⟩ := id fl3
        unfold PySem.passOn
        refine wpAny_bind (wpAny_field he hd h1 ?_)
        rw [if_neg (show ¬ ((Value.ref T == Value.none) = true) from by simp)]
        have fin : wpAny (model X.prog X.w) X.A (setFlight (.ref a) X.env.frame) (fun _ s4 => wpAny (model X.prog X.w) X.A (throw (.ref a) : Sem Flow) (SP X pins D) X.xe s4) X.xe { s' with heap := h3 } := by
          rw [hf]
          refine HandSPX.setFlight_upZ fl3 fun h4 hh4 up4 => wpAny_throw (tk _ _ ?_)
          exact ⟨a, B, sI, pins, σ', H', cls, d, rfl, J, nb, (up.trans up3).trans up4, .inr (.inr (by rw [hs]; exact hh4)), na, os, ag, w⟩
        first
          | exact wpAny_bind (wpAny_pure (wpAny_bind fin))
          | exact wpAny_bind fin
      | @cons x te c nm ts b₀ suite pos' hds2 l2 htE hc hn hsu r ih =>
        intro w h3 fl3 up3
        obtain ⟨b, hb1, hyes, hno⟩ := w
        have J3 : Inv X pins σ' H' { s' with heap := h3 } := J.landed nb fl3.1 (up.trans up3) os ag
        obtain ⟨oe3, vs3, he3, hz3, hd3⟩ := fl3.there
        have S3 := J3.suite he3 hd3 na nL nF
        refine wpAny_handleBy_cons (codeAny_handlers_test ?_) (by intro q; cases q)
        have test0 : ∀ {np : Pos} {Q : Value → Shared → Prop} {E : Value → Shared → Prop}, Q c { s' with heap := h3 } → wpAny (model X.prog X.w) (X.A.mark (some (.ref a))) (eval (.Name x np) X.env) Q E { s' with heap := h3 } := fun {np Q E} q => by
          obtain ⟨hg, hdbg, hm | ⟨hm, hv, hnn⟩⟩ := hc
          · exact ld_glob (X := X.suite a ((a, oe3) :: (X.pn ++ pins))) S3 hg hm q hdbg
          · exact ld_blt (X := X.suite a ((a, oe3) :: (X.pn ++ pins))) S3 hg hm hv q hnn hdbg
        have suiteT : b = true → ∀ (h5 : Heap), HandSPX.FlyingZ B (X.env :: X.outer) a (Zc cls d) h5 → s'.heap.UpToSlots h5 →
            codeAny (model X.prog X.w) (X.A.mark (some (Value.ref a))) (Code.handlers (Value.ref a) [ExceptHandler.ExceptHandler none (Option.map (fun x => x.fst) nm) (b₀ :: suite) pos'] X.env)
              (fun r s₂ => match r with
                | Except.ok f => (match Option.map (fun x => x.fst) nm with
                  | none => SP X pins D f s₂
                  | some n => wpAny (model X.prog X.w) X.A (do bindName X.env n Value.none; unbindBehindTheSuite X.env n pos') (fun _ s₃ => SP X pins D f s₃) X.xe s₂)
                | Except.error x => cameBackBy (model X.prog X.w) X.A X.env X.xe x s₂)
              { heap := h5, gens := s'.gens, drawn := s'.drawn, toks := s'.toks, os := s'.os } := by
          intro hbt h5 fl5 up5
          cases nm with
          | none =>
            refine codeAny_handlers_suite ?_
            refine HandSPX.lands_againZ fl5 fun h4 fl4 up4 => ?_
            have J4 : Inv X pins σ' H' { s' with heap := h4 } := J.landed nb fl4.1 ((up.trans up5).trans up4) os ag
            obtain ⟨oe4, vs4, he4, hz4, hd4⟩ := fl4.there
            have S4 := J4.suite he4 hd4 na nL nF
            refine wpAny_mono ((hsu a oe4 cls d (X.pn ++ pins) hz4 ⟨_, hd4⟩).run [] _ _ H' _ S4 (hyes hbt J.len a na)) (fun f s6 hsp => ?_) (fun _ _ z => False.elim z)
            cases f with
            | next =>
              obtain ⟨σ6, H6, S6, q6⟩ := hsp
              exact ⟨_, _, S6.unsuite ok, q6⟩
            | brk =>
              obtain ⟨σ6, H6, S6, q6⟩ := hsp
              exact ⟨_, _, S6.unsuite ok, q6⟩
            | cont =>
              obtain ⟨σ6, H6, S6, q6⟩ := hsp
              exact ⟨_, _, S6.unsuite ok, q6⟩
            | ret u =>
              obtain ⟨v6, σ6, H6, S6, r6, q6⟩ := hsp
              exact ⟨_, _, _, S6.unsuite ok, r6, q6⟩
          | some nm =>
            obtain ⟨n, i⟩ := nm
            obtain ⟨hi, hln⟩ := hn
            have hloc : Loc X.env.scope n := .inl hln
            refine codeAny_handlers_suite_as ?_
            refine HandSPX.lands_againZ fl5 fun h4 fl4 up4 => ?_
            have J4 : Inv X pins σ' H' { s' with heap := h4 } := J.landed nb fl4.1 ((up.trans up5).trans up4) os ag
            obtain ⟨oe4, vs4, he4, hz4, hd4⟩ := fl4.there
            have S4 := J4.suite he4 hd4 na nL nF
            refine store_ok (X := X.suite a ((a, oe4) :: (X.pn ++ pins))) (v := .ref a) S4 hN hi hloc rfl (fun s5 S5 => ?_) (.inr hln)
            refine wpAny_mono ((hsu a oe4 cls d (X.pn ++ pins) hz4 ⟨_, hd4⟩).run [] s5 _ H' _ S5 (hyes hbt J.len a na)) (fun f s6 hsp => ?_) (fun _ _ z => False.elim z)
            have end_ : ∀ {σ6 : L2.St} {H6 : Hp} {Q : Shared → Prop}, Inv (X.suite a ((a, oe4) :: (X.pn ++ pins))) [] σ6 H6 s6 → (∀ s7, Inv X pins (σ6.set i none) H6 s7 → Q s7) →
                wpAny (model X.prog X.w) X.A (do bindName X.env n .none; unbindBehindTheSuite X.env n pos') (fun _ s7 => Q s7) X.xe s6 := fun {σ6 H6 Q} S6 hq => gone_ok (S6.unsuite ok) hN hi hln hq
            cases f with
            | next =>
              obtain ⟨σ6, H6, S6, q6⟩ := hsp
              exact end_ S6 fun s7 J7 => ⟨_, _, J7, q6⟩
            | brk =>
              obtain ⟨σ6, H6, S6, q6⟩ := hsp
              exact end_ S6 fun s7 J7 => ⟨_, _, J7, q6⟩
            | cont =>
              obtain ⟨σ6, H6, S6, q6⟩ := hsp
              exact end_ S6 fun s7 J7 => ⟨_, _, J7, q6⟩
            | ret u =>
              obtain ⟨v6, σ6, H6, S6, r6, q6⟩ := hsp
              exact end_ S6 fun s7 J7 => ⟨_, _, _, J7, r6, q6⟩
        cases htE with
        | name =>
          have LT : PySem.W.Looks (model X.prog X.w) h3 (typeOf (.ref a)) cls := fun A Q E s k q => wpAny_typeOf_ref (k _ _ he3) (by rw [hz3.1]; exact q)
          have LM := PySem.W.exm_one (M := model X.prog X.w) (J3.kIn) LT hb1
          refine test0 (LM.here ?_)
          cases b with
          | true => exact suiteT rfl h3 fl3 up3
          | false => exact ih (hno rfl) h3 fl3 up3
        | tup =>
          refine wpAny_Tuple (wpAny_items_cons (test0 (wpAny_items_nil ⟨by size_fits, ?_⟩)))
          have kp : ∀ b o, h3.get? b = some o → (h3.push { cls := .type "tuple", data := .seq [c].toArray }).get? b = some o := fun b o e => Heap.get?_push_of_some _ e
          have LT : PySem.W.Looks (model X.prog X.w) (h3.push { cls := .type "tuple", data := .seq [c].toArray }) (typeOf (.ref a)) cls := fun A Q E s k q => wpAny_typeOf_ref (k _ _ (kp _ _ he3)) (by rw [hz3.1]; exact q)
          have LM := PySem.W.mi_tup1 (M := model X.prog X.w) ((J3.kIn).keeps kp) LT (Heap.get?_push_size h3 rfl) hb1
          refine LM.here ?_
          cases b with
          | true => exact suiteT rfl _ (fly_push fl3) (up3.trans up_push)
          | false => exact ih (hno rfl) _ (fly_push fl3) (up3.trans up_push)
    exact go hh w h3 fl3 up3
  · cases f with
    | next =>
      obtain ⟨σ', H', J', q⟩ := hsp
      exact wpAny_execs_nil ⟨σ', H', J'.ofTry ok, q⟩
    | brk =>
      obtain ⟨σ', H', J', q⟩ := hsp
      exact ⟨σ', H', J'.ofTry ok, q⟩
    | cont =>
      obtain ⟨σ', H', J', q⟩ := hsp
      exact ⟨σ', H', J'.ofTry ok, q⟩
    | ret u =>
      obtain ⟨v, σ', H', J', r, q⟩ := hsp
      exact ⟨v, σ', H', J'.ofTry ok, r, q⟩
end
end Mi


set_option Elab.async false
set_option linter.all false
set_option maxRecDepth 100000
set_option maxHeartbeats 1000000
namespace Mi
open PySem PySem.Spec PyProof.Rows L2
/-! ### try, told -/
/-- fields that a class's errors have; whether one is a kind of the other -/
structure ErrT (K : PySem.W.Frag) (mg : Str → Option Value) (ct : Str → Option (List Str)) (sub : Str → Str → Option Bool) : Prop where
  xf : ∀ c ks C, ct c = some ks → mg c = some (.ref C) → XfC K C ∧ ∀ f ∈ ks, PySem.W.findIn K (.ref C) f = some none
  sub : ∀ c h C D b, sub c h = some b → mg c = some (.ref C) → mg h = some (.ref D) → PySem.W.exmOne K (.ref C) (.ref D) = some b
def errW (K : PySem.W.Frag) (mg : Str → Option Value) (dd : Addr) (fs : List (Str × T)) (i : Nat) (a : Addr) (tb : List (Addr × Str)) : XW :=
  ⟨fun _ _ _ => False, fun mu de H => dd ∉ mu ∧ ∃ fvs, H dd = some (.xd fvs) ∧ RepF K mg ⟨mu, de⟩ H fs fvs, some (i, a), tb⟩
def unmark (ρ : Ro) : Ro := ρ.map fun o => match o with
  | some .mark => none
  | o => o
def fixI (nm : Option Nat) (o : Out Fl) : Out Fl := match o with
  | .ok (.nx ρ) S => .ok (.nx (match nm with | some i => (unmark ρ).set i none | none => unmark ρ)) S
  | .ok (.bk ρ) S => .ok (.bk (match nm with | some i => (unmark ρ).set i none | none => unmark ρ)) S
  | .ok (.ct ρ) S => .ok (.ct (match nm with | some i => (unmark ρ).set i none | none => unmark ρ)) S
  | .ok (.rt t) S => .ok (.rt t) S
  | _ => .no
abbrev HdF := Str × Option Nat × (List (Str × T) → Ro → Sto → Out Fl)
def handF (ct : Str → Option (List Str)) (sub : Str → Str → Option Bool) (n : Nat) : List HdF → Str → List (Str × T) → Sto → Out Fl
  | [], c, fs, S => .exc c fs S
  | (h, nm, hf) :: r, c, fs, S => match sub c h with
    | some true => match ct c with
      | some ks => match fs.all (fun kv => ks.contains kv.1) with
        | true => fixI nm (hf fs (match nm with | some i => (List.replicate n none).set i (some .mark) | none => List.replicate n none) S)
        | false => .no
      | none => .no
    | some false => handF ct sub n r c fs S
    | none => .no
def tryF (ct : Str → Option (List Str)) (sub : Str → Str → Option Bool) (n : Nat) (fb : Ro → Sto → Out Fl) (hs : List HdF) : Ro → Sto → Out Fl := fun ρ S => match fb ρ S with
  | .exc c fs S1 => handF ct sub n hs c fs S1
  | o => o
def erF (i : Nat) (fs : List (Str × T)) (f : Str) : Ro → Sto → Out T := fun ρ S => match ρ[i]? with
  | some (some .mark) => (match fs.lookup f with | some t => .ok t S | none => .no)
  | _ => .no
theorem pe_false {X : Cx} {e : Expr} {t : TE} (h : ∀ σ H Q, ¬ t σ H Q) : PE X e t := ⟨fun _ _ σ H Q _ q => absurd q (h σ H Q)⟩
/-- e.f in a clause's suite -/
theorem d_err {X : Cx} {a dd C : Addr} {oe : Obj} {pn : List (Addr × Obj)} {fs : List (Str × T)} {i : Nat} {tb : List (Addr × Str)} {n f : Str} {p pos : Pos} (hz : Zc (.ref C) (some dd) oe) (hf : ∃ vs, oe.data = .fields vs) (hx : XfC X.K C) (hno : ∀ g t, fs.lookup g = some t → PySem.W.findIn X.K (.ref C) g = some none)
    (hN : X.N[i]? = some n := by rfl) (hv : Vis X.env.scope n := by first | exact Or.inl rfl | exact Or.inr (Or.inl rfl)) (hd : (n == ("__debug__" : Str)) = false := by decide) (hcd : (n == ("__classdict__" : Str)) = false := by decide)
    (hb : attributeBase (.Name n p) f X.env (eval (.Name n p) X.env) = eval (.Name n p) X.env := by rfl) :
    DE (X.suite a ((a, oe) :: pn)) (errW X.K X.mg dd fs i a tb) (.Attribute (.Name n p) f pos) (erF i fs f) := by
  cases e : fs.lookup f with
  | none =>
    refine pe_false fun σ H Q ⟨q, ρ, S, rs, re, o⟩ => ?_
    unfold erF at o
    split at o
    · rw [e] at o; exact o
    · exact o
  | some t =>
    refine PE.imp (pe_xf hx (hno f t e) hz hf (pe_var (X := X.suite a ((a, oe) :: pn)) (i := i) hN hv hd hcd) hb) fun σ H Q ⟨q, ρ, S, rs, re, o⟩ => ?_
    unfold erF at o
    split at o
    · rename_i hm
      rw [e] at o
      obtain ⟨nn, fvs, h1, h2⟩ := rs.pst q H .refl
      obtain ⟨v, e2, r2⟩ := h2.get e
      exact ⟨.ref a, re.hs i a rfl hm, rfl, rfl, dd, fvs, v, rfl, h1, e2, po_val t o rs r2⟩
    · exact o.elim
inductive HdD (X : Cx) (tb : List (Addr × Str)) : List ExceptHandler → List HdF → Prop
  | nil : HdD X tb [] []
  | as {x n : Str} {te : Expr} {i : Nat} {b₀ : Stmt} {suite : List Stmt} {pos' : Pos} {hds : List ExceptHandler} {l : List HdF} {hf : List (Str × T) → Ro → Sto → Out Fl} (ht : TyE x te) (hg : Gl X x) (hdb : (x == ("__debug__" : Str)) = false) (hC : ∃ C, X.mg x = some (.ref C)) (hi : X.N[i]? = some n) (hl : X.env.kindOf n = some .local)
      (hsu : ∀ (a dd C : Addr) (oe : Obj) (pn : List (Addr × Obj)) (fs : List (Str × T)), Zc (.ref C) (some dd) oe → (∃ vs, oe.data = .fields vs) → XfC X.K C → (∀ g t, fs.lookup g = some t → PySem.W.findIn X.K (.ref C) g = some none) →
        DSs (X.suite a ((a, oe) :: pn)) (errW X.K X.mg dd fs i a tb) (b₀ :: suite) (hf fs)) (r : HdD X tb hds l) : HdD X tb (.ExceptHandler (some te) (some n) (b₀ :: suite) pos' :: hds) ((x, some i, hf) :: l)
  | pl {x : Str} {te : Expr} {b₀ : Stmt} {suite : List Stmt} {pos' : Pos} {hds : List ExceptHandler} {l : List HdF} {hf : Ro → Sto → Out Fl} (ht : TyE x te) (hg : Gl X x) (hdb : (x == ("__debug__" : Str)) = false) (hC : ∃ C, X.mg x = some (.ref C))
      (hsu : ∀ (a : Addr) (oe : Obj) (pn : List (Addr × Obj)), DSs (X.suite a ((a, oe) :: pn)) (w0 tb) (b₀ :: suite) hf) (r : HdD X tb hds l) : HdD X tb (.ExceptHandler (some te) none (b₀ :: suite) pos' :: hds) ((x, none, fun _ => hf) :: l)
theorem unmark_get {ρ : Ro} {j : Nat} : (unmark ρ)[j]? ≠ some (some .mark) := by
  unfold unmark
  rw [List.getElem?_map]
  cases e : ρ[j]? with
  | none => exact fun z => nomatch z
  | some o =>
    cases o with
    | none => exact fun z => nomatch z
    | some t => cases t <;> exact fun z => (by first | cases z | simp at z)
theorem unmark_at {ρ : Ro} {j : Nat} {t : T} (h : (unmark ρ)[j]? = some (some t)) : ρ[j]? = some (some t) := by
  unfold unmark at h
  rw [List.getElem?_map] at h
  cases e : ρ[j]? with
  | none => rw [e] at h; cases h
  | some o =>
    rw [e] at h
    cases o with
    | none => cases h
    | some t => cases t <;> first | exact h | cases h
section
variable {K : PySem.W.Frag} {mg : Str → Option Value} {W W' : XW} {p : Pl} {H : Hp}
theorem RelE.unmark {σ : L2.St} {ρ : Ro} (h : RelE K mg W' p H σ ρ) : RelE K mg W p H σ (unmark ρ) :=
  ⟨by rw [h.len]; simp [Mi.unmark], fun i t e => h.at_ i t (unmark_at e), fun _ _ _ m => absurd m unmark_get⟩
theorem RelE.unmarkG {σ : L2.St} {ρ : Ro} (h : RelE K mg W' p H σ ρ) (i : Nat) : RelE K mg W p H (σ.set i none) ((Mi.unmark ρ).set i none) := by
  refine ⟨by simp [h.len, Mi.unmark], fun j t e => ?_, fun j _ _ m => ?_⟩
  · by_cases hj : i = j
    · subst hj
      by_cases hi : i < (Mi.unmark ρ).length
      · rw [List.getElem?_set_self hi] at e; cases e
      · rw [List.getElem?_eq_none (by simp; omega)] at e; cases e
    · rw [List.getElem?_set_ne hj] at e ⊢
      exact h.at_ j t (unmark_at e)
  · by_cases hj : i = j
    · subst hj
      by_cases hi : i < (Mi.unmark ρ).length
      · rw [List.getElem?_set_self hi] at m; cases m
      · rw [List.getElem?_eq_none (by simp; omega)] at m; cases m
    · rw [List.getElem?_set_ne hj] at m
      exact absurd m unmark_get
/-- a suite's end -/
theorem fix_po {n : Str} {i : Nat} {S0 : Sto} {D : Ends} {o : Out Fl} (R0 : RelS K mg W p H S0) (h : PO K mg W p H (fixI (some i) o) (RD K mg W D)) (htb : W'.tb = W.tb) : PO K mg W' p H o (RD K mg W' (nmGone (some (n, i)) D)) := by
  cases o with
  | no => exact h
  | exc _ _ _ => exact h.elim
  | ok fl S =>
    intro r H2 st2 rs2
    have rsW : RelS K mg W r H2 S := ⟨rs2.len, rs2.nd, rs2.ob, rs2.de, by rw [← htb]; exact rs2.tabs, R0.pstS st2⟩
    cases fl with
    | nx ρ => exact fun σ re => h r H2 st2 rsW _ (re.unmarkG i)
    | bk ρ => exact fun σ re => h r H2 st2 rsW _ (re.unmarkG i)
    | ct ρ => exact fun σ re => h r H2 st2 rsW _ (re.unmarkG i)
    | rt t => exact fun v rv => h r H2 st2 rsW v rv
theorem fix_po0 {S0 : Sto} {D : Ends} {o : Out Fl} (R0 : RelS K mg W p H S0) (h : PO K mg W p H (fixI none o) (RD K mg W D)) (htb : W'.tb = W.tb) : PO K mg W' p H o (RD K mg W' (nmGone none D)) := by
  cases o with
  | no => exact h
  | exc _ _ _ => exact h.elim
  | ok fl S =>
    intro r H2 st2 rs2
    have rsW : RelS K mg W r H2 S := ⟨rs2.len, rs2.nd, rs2.ob, rs2.de, by rw [← htb]; exact rs2.tabs, R0.pstS st2⟩
    cases fl with
    | nx ρ => exact fun σ re => h r H2 st2 rsW _ re.unmark
    | bk ρ => exact fun σ re => h r H2 st2 rsW _ re.unmark
    | ct ρ => exact fun σ re => h r H2 st2 rsW _ re.unmark
    | rt t => exact fun v rv => h r H2 st2 rsW v rv
theorem blank_rel {σ : L2.St} {n : Nat} (hl : σ.length = n) : RelE K mg W p H σ (List.replicate n none) :=
  ⟨by simp [hl], fun i t e => (by rw [List.getElem?_replicate] at e; split at e <;> cases e), fun _ _ _ m => (by rw [List.getElem?_replicate] at m; split at m <;> cases m)⟩
theorem mark_rel {σ : L2.St} {n i : Nat} {a : Addr} (hl : σ.length = n) (hi : i < n) (hw : W.hs = some (i, a)) : RelE K mg W p H (σ.set i (some (.ref a))) ((List.replicate n none).set i (some .mark)) := by
  refine ⟨by simp [hl], fun j t e => ?_, fun j b e m => ?_⟩
  · by_cases hj : i = j
    · subst hj
      rw [List.getElem?_set_self (by simpa using hi)] at e
      cases e
      exact ⟨.ref a, by rw [List.getElem?_set_self (by rw [hl]; exact hi)], trivial⟩
    · rw [List.getElem?_set_ne hj, List.getElem?_replicate] at e
      split at e <;> cases e
  · rw [hw] at e
    cases e
    rw [List.getElem?_set_self (by rw [hl]; exact hi)]
end
section
variable {X : Cx} {W : XW} {ct : Str → Option (List Str)} {sub : Str → Str → Option Bool}
theorem hd_ok (Φ : ErrT X.K X.mg ct sub) {hds : List ExceptHandler} {l : List HdF} (h : HdD X W.tb hds l) : ∃ lM, HdM X hds lM ∧ ∀ (D : Ends) (p : Pl) (H : Hp) (S0 : Sto), RelS X.K X.mg W p H S0 →
    ∀ (c : Str) (fs : List (Str × T)) (S1 : Sto) (q : Pl) (H' : Hp) (C d : Addr) (fvs : List (Str × V)), Stp p H q H' → RelS X.K X.mg W q H' S1 → X.mg c = some (.ref C) → H' d = some (.xd fvs) → d ∉ q.mu → d ∉ q.de → RepF X.K X.mg q H' fs fvs →
      PO X.K X.mg W p H (handF ct sub X.N.length l c fs S1) (RD X.K X.mg W D) → ∀ σ', wM X.K X.N.length (fun c d _ H => W.x c d H) D lM (.ref C) (some d) σ' H' := by
  induction h with
  | nil => exact ⟨[], .nil, fun D p H S0 R0 c fs S1 q H' C d fvs st rs hm h1 h2 h3 rf o σ' => o q H' C d fvs st rs hm h1 h2 h3 rf⟩
  | @as x n te i b₀ suite pos' hds l hf ht hg hdb hC hi hl hsu r ih =>
    obtain ⟨lM, hM, hw⟩ := ih
    obtain ⟨Dc, hC⟩ := hC
    refine ⟨(.ref Dc, some (n, i), fun a cls d D σ H => ∃ C dd fs, cls = .ref C ∧ d = some dd ∧ XfC X.K C ∧ (∀ g t, fs.lookup g = some t → PySem.W.findIn X.K (.ref C) g = some none) ∧ At X.K X.mg (errW X.K X.mg dd fs i a W.tb) (hf fs) (RD X.K X.mg (errW X.K X.mg dd fs i a W.tb) D) σ H) :: lM,
      .cons (nm := some (n, i)) ht ⟨hg, hdb, .inl hC⟩ ⟨hi, hl⟩ (fun a oe cls d pn hz hfv => ⟨fun pins s σ H D I ⟨C, dd, fs, e1, e2, hx, hno, hat⟩ => ?_⟩) hM, fun D p H S0 R0 c fs S1 q H' C d fvs st rs hm h1 h2 h3 rf o σ' => ?_⟩
    · subst e1 e2
      exact (hsu a dd C oe pn fs hz hfv hx hno).run pins s σ H D I hat
    · unfold handF at o
      cases es : sub c x with
      | none => simp only [es] at o; exact o.elim
      | some b =>
        refine ⟨b, Φ.sub c x C Dc b es hm hC, fun hb hlen a na => ?_, fun hb => ?_⟩
        · subst hb
          simp only [es] at o
          cases ek : ct c with
          | none => simp only [ek] at o; exact o.elim
          | some ks =>
            simp only [ek] at o
            cases ea : fs.all (fun kv => ks.contains kv.1) with
            | false => simp only [ea] at o; exact o.elim
            | true =>
              simp only [ea] at o
              obtain ⟨hx, hno⟩ := Φ.xf c ks C ek hm
              have hin : i < X.N.length := (List.getElem?_eq_some_iff.mp hi).1
              refine ⟨C, d, fs, rfl, rfl, hx, fun g t eg => hno g ?_, q, (List.replicate X.N.length none).set i (some .mark), S1, ⟨rs.len, rs.nd, rs.ob, rs.de, rs.tabs, fun r H2 st2 => ⟨st2.off h2 .xd h1, fvs, st2.kp d _ h2 .xd h1, rf.stp st2⟩⟩, mark_rel hlen hin rfl, ?_⟩
              · have := List.all_eq_true.mp ea (g, t) (PySem.mem_of_lookup eg)
                exact List.contains_iff_mem.mp this
              · exact fix_po rs (PO.stp st o) rfl
        · subst hb
          simp only [es] at o
          exact hw D p H S0 R0 c fs S1 q H' C d fvs st rs hm h1 h2 h3 rf o σ'
  | @pl x te b₀ suite pos' hds l hf ht hg hdb hC hsu r ih =>
    obtain ⟨lM, hM, hw⟩ := ih
    obtain ⟨Dc, hC⟩ := hC
    refine ⟨(.ref Dc, none, fun a cls d D σ H => At X.K X.mg (w0 W.tb) hf (RD X.K X.mg (w0 W.tb) D) σ H) :: lM,
      .cons (nm := none) ht ⟨hg, hdb, .inl hC⟩ trivial (fun a oe cls d pn hz hfv => hsu a oe pn) hM, fun D p H S0 R0 c fs S1 q H' C d fvs st rs hm h1 h2 h3 rf o σ' => ?_⟩
    unfold handF at o
    cases es : sub c x with
    | none => simp only [es] at o; exact o.elim
    | some b =>
      refine ⟨b, Φ.sub c x C Dc b es hm hC, fun hb hlen a na => ?_, fun hb => ?_⟩
      · subst hb
        simp only [es] at o
        cases ek : ct c with
        | none => simp only [ek] at o; exact o.elim
        | some ks =>
          simp only [ek] at o
          cases ea : fs.all (fun kv => ks.contains kv.1) with
          | false => simp only [ea] at o; exact o.elim
          | true =>
            simp only [ea] at o
            exact ⟨q, List.replicate X.N.length none, S1, rs.to0, blank_rel hlen, fix_po0 rs (PO.stp st o) rfl⟩
      · subst hb
        simp only [es] at o
        exact hw D p H S0 R0 c fs S1 q H' C d fvs st rs hm h1 h2 h3 rf o σ'
theorem s_try {body : List Stmt} {h₀ : ExceptHandler} {hds : List ExceptHandler} {l : List HdF} {fb : Ro → Sto → Out Fl} {pos : Pos} (Φ : ErrT X.K X.mg ct sub) (hs : X.stack = X.env :: X.outer) (hf : X.env.frame = some X.env.locals) (hN : X.N.Nodup) (htk : Takes X fun c d _ H => W.x c d H)
    (hb : ∀ (E : XK) (pn : List (Addr × Obj)) (xe : Value → Shared → Prop), Takes (X.tr pn xe) (fun c d _ H => E c d H) → PassesOwn (model X.prog X.w) X.A X.env xe → DSs (X.tr pn xe) ⟨E, W.J, W.hs, W.tb⟩ body fb)
    (hh : HdD X W.tb (h₀ :: hds) l) {n : Nat} (hn : X.N.length = n := by rfl) : DS X W (.Try body (h₀ :: hds) [] [] pos) (tryF ct sub n fb l) := by
  subst hn
  obtain ⟨lM, hM, hw⟩ := hd_ok Φ hh
  refine PS.imp (ps_tryM (tb := fun W' D σ H => ∃ E : XK, (∀ c d σ' H', E c d H' → W' c d σ' H') ∧ At X.K X.mg ⟨E, W.J, W.hs, W.tb⟩ fb (RD X.K X.mg ⟨E, W.J, W.hs, W.tb⟩ D) σ H) hs hf hN htk (fun W' pn xe tk po => ?_) hM) fun D σ H ⟨p, ρ, S, rs, re, o⟩ => ?_
  · exact ⟨fun pins s σ H D I ⟨E, hE, hat⟩ => (hb E pn xe (tk.imp fun c d σ' H' h => hE c d σ' H' h) po).run pins s σ H D I hat⟩
  · refine ⟨fun c d H' => ∀ σ', wM X.K X.N.length (fun c d _ H => W.x c d H) D lM c d σ' H', fun c d σ' H' h => h σ', p, ρ, S, ⟨rs.len, rs.nd, rs.ob, rs.de, rs.tabs, rs.pst⟩, ⟨re.len, re.at_, re.hs⟩, ?_⟩
    unfold tryF at o
    cases e : fb ρ S with
    | no => rw [e] at o; exact o
    | ok fl S1 =>
      rw [e] at o
      intro q H' st rs'
      have rsW : RelS X.K X.mg W q H' S1 := ⟨rs'.len, rs'.nd, rs'.ob, rs'.de, rs'.tabs, rs'.pst⟩
      cases fl with
      | nx ρ => exact fun σ re => o q H' st rsW σ ⟨re.len, re.at_, re.hs⟩
      | bk ρ => exact fun σ re => o q H' st rsW σ ⟨re.len, re.at_, re.hs⟩
      | ct ρ => exact fun σ re => o q H' st rsW σ ⟨re.len, re.at_, re.hs⟩
      | rt t => exact fun v rv => o q H' st rsW v rv
    | exc c fs S1 =>
      rw [e] at o
      intro q H' C d fvs st rs' hm h1 h2 h3 rf
      exact hw D p H S rs c fs S1 q H' C d fvs st ⟨rs'.len, rs'.nd, rs'.ob, rs'.de, rs'.tabs, rs'.pst⟩ hm h1 h2 h3 rf o
end
end Mi


set_option Elab.async false
set_option linter.all false
set_option maxRecDepth 100000
set_option maxHeartbeats 1000000
namespace Mi
open PySem PySem.Spec PyProof.Rows L2
/-! ### x(lambda: e) -/
/-- what x makes of what its argument does -/
abbrev SpecC := (Sto → Out T) → Sto → Out T
def callF (L : Sto → Out T) : Ro → Sto → Out T := fun ρ S => match ρ[(0 : Nat)]? with
  | some (some .mark) => L S
  | _ => .no
def TTm (K : PySem.W.Frag) (mg : Str → Option Value) (tb : List (Addr × Str)) (G : SpecC) : (XK → Hp → VK → Prop) → Hp → VK → Prop := fun tl H Q => ∃ J p S L, RelS K mg (plW (fun _ _ _ => False) J tb) p H S ∧
  (∀ E r H' S' Q', Stp p H r H' → RelS K mg (plW E J tb) r H' S' → PO K mg (plW E J tb) r H' (L S') (RV K mg Q') → tl E H' Q') ∧ PO K mg (plW (fun _ _ _ => False) J tb) p H (noX (G L S)) (RV K mg Q)
/-- the def x takes a callable: G is what it makes of it -/
structure FnC (P : Program) (w : World) (K : PySem.W.Frag) (mg : Str → Option Value) (tb : List (Addr × Str)) (base : Heap) (x : Str) (G : SpecC) : Prop where
  ex : ∃ (g : Addr) (a : Str) (pg : Arguments) (bg : List Stmt) (sg : Scope) (dV kV doc pm cdv ct oc : Value) (an od : Option Addr) (osl : Array (Option Value)) (Ng : List Str),
    mg x = some (.ref g) ∧ PySem.W.keepIn K (.ref g) = true ∧ K.lookup g = some ⟨oc, od, .func (PySem.W.fnOf x x pg bg sg dV kV doc pm an cdv ct), osl⟩ ∧ PySem.W.codeIn K cdv x = true ∧ L2.Binds K (PySem.W.fnOf x x pg bg sg dV kV doc pm an cdv ct) [a] [] ∧ FnScope Ng [a] sg ∧
    Ng[0]? = some a ∧ Vis sg a ∧ (a == ("__debug__" : Str)) = false ∧ (a == ("__classdict__" : Str)) = false ∧
    ∀ (X : Cx) (q : Str), X.prog = P → X.w = w → X.K = K → X.mg = mg → X.base = base → RoomG 1 X.A → LamX.GivesTo X Ng x sg g cdv bg a q (TTm K mg tb G)
/-- a callee of its own: what the context's held slot holds is a function that does L -/
def HCall (Z : Cx) (W : XW) (a : Str) (L : Sto → Out T) : Prop := ∀ (E : XK) (pn : List (Addr × Obj)) (xe : Value → Shared → Prop) (p1 p2 : Pos), Takes (Z.tr pn xe) (fun c d _ H => E c d H) → DE (Z.tr pn xe) ⟨E, W.J, W.hs, W.tb⟩ (.Call (.Name a p1) [] [] p2) (callF L)
theorem fn_defC {P : Program} {w : World} {K : PySem.W.Frag} {mg : Str → Option Value} {tb : List (Addr × Str)} {base : Heap} {x a : Str} {st : Stmt} {g : Addr} {fd : FuncData} {N : List Str} {G : SpecC} (F : Fun K x x st g fd) (hm : mg x = some (.ref g)) (hb : Binds K fd [a] []) (S : FnScope N [a] (defScope st))
    (hN : N[0]? = some a) (hv : Vis (defScope st) a) (body : (Sto → Out T) → Ro → Sto → Out Fl)
    (hbody : ∀ (cdv : Value) (A : Around) (outer : List Env) (s : Shared) (H : Hp) (J : List Addr → List Addr → Hp → Prop) (f : Addr) (L : Sto → Out T), RoomG 0 (A.deeper (envOfC x (defScope st) s.heap.objs.size g cdv)) →
      HCall (cxOf C8.CX0 P w K mg base N x (defScope st) g cdv A outer s H C8.E0).nox ⟨fun _ _ _ => False, J, some (0, f), tb⟩ a L →
      DSs (cxOf C8.CX0 P w K mg base N x (defScope st) g cdv A outer s H C8.E0).nox ⟨fun _ _ _ => False, J, some (0, f), tb⟩ (defBody st) (body L))
    (told : ∀ {W : XW} {p : Pl} {H : Hp} {S : Sto} {Q : VK} (L : Sto → Out T), RelS K mg W p H S → PO K mg W p H (G L S) (RV K mg Q) → PO K mg W p H (body L (startT N.length [.mark]) S) (RD K mg W { nx := fun _ H' => Q .non H', rt := Q })) (hd : (a == ("__debug__" : Str)) = false := by decide) (hcd : (a == ("__classdict__" : Str)) = false := by decide) : FnC P w K mg tb base x G := by
  obtain ⟨oc, od, kV, doc, pm, an, cdv, ct, osl, rfl, lk, hcode⟩ := F.ex
  refine ⟨g, a, defArgs st, defBody st, defScope st, .none, kV, doc, pm, cdv, ct, oc, an, od, osl, N, hm, F.kp, lk, hcode, hb, S, hN, hv, hd, hcd, ?_⟩
  rintro X q rfl rfl rfl rfl rfl hrm
  intro f c' s H Q tl act hc ⟨J, p, S0, L, rs, htl, o⟩
  have nc : c' ∉ p.mu := rs.hard hc
  let W' : XW := ⟨fun _ _ _ => False, fun mu de H' => Stp p H ⟨mu, de⟩ H' ∧ H' c' = some (LamX.CodeO c' q), some (0, f), tb⟩
  have hcall : HCall (cxOf C8.CX0 X.prog X.w X.K X.mg X.base N x (defScope st) g cdv X.A X.stack s H C8.E0).nox W' a L := by
    intro E pn xe p1 p2 tk
    refine PE.imp (act (fun c d _ H => E c d H) pn xe E p1 p2 tk (fun _ _ _ _ h => h)) fun σZ HZ Q' ⟨r, ρ, S', rs', re', o'⟩ => ?_
    unfold callF at o'
    split at o'
    · rename_i hmk
      obtain ⟨st1, h1⟩ := rs'.pst r HZ .refl
      have st1 : Stp p H r HZ := st1
      refine ⟨re'.hs 0 f rfl hmk, h1, htl E r HZ S' Q' st1 ⟨rs'.len, rs'.nd, rs'.ob, rs'.de, rs'.tabs, rs.pstS st1⟩ ?_⟩
      generalize L S' = oo at o'
      cases oo with
      | no => exact o'
      | ok t S2 => exact fun q2 H2 st2 rs2 => o' q2 H2 st2 ⟨rs2.len, rs2.nd, rs2.ob, rs2.de, rs2.tabs, rs'.pstS st2⟩
      | exc c fs S2 => exact fun q2 H2 C d fvs st2 rs2 => o' q2 H2 C d fvs st2 ⟨rs2.len, rs2.nd, rs2.ob, rs2.de, rs2.tabs, rs'.pstS st2⟩
    · exact o'.elim
  refine ⟨_, hbody cdv X.A X.stack s H _ f L (hrm.deeper _) hcall, p, startT N.length [.mark], S0, ⟨rs.len, rs.nd, rs.ob, rs.de, rs.tabs, fun r H' st1 => ⟨st1, st1.kp _ _ nc .codeO hc⟩⟩, start_rel (vs := [V.ref f]) (ts := [.mark]) ⟨_, _, rfl, trivial, rfl⟩ (fun j b e _ => ?_), ?_⟩
  · have e : some (0, f) = some (j, b) := e
    cases e
    rfl
  · have R0 : RelS X.K X.mg W' p H S0 := ⟨rs.len, rs.nd, rs.ob, rs.de, rs.tabs, fun r H' st1 => ⟨st1, st1.kp _ _ nc .codeO hc⟩⟩
    refine told L R0 ?_
    generalize G L S0 = oo at o
    cases oo with
    | no => exact o
    | ok t S2 => exact fun q2 H2 st2 rs2 => o q2 H2 st2 ⟨rs2.len, rs2.nd, rs2.ob, rs2.de, rs2.tabs, rs.pstS st2⟩
    | exc c fs S2 => exact o.elim
theorem ext_stp {p : Pl} {H H1 : Hp} (e : LamX.ExtN H H1) : Stp p H p H1 :=
  ⟨⟨[], by simp, fun _ h => nomatch h⟩, rfl, fun b xs h => e b _ h (fun _ z => by cases z), fun b o u h => e b _ h (fun _ z => by cases z), fun b o _ n h => e b o h n, fun b o n h => ⟨o, n, e b o h n⟩⟩
section
variable {X : Cx} {W : XW} {x : Str} {G : SpecC} {params : Arguments} {body : Expr} {scope : Scope} {p lpos pos : Pos} {k : Nat} {c P : Addr}
/-- x(lambda: e) -/
theorem d_lam {fL : Ro → Sto → Out T} (F : FnC X.prog X.w X.K X.mg W.tb X.base x G) (TB : LamX.TabB X.base X.mg c P) (hcode : X.env.code = .ref c) (hmT : (P, X.env.qual ++ "<lambda>") ∈ W.tb) (hu : ∀ p ∈ W.tb, p.1 = P → p.2 = X.env.qual ++ "<lambda>") (hr : RoomG (k + 2) X.A) (L : LamX.LamS X.env.scope scope)
    (hbody : ∀ (A : Around) (outer : List Env) (s : Shared) (H : Hp) (E : XK) (J : List Addr → List Addr → Hp → Prop) (f c' : Addr), RoomG k (A.deeper (LamX.lamEnv X scope s.heap.objs.size f c')) → DE (LamX.lamCx X A outer s H E scope f c') (plW E J W.tb) body fL)
    (hdef : defaultsOf params X.env = ([], []) := by rfl)
    (hbind : ∀ (q : Str) (cl : List (Str × Addr)) (pm cv ctv : Value), bindArgs (PySem.W.kla_fn "<lambda>" q params body scope cl pm cv ctv) ⟨[], []⟩ = pure [] := by intro _ _ _ _ _; rfl) (hg : Gl X x := by rfl) (hdb : (x == ("__debug__" : Str)) = false := by decide) :
    DE X W (.Call (.Name x p) [.Lambda params body scope lpos] [] pos) (fun ρ S => noX (G (fL ρ) S)) := by
  obtain ⟨g, a, pg, bg, sg, dV, kV, doc, pm, cdv, ct, oc, an, od, osl, Ng, hm, hk, lk, hcg, hb, Sg, hNg, hva, hd, hcd, hG⟩ := F.ex
  refine PE.imp (pe_lamcallG (t := fun E σ H Q => ∃ J, At X.K X.mg (plW E J W.tb) fL (RV X.K X.mg Q) σ H) hg hm hk lk hcg hb Sg hNg hva (hG X (X.env.qual ++ "<lambda>") rfl rfl rfl rfl rfl (hr.mono (by omega))) TB hcode hmT hu hr L hdef hbind (fun A outer s H E f c' hr2 => ⟨fun pins s' σ H' Q I ⟨J, hat⟩ => (hbody A outer s H E J f c' hr2).run pins s' σ H' Q I hat⟩) hdb hd hcd) fun σ H Q ⟨q, ρ, S, rs, re, o⟩ => ?_
  refine ⟨rs.tabs, fun H1 eN T1 => ?_⟩
  have st : Stp q H q H1 := ext_stp eN
  have rs1 : RelS X.K X.mg W q H1 S := rs.stp st T1 fun b hb => by
    obtain ⟨u, so, e⟩ := rs.there hb
    rw [e, eN b u e so.tbl]
  refine ⟨W.J, q, S, fL ρ, ⟨rs1.len, rs1.nd, rs1.ob, rs1.de, rs1.tabs, rs1.pst⟩, fun E r H' S' Q' st' rs' o' => ⟨W.J, r, ρ, S', rs', ⟨re.len, fun i t e => (let ⟨v, e1, rv⟩ := re.at_ i t e; ⟨v, e1, (rv.stp st).stp st'⟩), fun _ _ h => nomatch h⟩, o'⟩, ?_⟩
  have o1 : PO X.K X.mg W q H1 (noX (G (fL ρ) S)) (RV X.K X.mg Q) := PO.stp st o
  revert o1
  generalize G (fL ρ) S = oo
  intro o1
  cases oo with
  | no => exact o1
  | ok t S2 => exact fun q2 H2 st2 rs2 => o1 q2 H2 st2 ⟨rs2.len, rs2.nd, rs2.ob, rs2.de, rs2.tabs, rs2.pst⟩
  | exc c fs S2 => exact o1.elim
end
end Mi


set_option Elab.async false
set_option linter.all false
set_option maxRecDepth 100000
set_option maxHeartbeats 1000000
namespace Mi
open PySem PySem.Spec PyProof.Rows L2
section
variable {X : Cx} {W : XW} {tg e a b : Expr} {fe fa fb : Ro → Sto → Out T} {pos : Pos}
/-! ### what is walked: a str, too -/
def chT (c : Nat) : T := .str ⟨#[c]⟩
def itemsS (t : T) (S : Sto) : Out (List T) := match t with
  | .str x => .ok (x.cps.toList.map chT) S
  | t => itemsG t S
def isF (fe : Ro → Sto → Out T) : Ro → Sto → Out (List T) := fun ρ S => (fe ρ S).bind itemsS
theorem pi_sq {l : Expr} {tl : TE} (hl : PE X l tl) : PI X tg l (fun σ H R => tl σ H fun x H1 => (∃ z, x = .str z ∧ R (Its z) H1) ∨ ∃ a, x = .ref a ∧ (((∃ xs, SqL X.K H1 a xs) ∧ R (Itl X.K a) H1) ∨ ((∃ xs, SqT X.K H1 a xs) ∧ R (Itt X.K a) H1))) := by
  refine ⟨fun pins s σ H R I h => ?_⟩
  refine thn (hl.run pins s σ H _ I h) fun v s1 ⟨x, H1, I1, r1, q1⟩ => ?_
  rcases q1 with ⟨z, e, q⟩ | ⟨a, e, q1⟩
  · subst e
    obtain ⟨t, rfl⟩ := r1
    cases ha : z.cps.all (· < 128)
    · exact wpAny_pyIter_wide ha (pi_one (tk := s1.toks) I1 _ (turn_str _ z t "str_iterator" (.inr rfl)) ⟨_, Heap.get?_push_size _ rfl, rfl, rfl⟩ q)
    · exact wpAny_pyIter_ascii ha (pi_one (tk := s1.toks) I1 _ (turn_str _ z t "str_ascii_iterator" (.inl rfl)) ⟨_, Heap.get?_push_size _ rfl, rfl, rfl⟩ q)
  · subst e
    cases r1
    rcases q1 with ⟨⟨xs, hq⟩, q⟩ | ⟨⟨xs, hq⟩, q⟩
    · obtain ⟨its, rv, p, hz⟩ := I1.list hq
      refine wpAny_pyIter_list p.isList ?_
      refine ⟨s1.heap.objs.size, [s1.heap.objs.size], _, _, H1, rfl, I1.kept (t' := s1.toks) fun b o e => Heap.get?_push_of_some _ e, turn_list a _, ⟨_, Heap.get?_push_size _ rfl, rfl, rfl⟩, fun b hb => ?_, q⟩
      have e : b = s1.heap.objs.size := by simpa using hb
      subst e
      exact I1.fpOk (Nat.le_refl _) (I1.hok.fresh (Nat.le_refl _))
    · obtain ⟨its, rv, p, hz⟩ := I1.tuple hq
      refine wpAny_pyIter_tuple (show s1.heap.IsTuple a its.toArray from p) ?_
      refine ⟨s1.heap.objs.size, [s1.heap.objs.size], _, _, H1, rfl, I1.kept (t' := s1.toks) fun b o e => Heap.get?_push_of_some _ e, turn_tuple a _, ⟨_, Heap.get?_push_size _ rfl, rfl, rfl⟩, fun b hb => ?_, q⟩
      have e : b = s1.heap.objs.size := by simpa using hb
      subst e
      exact I1.fpOk (Nat.le_refl _) (I1.hok.fresh (Nat.le_refl _))
theorem walk_str {K : PySem.W.Frag} {mg : Str → Option Value} {p : Pl} {H : Hp} {x : Str} : WalkT K mg p H (Its x) (x.cps.toList.map chT) := by
  refine ⟨fun i q H2 hi st => by show i < x.cps.size; simpa using hi, fun q H2 st => by show x.cps.size ≤ _; simp, fun i q H2 v H3 t e st y => ?_⟩
  obtain ⟨rfl, c, e2, rfl⟩ := y
  rw [List.getElem?_map, Array.getElem?_toList, e2] at e
  cases e
  exact ⟨.inl rfl, fun q3 k => rfl⟩
theorem i_sq (he : DE X W e fe) : DI X W tg e (isF fe) :=
  PI.imp (pi_sq he) fun σ H R h => At.bind (f := fe) (g := fun _ => itemsS) h fun ρ t S q H1 rs re o v rv => by
    cases t with
    | str x =>
      obtain rfl : v = .str x := rv
      exact .inl ⟨x, rfl, (show PO X.K X.mg W q H1 (.ok (x.cps.toList.map chT) S) (RI X.K X.mg R) from o).now rs _ walk_str⟩
    | lst ts =>
      obtain ⟨a, vs, rfl, h1, n1, n2, r1⟩ := rv
      exact .inr ⟨a, rfl, .inl ⟨⟨vs, SqL.of h1⟩, (show PO X.K X.mg W q H1 (.ok ts S) (RI X.K X.mg R) from o).now rs _ (walk_lst h1 n1 r1)⟩⟩
    | tup ts =>
      obtain ⟨a, vs, rfl, h1, r1⟩ := rv
      exact .inr ⟨a, rfl, .inr ⟨⟨vs, h1⟩, (show PO X.K X.mg W q H1 (.ok ts S) (RI X.K X.mg R) from o).now rs _ (walk_tupT h1 r1)⟩⟩
    | scr ns =>
      obtain ⟨a, rfl, h1, h2⟩ := scr_seq rv
      exact .inr ⟨a, rfl, .inl ⟨⟨_, h1⟩, (show PO X.K X.mg W q H1 (.ok (ns.map T.int) S) (RI X.K X.mg R) from o).now rs _ (walk_scr h1 h2)⟩⟩
    | _ => exact o.elim
/-! ### x * n -/
def rMulAll (K : PySem.W.Frag) : R2 := fun x y H Q => rI CMul (fun i j => .int (i * j)) x y H Q ∨ (rRep x y H Q ∨ rRepT K x y H Q)
def mulA (x y : T) (S : Sto) : Out T := match y with
  | .int k => match x with
    | .int i => if CMul i k then .ok (.int (i * k)) S else .no
    | .tup ts => match decide (ts ≠ [] ∧ 2 ≤ k ∧ k ≤ 1000 ∧ ts.length ≤ 1000) with
      | true => .ok (.tup (List.replicate k.toNat ts).flatten) S
      | false => .no
    | x => match lstAt S x with
      | some ts => match decide (-(2 ^ 63) ≤ k ∧ k < 2 ^ 63 ∧ ts.length * k.toNat ≤ 16777216) with
        | true => .ok (.lst (List.replicate k.toNat ts).flatten) S
        | false => .no
      | none => .no
  | _ => .no
theorem RepL.rep {K : PySem.W.Frag} {mg : Str → Option Value} {p : Pl} {H : Hp} {ts : List T} {vs : List V} (r : RepL K mg p H ts vs) : ∀ n : Nat, RepL K mg p H (List.replicate n ts).flatten (List.replicate n vs).flatten
  | 0 => rfl
  | n + 1 => by
    rw [List.replicate_succ, List.replicate_succ, List.flatten_cons, List.flatten_cons]
    exact r.append (RepL.rep r n)
theorem mulA_ok {K : PySem.W.Frag} {mg : Str → Option Value} : OpG K mg (rMulAll K) mulA := fun W p H S x y vx vy Q R rx ry o => by
  cases y with
  | int k =>
    obtain rfl : vy = .int k := ry
    have lists : ∀ x vx, Rep K mg p H x vx → PO K mg W p H (match lstAt S x with
      | some ts => match decide (-(2 ^ 63) ≤ k ∧ k < 2 ^ 63 ∧ ts.length * k.toNat ≤ 16777216) with
        | true => .ok (.lst (List.replicate k.toNat ts).flatten) S
        | false => .no
      | none => .no) (RV K mg Q) → rMulAll K vx (.int k) H Q := fun x vx rx o => by
      cases e1 : lstAt S x with
      | none => rw [e1] at o; exact o.elim
      | some ts =>
        simp only [e1] at o
        split at o
        · rename_i hd
          have hd := of_decide_eq_true hd
          obtain ⟨c, vs, rfl, h1, r1⟩ := lst_at R e1 rx
          exact .inr (.inl ⟨c, k, vs, rfl, rfl, h1, hd.1, hd.2.1, by rw [r1.length, sizeLine_eq]; exact hd.2.2, fun q hq => po_lst o R (r1.rep _) hq⟩)
        · exact o.elim
    cases x with
    | int i =>
      obtain rfl : vx = .int i := rx
      simp only [mulA] at o
      split at o
      · rename_i hz
        exact .inl ⟨i, k, rfl, rfl, hz, o.now R _ rfl⟩
      · exact o.elim
    | tup ts =>
      simp only [mulA] at o
      split at o
      · rename_i hd
        have hd := of_decide_eq_true hd
        obtain ⟨c, vs, rfl, h1, r1⟩ := rx
        refine .inr (.inr ⟨c, k, vs, rfl, rfl, h1, ?_, hd.2.1, hd.2.2.1, by rw [r1.length]; exact hd.2.2.2, fun q hq => po_tup o R (r1.rep _) hq⟩)
        intro z
        subst z
        have := r1.length
        exact hd.1 (List.eq_nil_of_length_eq_zero (by simpa using this.symm))
      · exact o.elim
    | _ => exact lists _ _ rx o
  | _ => exact o.elim
theorem d_mulA (ha : DE X W a fa) (hb : DE X W b fb) : DE X W (.BinOp a .Mult b pos) (bF mulA fa fb) := d_op (op_mul.or (op_rep.or op_repT)) mulA_ok ha hb
end
/-! ### repr, str, int -/
def rRepr (K : PySem.W.Frag) : List V → Hp → VK → Prop := fun xs H Q => ∃ v d, xs = [v] ∧ Dp K H v d ∧ d.showable = true ∧ d.hasDict = false ∧ d.depth ≤ 64 ∧ d.shown.length ≤ sizeLine ∧ Q (.str d.shown) H
theorem call_repr {X : Cx} (hu : X.A.units + 65 < cLine) (hg : X.A.guards = some []) : CallR X (.builtin "repr") (rRepr X.K) := by
  intro pins s σ H xs us Q I r h
  obtain ⟨v, d, rfl, hd, hs, hn, hdp, hz, q⟩ := h
  obtain ⟨u, rfl, rv⟩ := vals1 r
  cases hd with
  | non => cases rv; exact PySem.P.repr_of_none ⟨.str _, H, I.tok _, ⟨_, rfl⟩, by simpa only [PyData.shown_none] using q⟩
  | bl b => cases rv; exact PySem.P.repr_of_bool ⟨.str _, H, I.tok _, ⟨_, rfl⟩, by simpa only [PyData.shown_bool] using q⟩
  | int i =>
    obtain ⟨t, rfl⟩ := rv
    refine PySem.P.repr_of_int (by simpa [PyData.showable] using hs) ⟨.str _, H, I.tok _, ⟨_, rfl⟩, ?_⟩
    simpa only [PyData.shown_int] using q
  | str x =>
    obtain ⟨t, rfl⟩ := rv
    refine PySem.P.repr_of_str ⟨.str _, H, I.tok _, ⟨_, rfl⟩, ?_⟩ (by simpa only [PyData.shown_str] using hz)
    simpa only [PyData.shown_str] using q
  | @lst a ys ds h1 h2 =>
    obtain ⟨as, rr⟩ := Dp.reads I _ _ u (Dp.lst h1 h2) rv
    cases rv
    exact repr_of_reads' rr hs (PyData.noDict_hsm hn) hg (by omega) (fun _ _ e => e) (fun h' u tk hk => ⟨.str _, H, I.kept (t' := tk) fun b o e => hk b o e, ⟨_, rfl⟩, q⟩) hz
  | @tup a ys ds h1 h2 =>
    obtain ⟨as, rr⟩ := Dp.reads I _ _ u (Dp.tup h1 h2) rv
    cases rv
    exact repr_of_reads' rr hs (PyData.noDict_hsm hn) hg (by omega) (fun _ _ e => e) (fun h' u tk hk => ⟨.str _, H, I.kept (t' := tk) fun b o e => hk b o e, ⟨_, rfl⟩, q⟩) hz
def reprD (d : PyData) (S : Sto) : Out T := match d.showable && !d.hasDict && Nat.ble d.depth 64 && Nat.ble d.shown.length 16777216 with
  | true => .ok (.str d.shown) S
  | false => .no
def reprG : List T → Sto → Out T := fun ts S => match ts with
  | [t] => match datAt S t with
    | some d => reprD d S
    | none => .no
  | _ => .no
section
variable {K : PySem.W.Frag} {mg : Str → Option Value} {X : Cx}
theorem reprG_ok : CallG K mg (rRepr K) reprG := fun W p H S ts vs Q R r o => by
  unfold reprG at o
  split at o
  · rename_i t
    split at o
    · rename_i d e
      obtain ⟨v, rfl, rv⟩ := r.one
      unfold reprD at o
      split at o
      · rename_i hz
        simp only [Bool.and_eq_true, Bool.not_eq_true'] at hz
        exact ⟨v, d, rfl, datAt_dp R e rv, hz.1.1.1, hz.1.1.2, Nat.le_of_ble_eq_true hz.1.2, by rw [sizeLine_eq]; exact Nat.le_of_ble_eq_true hz.2, o.now R _ rfl⟩
      · exact o.elim
    · exact o.elim
  · exact o.elim
def strG : List T → Sto → Out T := fun ts S => match ts with
  | [.int i] => match Nat.blt i.natAbs.log2 1920 with
    | true => .ok (.str ((toString i : String) : Str)) S
    | false => .no
  | [.str a] => .ok (.str a) S
  | _ => .no
theorem call_strA : CallR X (.type "str") (fun xs H Q => (∃ i, xs = [.int i] ∧ i.natAbs.log2 < 1920 ∧ Q (.str ((toString i : String) : Str)) H) ∨ ∃ a, xs = [.str a] ∧ Q (.str a) H) := fun pins s σ H xs us Q I r h => by
  rcases h with h | h
  · exact call_str_int pins s σ H xs us Q I r h
  · exact SkE.call_str_str pins s σ H xs us Q I r h
theorem strG_ok : CallG K mg (fun xs H Q => (∃ i, xs = [.int i] ∧ i.natAbs.log2 < 1920 ∧ Q (.str ((toString i : String) : Str)) H) ∨ ∃ a, xs = [.str a] ∧ Q (.str a) H) strG := fun W p H S ts vs Q R r o => by
  unfold strG at o
  split at o
  · rename_i i
    obtain ⟨v, rfl, rv⟩ := r.one
    obtain rfl : v = .int i := rv
    split at o
    · rename_i hz
      exact .inl ⟨i, rfl, Nat.lt_of_succ_le (Nat.le_of_ble_eq_true hz), o.now R _ rfl⟩
    · exact o.elim
  · rename_i i
    obtain ⟨v, rfl, rv⟩ := r.one
    obtain rfl : v = .str i := rv
    exact .inr ⟨i, rfl, o.now R _ rfl⟩
  · exact o.elim
def rInt : List V → Hp → VK → Prop := fun xs H Q => ((∃ i, xs = [.int i] ∧ Q (.int i) H) ∨ ∃ k, xs = [.bl k] ∧ Q (.int (if k then 1 else 0)) H) ∨ ∃ a n, xs = [.str a] ∧ PySem.intText? a = some n ∧ a.length ≤ 640 ∧ Q (.int n) H
theorem call_intA : CallR X (.type "int") rInt := fun pins s σ H xs us Q I r h => by
  rcases h with h | h
  · exact call_int1 pins s σ H xs us Q I r h
  · exact call_int_str pins s σ H xs us Q I r h
def intA : List T → Sto → Out T := fun ts S => match ts with
  | [.str a] => match Nat.ble a.length 640, PySem.intText? a with
    | true, some n => .ok (.int n) S
    | _, _ => .no
  | ts => intG ts S
theorem intA_ok : CallG K mg rInt intA := fun W p H S ts vs Q R r o => by
  unfold intA at o
  split at o
  · rename_i a
    obtain ⟨v, rfl, rv⟩ := r.one
    obtain rfl : v = .str a := rv
    split at o
    · rename_i n h1 h2
      exact .inr ⟨a, n, rfl, h2, Nat.le_of_ble_eq_true h1, o.now R _ rfl⟩
    · exact o.elim
  · exact .inl (intG_ok W p H S ts vs Q R r o)
/-! ### methods of texts -/
def splitG : T → List T → Sto → Out T := fun x ts S => match x, ts with
  | .str a, [.str b] => match decide ((b.length == 0) = false ∧ a.length + 2 ≤ 16777216) with
    | true => .ok (.lst ((Txt.split a b).map T.str)) S
    | false => .no
  | _, _ => .no
theorem RepL.strs {p : Pl} {H : Hp} : ∀ {ys : List Str}, RepL K mg p H (ys.map T.str) (ys.map V.str)
  | [] => rfl
  | y :: ys => ⟨_, _, rfl, rfl, RepL.strs⟩
theorem splitG_ok : MtG K mg (fun x xs H Q => ∃ a b, x = .str a ∧ xs = [.str b] ∧ (b.length == 0) = false ∧ a.length + 2 ≤ sizeLine ∧ rNewStrs (Txt.split a b) H Q) splitG := fun W p H S x ts vx vs Q R rx r o => by
  unfold splitG at o
  split at o
  · rename_i a b
    split at o
    · rename_i hd
      have hd := of_decide_eq_true hd
      obtain ⟨v, rfl, rv⟩ := r.one
      obtain rfl : v = .str b := rv
      obtain rfl : vx = .str a := rx
      exact ⟨a, b, rfl, rfl, hd.1, by rw [sizeLine_eq]; exact hd.2, fun q hq => po_lst o R RepL.strs hq⟩
    · exact o.elim
  · exact o.elim
/-- of two texts -/
def ss1 (g : Str → Str → T) : T → List T → Sto → Out T := fun x ts S => match x, ts with
  | .str a, [.str b] => .ok (g a b) S
  | _, _ => .no
theorem ss1_ok {g : Str → Str → T} {gv : Str → Str → V} (h : ∀ p H a b, Rep K mg p H (g a b) (gv a b)) : MtG K mg (fun x xs H Q => ∃ a b, x = .str a ∧ xs = [.str b] ∧ Q (gv a b) H) (ss1 g) := fun W p H S x ts vx vs Q R rx r o => by
  unfold ss1 at o
  split at o
  · rename_i a b
    obtain ⟨v, rfl, rv⟩ := r.one
    obtain rfl : v = .str b := rv
    obtain rfl : vx = .str a := rx
    exact ⟨a, b, rfl, rfl, o.now R _ (h _ _ _ _)⟩
  · exact o.elim
def startsG := ss1 fun a b => .bl (Txt.startswith a b)
def endsG := ss1 fun a b => .bl (Txt.endswith a b)
def findG := ss1 fun a b => .int (Txt.find a b)
theorem startsG_ok : MtG K mg (fun x xs H Q => ∃ a b, x = .str a ∧ xs = [.str b] ∧ Q (.bl (Txt.startswith a b)) H) startsG := ss1_ok (gv := fun a b => .bl (Txt.startswith a b)) fun _ _ _ _ => rfl
theorem endsG_ok : MtG K mg (fun x xs H Q => ∃ a b, x = .str a ∧ xs = [.str b] ∧ Q (.bl (Txt.endswith a b)) H) endsG := ss1_ok (gv := fun a b => .bl (Txt.endswith a b)) fun _ _ _ _ => rfl
theorem findG_ok : MtG K mg (fun x xs H Q => ∃ a b, x = .str a ∧ xs = [.str b] ∧ Q (.int (Txt.find a b)) H) findG := ss1_ok (gv := fun a b => .int (Txt.find a b)) fun _ _ _ _ => rfl
end
/-! ### a local name that holds a def -/
def callvF (i : Nat) (tbl : Str → Option Spec) (fs : Ro → Sto → Out (List T)) : Ro → Sto → Out T := fun ρ S => match ρ[i]? with
  | some (some (.glob x)) => match tbl x with
    | some f => (fs ρ S).bind f
    | none => .no
  | _ => .no
theorem d_callV {X : Cx} {W : XW} {e : Expr} {es : List Expr} {fs : Ro → Sto → Out (List T)} {y : Str} {p pos : Pos} {k i : Nat} {tbl : Str → Option Spec} (F : ∀ x f, tbl x = some f → ∃ n, FnD X.prog X.w X.K X.mg W.tb X.base k x n f) (hr : RoomG k X.A) (hx : Passes (L2.CX X.prog X.w) X W.x) (ha : DA X W (e :: es) fs)
    (hN : X.N[i]? = some y := by rfl) (hv : Vis X.env.scope y := by first | exact Or.inl rfl | exact Or.inr (Or.inl rfl) | exact Or.inr (Or.inr rfl)) (hdb : (y == ("__debug__" : Str)) = false := by decide) (hcd : (y == ("__classdict__" : Str)) = false := by decide)
    (he : starEach (e :: es) X.env = (false, eval e X.env) :: starEach es X.env := by rfl) (hpl : (backTo pos (starEach es X.env)).any (·.1) = false := by rfl) : DE X W (.Call (.Name y p) (e :: es) [] pos) (callvF i tbl fs) := by
  refine ⟨fun pins s σ H Q I ⟨q, ρ, S, rs, re, o⟩ => ?_⟩
  unfold callvF at o
  split at o
  · rename_i x hx0
    cases et : tbl x with
    | none => simp only [et] at o; exact o.elim
    | some f =>
      simp only [et] at o
      obtain ⟨n, Fx⟩ := F x f et
      obtain ⟨a, fd, ps, hm, hk, hb, hl, ok⟩ := Fx.ex
      obtain ⟨v, e1, a', rfl, hm'⟩ := re.at_ i _ hx0
      rw [hm] at hm'
      cases hm'
      refine (pe_callLG (i := i) (f := a) ok hr hN hv hk hb (.nil : Vals [] []) hx ha hdb hcd he hpl).run pins s σ H Q I ⟨e1, ?_⟩
      refine At.bind (f := fs) (g := fun _ => f) ⟨q, ρ, S, rs, re, o⟩ fun ρ ts S q H1 rs re o vs rv => ?_
      show spOf X.K X.mg W.tb n f (vs ++ []) H1 Q W.x
      rw [List.append_nil]
      refine ⟨?_, W.J, q, S, ts, rs.pl, rv, o.pl⟩
      rw [rv.length]
      by_cases hn : ts.length = n
      · exact hn
      · rw [Fx.ar ts S hn] at o; exact o.elim
  · exact o.elim
end Mi


set_option Elab.async false
set_option linter.all false
set_option maxRecDepth 100000
set_option maxHeartbeats 1000000
namespace Mi
open PySem PySem.Spec PyProof.Rows L2
/-! ### lists made in the store -/
section
variable {X : Cx} {W : XW} {K : PySem.W.Frag} {mg : Str → Option Value} {p : Pl} {H : Hp} {S : Sto}
theorem po_lstR {Q : VK} {vs : List V} {ts : List T} {b : Addr} (o : PO K mg W p H (.ok (.ref S.length) (S ++ [.lst ts])) (RV K mg Q)) (R : RelS K mg W p H S) (r : RepL K mg p H ts vs) (h : H b = none) : Q (.ref b) (upd H b (.lst vs)) := by
  have a := Stp.push (p := p) (o := .lst vs) h
  refine o.of a (R.push h ⟨vs, upd_same, r.stp a⟩) _ ⟨b, rfl, ?_⟩
  show (p.mu ++ [b])[S.length]? = some b
  rw [← R.len]; simp
def addRG (x y : T) (S : Sto) : Out T := match lstAt S x, lstAt S y with
  | some a, some b => fit (a.length + b.length) (.ok (.ref S.length) (S ++ [.lst (a ++ b)]))
  | _, _ => .no
theorem addRG_ok : OpG K mg rCat addRG := fun W p H S x y vx vy Q R rx ry o => by
  unfold addRG at o
  cases e1 : lstAt S x with
  | none => rw [e1] at o; exact o.elim
  | some a =>
    cases e2 : lstAt S y with
    | none => rw [e1, e2] at o; exact o.elim
    | some b =>
      rw [e1, e2] at o
      obtain ⟨c, vs, rfl, h1, r1⟩ := lst_at R e1 rx
      obtain ⟨d, us, rfl, h2, r2⟩ := lst_at R e2 ry
      obtain ⟨hz, o⟩ := fit_po o
      exact ⟨c, d, vs, us, rfl, rfl, h1, h2, by rw [r1.length, r2.length]; exact hz, fun q hq => po_lstR o R (r1.append r2) hq⟩
variable {a b : Expr} {fa fb : Ro → Sto → Out T} {pos : Pos}
theorem d_addR (ha : DE X W a fa) (hb : DE X W b fb) : DE X W (.BinOp a .Add b pos) (bF addRG fa fb) := d_op op_cat addRG_ok ha hb
def mulRG (x y : T) (S : Sto) : Out T := match y with
  | .int k => match lstAt S x with
    | some ts => match decide (-(2 ^ 63) ≤ k ∧ k < 2 ^ 63 ∧ ts.length * k.toNat ≤ 16777216) with
      | true => .ok (.ref S.length) (S ++ [.lst (List.replicate k.toNat ts).flatten])
      | false => .no
    | none => .no
  | _ => .no
theorem mulRG_ok : OpG K mg rRep mulRG := fun W p H S x y vx vy Q R rx ry o => by
  cases y with
  | int k =>
    obtain rfl : vy = .int k := ry
    unfold mulRG at o
    cases e1 : lstAt S x with
    | none => simp only [e1] at o; exact o.elim
    | some ts =>
      simp only [e1] at o
      split at o
      · rename_i hd
        have hd := of_decide_eq_true hd
        obtain ⟨c, vs, rfl, h1, r1⟩ := lst_at R e1 rx
        exact ⟨c, k, vs, rfl, rfl, h1, hd.1, hd.2.1, by rw [r1.length, sizeLine_eq]; exact hd.2.2, fun q hq => po_lstR o R (r1.rep _) hq⟩
      · exact o.elim
  | _ => exact o.elim
theorem d_mulR (ha : DE X W a fa) (hb : DE X W b fb) : DE X W (.BinOp a .Mult b pos) (bF mulRG fa fb) := d_op op_rep mulRG_ok ha hb
/-! a comprehension's list in the store -/
def lcRF (vs : List Nat) (fi : Ro → Sto → Out (List T)) (g : T → Ro → Sto → Out Ro) (gt : Ro → Sto → Out Bool) (fe : Ro → Sto → Out T) : Ro → Sto → Out T := fun ρ S => (fi ρ S).bind fun ts S1 => (compF g gt fe (wipeT ρ vs) ts [] S1).bind fun acc S2 => .ok (.ref S2.length) (S2 ++ [.lst acc])
end
theorem d_lcAtR {K : PySem.W.Frag} {mg : Str → Option Value} {W : XW} {vs : List Nat} {g : T → Ro → Sto → Out Ro} {fi : Ro → Sto → Out (List T)} {gt : Ro → Sto → Out Bool} {fe : Ro → Sto → Out T} {σ : L2.St} {H : Hp} {Q : VK} (h : At K mg W (lcRF vs fi g gt fe) (RV K mg Q) σ H) :
    tLc (fun σ H R => At K mg W fi (RI K mg R) σ H) (fun v σ H Q => ∃ p ρ S t, RelS K mg (w0 W.tb) p H S ∧ RelE K mg (w0 W.tb) p H σ ρ ∧ Rep K mg p H t v ∧ PO K mg (w0 W.tb) p H (g t ρ S) (RGw K mg W.tb vs σ Q))
      (fun σ H Q => At K mg (w0 W.tb) gt (RB Q) σ H) (fun σ H Q => At K mg (w0 W.tb) fe (RV K mg Q) σ H) vs σ H Q := by
  refine At.bind (f := fi) (g := fun ρ ts S1 => (compF g gt fe (wipeT ρ vs) ts [] S1).bind fun acc S2 => .ok (T.ref S2.length) (S2 ++ [Ob.lst acc])) h fun ρ ts S q H1 rs re o J wk D hD => ?_
  have nn := rs.new hD
  have st0 : Stp q H1 ⟨q.mu, q.de⟩ (L2.upd H1 D (.lst [])) := Stp.upd (p := q) hD
  refine ⟨fun i m H' => m + i = ts.length ∧ ∃ mu' S' acc accv, Stp q H1 ⟨mu', q.de⟩ H' ∧ RelS K mg (w0 W.tb) ⟨mu', D :: q.de⟩ H' S' ∧ H' D = some (.lst accv) ∧ RepL K mg ⟨mu', D :: q.de⟩ H' acc accv ∧
    compF g gt fe (wipeT ρ vs) ts [] S = compF g gt fe (wipeT ρ vs) (ts.drop i) acc S', ⟨ts.length, rfl, q.mu, S, [], [], st0, rs.within hD .lst, upd_same, rfl, rfl⟩, ?_⟩
  rintro i m H' ⟨hm, mu', S', acc, accv, st, rs', hacc, ra, eq⟩
  have hDm : ∀ {mu : List Addr} {H : Hp} {S : Sto}, RelS K mg (w0 W.tb) ⟨mu, D :: q.de⟩ H S → D ∉ mu := fun r => (r.de D (by simp)).1
  by_cases hi : i < ts.length
  · refine .inr ⟨wk.go i ⟨mu', q.de⟩ H' hi st, fun H2 => ∃ mu2 S2 acc2 accv2, Stp q H1 ⟨mu2, q.de⟩ H2 ∧ RelS K mg (w0 W.tb) ⟨mu2, D :: q.de⟩ H2 S2 ∧ H2 D = some (.lst accv2) ∧ RepL K mg ⟨mu2, D :: q.de⟩ H2 acc2 accv2 ∧
      compF g gt fe (wipeT ρ vs) ts [] S = compF g gt fe (wipeT ρ vs) (ts.drop (i + 1)) acc2 S2, fun H2 h2 => ⟨m - 1, by omega, by omega, h2⟩, fun x H3 y => ?_⟩
    obtain ⟨gr, rx⟩ := wk.yld i ⟨mu', q.de⟩ H' x H3 ts[i] (List.getElem?_eq_getElem hi) st y
    have st3 := gr.stp (p := ⟨mu', D :: q.de⟩)
    have stq3 : Stp q H1 ⟨mu', q.de⟩ H3 := st.trans st3.de_free
    have rs3 := gr.rels rs'
    have rx := rx ⟨mu', D :: q.de⟩ fun t v r => Rep.into hD stq3 r
    have hacc3 := gr.at_ hacc
    have ra3 := ra.stp st3
    have re3 : RelE K mg (w0 W.tb) ⟨mu', D :: q.de⟩ H3 (wipe σ vs) (wipeT ρ vs) := ⟨(re.w0.wipe vs).len, fun i t e => (let ⟨v, e1, r⟩ := (re.w0.wipe vs).at_ i t e; ⟨v, e1, Rep.into hD stq3 r⟩), fun _ _ h => nomatch h⟩
    rw [List.drop_eq_getElem_cons hi] at eq
    have og : ∃ ρ1 S1, g ts[i] (wipeT ρ vs) S' = .ok ρ1 S1 := by
      cases e : g ts[i] (wipeT ρ vs) S' with
      | ok ρ1 S1 => exact ⟨ρ1, S1, rfl⟩
      | exc _ _ _ => rw [eq] at o; simp only [compF, e, noX, Out.bind] at o; exact o.elim
      | no => rw [eq] at o; simp only [compF, e, noX, Out.bind] at o; exact o.elim
    obtain ⟨ρ1, S1, eg⟩ := og
    refine ⟨⟨mu', D :: q.de⟩, wipeT ρ vs, S', ts[i], rs3, re3, rx, ?_⟩
    rw [eg]
    rintro ⟨mu4, de4⟩ H4 st4 rs4 σ4 re4 hw4
    obtain rfl : de4 = D :: q.de := st4.de
    rw [wipe_wipe] at hw4
    refine ⟨hw4, ⟨mu4, D :: q.de⟩, ρ1, S1, rs4, re4, ?_⟩
    have hacc4 := st4.kp D _ (hDm rs3) .lst hacc3
    have ot : ∃ b S2, gt ρ1 S1 = .ok b S2 := by
      cases e : gt ρ1 S1 with
      | ok b S2 => exact ⟨b, S2, rfl⟩
      | exc _ _ _ => rw [eq] at o; simp only [compF, eg, e, noX, Out.bind] at o; exact o.elim
      | no => rw [eq] at o; simp only [compF, eg, e, noX, Out.bind] at o; exact o.elim
    obtain ⟨b, S2, et⟩ := ot
    rw [et]
    rintro ⟨mu5, de5⟩ H5 st5 rs5
    obtain rfl : de5 = D :: q.de := st5.de
    have hacc5 := st5.kp D _ (hDm rs4) .lst hacc4
    have st35 := st4.trans st5
    have stq5 : Stp q H1 ⟨mu5, q.de⟩ H5 := stq3.trans st35.de_free
    have ra5 := ra3.stp st35
    cases b with
    | false =>
      simp only [RB, Bool.false_eq_true, if_false]
      refine ⟨mu5, S2, acc, accv, stq5, rs5, hacc5, ra5, ?_⟩
      rw [eq]; simp only [compF, eg, et, noX, Out.bind]
    | true =>
      simp only [RB, if_true]
      have oe : ∃ t S3, fe ρ1 S2 = .ok t S3 := by
        cases e : fe ρ1 S2 with
        | ok b S2 => exact ⟨b, S2, rfl⟩
        | exc _ _ _ => rw [eq] at o; simp only [compF, eg, et, e, noX, Out.bind] at o; exact o.elim
        | no => rw [eq] at o; simp only [compF, eg, et, e, noX, Out.bind] at o; exact o.elim
      obtain ⟨t, S3, ee⟩ := oe
      refine ⟨⟨mu5, D :: q.de⟩, ρ1, S2, rs5, re4.stp st5, ?_⟩
      rw [ee]
      rintro ⟨mu6, de6⟩ H6 st6 rs6 v rv
      obtain rfl : de6 = D :: q.de := st6.de
      have hacc6 := st6.kp D _ (hDm rs5) .lst hacc5
      have hf : acc.length + 1 ≤ sizeLine := by
        rw [eq] at o
        simp only [compF, eg, et, ee, noX, bind_ok] at o
        exact fit_le o
      have eq2 : compF g gt fe (wipeT ρ vs) ts [] S = compF g gt fe (wipeT ρ vs) (ts.drop (i + 1)) (acc ++ [t]) S3 := by
        rw [eq]; simp only [compF, eg, et, ee, noX, Out.bind]
        exact fit_pos (by rw [sizeLine_eq] at hf; exact hf)
      refine ⟨accv, hacc6, by have := ra5.length; omega, mu6, S3, acc ++ [t], accv ++ [v], (stq5.trans st6.de_free).own hD, rs6.grow (by simp) hacc6 soft_lst soft_lst, upd_same, ?_, eq2⟩
      exact ((ra5.stp st6).append (RepL.cons rv RepL.nil)).grow (by simp) hacc6 soft_lst
  · have e : i = ts.length := by omega
    subst e
    rw [List.drop_length] at eq
    refine .inl ⟨wk.stop ⟨mu', q.de⟩ H' st, ?_⟩
    rw [eq] at o
    have stz : Stp q H1 ⟨mu' ++ [D], q.de⟩ H' := by
      obtain ⟨ν, e1, e2⟩ := st.ext
      exact ⟨⟨ν ++ [D], by show mu' ++ [D] = q.mu ++ (ν ++ [D]); rw [show mu' = q.mu ++ ν from e1, List.append_assoc], fun b hb => (List.mem_append.mp hb).elim (e2 b) fun z => by rw [List.mem_singleton.mp z, hD]; exact fun _ z => nomatch z⟩, rfl, st.tup, st.frz, st.kp, st.al⟩
    refine (show PO K mg W q H1 (.ok (T.ref S'.length) (S' ++ [.lst acc])) (RV K mg Q) from o) ⟨mu' ++ [D], q.de⟩ H' stz (rs'.swap nn.2 ⟨accv, hacc, ra.swap⟩ (rs.pstS stz)) _ ⟨D, rfl, ?_⟩
    show (mu' ++ [D])[S'.length]? = some D
    rw [← show mu'.length = S'.length from rs'.len]; simp
section
variable {X : Cx} {W : XW}
theorem d_lcR {elt tg iter : Expr} {ifs : List Expr} {scope : Scope} {own : List (Str × Nat)} {sl : List Nat} {pos : Pos} {fi : Ro → Sto → Out (List T)} {g : T → Ro → Sto → Out Ro} {gt : Ro → Sto → Out Bool} {fe : Ro → Sto → Out T} (hc : X.calm = true) (hN : X.N.Nodup) (ok : BlkOk X.N X.env.scope scope own) (hi : DI X W tg iter fi)
    (hg : ∀ (s : Shared) (H : Hp) (C : Addr) (cl : List (Str × Addr)) (fp : List Addr), DGw (X.blk s H scope (compEnvC scope cl C X.env) fp) W.tb sl tg g) (ht : ∀ (s : Shared) (H : Hp) (C : Addr) (cl : List (Str × Addr)) (fp : List Addr), DTs (X.blk s H scope (compEnvC scope cl C X.env) fp) W.tb ifs gt)
    (he : ∀ (s : Shared) (H : Hp) (C : Addr) (cl : List (Str × Addr)) (fp : List Addr), DE (X.blk s H scope (compEnvC scope cl C X.env) fp) (w0 W.tb) elt fe) (hsl : sl = own.map (fun x => x.2) := by rfl) (hs : ∀ x, foldedSetIterable iter X.env x = pure x := by intro _; rfl) :
    DE X W (.ListComp elt [⟨tg, iter, ifs, 0⟩] scope pos) (lcRF sl fi g gt fe) := by
  subst hsl
  exact PE.imp (pe_lc (wi := fun σ H R => At X.K X.mg W fi (RI X.K X.mg R) σ H) (g := fun v σ H Q => ∃ p ρ S t, RelS X.K X.mg (w0 W.tb) p H S ∧ RelE X.K X.mg (w0 W.tb) p H σ ρ ∧ Rep X.K X.mg p H t v ∧ PO X.K X.mg (w0 W.tb) p H (g t ρ S) (RGw X.K X.mg W.tb (own.map fun x : Str × Nat => x.2) σ Q)) (tt := fun σ H Q => At X.K X.mg (w0 W.tb) gt (RB Q) σ H) (te := fun σ H Q => At X.K X.mg (w0 W.tb) fe (RV X.K X.mg Q) σ H) hc hN hi ok hg ht he hs) fun _ _ _ h => d_lcAtR h
theorem s_setLcR {i : Nat} {y : Str} {py : Pos} {elt tg iter : Expr} {ifs : List Expr} {scope : Scope} {own : List (Str × Nat)} {sl : List Nat} {pos spos : Pos} {fi : Ro → Sto → Out (List T)} {g : T → Ro → Sto → Out Ro} {gt : Ro → Sto → Out Bool} {fe : Ro → Sto → Out T} (hc : X.calm = true) (hN : X.N.Nodup) (hy : X.N[i]? = some y) (hyl : X.env.scope.names.lookup y = some .local)
    (hsw : swapsWith (.ListComp elt [⟨tg, iter, ifs, 0⟩] scope pos) (some (.Name y py)) spos.line X.env = pure true) (ok : BlkOk X.N X.env.scope scope own) (hi : DI X W tg iter fi)
    (hg : ∀ (s : Shared) (H : Hp) (C : Addr) (cl : List (Str × Addr)) (fp : List Addr), DGw (X.blk s H scope (compEnvC scope cl C X.env) fp) W.tb sl tg g) (ht : ∀ (s : Shared) (H : Hp) (C : Addr) (cl : List (Str × Addr)) (fp : List Addr), DTs (X.blk s H scope (compEnvC scope cl C X.env) fp) W.tb ifs gt)
    (he : ∀ (s : Shared) (H : Hp) (C : Addr) (cl : List (Str × Addr)) (fp : List Addr), DE (X.blk s H scope (compEnvC scope cl C X.env) fp) (w0 W.tb) elt fe) (hsl : sl = own.map (fun x => x.2) := by rfl) (hs : ∀ x, foldedSetIterable iter X.env x = pure x := by intro _; rfl) (ho : W.off i := by first | exact plW_off _ | exact off_at (by decide) | exact fun _ _ h => nomatch h | assumption) :
    DS X W (.Assign [.Name y py] (.ListComp elt [⟨tg, iter, ifs, 0⟩] scope pos) spos) (asgF (lcRF sl fi g gt fe) (gN i)) := by
  subst hsl
  refine PS.imp (ps_setLc (wi := fun σ H R => At X.K X.mg W fi (RI X.K X.mg R) σ H) (g := fun v σ H Q => ∃ p ρ S t, RelS X.K X.mg (w0 W.tb) p H S ∧ RelE X.K X.mg (w0 W.tb) p H σ ρ ∧ Rep X.K X.mg p H t v ∧ PO X.K X.mg (w0 W.tb) p H (g t ρ S) (RGw X.K X.mg W.tb (own.map fun x : Str × Nat => x.2) σ Q)) (tt := fun σ H Q => At X.K X.mg (w0 W.tb) gt (RB Q) σ H) (te := fun σ H Q => At X.K X.mg (w0 W.tb) fe (RV X.K X.mg Q) σ H) hc hN hy hyl hsw hi ok hg ht he hs) fun D σ H h => ?_
  refine d_lcAtR (W := W) (At.bind (f := lcRF (own.map (·.2)) fi g gt fe) (g := fun ρ t S1 => (gN i t ρ S1).bind fun ρ1 S2 => .ok (Fl.nx ρ1) S2) h fun ρ t S q H1 rs re o v rv => ?_)
  exact po_nx (ρ.set i (some t)) (show PO X.K X.mg W q H1 (.ok (Fl.nx (ρ.set i (some t))) S) (RD X.K X.mg W D) from o) rs (re.set rv i ho)
end
/-! ### a, b, c = x, y, z -/
def par3F (i j l : Nat) (fs : Ro → Sto → Out (List T)) : Ro → Sto → Out Fl := fun ρ S => (fs ρ S).bind fun ts S1 => match ts with
  | [a, b, c] => .ok (.nx (((ρ.set i (some a)).set j (some b)).set l (some c))) S1
  | _ => .no
theorem s_par3 {X : Cx} {W : XW} {i j l : Nat} {x y z : Str} {a b c : Expr} {fs : Ro → Sto → Out (List T)} {px py pz pt pos : Pos} {kt k2 pt2} (hc : X.calm = true) (hN : X.N.Nodup) (hi : X.N[i]? = some x) (hj : X.N[j]? = some y) (hl : X.N[l]? = some z) (hij : i ≠ j) (hil : i ≠ l) (hjl : j ≠ l)
    (hx : X.env.scope.names.lookup x = some .local) (hy : X.env.scope.names.lookup y = some .local) (hz : X.env.scope.names.lookup z = some .local) (ha : DA X W [a, b, c] fs)
    (hw : swappedStores [.Tuple [.Name x px, .Name y py, .Name z pz] kt pt] (.Tuple [a, b, c] k2 pt2) X.env = pure (some [x, y, z]))
    (hs : swapsWithSole [.Tuple [.Name x px, .Name y py, .Name z pz] kt pt] (.Tuple [a, b, c] k2 pt2) pos.line X.env = pure false := by rfl)
    (ho : W.off i := by first | exact plW_off _ | exact off_at (by decide) | exact fun _ _ h => nomatch h | assumption) (ho' : W.off j := by first | exact plW_off _ | exact off_at (by decide) | exact fun _ _ h => nomatch h | assumption) (ho'' : W.off l := by first | exact plW_off _ | exact off_at (by decide) | exact fun _ _ h => nomatch h | assumption) :
    DS X W (.Assign [.Tuple [.Name x px, .Name y py, .Name z pz] kt pt] (.Tuple [a, b, c] k2 pt2) pos) (par3F i j l fs) :=
  PS.imp (ps_par3 hc hN hi hj hl hij hil hjl hx hy hz ha hw hs) fun D σ H h => At.bind (f := fs) (g := fun ρ ts S1 => match ts with | [a, b, c] => .ok (Fl.nx (((ρ.set i (some a)).set j (some b)).set l (some c))) S1 | _ => .no) h fun ρ ts S q H1 rs re o vs rv => by
    match ts, rv, o with
    | [a, b, c], ⟨v, _, e, r1, u, _, e2, r2, w', _, e3, r3, e4⟩, o =>
      subst e e2 e3 e4
      exact ⟨v, u, w', rfl, po_nx (((ρ.set i (some a)).set j (some b)).set l (some c)) o rs (((re.set r1 i ho).set r2 j ho').set r3 l ho'')⟩
    | [], _, o => exact o.elim
    | [_], _, o => exact o.elim
    | [_, _], _, o => exact o.elim
    | _ :: _ :: _ :: _ :: _, _, o => exact o.elim
/-! ### defs as values -/
theorem FnD.mono {P : Program} {w : World} {K : PySem.W.Frag} {mg : Str → Option Value} {base : Heap} {tb : List (Addr × Str)} {x : Str} {j k n : Nat} {f : Spec} (F : FnD P w K mg tb base j x n f) (h : j ≤ k) : FnD P w K mg tb base k x n f :=
  ⟨F.ar, let ⟨a, fd, ps, h1, h2, h3, h4, h5⟩ := F.ex; ⟨a, fd, ps, h1, h2, h3, h4, h5.mono h⟩⟩
theorem d_gdef {X : Cx} {W : XW} {x : Str} {k n : Nat} {f : Spec} {tb : List (Addr × Str)} {pos : Pos} (F : FnD X.prog X.w X.K X.mg tb X.base k x n f) (hg : Gl X x := by rfl) (hd : (x == ("__debug__" : Str)) = false := by decide) : DE X W (.Name x pos) (cF (.glob x)) := by
  obtain ⟨a, fd, ps, hm, _⟩ := F.ex
  exact d_gref hg hm hd
def tbN : Str → Option Spec := fun _ => none
def tbC (x : Str) (f : Spec) (r : Str → Option Spec) : Str → Option Spec := fun y => if y = x then some f else r y
section
variable {P : Program} {w : World} {K : PySem.W.Frag} {mg : Str → Option Value} {base : Heap} {tb : List (Addr × Str)} {k : Nat}
theorem tb_nil : ∀ x f, tbN x = some f → ∃ n, FnD P w K mg tb base k x n f := fun _ _ h => nomatch h
theorem tb_cons {x : Str} {f : Spec} {r : Str → Option Spec} {j n : Nat} (F : FnD P w K mg tb base j x n f) (h : j ≤ k) (hr : ∀ x f, r x = some f → ∃ n, FnD P w K mg tb base k x n f) : ∀ y g, tbC x f r y = some g → ∃ n, FnD P w K mg tb base k y n g := fun y g e => by
  unfold tbC at e
  split at e
  · rename_i hy
    cases e
    exact ⟨n, hy ▸ F.mono h⟩
  · exact hr y g e
end
/-! ### a def told by its body alone -/
def runF (N n : Nat) (body : Ro → Sto → Out Fl) : Spec := fun ts S => match decide (ts.length = n) with
  | true => match body (startT N ts) S with
    | .ok (.rt t) S' => .ok t S'
    | .ok (.nx _) S' => .ok .non S'
    | .exc c fs S' => .exc c fs S'
    | _ => .no
  | false => .no
theorem run_fn {P : Program} {w : World} {K : PySem.W.Frag} {mg : Str → Option Value} {base : Heap} {tb : List (Addr × Str)} {x qual : Str} {st : Stmt} {a : Addr} {fd : FuncData} {N ps : List Str} {k n : Nat} (F : Fun K x qual st a fd) (S : FnScope N ps (defScope st)) (hn : ps.length = n)
    (body : Ro → Sto → Out Fl)
    (hbody : ∀ (cdv : Value) (A : Around) (outer : List Env) (s : Shared) (H : Hp) (E : XK) (J : List Addr → List Addr → Hp → Prop), fd.code = cdv → RoomG k (A.deeper (envOfC qual (defScope st) s.heap.objs.size a cdv)) →
      DSs (cxOf (L2.CX P w) P w K mg base N qual (defScope st) a cdv A outer s H E) (plW E J tb) (defBody st) body) : FnG P w K mg base (L2.CX P w) (k + 1) a fd ps (spOf K mg tb n (runF N.length n body)) := by
  obtain ⟨oc, od, kV, doc, pm, an, cdv, ct, osl, rfl, lk, hcd⟩ := F.ex
  refine fnG_of lk hcd S (fun vs H Q E h => by rw [h.1, hn]) fun A outer s H vs Q E hr h => ?_
  obtain ⟨hl, J, p, S0, ts, rs, rv, o⟩ := h
  refine ⟨_, hbody cdv A outer s H E J rfl hr, p, startT N.length ts, S0, rs, start_rel rv (fun _ _ h => nomatch h), ?_⟩
  have hts : ts.length = n := by rw [← rv.length]; exact hl
  unfold runF at o
  simp only [hts, decide_true] at o
  show PO K mg (plW E J tb) p H (body (startT N.length ts) S0) (RD K mg (plW E J tb) { nx := fun _ H' => Q .non H', rt := Q })
  cases e : body (startT N.length ts) S0 with
  | no => rw [e] at o; exact o
  | exc c fs S1 => rw [e] at o; exact o
  | ok fl S1 =>
    rw [e] at o
    cases fl with
    | nx ρ => exact fun q H' st rs' σ re => o q H' st rs' _ rfl
    | rt t => exact fun q H' st rs' v rv => o q H' st rs' v rv
    | bk ρ => exact o.elim
    | ct ρ => exact o.elim
theorem run_def {P : Program} {w : World} {K : PySem.W.Frag} {mg : Str → Option Value} {base : Heap} {tb : List (Addr × Str)} {x qual : Str} {st : Stmt} {a : Addr} {fd : FuncData} {N ps : List Str} {k n : Nat} (F : Fun K x qual st a fd) (hm : mg x = some (.ref a)) (hb : Binds K fd ps []) (S : FnScope N ps (defScope st)) (hn : ps.length = n)
    (body : Ro → Sto → Out Fl)
    (hbody : ∀ (cdv : Value) (A : Around) (outer : List Env) (s : Shared) (H : Hp) (E : XK) (J : List Addr → List Addr → Hp → Prop), fd.code = cdv → RoomG k (A.deeper (envOfC qual (defScope st) s.heap.objs.size a cdv)) →
      DSs (cxOf (L2.CX P w) P w K mg base N qual (defScope st) a cdv A outer s H E) (plW E J tb) (defBody st) body) : FnD P w K mg tb base (k + 1) x n (runF N.length n body) :=
  ⟨fun ts S h => by unfold runF; rw [decide_eq_false h], a, fd, ps, hm, F.kp, hb, hn, run_fn F S hn body hbody⟩
/-- a def that takes a callable, told by its body alone -/
def runC (N : Nat) (body : (Sto → Out T) → Ro → Sto → Out Fl) : SpecC := fun L S => match body L (startT N [.mark]) S with
  | .ok (.rt t) S' => .ok t S'
  | .ok (.nx _) S' => .ok .non S'
  | .exc c fs S' => .exc c fs S'
  | _ => .no
theorem runC_told {K : PySem.W.Frag} {mg : Str → Option Value} {N : Nat} {body : (Sto → Out T) → Ro → Sto → Out Fl} {W : XW} {p : Pl} {H : Hp} {S : Sto} {Q : VK} (L : Sto → Out T) (o : PO K mg W p H (runC N body L S) (RV K mg Q)) :
    PO K mg W p H (body L (startT N [.mark]) S) (RD K mg W { nx := fun _ H' => Q .non H', rt := Q }) := by
  unfold runC at o
  cases e : body L (startT N [.mark]) S with
  | no => rw [e] at o; exact o
  | exc c fs S1 => rw [e] at o; exact o
  | ok fl S1 =>
    rw [e] at o
    cases fl with
    | nx ρ => exact fun q H' st rs' σ re => o q H' st rs' _ rfl
    | rt t => exact fun q H' st rs' v rv => o q H' st rs' v rv
    | bk ρ => exact o.elim
    | ct ρ => exact o.elim
end Mi


set_option Elab.async false
set_option linter.all false
set_option maxRecDepth 100000
set_option maxHeartbeats 1000000
namespace Mi
open PySem PySem.Spec PyProof.Rows L2
/-! ### own errors as values -/
section
variable {X : Cx}
/-- x(e, ..) as a value, its __init__ lays fields -/
def tMkV (C : Addr) (sp : Sp) (ta : TA) : TE := fun σ H Q => ta σ H fun vs H1 => vs.length ≤ 1000 ∧ ∀ a, H1 a = none → sp (.ref a :: vs) (upd H1 a (exo a C none)) (fun v H2 => v = .non ∧ Q (.ref a) H2) (fun _ _ _ => False)
theorem pe_oexV {CX : CXT} {x : Str} {C fI : Addr} {k : Nat} {fd : FuncData} {ps : List Str} {sp : Sp} {e : Expr} {es : List Expr} {ta : TA} {p pos : Pos} (T : OexC X.K C) (iC : PySem.W.findIn X.K (.ref C) "__init__" = some (some (.ref fI))) (tI : PySem.W.typeIn X.K (.ref fI) = some (.type "function"))
    (F1 : FnOk X.prog X.w X.K X.mg X.base CX k fI fd ps sp) (hr : Room (k + 1) X.A) (hb : Binds X.K fd ps []) (hx : Passes CX X (fun _ _ _ => False)) (hg : Gl X x) (hm : X.mg x = some (.ref C)) (ha : PA X (e :: es) ta)
    (hdb : (x == ("__debug__" : Str)) = false := by decide) (he : starEach (e :: es) X.env = (false, eval e X.env) :: starEach es X.env := by rfl) (hpl : (backTo pos (starEach es X.env)).any (·.1) = false := by rfl) :
    PE X (.Call (.Name x p) (e :: es) [] pos) (tMkV C sp ta) := by
  refine ⟨fun pins s σ H Q I h => ?_⟩
  obtain ⟨nm, q, N, bs, bm, sn, sub, ab, col, dd, k0, k1, k2, k3, k5, hC, hbm⟩ := T.cls
  refine wpAny_Call_Name_kw (ld_glob I hg hm ?_ hdb)
  refine PySem.W.callWith_K (h₀ := X.base) I.ok.mod.kin T.kC (thn (ha.run pos pins s σ H _ I h) fun us s1 ⟨vs, H1, I1, r1, hz, q1⟩ => ⟨I1.kIn, ?_⟩) he hpl
  show wpAny _ _ (call (.ref C) us) _ _ _
  obtain ⟨hp, g, dr, tk, os⟩ := s1
  have hsz : hp.objs.size ≤ hp.objs.size + 1 := Nat.le_succ _
  have hn : H1 (hp.objs.size + 1) = none := I1.hok.fresh hsz
  have hq := q1 (hp.objs.size + 1) hn
  have kk : ∀ b o, hp.get? b = some o → ((hp.push (PySem.W.kdv_tup us)).push (PySem.HandSPX.excO C hp.objs.size)).get? b = some o := fun b o e => Heap.get?_push_of_some _ (Heap.get?_push_of_some _ e)
  have hget : ((hp.push (PySem.W.kdv_tup us)).push (PySem.HandSPX.excO C hp.objs.size)).get? (hp.objs.size + 1) = some (PySem.HandSPX.excO C hp.objs.size) := by heap_get
  have I2 : Inv X pins σ (upd H1 (hp.objs.size + 1) (exo (hp.objs.size + 1) C none)) ⟨(hp.push (PySem.W.kdv_tup us)).push (PySem.HandSPX.excO C hp.objs.size), g, dr, tk, os⟩ :=
    I1.laid (t' := tk) (a := hp.objs.size + 1) (o := exo (hp.objs.size + 1) C none) (h' := (hp.push (PySem.W.kdv_tup us)).push (PySem.HandSPX.excO C hp.objs.size)) kk hsz (exo_ok hget)
  have r2 : Vals (V.ref (hp.objs.size + 1) :: vs) (Value.ref (hp.objs.size + 1) :: us) := .cons rfl r1
  have hl : (Value.ref (hp.objs.size + 1) :: us ++ []).length = ps.length := by
    rw [List.append_nil]
    have e := r2.length
    rw [F1.len _ _ _ _ hq] at e
    exact e.symm
  have hus : us.length ≤ sizeLine := by
    rw [← Paired.length r1, sizeLine_eq]
    omega
  refine wpAny_call (PySem.HandSPX.call_own F.excBase_ValueError (fun Y => PySem.HandSPX.refsVE_contains Y bm hbm) (I1.kIn _ _ hC) (PySem.W.looks_findIn I1.kIn iC) (fun self => PySem.W.bind_fn I1.kIn self tI) hus
    (codeAny_mono (F1.run _ X.stack _ _ ⟨Value.ref (hp.objs.size + 1) :: us, []⟩ (Value.ref (hp.objs.size + 1) :: us) _ _ (fun _ _ _ => False) (hr.make C us []) (I2.env0.make C us []) (by have := hb _ (Value.ref (hp.objs.size + 1) :: us) I2.kIn hl; rwa [List.append_nil] at this) r2 hq) fun r s' hq' => ?_))
  cases r with
  | error er => exact hx pins σ _ _ er s' I2 hq'
  | ok fl =>
    cases fl with
    | ret u =>
      obtain ⟨v, H2, os2, bare2, un2, hok2, rv, ev, q2⟩ := hq'
      subst ev
      exact ⟨rv, .ref (hp.objs.size + 1), H2, I2.call' (ch := []) os2 un2 hok2 bare2 (fun b z => absurd z (by simp)), rfl, q2⟩
    | next => exact False.elim hq'
    | brk => exact False.elim hq'
    | cont => exact False.elim hq'
/-- x(), a class without an __init__ -/
theorem pe_oex0 {C : Addr} {bmB : List Value} {B newId initId : String} {x : Str} {p pos : Pos} (F : ExcBaseFacts B newId initId bmB) (q : PySem.W.excIn X.K C bmB newId = true) (gC : X.mg x = some (.ref C)) (kC : PySem.W.keepIn X.K (.ref C) = true) (hg : Gl X x) (hdb : (x == ("__debug__" : Str)) = false := by decide) :
    PE X (.Call (.Name x p) [] [] pos) (fun σ H Q => ∀ a, H a = none → Q (.ref a) (upd H a (exo a C none))) := by
  refine ⟨fun pins s σ H Q I h => ?_⟩
  refine wpAny_Call_Name_kw (ld_glob I hg gC ?_ hdb)
  refine PySem.W.callWith_K0 I.kIn kC ?_
  show wpAny _ _ (call (.ref C) []) _ _ _
  obtain ⟨bm, N, nm, qn, bs, hdct, sn, sub, ab, col, dd, k0, k1, k2, k3, k5, mN, hC, hN, hni, T⟩ := exc_obj I.kIn q
  refine wpAny_call_exc_subT F T hC hN hni (fun h' a hm => ?_) (by show 0 ≤ sizeLine; omega)
  have hn : H a = none := I.hok.gone hm.new
  obtain ⟨t, ht, _, _⟩ := hm.there
  exact ⟨.ref a, upd H a (exo a C none), I.laidN hm.keeps hm.new hn (exo_ok ht), rfl, h a hn⟩
/-- e.f, e an error that is a value -/
def tXv (K : PySem.W.Frag) (f : Str) (te : TE) : TE := fun σ H Q => te σ H fun x H1 => ∃ (a C dx : Addr) (fs : List (Str × V)) (v : V), x = .ref a ∧ XfC K C ∧ PySem.W.findIn K (.ref C) f = some none ∧ H1 a = some (exo a C (some dx)) ∧ H1 dx = some (exd dx fs) ∧ fs.lookup f = some v ∧ Q v H1
theorem pe_xv {e : Expr} {te : TE} {pos : Pos} {n : Str} (he : PE X e te) (hb : attributeBase e n X.env (eval e X.env) = eval e X.env := by rfl) : PE X (.Attribute e n pos) (tXv X.K n te) := by
  refine ⟨fun pins s σ H Q I h => ?_⟩
  refine attr_of hb (thn (he.run pins s σ H _ I h) fun u s1 hh => ?_)
  obtain ⟨x, H1, I1, rx, a, C, dx, fs, v, ex, T, hno, ea, ed, l, q⟩ := hh
  subst ex
  obtain rfl : u = Value.ref a := rx
  obtain ⟨t1, ha⟩ := exo_at I1.hok ea
  obtain ⟨mA, hns, hr⟩ := exd_at I1.hok ed
  obtain ⟨od, ho, hl⟩ := lookIn_ns hns
  obtain ⟨u, hu, ru⟩ := RelO.some_of (v := v) (o := mA n) (by rw [← l]; exact hr n)
  have J : PySem.W.InstAt s1.heap a _ C (some od) := ⟨ha, rfl, rfl, ho⟩
  exact HandSPX.exc_get I1.kIn J T.ga T.gg T.exC (PySem.W.findObj_own T.hdC hno rfl (by rw [hl, hu])) (handed_of ru) ⟨v, H1, I1.tok _, ru, q⟩
/-- isinstance(e, c), e an error that is a value -/
def rIsV (K : PySem.W.Frag) : List V → Hp → VK → Prop := fun xs H Q => ∃ (a C : Addr) (d : Option Addr) (c : V) (cv : Value) (b : Bool), xs = [.ref a, c] ∧ ExcC K C ∧ H a = some (exo a C d) ∧ (∀ dx, d = some dx → ∃ fs, H dx = some (exd dx fs)) ∧ (∀ u, RelV c u → u = cv) ∧ PySem.W.kitOne K (.ref C) cv = some b ∧ Q (.bl b) H
theorem call_isV : CallR X (.builtin "isinstance") (rIsV X.K) := by
  intro pins s σ H xs us Q I r h
  obtain ⟨a, C, d, c, cv, b, rfl, T, ea, ed, hcv, e, q⟩ := h
  cases r with
  | cons rx rr =>
    cases rr with
    | cons rt rr =>
      cases rr
      cases rx
      have ec := hcv _ rt
      subst ec
      obtain ⟨t1, ha⟩ := exo_at I.hok ea
      have hcl : (PySem.W.clsIn X.K C).isSome = true := by
        obtain ⟨cd, hc, _⟩ := PySem.W.any_some T.hd
        rw [hc]; rfl
      cases d with
      | none =>
        have J : PySem.W.InstAt s.heap a _ C none := ⟨ha, rfl, rfl, trivial⟩
        exact PySem.W.kia_one (PySem.W.kitx_exc hcl T.hg T.hk T.hs T.ha T.hn T.ht T.hm) I.kIn J e (fun z => nomatch z) fun tk => ⟨.bl b, H, I.kept (t' := tk) fun _ _ z => z, rfl, q⟩
      | some dx =>
        obtain ⟨fs, ed⟩ := ed dx rfl
        obtain ⟨mA, hns, hr⟩ := exd_at I.hok ed
        obtain ⟨od, ho, hl⟩ := lookIn_ns hns
        have J : PySem.W.InstAt s.heap a _ C (some od) := ⟨ha, rfl, rfl, ho⟩
        exact PySem.W.kia_one (PySem.W.kitx_exc hcl T.hg T.hk T.hs T.ha T.hn T.ht T.hm) I.kIn J e (fun z => nomatch z) fun tk => ⟨.bl b, H, I.kept (t' := tk) fun _ _ z => z, rfl, q⟩
end
/-! ### over trees -/
/-- what the head says of the error classes that are values: the fields, isinstance by name of class, by built-in class -/
structure ErrV (K : PySem.W.Frag) (mg : Str → Option Value) (ct : Str → Option (List Str)) (si : Str → Str → Option Bool) (st : Str → String → Option Bool) : Prop where
  at_ : ∀ c ks C, ct c = some ks → mg c = some (.ref C) → XfC K C ∧ ExcC K C ∧ ∀ f ∈ ks, PySem.W.findIn K (.ref C) f = some none
  own : ∀ c d C D b, si c d = some b → (ct c).isSome = true → mg c = some (.ref C) → mg d = some (.ref D) → PySem.W.kitOne K (.ref C) (.ref D) = some b
  ty : ∀ c d C b, st c d = some b → (ct c).isSome = true → mg c = some (.ref C) → PySem.W.kitOne K (.ref C) (.type d) = some b
def exnF (x : Str) (ks : List Str) (fs : Ro → Sto → Out (List T)) : Ro → Sto → Out T := fun ρ S => (fs ρ S).bind fun ts S1 => match decide (ts.length = ks.length) with
  | true => .ok (.exn x ks.reverse ts.reverse) S1
  | false => .no
theorem zip_rev {α β : Type} : ∀ {ks : List α} {vs : List β}, ks.length = vs.length → (ks.zip vs).reverse = ks.reverse.zip vs.reverse := fun {ks vs} h => by
  induction ks generalizing vs with
  | nil => cases vs <;> simp_all
  | cons k ks ih =>
    cases vs with
    | nil => simp at h
    | cons v vs =>
      simp only [List.length_cons, Nat.add_right_cancel_iff] at h
      rw [List.zip_cons_cons, List.reverse_cons, ih h, List.reverse_cons, List.reverse_cons, List.zip_append (by simp [h])]
      rfl
section
variable {X : Cx} {W : XW} {e : Expr} {es : List Expr} {fs : Ro → Sto → Out (List T)} {fe : Ro → Sto → Out T} {x : Str} {ks : List Str} {p pos : Pos}
theorem d_newE (E : ErrC X.prog X.w X.K X.mg X.base x ks) (hr : RoomG 2 X.A) (ha : DA X W (e :: es) fs) (hg : Gl X x := by rfl) (hdb : (x == ("__debug__" : Str)) = false := by decide)
    (he : starEach (e :: es) X.env = (false, eval e X.env) :: starEach es X.env := by rfl) (hpl : (backTo pos (starEach es X.env)).any (·.1) = false := by rfl) : DE X W (.Call (.Name x p) (e :: es) [] pos) (exnF x ks fs) := by
  obtain ⟨C, fI, fd, ps, hm, O, iC, tI, F1, hb, hf, hl⟩ := E.ex
  refine PE.imp (pe_oexV O iC tI F1 hr.room hb passL hg hm ha hdb he hpl) fun σ H Q h => ?_
  refine At.bind (f := fs) (g := fun _ ts S1 => match decide (ts.length = ks.length) with | true => (Out.ok (T.exn x ks.reverse ts.reverse) S1 : Out T) | false => .no) h fun ρ ts S q H1 rs re o vs rv => ?_
  by_cases hn : ts.length = ks.length
  · simp only [hn, decide_true] at o
    refine ⟨by rw [rv.length, hn]; omega, fun a na => ?_⟩
    refine ⟨a, C, vs, rfl, by rw [rv.length, hn], O, hf, upd_same, fun dx H2 h1 h2 h3 h4 h5 => ⟨rfl, ?_⟩⟩
    rw [upd_ne h2] at h1
    have eH : H2 = upd (upd H1 dx (exd dx (ks.zip vs).reverse)) a (exo a C (some dx)) := by
      funext b
      by_cases hb : b = a
      · subst hb; rw [h3, upd_same]
      · by_cases hb2 : b = dx
        · subst hb2; rw [h4, upd_ne hb, upd_same]
        · rw [h5 b hb hb2, upd_ne hb, upd_ne hb, upd_ne hb2]
    have na2 : upd H1 dx (exd dx (ks.zip vs).reverse) a = none := by rw [upd_ne (Ne.symm h2)]; exact na
    have s1 : Stp q H1 q (upd H1 dx (exd dx (ks.zip vs).reverse)) := Stp.upd h1
    have s2 : Stp q (upd H1 dx (exd dx (ks.zip vs).reverse)) q H2 := by rw [eH]; exact Stp.upd na2
    have r2 : RelS X.K X.mg W q H2 S := by rw [eH]; exact (rs.upd h1).upd na2
    refine o.of (s1.trans s2) r2 (.ref a) ⟨a, C, some dx, vs.reverse, rfl, hm, h3, (rs.new na).1, (rs.new na).2, (rv.rev).stp (s1.trans s2), ?_⟩
    refine ⟨?_, (rs.new h1).1, (rs.new h1).2⟩
    rw [h4, zip_rev (by rw [rv.length, hn])]
  · simp only [hn, decide_false] at o
    exact o.elim
theorem d_newE0 {C : Addr} {bmB : List Value} {B newId initId : String} (F : ExcBaseFacts B newId initId bmB) (q : PySem.W.excIn X.K C bmB newId = true) (gC : X.mg x = some (.ref C)) (kC : PySem.W.keepIn X.K (.ref C) = true) (hg : Gl X x := by rfl) (hdb : (x == ("__debug__" : Str)) = false := by decide) :
    DE X W (.Call (.Name x p) [] [] pos) (cF (.exn x [] [])) := by
  refine PE.imp (pe_oex0 F q gC kC hg hdb) fun σ H Q ⟨p, ρ, S, rs, re, o⟩ a na => ?_
  exact PO.of (show PO X.K X.mg W p H (.ok (.exn x [] []) S) (RV X.K X.mg Q) from o) (Stp.upd na) (rs.upd na) (.ref a) ⟨a, C, none, [], rfl, gC, upd_same, (rs.new na).1, (rs.new na).2, rfl, rfl⟩
/-- e.f -/
def eatG (ct : Str → Option (List Str)) (f : Str) : T → Sto → Out T := fun t S => match t with
  | .exn c ks ts => match ct c with
    | some fs => match fs.contains f with
      | true => match (ks.zip ts).lookup f with
        | some t => .ok t S
        | none => .no
      | false => .no
    | none => .no
  | _ => .no
theorem RepL.zlook {K : PySem.W.Frag} {mg : Str → Option Value} {p : Pl} {H : Hp} {f : Str} {t : T} : ∀ {ks : List Str} {ts : List T} {vs : List V}, RepL K mg p H ts vs → (ks.zip ts).lookup f = some t → ∃ v, (ks.zip vs).lookup f = some v ∧ Rep K mg p H t v
  | [], _, _, _, e => by cases e
  | _ :: _, [], _, _, e => by cases e
  | k :: ks, t :: ts, _, h, e => by
    obtain ⟨v, r, rfl, h1, h2⟩ := h
    rw [List.zip_cons_cons, List.lookup] at e ⊢
    cases q : f == k with
    | true => rw [q] at e; simp only at e ⊢; cases e; exact ⟨v, rfl, h1⟩
    | false => rw [q] at e; simp only at e ⊢; exact RepL.zlook h2 e
theorem d_eat {ct : Str → Option (List Str)} {si : Str → Str → Option Bool} {st : Str → String → Option Bool} {f : Str} (Φ : ErrV X.K X.mg ct si st) (he : DE X W e fe) (hb : attributeBase e f X.env (eval e X.env) = eval e X.env := by rfl) : DE X W (.Attribute e f pos) (uF (eatG ct f) fe) :=
  PE.imp (pe_xv he hb) fun σ H Q h => At.bind (g := fun _ => eatG ct f) h fun ρ t S q H1 rs re o v rv => by
    cases t with
    | exn c ks ts =>
      obtain ⟨a, C, d, vs, rfl, h1, h2, h3, h4, h5, h6⟩ := rv
      unfold eatG at o
      simp only at o
      cases ec : ct c with
      | none => rw [ec] at o; exact o.elim
      | some fs =>
        rw [ec] at o
        simp only at o
        cases ef : fs.contains f with
        | false => rw [ef] at o; exact o.elim
        | true =>
          rw [ef] at o
          simp only at o
          cases el : (ks.zip ts).lookup f with
          | none => rw [el] at o; exact o.elim
          | some t =>
            rw [el] at o
            simp only at o
            obtain ⟨T1, T2, T3⟩ := Φ.at_ c fs C ec h1
            obtain ⟨v, e1, r1⟩ := h5.zlook el
            cases d with
            | none =>
              have : ks = [] := h6
              subst this
              cases el
            | some dx => exact ⟨a, C, dx, _, v, rfl, T1, T3 f (List.contains_iff_mem.mp ef), h2, h6.1, e1, po_val t o rs r1⟩
    | _ => exact o.elim
/-- isinstance(e, C) of an error -/
def isvG (ct : Str → Option (List Str)) (si : Str → Str → Option Bool) (st : Str → String → Option Bool) : List T → Sto → Out T := fun ts S => match ts with
  | [.exn c _ _, .glob d] => match (ct c).isSome, si c d with
    | true, some b => .ok (.bl b) S
    | _, _ => .no
  | [.exn c _ _, .ty d] => match (ct c).isSome, st c d with
    | true, some b => .ok (.bl b) S
    | _, _ => .no
  | _ => .no
theorem exnD_exd {p : Pl} {H : Hp} {d : Option Addr} {ks : List Str} {vs : List V} (h : ExnD p H d ks vs) : ∀ dx, d = some dx → ∃ fs, H dx = some (exd dx fs) := fun dx e => by
  subst e
  exact ⟨_, h.1⟩
theorem isvG_ok {K : PySem.W.Frag} {mg : Str → Option Value} {ct : Str → Option (List Str)} {si : Str → Str → Option Bool} {st : Str → String → Option Bool} (Φ : ErrV K mg ct si st) : CallG K mg (rIsV K) (isvG ct si st) := fun W p H S ts vs Q R r o => by
  unfold isvG at o
  split at o
  · rename_i c ks us d
    split at o
    · rename_i b e1 e2
      obtain ⟨v, u, rfl, rv, ru⟩ := r.two
      obtain ⟨a, C, dd, ws, rfl, h1, h2, h3, h4, h5, h6⟩ := rv
      obtain ⟨D, rfl, h7⟩ := ru
      obtain ⟨ks0, e3⟩ := Option.isSome_iff_exists.mp e1
      exact ⟨a, C, dd, .ref D, .ref D, b, rfl, (Φ.at_ c ks0 C e3 h1).2.1, h2, exnD_exd h6, fun u hu => hu, Φ.own c d C D b e2 e1 h1 h7, po_val (.bl b) o R rfl⟩
    · exact o.elim
  · rename_i c ks us d
    split at o
    · rename_i b e1 e2
      obtain ⟨v, u, rfl, rv, ru⟩ := r.two
      obtain ⟨a, C, dd, ws, rfl, h1, h2, h3, h4, h5, h6⟩ := rv
      obtain rfl : u = .ty d := ru
      obtain ⟨ks0, e3⟩ := Option.isSome_iff_exists.mp e1
      exact ⟨a, C, dd, .ty d, .type d, b, rfl, (Φ.at_ c ks0 C e3 h1).2.1, h2, exnD_exd h6, fun u hu => hu, Φ.ty c d C b e2 e1 h1, po_val (.bl b) o R rfl⟩
    · exact o.elim
  · exact o.elim
end
theorem d_glo {X : Cx} {W : XW} {x : Str} {pos : Pos} (h : ∃ C, X.mg x = some (.ref C)) (hg : Gl X x := by rfl) (hd : (x == ("__debug__" : Str)) = false := by decide) : DE X W (.Name x pos) (cF (.glob x)) := by
  obtain ⟨C, hm⟩ := h
  exact d_gref hg hm hd
theorem d_newE1 {X : Cx} {W : XW} {x : Str} {p pos : Pos} (h : ∃ C, X.mg x = some (.ref C) ∧ PySem.W.excIn X.K C He.veBase "ValueError.__new__" = true ∧ PySem.W.keepIn X.K (.ref C) = true) (hg : Gl X x := by rfl) (hdb : (x == ("__debug__" : Str)) = false := by decide) :
    DE X W (.Call (.Name x p) [] [] pos) (cF (.exn x [] [])) := by
  obtain ⟨C, gC, q, kC⟩ := h
  exact d_newE0 F.excBase_ValueError q gC kC hg hdb
theorem PySem_boot_ValueError : bootBuiltins "ValueError" = some (.type "ValueError") := by decide +kernel
/-! ### the head's facts -/
def excB (K : PySem.W.Frag) (D : Addr) : Bool := decide (PySem.W.findIn K (.ref D) "__class__" = some (some (.builtin "object.__class__"))) && (decide (PySem.W.specialIn K (.builtin "object.__class__") "__get__" = some (some (.builtin "getset_descriptor.__get__"))) && (decide (PySem.W.takesIn K (.builtin "object.__class__") = some true) && decide (PySem.W.mroIn K D (.type "object") = some true)))
theorem excB_ok {K : PySem.W.Frag} {D : Addr} (h : excB K D = true) (T : XfC K D) : ExcC K D := by
  unfold excB at h
  simp only [Bool.and_eq_true, decide_eq_true_eq] at h
  obtain ⟨h1, h2, h3, h4⟩ := h
  exact ⟨T.ga, T.gg, T.exC, T.hdC, h1, h2, h3, h4⟩
def errVB (K : PySem.W.Frag) (x : Str × List Str) : Bool := xfB K (He.ga K x.1) && (excB K (He.ga K x.1) && x.2.all (fun f => decide (PySem.W.findIn K (.ref (He.ga K x.1)) f = some none)))
theorem errV_of {K : PySem.W.Frag} {mg : Str → Option Value} {cl : List (Str × List Str)} {sl : List (Str × Str × Bool)} {tl : List (Str × String × Bool)} (h : (cl.all (errVB K)) = true) (h2 : (sl.all fun x => decide (PySem.W.kitOne K (.ref (He.ga K x.1)) (.ref (He.ga K x.2.1)) = some x.2.2)) = true)
    (h3 : (tl.all fun x => decide (PySem.W.kitOne K (.ref (He.ga K x.1)) (.type x.2.1) = some x.2.2)) = true)
    (g1 : ∀ x ∈ cl, mg x.1 = some (.ref (He.ga K x.1))) (g2 : ∀ x ∈ sl, mg x.1 = some (.ref (He.ga K x.1)) ∧ mg x.2.1 = some (.ref (He.ga K x.2.1))) (g3 : ∀ x ∈ tl, mg x.1 = some (.ref (He.ga K x.1))) :
    ErrV K mg (fun c => cl.lookup c) (fun c h => (sl.find? fun x => x.1 == c && x.2.1 == h).map fun x => x.2.2) (fun c h => (tl.find? fun x => x.1 == c && x.2.1 == h).map fun x => x.2.2) := by
  refine ⟨fun c ks C e hm => ?_, fun c d C D b e hs hc hd => ?_, fun c d C b e hs hc => ?_⟩
  · have hmem := PySem.mem_of_lookup e
    have q := List.all_eq_true.mp h _ hmem
    rw [g1 _ hmem] at hm
    cases hm
    unfold errVB at q
    simp only [Bool.and_eq_true, decide_eq_true_eq, List.all_eq_true] at q
    have T := xfB_ok q.1
    exact ⟨T, excB_ok q.2.1 T, q.2.2⟩
  · obtain ⟨x, hx, rfl⟩ := Option.map_eq_some_iff.mp e
    have hmem := List.mem_of_find?_eq_some hx
    have hp := List.find?_some hx
    simp only [Bool.and_eq_true, beq_iff_eq] at hp
    obtain ⟨rfl, rfl⟩ := hp
    obtain ⟨q1, q2⟩ := g2 _ hmem
    rw [q1] at hc
    rw [q2] at hd
    cases hc
    cases hd
    exact of_decide_eq_true (List.all_eq_true.mp h2 _ hmem)
  · obtain ⟨x, hx, rfl⟩ := Option.map_eq_some_iff.mp e
    have hmem := List.mem_of_find?_eq_some hx
    have hp := List.find?_some hx
    simp only [Bool.and_eq_true, beq_iff_eq] at hp
    obtain ⟨rfl, rfl⟩ := hp
    have q1 := g3 _ hmem
    rw [q1] at hc
    cases hc
    exact of_decide_eq_true (List.all_eq_true.mp h3 _ hmem)
end Mi


set_option Elab.async false
set_option linter.all false
set_option maxRecDepth 100000
set_option maxHeartbeats 2000000
namespace Mi
open PySem PySem.Spec PyProof.Rows L2
/-! ### the end: the law's call, its own guards known -/
/-- nothing is told but the tables and frozen lists -/
def Only' (cs : List (Addr × Addr)) (H : Hp) : Prop := ∀ b, H b = none ∨ b ∈ cs.map (·.2) ∨ ∃ o xs, H b = some (.frz o (.lst xs))
theorem law_callG {P : Program} {w : World} {K : PySem.W.Frag} {mg mb : Str → Option Value} {CX : CXT} {k : Nat} {fa a : Addr} {cs : List (Addr × Addr)} {fd : FuncData} {x : Str} {sp : Sp} {s₁ : Shared} {vs : List Value} {ns : List Int}
    (KX : K.In s₁.heap) (hns : s₁.heap.Ns mainGlobals mg) (hb : s₁.heap.Ns builtinsNs mb) (hbb : ∀ x : Str, x ≠ "__name__" → mb x = bootBuiltins x) (hlim : s₁.heap.NoLimit) (hg : s₁.gens = #[])
    (hT : ∀ p ∈ cs, s₁.heap.get? p.2 = some { cls := .none, data := .fields #[] }) (nT : ∀ p ∈ cs, K.lookup p.2 = none) (C : ∀ p ∈ cs, PySem.W.CodeHd s₁.heap p.1 p.2)
    (hbm : ∃ (bm : Addr) (ob : Obj), mg "__builtins__" = some (.ref bm) ∧ bm ≠ builtinsNs ∧ s₁.heap.get? bm = some ob ∧ ob.cls = .type "module" ∧ ob.dict = some builtinsNs ∧ ob.data = .plain)
    (ha : s₁.heap.get? a = some { cls := .type "list", data := .seq vs.toArray }) (hi : IntsAre vs ns) (hl : ns.length ≤ sizeLine) (hr : RoomG k callerA)
    (F : ∀ base : Heap, K.In base → base.Ns mainGlobals mg → (∀ p ∈ cs, LamX.TabB base mg p.1 p.2) → FnG P w K mg base CX k fa fd [x] sp) (hbind : ∀ (s : Shared) (u : Value), BindsTo s fd ⟨[u], []⟩ [(x, u)])
    (hsp : ∀ H : Hp, (∀ p ∈ cs, H p.2 = some (.tbl #[])) → Only' cs H → SqL K H a (ns.map V.int) → sp [.ref a] H (fun v _ => v = .bl true) fun _ _ _ => False)
    (hCX : ∀ H e s', CX [] H s₁ (fun _ _ _ => False) e s' → False) :
    codeAny (model P w) callerA (.call (.ref fa) ⟨[.ref a], []⟩) (fun r s' => r = .ok (.ret (.bool true)) ∧ OldK s₁.heap s'.heap ∧ s'.os = s₁.os ∧ AllBare s'.gens) s₁ := by
  have rv := vals_ints hi
  have lenV := hi.length
  have isT : ∀ b : Addr, b ∈ cs.map (·.2) → s₁.heap.get? b = some { cls := .none, data := .fields #[] } := fun b hb => by
    obtain ⟨p, hp, e⟩ := List.mem_map.mp hb
    rw [← e]
    exact hT p hp
  have aT : a ∉ cs.map (·.2) := fun z => by
    have q := isT a z
    rw [ha] at q
    have z' : Data.seq vs.toArray _ = Data.fields #[] := congrArg Obj.data (Option.some.inj q)
    cases z'
  have memT : ∀ p ∈ cs, p.2 ∈ cs.map (·.2) := fun p hp => List.mem_map.mpr ⟨p, hp, rfl⟩
  have core : ∀ H : Hp, (∀ p ∈ cs, H p.2 = some (.tbl #[])) → (∀ b, H b = none ∨ b ∈ cs.map (·.2) ∨ ∃ o xs, H b = some (.frz o (.lst xs))) → SqL K H a (ns.map V.int) → HOk P w H s₁.heap → (∀ b, H b ≠ none → b = a ∨ b ∈ cs.map (·.2)) → (H a ≠ none → K.lookup a = none) →
      codeAny (model P w) callerA (.call (.ref fa) ⟨[.ref a], []⟩) (fun r s' => r = .ok (.ret (.bool true)) ∧ OldK s₁.heap s'.heap ∧ s'.os = s₁.os ∧ AllBare s'.gens) s₁ := by
    intro H hH hO hS hok hA hK
    have base_of : ∀ {b : Addr} {o : Obj}, s₁.heap.get? b = some o → H b = none → (hidT s₁.heap H).get? b = some o := fun e n => hidT_get e n
    have noD : ∀ {b : Addr} {o : Obj}, s₁.heap.get? b = some o → (∀ vs n, o.data ≠ .seq vs n) → o.data ≠ .fields #[] → H b = none := fun {b o} e h1 h2 => by
      cases q : H b with
      | none => rfl
      | some u =>
        rcases hA b (by rw [q]; simp) with e' | e'
        · rw [e', ha] at e
          cases e
          exact (h1 _ _ rfl).elim
        · rw [isT b e'] at e
          cases e
          exact (h2 rfl).elim
    have noA : ∀ {b : Addr} {o : Obj} {es : Array DictEntry} {ep : Nat}, s₁.heap.get? b = some o → o.data = .dict es ep → H b = none := fun {b o es ep} e d => by
      refine noD e (fun vs n z => ?_) fun z => ?_
      · rw [d] at z
        cases z
      · rw [d] at z
        cases z
    have nsK : ∀ {b : Addr} {m : Str → Option Value}, s₁.heap.Ns b m → (hidT s₁.heap H).Ns b m := fun {b m} ⟨o, es, ep, e, d, r⟩ => ⟨o, es, ep, base_of e (noA e d), d, r⟩
    have hKb : K.In (hidT s₁.heap H) := fun b o e => base_of (KX b o e) (by
      cases q : H b with
      | none => rfl
      | some u =>
        rcases hA b (by rw [q]; simp) with e' | e'
        · rw [e'] at e q
          rw [hK (by rw [q]; simp)] at e
          cases e
        · obtain ⟨p, hp, ep⟩ := List.mem_map.mp e'
          rw [← ep, nT p hp] at e
          cases e)
    have hM : L2.Mod K mg (hidT s₁.heap H) := ⟨hKb, nsK hns, ⟨mb, nsK hb, hbb⟩, let ⟨mc, h1, h2⟩ := hlim; ⟨mc, nsK h1, h2⟩⟩
    have TB : ∀ p ∈ cs, LamX.TabB (hidT s₁.heap H) mg p.1 p.2 := fun p hp => by
      have hTp := hT p hp
      refine ⟨?_, ?_, fun z => ?_⟩
      · obtain ⟨o, us, file, tf, flags, tg, inF, text, tt, e1, r1, r2, r3, r4, r5, r6, r7, r8, hne⟩ := C p hp
        refine ⟨o, us, file, tf, flags, tg, inF, text, tt, base_of e1 (noD e1 (fun vs n z => ?_) fun z => ?_), r1, r2, r3, r4, r5, r6, r7, r8, hne⟩
        · rw [r2] at z
          cases z
        · rw [r2] at z
          cases z
          simp at r3
      · obtain ⟨bm, ob, b1, b2, b3, b4, b5, b6⟩ := hbm
        have nG : bm ≠ mainGlobals := fun q => by
          obtain ⟨o, es, ep, e, hd, _⟩ := hns
          rw [q, e] at b3
          cases b3
          rw [hd] at b6
          cases b6
        have nP : bm ≠ p.2 := fun q => by
          rw [q, hTp] at b3
          cases b3
          cases b6
        refine ⟨bm, ob, b1, b2, nG, nP, base_of b3 (noD b3 (fun vs n z => ?_) fun z => ?_), b4, b5, b6⟩
        · rw [b6] at z
          cases z
        · rw [b6] at z
          cases z
      · obtain ⟨o, es, ep, e, hd, _⟩ := hns
        rw [z, hTp] at e
        cases e
        cases hd
    have e0 : Env0 P w K mg (hidT s₁.heap H) callerA [] s₁ H := ⟨rfl, hM, fun b o e => of_hidT e, Nat.le_of_eq (hidT_size _ _), trivial, fun b hb => absurd (show b ∈ ([] : List Addr) from hb) (by simp), hok, .of_eq hg⟩
    refine codeAny_mono ((F _ hKb (nsK hns) TB).run callerA [] s₁ H ⟨[.ref a], []⟩ [.ref a] [.ref a] _ _ hr e0 (hbind s₁ (.ref a)) (.cons rfl .nil) (hsp H hH hO hS)) fun r s' h => ?_
    cases r with
    | error e => exact (hCX H e s' h).elim
    | ok fl =>
      cases fl with
      | next => exact False.elim h
      | brk => exact False.elim h
      | cont => exact False.elim h
      | ret u =>
        obtain ⟨v, H', os, bare, un, hok', r', q⟩ := h
        have q' : v = .bl true := q
        subst q'
        obtain rfl : u = Value.bool true := r'
        have key : ∀ b o, b ∉ cs.map (·.2) → s₁.heap.get? b = some o → s'.heap.get? b = some o := fun b o nb e => by
          cases q : H b with
          | none => exact un.keep b o e q (by intro z; exact absurd (show b ∈ ([] : List Addr) from z) (by simp)) (by simp)
          | some u =>
            rcases hO b with z | z | ⟨ob, xs, z⟩
            · rw [q] at z; cases z
            · exact absurd z nb
            · have z2 := un.frzs b ob _ z
              obtain ⟨e1, _⟩ := hok b _ z
              obtain ⟨e2, _⟩ := hok' b _ z2
              rw [e] at e1; cases e1
              exact e2
        have grown : ∀ p ∈ cs, ∃ more : Array Value, s'.heap.get? p.2 = some { cls := .none, data := .fields more } := fun p hp => by
          obtain ⟨more, z⟩ := un.tbls p.2 #[] (hH p hp)
          exact ⟨_, hok' p.2 _ z⟩
        refine ⟨rfl, ⟨fun b o e => ?_, fun b o e => ?_⟩, os, bare⟩
        · by_cases hb : b ∈ cs.map (·.2)
          · obtain ⟨p, hp, ep⟩ := List.mem_map.mp hb
            obtain ⟨more, hm⟩ := grown p hp
            rw [← ep] at e ⊢
            rw [hT p hp] at e
            cases e
            exact .inr (.inl ⟨((C p hp).tab (hT p hp)).isCodeTable, rfl, #[], more, rfl, by rw [Array.empty_append]; exact hm⟩)
          · exact .inl (key b o hb e)
        · by_cases hb : b ∈ cs.map (·.2)
          · obtain ⟨p, hp, ep⟩ := List.mem_map.mp hb
            obtain ⟨more, hm⟩ := grown p hp
            rw [← ep]
            exact ⟨_, hm⟩
          · exact ⟨o, key b o hb e⟩
  cases hk : K.lookup a with
  | some o =>
    have e := KX a o hk
    rw [ha] at e
    cases e
    refine core (fun b => if b ∈ cs.map (·.2) then some (.tbl #[]) else none) (fun p hp => if_pos (memT p hp)) (fun b => ?_) (.inr ⟨_, vs.toArray, _, hk, rfl, rfl, rfl, by rw [List.size_toArray, lenV]; exact hl, by simpa using rv⟩) (fun b u z => ?_) (fun b z => ?_) fun z => absurd (show (if a ∈ cs.map (·.2) then some (HO.tbl #[]) else none) = none from if_neg aT) z
    · by_cases hb : b ∈ cs.map (·.2)
      · exact .inr (.inl hb)
      · exact .inl (if_neg hb)
    · by_cases hb : b ∈ cs.map (·.2)
      · have z' := (if_pos hb).symm.trans z
        cases z'
        exact isT b hb
      · have z' := (if_neg hb).symm.trans z
        cases z'
    · by_cases hb : b ∈ cs.map (·.2)
      · exact .inr hb
      · exact absurd (if_neg hb) z
  | none =>
    refine core (fun b => if b = a then some (.frz { cls := .type "list", data := .seq vs.toArray } (.lst (ns.map V.int))) else if b ∈ cs.map (·.2) then some (.tbl #[]) else none) (fun p hp => (if_neg (show ¬ p.2 = a from fun z => aT (by rw [← z]; exact memT p hp))).trans (if_pos (memT p hp))) (fun b => ?_)
      (.inl (.inr ⟨{ cls := .type "list", data := .seq vs.toArray }, if_pos rfl⟩)) (fun b u z => ?_) (fun b z => ?_) fun _ => hk
    · by_cases hb : b = a
      · exact .inr (.inr ⟨_, _, if_pos hb⟩)
      · by_cases hb2 : b ∈ cs.map (·.2)
        · exact .inr (.inl hb2)
        · exact .inl ((if_neg hb).trans (if_neg hb2))
    · by_cases hb : b = a
      · have z' := (if_pos hb).symm.trans z
        cases z'
        rw [hb]
        exact ⟨ha, by rw [List.length_map]; exact hl, vs, _, rv, ha⟩
      · have z1 := (if_neg hb).symm.trans z
        by_cases hb2 : b ∈ cs.map (·.2)
        · have z' := (if_pos hb2).symm.trans z1
          cases z'
          exact isT b hb2
        · have z' := (if_neg hb2).symm.trans z1
          cases z'
    · by_cases hb : b = a
      · exact .inl hb
      · by_cases hb2 : b ∈ cs.map (·.2)
        · exact .inr hb2
        · exact absurd ((if_neg hb).trans (if_neg hb2)) z

theorem walk_G {l : PySem.W.OpenLaw} {n k : Nat} {q : Program} {loose : List Str} {XP : (Str → Option Value) → Heap → Prop} {YP : World → Heap → Prop} {d : DefRec} {CX : World → CXT} {x : Str}
    (hn : l.most = some n) (hn2 : n ≤ sizeLine) (hdf : d.params.defaults = []) (hr : RoomG k callerA)
    (F : ∀ (w : World) (mg : Str → Option Value) (fa : Addr) (h : Heap), YP w h → h.Ns mainGlobals mg → mg d.name = some (.ref fa) → ∃ (K : PySem.W.Frag) (fd : FuncData) (cs : List (Addr × Addr)) (sp : Sp), K.In h ∧
      (∀ p ∈ cs, h.get? p.2 = some { cls := .none, data := .fields #[] }) ∧ (∀ p ∈ cs, K.lookup p.2 = none) ∧ (∀ p ∈ cs, PySem.W.CodeHd h p.1 p.2) ∧ (∀ (s : Shared) (u : Value), BindsTo s fd ⟨[u], []⟩ [(x, u)]) ∧
      (∀ (H : Hp) (a : Addr) (ns : List Int), ns.length ≤ n → (∀ z ∈ ns, Builtin.Int.intBits z ≤ 1048576) → (∀ p ∈ cs, H p.2 = some (.tbl #[])) → Only' cs H → SqL K H a (ns.map V.int) → sp [.ref a] H (fun v _ => v = .bl true) fun _ _ _ => False) ∧
      ∀ base : Heap, K.In base → base.Ns mainGlobals mg → (∀ p ∈ cs, LamX.TabB base mg p.1 p.2) → FnG l.prog w K mg base (CX w) k fa fd [x] sp)
    (hCX : ∀ (w : World) (H : Hp) (s : Shared) (e : Value) (s' : Shared), CX w [] H s (fun _ _ _ => False) e s' → False) :
    PySem.W.WalkO q loose XP YP l.row.toRowW d [] (fun f vs => PySem.call f vs) := by
  refine Att.attach_callB hn hdf fun w s₀ s₁ mg mb fa o pm cd doc a vs ns G Y ho hd hcd hmg hobj hints hlen hbits hg => ?_
  obtain ⟨K, fd, cs, sp, KX, hT, nT, C, hb, hsp, hF⟩ := F w mg fa _ Y G.T.g hmg
  exact law_callG KX G.T.g G.T.b G.T.builtins G.T.nolimit hg hT nT C G.T.bmain hobj hints (Nat.le_trans hlen hn2) hr hF hb (fun H hH hO hS => hsp H a ns hlen hbits hH hO hS) fun H e s' => hCX w H s₁ e s'
/-! ### facts of the head -/
def oexB (K : PySem.W.Frag) (C : Addr) : Bool := (match K.lookup C with
  | some ⟨.type t, _, .cls cd, sl⟩ => t == "type" && (match cd.mro, sl.toList with
    | .ref C' :: bm, [_, _, _, _, some (.builtin n), _] => C' == C && (n == "ValueError.__new__" && (!cd.hasDel && (cd.hasDict && PySem.HandSPX.refsVE bm)))
    | _, _ => false)
  | _ => false) && (decide (PySem.W.findIn K (.ref C) "__setattr__" = some (some (.builtin "object.__setattr__"))) && (decide (PySem.W.subIn K (.ref C) (.type "BaseException") = some true) && (decide (PySem.W.typeIn K (.ref C) = some (.type "type")) && PySem.W.keepIn K (.ref C))))
theorem oexB_ok {K : PySem.W.Frag} {C : Addr} (h : oexB K C = true) : OexC K C := by
  unfold oexB at h
  simp only [Bool.and_eq_true, decide_eq_true_eq] at h
  obtain ⟨h1, h2, h3, h4, h5⟩ := h
  refine ⟨?_, h2, h3, h4, h5⟩
  cases e : K.lookup C with
  | none => rw [e] at h1; cases h1
  | some o =>
    obtain ⟨oc, od, dt, osl⟩ := o
    rw [e] at h1
    split at h1
    · rename_i t dd cd sl heq
      simp only [Bool.and_eq_true, beq_iff_eq] at h1
      obtain ⟨rfl, h1⟩ := h1
      split at h1
      · rename_i C' bm n k0 k1 k2 k3 n' k5 hm hs
        simp only [Bool.and_eq_true, beq_iff_eq, Bool.not_eq_true'] at h1
        obtain ⟨rfl, rfl, h6, h7, h8⟩ := h1
        obtain ⟨nm, bs, mro, ns, qn, hd, sn, sb, ab, col, del⟩ := cd
        simp only at hm h6 h7
        subst hm h6 h7
        have hsl : sl = #[k0, k1, k2, k3, some (.builtin "ValueError.__new__"), k5] := by
          rw [← hs]
        subst hsl
        exact ⟨nm, qn, ns, bs, _, sn, sb, ab, col, dd, k0, k1, k2, k3, k5, heq, h8⟩
      · cases h1
    · cases h1
def errB (K : PySem.W.Frag) (x : Str) (ks : List Str) : Bool := oexB K (He.ga K x) && (decide (PySem.W.findIn K (.ref (He.ga K x)) "__init__" = some (some (.ref (He.ma K (He.ga K x) "__init__")))) && (decide (PySem.W.typeIn K (.ref (He.ma K (He.ga K x) "__init__")) = some (.type "function")) &&
  (ks.all (fun f => decide (PySem.W.findIn K (.ref (He.ga K x)) f = some none)) && xfB K (He.ga K x))))
theorem errC_of {P : Program} {w : World} {K : PySem.W.Frag} {mg : Str → Option Value} {base : Heap} {x : Str} {ks ps : List Str} {fd : FuncData} (h : errB K x ks = true) (hm : mg x = some (.ref (He.ga K x))) (F1 : FnOk P w K mg base (L2.CX P w) 1 (He.ma K (He.ga K x) "__init__") fd ps (spInit K ks)) (hb : Binds K fd ps []) (hl : ks.length ≤ 900 := by decide) : ErrC P w K mg base x ks := by
  unfold errB at h
  simp only [Bool.and_eq_true, decide_eq_true_eq, List.all_eq_true] at h
  obtain ⟨h1, h2, h3, h4, h5⟩ := h
  exact ⟨⟨_, _, fd, ps, hm, oexB_ok h1, h2, h3, F1, hb, h4, hl⟩⟩
theorem errT_of {K : PySem.W.Frag} {mg : Str → Option Value} {cl : List (Str × List Str)} {sl : List (Str × Str × Bool)} (h : (cl.all fun x => errB K x.1 x.2) = true) (h2 : (sl.all fun x => decide (PySem.W.exmOne K (.ref (He.ga K x.1)) (.ref (He.ga K x.2.1)) = some x.2.2)) = true)
    (g1 : ∀ x ∈ cl, mg x.1 = some (.ref (He.ga K x.1))) (g2 : ∀ x ∈ sl, mg x.1 = some (.ref (He.ga K x.1)) ∧ mg x.2.1 = some (.ref (He.ga K x.2.1))) :
    ErrT K mg (fun c => cl.lookup c) (fun c h => (sl.find? fun x => x.1 == c && x.2.1 == h).map fun x => x.2.2) := by
  refine ⟨fun c ks C e hm => ?_, fun c d C D b e hc hd => ?_⟩
  · have hmem := PySem.mem_of_lookup e
    have q := List.all_eq_true.mp h _ hmem
    rw [g1 _ hmem] at hm
    cases hm
    unfold errB at q
    simp only [Bool.and_eq_true, decide_eq_true_eq, List.all_eq_true] at q
    exact ⟨xfB_ok q.2.2.2.2, q.2.2.2.1⟩
  · obtain ⟨x, hx, rfl⟩ := Option.map_eq_some_iff.mp e
    have hmem := List.mem_of_find?_eq_some hx
    have hp := List.find?_some hx
    simp only [Bool.and_eq_true, beq_iff_eq] at hp
    obtain ⟨rfl, rfl⟩ := hp
    obtain ⟨q1, q2⟩ := g2 _ hmem
    rw [q1] at hc
    rw [q2] at hd
    cases hc
    cases hd
    exact of_decide_eq_true (List.all_eq_true.mp h2 _ hmem)
/-- the tables of the defs that hold a lambda -/
def tbOf (K : PySem.W.Frag) (tf : List He.Defn) : List (Addr × Str) := tf.map fun p => ((He.cT K p).2, (p.1 ++ (".<locals>." : Str)) ++ ("<lambda>" : Str))
theorem tb_mem {K : PySem.W.Frag} {tf : List He.Defn} {p : He.Defn} (h : p ∈ tf) : ((He.cT K p).2, (p.1 ++ (".<locals>." : Str)) ++ ("<lambda>" : Str)) ∈ tbOf K tf := List.mem_map.mpr ⟨p, h, rfl⟩
theorem tb_one {K : PySem.W.Frag} {tf : List He.Defn} {p : He.Defn} (nd : (tf.map fun p => (He.cT K p).2).Nodup) (h : p ∈ tf) : ∀ q ∈ tbOf K tf, q.1 = (He.cT K p).2 → q.2 = (p.1 ++ (".<locals>." : Str)) ++ ("<lambda>" : Str) := fun q hq e => by
  obtain ⟨p', h', rfl⟩ := List.mem_map.mp hq
  have key : ∀ (l : List He.Defn), (l.map fun p => (He.cT K p).2).Nodup → p ∈ l → p' ∈ l → p' = p := fun l => by
    induction l with
    | nil => exact fun _ z => nomatch z
    | cons a r ih =>
      intro nd h1 h2
      rw [List.map_cons, List.nodup_cons] at nd
      have e : (He.cT K p').2 = (He.cT K p).2 := e
      rcases List.mem_cons.mp h1 with rfl | h1'
      · rcases List.mem_cons.mp h2 with rfl | h2
        · rfl
        · exact absurd (by rw [← e]; exact List.mem_map.mpr ⟨p', h2, rfl⟩) nd.1
      · rcases List.mem_cons.mp h2 with rfl | h2
        · exact absurd (by rw [e]; exact List.mem_map.mpr ⟨p, h1', rfl⟩) nd.1
        · exact ih nd.2 h1' h2
  rw [key tf nd h h']
/-- a def that holds lambdas: its code object -/
theorem code_of {K : PySem.W.Frag} {x : Str} {st : Stmt} {fd : FuncData} (F : Fun K x x st (He.ga K x) fd) : fd.code = .ref (He.cT K (x, none)).1 := by
  obtain ⟨oc, od, kV, doc, pm, an, cdv, ct, osl, rfl, lk, hcd⟩ := F.ex
  obtain ⟨c, rfl⟩ := He.codeIn_ref hcd
  show Value.ref c = .ref (He.codeOf K (x, none))
  rw [He.codeOf_eq (p := (x, none)) lk rfl]
/-- the law's promise from what its body comes to -/
theorem law_sp {K : PySem.W.Frag} {mg : Str → Option Value} {tf : List He.Defn} {f : Spec} {H : Hp} {a : Addr} {ns : List Int} (hT : ∀ p ∈ tf.map (He.cT K), H p.2 = some (.tbl #[])) (hO : Only' (tf.map (He.cT K)) H) (hS : SqL K H a (ns.map V.int)) (hf : ∃ S', f [.scr ns] [] = .ok (.bl true) S') :
    spOf K mg (tbOf K tf) 1 f [.ref a] H (fun v _ => v = .bl true) fun _ _ _ => False := by
  obtain ⟨S', hf⟩ := hf
  refine ⟨rfl, fun _ _ _ => True, ⟨[], []⟩, [], [.scr ns], ⟨rfl, List.nodup_nil, fun n o e => (by simp at e), fun b hb => (by simp at hb), fun p hp => ?_, fun _ _ _ => trivial⟩, ⟨.ref a, [], rfl, ⟨a, rfl, ?_⟩, rfl⟩, ?_⟩
  · obtain ⟨d, hd, rfl⟩ := List.mem_map.mp hp
    exact LamX.TabS.nil (hT _ (List.mem_map.mpr ⟨d, hd, rfl⟩))
  · rcases hS with (h | h) | h
    · rcases hO a with z | z | ⟨o, xs, z⟩
      · rw [h] at z; cases z
      · obtain ⟨p, hp, e⟩ := List.mem_map.mp z
        have := hT p hp
        rw [e, h] at this
        cases this
      · rw [h] at z; cases z
    · exact .inl h
    · exact .inr h
  · rw [hf]
    exact fun q H' st rs v rv => rv
end Mi


set_option Elab.async false
set_option linter.all false
set_option maxRecDepth 100000
namespace Mi
open PySem PySem.Spec PyProof.Rows L2
/-! ### a def told without what it threw away -/
def RK : Nat := 1000000000
def resF (S : Sto) (n : Nat) : List (Str × T) → Option (List (Str × T))
  | [] => some []
  | (c, t) :: r => match res S n RK t, resF S n r with
    | some u, some us => some ((c, u) :: us)
    | _, _ => none
/-- what stood before, or looks at nothing new -/
def CutOk (S S' S1 : Sto) : Prop := (∃ G, S' = S1 ++ G) ∧ S1.length = S.length ∧ ∀ (i : Nat) o, S1[i]? = some o → S[i]? = some o ∨ o.lower S.length = true
open Classical in
noncomputable def cutK (S : Sto) : Out T → Out T
  | .ok u S' => if CutOk S S' (S'.take S.length) then (match res S' S.length RK u with
    | some t => .ok t (S'.take S.length)
    | none => .ok u S') else .ok u S'
  | .exc c fs S' => if CutOk S S' (S'.take S.length) then (match resF S' S.length fs with
    | some fs' => .exc c fs' (S'.take S.length)
    | none => .exc c fs S') else .exc c fs S'
  | .no => .no
open Classical in
theorem cutK_e {S : Sto} {u : T} {S' : Sto} : cutK S (.ok u S') = if CutOk S S' (S'.take S.length) then (match res S' S.length RK u with
    | some t => .ok t (S'.take S.length)
    | none => .ok u S') else .ok u S' := by simp only [cutK]
open Classical in
theorem cutK_x {S : Sto} {c : Str} {fs : List (Str × T)} {S' : Sto} : cutK S (.exc c fs S') = if CutOk S S' (S'.take S.length) then (match resF S' S.length fs with
    | some fs' => .exc c fs' (S'.take S.length)
    | none => .exc c fs S') else .exc c fs S' := by simp only [cutK]
noncomputable def runK (N n : Nat) (body : Ro → Sto → Out Fl) : Spec := fun ts S => cutK S (runF N n body ts S)
theorem resF_rep {K : PySem.W.Frag} {mg : Str → Option Value} {q : Pl} {H : Hp} {W : XW} {S : Sto} {n : Nat} (R : RelS K mg W q H S) : ∀ {fs fs' : List (Str × T)} {vs : List (Str × V)}, resF S n fs = some fs' → RepF K mg q H fs vs → RepF K mg ⟨q.mu.take n, q.de⟩ H fs' vs
  | [], _, _, e, h => by cases e; exact h
  | (c, t) :: r, _, _, e, h => by
    obtain ⟨v, vs, rfl, h1, h2⟩ := h
    simp only [resF] at e
    cases e1 : res S n RK t with
    | none => rw [e1] at e; cases e
    | some u =>
      cases e2 : resF S n r with
      | none => rw [e1, e2] at e; cases e
      | some us =>
        rw [e1, e2] at e
        cases e
        exact ⟨v, vs, rfl, res_rep R RK e1 h1, resF_rep R e2 h2⟩
theorem CutOk.low {K : PySem.W.Frag} {mg : Str → Option Value} {W : XW} {p : Pl} {H : Hp} {S S' S1 : Sto} (R0 : RelS K mg W p H S) (c : CutOk S S' S1) : ∀ o ∈ S1, o.lower S1.length = true := fun o ho => by
  obtain ⟨i, hi, e⟩ := List.mem_iff_getElem.mp ho
  rw [c.2.1]
  rcases c.2.2 i o (by rw [List.getElem?_eq_getElem hi, e]) with h | h
  · obtain ⟨a, _, r⟩ := R0.ob i o h
    exact r.lower (by rw [R0.len]; exact Nat.le_refl _)
  · exact h
theorem cut_po {K : PySem.W.Frag} {mg : Str → Option Value} {W : XW} {p : Pl} {H : Hp} {S : Sto} {o : Out T} {Q : VK} (R0 : RelS K mg W p H S) (h : PO K mg W p H (cutK S o) (RV K mg Q)) : PO K mg W p H o (RV K mg Q) := by
  cases o with
  | no => exact h
  | ok u S' =>
    rw [cutK_e] at h
    split at h
    · rename_i c
      cases e : res S' S.length RK u with
      | none => rw [e] at h; exact h
      | some t =>
        rw [e] at h
        simp only at h
        intro q H' st rs v rv
        obtain ⟨⟨G, eG⟩, hl, _⟩ := id c
        have low := c.low R0
        generalize S'.take S.length = S1 at *
        have hn : p.mu.length ≤ S1.length := by rw [hl, R0.len]; exact Nat.le_refl _
        have st' := st.cut (n := S1.length) hn
        have rs' := rs.cut eG low (R0.pstS st')
        exact h _ H' st' rs' v (by rw [hl]; exact res_rep rs RK e rv)
    · exact h
  | exc c fs S' =>
    rw [cutK_x] at h
    split at h
    · rename_i c
      cases e : resF S' S.length fs with
      | none => rw [e] at h; exact h
      | some t =>
        rw [e] at h
        simp only at h
        intro q H' C d fvs st rs h1 h2 h3 h4 h5
        obtain ⟨⟨G, eG⟩, hl, _⟩ := id c
        have low := c.low R0
        generalize S'.take S.length = S1 at *
        have hn : p.mu.length ≤ S1.length := by rw [hl, R0.len]; exact Nat.le_refl _
        have st' := st.cut (n := S1.length) hn
        have rs' := rs.cut eG low (R0.pstS st')
        exact h _ H' C d fvs st' rs' h1 h2 (fun z => h3 (List.mem_of_mem_take z)) h4 (by rw [hl]; exact resF_rep rs e h5)
    · exact h
theorem run_fnK {P : Program} {w : World} {K : PySem.W.Frag} {mg : Str → Option Value} {base : Heap} {tb : List (Addr × Str)} {x qual : Str} {st : Stmt} {a : Addr} {fd : FuncData} {N ps : List Str} {k n : Nat} (F : Fun K x qual st a fd) (S : FnScope N ps (defScope st)) (hn : ps.length = n)
    (body : Ro → Sto → Out Fl)
    (hbody : ∀ (cdv : Value) (A : Around) (outer : List Env) (s : Shared) (H : Hp) (E : XK) (J : List Addr → List Addr → Hp → Prop), fd.code = cdv → RoomG k (A.deeper (envOfC qual (defScope st) s.heap.objs.size a cdv)) →
      DSs (cxOf (L2.CX P w) P w K mg base N qual (defScope st) a cdv A outer s H E) (plW E J tb) (defBody st) body) : FnG P w K mg base (L2.CX P w) (k + 1) a fd ps (spOf K mg tb n (runK N.length n body)) := by
  obtain ⟨oc, od, kV, doc, pm, an, cdv, ct, osl, rfl, lk, hcd⟩ := F.ex
  refine fnG_of lk hcd S (fun vs H Q E h => by rw [h.1, hn]) fun A outer s H vs Q E hr h => ?_
  obtain ⟨hl, J, p, S0, ts, rs, rv, o⟩ := h
  refine ⟨_, hbody cdv A outer s H E J rfl hr, p, startT N.length ts, S0, rs, start_rel rv (fun _ _ h => nomatch h), ?_⟩
  have hts : ts.length = n := by rw [← rv.length]; exact hl
  replace o := cut_po rs o
  unfold runF at o
  simp only [hts, decide_true] at o
  show PO K mg (plW E J tb) p H (body (startT N.length ts) S0) (RD K mg (plW E J tb) { nx := fun _ H' => Q .non H', rt := Q })
  cases e : body (startT N.length ts) S0 with
  | no => rw [e] at o; exact o
  | exc c fs S1 => rw [e] at o; exact o
  | ok fl S1 =>
    rw [e] at o
    cases fl with
    | nx ρ => exact fun q H' st rs' σ re => o q H' st rs' _ rfl
    | rt t => exact fun q H' st rs' v rv => o q H' st rs' v rv
    | bk ρ => exact o.elim
    | ct ρ => exact o.elim
theorem run_defK {P : Program} {w : World} {K : PySem.W.Frag} {mg : Str → Option Value} {base : Heap} {tb : List (Addr × Str)} {x qual : Str} {st : Stmt} {a : Addr} {fd : FuncData} {N ps : List Str} {k n : Nat} (F : Fun K x qual st a fd) (hm : mg x = some (.ref a)) (hb : Binds K fd ps []) (S : FnScope N ps (defScope st)) (hn : ps.length = n)
    (body : Ro → Sto → Out Fl)
    (hbody : ∀ (cdv : Value) (A : Around) (outer : List Env) (s : Shared) (H : Hp) (E : XK) (J : List Addr → List Addr → Hp → Prop), fd.code = cdv → RoomG k (A.deeper (envOfC qual (defScope st) s.heap.objs.size a cdv)) →
      DSs (cxOf (L2.CX P w) P w K mg base N qual (defScope st) a cdv A outer s H E) (plW E J tb) (defBody st) body) : FnD P w K mg tb base (k + 1) x n (runK N.length n body) :=
  ⟨fun ts S h => by unfold runK runF; rw [decide_eq_false h]; rfl, a, fd, ps, hm, F.kp, hb, hn, run_fnK F S hn body hbody⟩
/-! ### plain: the cut -/
theorem CutOk.of {S G : Sto} : CutOk S (S ++ G) ((S ++ G).take S.length) := by
  have e : (S ++ G).take S.length = S := by simp
  rw [e]
  exact ⟨⟨G, rfl⟩, rfl, fun i o h => .inl h⟩
theorem cut_ok {S G : Sto} {u t : T} (h : res (S ++ G) S.length RK u = some t) : cutK S (.ok u (S ++ G)) = .ok t S := by
  rw [cutK_e]
  rw [if_pos CutOk.of, h]
  simp
theorem cut_exc {S G : Sto} {c : Str} {fs fs' : List (Str × T)} (h : resF (S ++ G) S.length fs = some fs') : cutK S (.exc c fs (S ++ G)) = .exc c fs' S := by
  rw [cutK_x]
  rw [if_pos CutOk.of, h]
  simp
/-- the pen has moved -/
theorem CutOk.pen {P P' : Ob} {r G : Sto} (hP : ∀ n, P'.lower n = true) : CutOk (P :: r) (P' :: (r ++ G)) ((P' :: (r ++ G)).take (P :: r).length) := by
  have e : (P' :: (r ++ G)).take (P :: r).length = P' :: r := by simp
  rw [e]
  refine ⟨⟨G, rfl⟩, rfl, fun i o h => ?_⟩
  cases i with
  | zero => cases h; exact .inr (hP _)
  | succ i => exact .inl h
theorem cut_pen {P P' : Ob} {r G : Sto} {u t : T} (hP : ∀ n, P'.lower n = true) (h : res (P' :: (r ++ G)) (r.length + 1) RK u = some t) : cutK (P :: r) (.ok u (P' :: (r ++ G))) = .ok t (P' :: r) := by
  rw [cutK_e]
  rw [if_pos (CutOk.pen hP), show (P :: r).length = r.length + 1 from rfl, h]
  simp
section
variable {S : Sto} {n k : Nat}
theorem res_int (hk : 0 < k) (i : Int) : res S n k (.int i) = some (.int i) := by cases k with | zero => omega | succ k => rfl
theorem res_bl (hk : 0 < k) (i : Bool) : res S n k (.bl i) = some (.bl i) := by cases k with | zero => omega | succ k => rfl
theorem res_str (hk : 0 < k) (i : Str) : res S n k (.str i) = some (.str i) := by cases k with | zero => omega | succ k => rfl
theorem res_non (hk : 0 < k) : res S n k .non = some .non := by cases k with | zero => omega | succ k => rfl
theorem res_tup (hk : 0 < k) (ts : List T) : res S n k (.tup ts) = (resL S n (k - 1) ts).map .tup := by cases k with | zero => omega | succ k => rfl
theorem res_lst (hk : 0 < k) (ts : List T) : res S n k (.lst ts) = (resL S n (k - 1) ts).map .lst := by cases k with | zero => omega | succ k => rfl
theorem res_old (hk : 0 < k) {m : Nat} (hm : m < n) : res S n k (.ref m) = some (.ref m) := by
  cases k with
  | zero => omega
  | succ k => show (match decide (m < n) with | true => _ | false => _) = _; rw [decide_eq_true hm]
theorem res_new (hk : 0 < k) {m : Nat} (hm : n ≤ m) {ts : List T} (e : S[m]? = some (.lst ts)) : res S n k (.ref m) = (resL S n (k - 1) ts).map .lst := by
  cases k with
  | zero => omega
  | succ k =>
    show (match decide (m < n) with | true => _ | false => match S[m]? with | some (.lst ts) => (resL S n k ts).map T.lst | _ => none) = _
    rw [decide_eq_false (by omega), e]
    rfl
theorem resL_nil (hk : 0 < k) : resL S n k [] = some [] := by cases k with | zero => omega | succ k => rfl
theorem resL_cons (hk : 0 < k) {t u : T} {ts us : List T} (h : res S n (k - 1) t = some u) (h2 : resL S n (k - 1) ts = some us) : resL S n k (t :: ts) = some (u :: us) := by
  cases k with
  | zero => omega
  | succ k =>
    show (match res S n k t, resL S n k ts with | some u, some us => some (u :: us) | _, _ => none) = _
    rw [show res S n k t = some u from h, show resL S n k ts = some us from h2]
end
/-- a value without the store -/
inductive Fix : T → Nat → Prop
  | non {k} : Fix .non (k + 1)
  | bl {b k} : Fix (.bl b) (k + 1)
  | int {i k} : Fix (.int i) (k + 1)
  | str {x k} : Fix (.str x) (k + 1)
  | glob {x k} : Fix (.glob x) (k + 1)
  | ty {x k} : Fix (.ty x) (k + 1)
  | scr {x k} : Fix (.scr x) (k + 1)
  | tup {ts k} (h : ∀ t ∈ ts, Fix t k) : Fix (.tup ts) (k + ts.length + 2)
  | lst {ts k} (h : ∀ t ∈ ts, Fix t k) : Fix (.lst ts) (k + ts.length + 2)
theorem resL_fixA {S : Sto} {n k : Nat} : ∀ {ts : List T} {m : Nat}, (∀ t ∈ ts, ∀ m, k ≤ m → res S n m t = some t) → k + ts.length + 1 ≤ m → resL S n m ts = some ts
  | [], m, _, hm => resL_nil (by simp at hm; omega)
  | t :: ts, m, h, hm => by
    simp only [List.length_cons] at hm
    exact resL_cons (by omega) (h t (by simp) _ (by omega)) (resL_fixA (fun u hu => h u (by simp [hu])) (by omega))
theorem res_fix {S : Sto} {n : Nat} {t : T} {k : Nat} (h : Fix t k) : ∀ m, k ≤ m → res S n m t = some t := by
  induction h with
  | non => exact fun m hm => res_non (by omega)
  | bl => exact fun m hm => res_bl (by omega) _
  | int => exact fun m hm => res_int (by omega) _
  | str => exact fun m hm => res_str (by omega) _
  | glob => exact fun m hm => by cases m with | zero => omega | succ m => rfl
  | ty => exact fun m hm => by cases m with | zero => omega | succ m => rfl
  | scr => exact fun m hm => by cases m with | zero => omega | succ m => rfl
  | tup h ih => exact fun m hm => by rw [res_tup (by omega), resL_fixA ih (by omega)]; rfl
  | lst h ih => exact fun m hm => by rw [res_lst (by omega), resL_fixA ih (by omega)]; rfl
theorem Fix.mono {t : T} {k : Nat} (h : Fix t k) : ∀ m, k ≤ m → Fix t m := by
  induction h with
  | tup h ih => exact fun m hm => by rename_i ts k; obtain ⟨d, rfl⟩ : ∃ d, m = (k + d) + ts.length + 2 := ⟨m - (k + ts.length + 2), by omega⟩; exact .tup fun t ht => ih t ht _ (by omega)
  | lst h ih => exact fun m hm => by rename_i ts k; obtain ⟨d, rfl⟩ : ∃ d, m = (k + d) + ts.length + 2 := ⟨m - (k + ts.length + 2), by omega⟩; exact .lst fun t ht => ih t ht _ (by omega)
  | non => exact fun m hm => by obtain ⟨d, rfl⟩ : ∃ d, m = d + 1 := ⟨m - 1, by omega⟩; exact .non
  | bl => exact fun m hm => by obtain ⟨d, rfl⟩ : ∃ d, m = d + 1 := ⟨m - 1, by omega⟩; exact .bl
  | int => exact fun m hm => by obtain ⟨d, rfl⟩ : ∃ d, m = d + 1 := ⟨m - 1, by omega⟩; exact .int
  | str => exact fun m hm => by obtain ⟨d, rfl⟩ : ∃ d, m = d + 1 := ⟨m - 1, by omega⟩; exact .str
  | glob => exact fun m hm => by obtain ⟨d, rfl⟩ : ∃ d, m = d + 1 := ⟨m - 1, by omega⟩; exact .glob
  | ty => exact fun m hm => by obtain ⟨d, rfl⟩ : ∃ d, m = d + 1 := ⟨m - 1, by omega⟩; exact .ty
  | scr => exact fun m hm => by obtain ⟨d, rfl⟩ : ∃ d, m = d + 1 := ⟨m - 1, by omega⟩; exact .scr
end Mi


set_option Elab.async false
set_option linter.all false
set_option maxRecDepth 100000
namespace Mi
open PySem PySem.Spec PyProof.Rows L2
/-! ### plain: what a piece comes to -/
def Ok {α : Type} (o : Out α) (Q : α → Sto → Prop) : Prop := match o with
  | .ok a S => Q a S
  | _ => False
theorem Ok_ok {α : Type} {a : α} {S : Sto} {Q : α → Sto → Prop} : Ok (.ok a S) Q = Q a S := rfl
theorem Ok_bind {α β : Type} {o : Out α} {f : α → Sto → Out β} {Q : β → Sto → Prop} : Ok (o.bind f) Q = Ok o fun a S => Ok (f a S) Q := by
  cases o <;> rfl
theorem Ok_fit {α : Type} {n : Nat} {o : Out α} {Q : α → Sto → Prop} : Ok (fit n o) Q = (n ≤ 16777216 ∧ Ok o Q) := by
  unfold fit
  cases e : Nat.ble n 16777216 with
  | true => simp only [Nat.le_of_ble_eq_true e, true_and]
  | false =>
    have : ¬ n ≤ 16777216 := fun h => by rw [Nat.ble_eq_true_of_le h] at e; cases e
    simp only [this, false_and]
    rfl
theorem Ok.imp {α : Type} {o : Out α} {Q Q' : α → Sto → Prop} (h : Ok o Q) (k : ∀ a S, Q a S → Q' a S) : Ok o Q' := by
  cases o with
  | ok a S => exact k a S h
  | exc _ _ _ => exact h
  | no => exact h
theorem Ok.get {α : Type} {o : Out α} {Q : α → Sto → Prop} (h : Ok o Q) : ∃ a S, o = .ok a S ∧ Q a S := by
  cases o with
  | ok a S => exact ⟨a, S, rfl, h⟩
  | exc _ _ _ => exact h.elim
  | no => exact h.elim
theorem Ok.of {α : Type} {o : Out α} {a : α} {S : Sto} {Q : α → Sto → Prop} (e : o = .ok a S) (h : Q a S) : Ok o Q := by rw [e]; exact h
/-- a while's turns -/
theorem loopW_ok {gc : Ro → Sto → Out Bool} {fb : Ro → Sto → Out Fl} {Q : Fl → Sto → Prop} (I : Nat → Ro → Sto → Prop)
    (h : ∀ m ρ S, I m ρ S → (∃ S1, gc ρ S = .ok false S1 ∧ Q (.nx ρ) S1) ∨ (∃ S1, gc ρ S = .ok true S1 ∧ Ok (fb ρ S1) fun fl S2 => match fl with
      | .nx ρ2 => ∃ m', m' < m ∧ I m' ρ2 S2
      | .ct ρ2 => ∃ m', m' < m ∧ I m' ρ2 S2
      | .bk ρ2 => Q (.nx ρ2) S2
      | .rt t => Q (.rt t) S2)) : ∀ (n m : Nat) (ρ : Ro) (S : Sto), m < n → I m ρ S → Ok (loopW gc fb n ρ S) Q
  | 0, m, _, _, hm, _ => by omega
  | n + 1, m, ρ, S, hm, hI => by
    unfold loopW
    rcases h m ρ S hI with ⟨S1, e, q⟩ | ⟨S1, e, q⟩
    · rw [e]; exact q
    · rw [e]
      show Ok ((fb ρ S1).bind _) Q
      rw [Ok_bind]
      refine q.imp fun fl S2 hq => ?_
      cases fl with
      | nx ρ2 => obtain ⟨m', h1, h2⟩ := hq; exact loopW_ok I h n m' ρ2 S2 (by omega) h2
      | ct ρ2 => obtain ⟨m', h1, h2⟩ := hq; exact loopW_ok I h n m' ρ2 S2 (by omega) h2
      | bk ρ2 => exact hq
      | rt t => exact hq
/-! ### what pieces come to, one by one -/
def tru (S : Sto) (t : T) : Out Bool := match truAt S t with
  | some b => .ok b S
  | none => .no
def fin (o : Out Fl) : Out T := match o with
  | .ok (.rt t) S' => .ok t S'
  | .ok (.nx _) S' => .ok .non S'
  | .exc c fs S' => .exc c fs S'
  | _ => .no
section
variable {ρ : Ro} {S : Sto} {α β : Type}
theorem tru_bl (b : Bool) : tru S (.bl b) = .ok b S := rfl
theorem tru_int (i : Int) : tru S (.int i) = .ok (decide (i ≠ 0)) S := by
  show Out.ok (i != 0) S = _
  by_cases h : i = 0
  · subst h; rfl
  · rw [decide_eq_true h]; simp [bne, h]
theorem tru_non : tru S .non = .ok false S := rfl
theorem tru_tup (ts : List T) : tru S (.tup ts) = .ok (!ts.isEmpty) S := rfl
theorem tru_lst (ts : List T) : tru S (.lst ts) = .ok (!ts.isEmpty) S := rfl
theorem runF_e {N n : Nat} {body : Ro → Sto → Out Fl} {ts : List T} : runF N n body ts S = if ts.length = n then fin (body (startT N ts) S) else .no := by
  unfold runF fin
  by_cases h : ts.length = n
  · simp only [h, decide_true, if_true]; try rfl
  · simp only [h, decide_false, if_false]
theorem runC_e {N : Nat} {body : (Sto → Out T) → Ro → Sto → Out Fl} {L : Sto → Out T} : runC N body L S = fin (body L (startT N [.mark]) S) := rfl
theorem fin_rt (t : T) : fin (.ok (.rt t) S) = .ok t S := rfl
theorem fin_nx (ρ : Ro) : fin (.ok (.nx ρ) S) = .ok .non S := rfl
theorem fin_exc (c : Str) (fs : List (Str × T)) : fin (.exc c fs S) = .exc c fs S := rfl
theorem fin_no : fin .no = .no := rfl
theorem fin_ite {c : Prop} [Decidable c] {a b : Out Fl} : fin (if c then a else b) = if c then fin a else fin b := by split <;> rfl
theorem bd_ok {a : α} {f : α → Sto → Out β} : (Out.ok a S).bind f = f a S := rfl
theorem bd_exc {c : Str} {fs : List (Str × T)} {f : α → Sto → Out β} : (Out.exc c fs S : Out α).bind f = .exc c fs S := rfl
theorem bd_no {f : α → Sto → Out β} : (Out.no : Out α).bind f = .no := rfl
theorem bd_ite {c : Prop} [Decidable c] {a b : Out α} {f : α → Sto → Out β} : (if c then a else b).bind f = if c then a.bind f else b.bind f := by split <;> rfl
theorem seF_e {fa fb : Ro → Sto → Out Fl} : seF fa fb ρ S = (fa ρ S).bind fun fl S1 => match fl with | .nx ρ1 => fb ρ1 S1 | fl => .ok fl S1 := rfl
theorem iffF_e {gc : Ro → Sto → Out Bool} {fa fb : Ro → Sto → Out Fl} : iffF gc fa fb ρ S = (gc ρ S).bind fun b S1 => if b = true then fa ρ S1 else fb ρ S1 := by
  unfold iffF; cases gc ρ S with
  | ok b S1 => cases b <;> rfl
  | _ => rfl
theorem ifF_e {gc : Ro → Sto → Out Bool} {fa fb : Ro → Sto → Out T} : ifF gc fa fb ρ S = (gc ρ S).bind fun b S1 => if b = true then fa ρ S1 else fb ρ S1 := by
  unfold ifF; cases gc ρ S with
  | ok b S1 => cases b <;> rfl
  | _ => rfl
theorem andF_e {ga gb : Ro → Sto → Out Bool} : andF ga gb ρ S = (ga ρ S).bind fun b S1 => if b = true then gb ρ S1 else .ok false S1 := by
  unfold andF; cases ga ρ S with
  | ok b S1 => cases b <;> rfl
  | _ => rfl
theorem orF_e {ga gb : Ro → Sto → Out Bool} : orF ga gb ρ S = (ga ρ S).bind fun b S1 => if b = true then .ok true S1 else gb ρ S1 := by
  unfold orF; cases ga ρ S with
  | ok b S1 => cases b <;> rfl
  | _ => rfl
theorem notF_e {ga : Ro → Sto → Out Bool} : notF ga ρ S = (ga ρ S).bind fun b S1 => .ok (!b) S1 := rfl
theorem andV_e {fa fb : Ro → Sto → Out T} : andV fa fb ρ S = (fa ρ S).bind fun t S1 => (tru S1 t).bind fun b _ => if b = true then fb ρ S1 else .ok t S1 := by
  unfold andV tru; cases fa ρ S with
  | ok t S1 => simp only [Out.bind]; cases truAt S1 t with
    | none => rfl
    | some b => cases b <;> rfl
  | _ => rfl
theorem orV_e {fa fb : Ro → Sto → Out T} : orV fa fb ρ S = (fa ρ S).bind fun t S1 => (tru S1 t).bind fun b _ => if b = true then .ok t S1 else fb ρ S1 := by
  unfold orV tru; cases fa ρ S with
  | ok t S1 => simp only [Out.bind]; cases truAt S1 t with
    | none => rfl
    | some b => cases b <;> rfl
  | _ => rfl
theorem notV_e {fa : Ro → Sto → Out T} : notV fa ρ S = (fa ρ S).bind fun t S1 => (tru S1 t).bind fun b _ => .ok (.bl (!b)) S1 := by
  unfold notV tru; cases fa ρ S with
  | ok t S1 => simp only [Out.bind]; cases truAt S1 t <;> rfl
  | _ => rfl
theorem truF_e {f : Ro → Sto → Out T} : truF f ρ S = (f ρ S).bind fun t S1 => tru S1 t := rfl
theorem asB_bl {b : Bool} : asB (.ok (.bl b) S) = .ok b S := rfl
theorem asB_ite {c : Prop} [Decidable c] {a b : Out T} : asB (if c then a else b) = if c then asB a else asB b := by split <;> rfl
theorem asB_exc {c : Str} {fs : List (Str × T)} : asB (.exc c fs S) = .exc c fs S := rfl
theorem chF_e {g g' : T → T → Sto → Out T} {fa fb fc : Ro → Sto → Out T} : chF g g' fa fb fc ρ S = (fa ρ S).bind fun x S1 => (fb ρ S1).bind fun y S2 => (asB (g x y S2)).bind fun b S3 => if b = true then (fc ρ S3).bind fun w S4 => g' y w S4 else .ok (.bl false) S3 := by
  unfold chF
  cases fa ρ S with
  | ok x S1 =>
    simp only [Out.bind]
    cases fb ρ S1 with
    | ok y S2 =>
      simp only
      cases g x y S2 with
      | ok z S3 => cases z with
        | bl b => cases b <;> rfl
        | _ => rfl
      | _ => rfl
    | _ => rfl
  | _ => rfl
theorem vF_e {i : Nat} : vF i ρ S = match ρ[i]? with | some (some t) => .ok t S | _ => .no := rfl
theorem add_int (a b : Int) : addG (.int a) (.int b) S = .ok (.int (a + b)) S := rfl
theorem sub_int' (a b : Int) : subG (.int a) (.int b) S = .ok (.int (a - b)) S := rfl
theorem neg_int' (a : Int) : negG (.int a) S = .ok (.int (-a)) S := rfl
theorem mul_int' (a b : Int) : mulA (.int a) (.int b) S = if CMul a b then .ok (.int (a * b)) S else .no := rfl
theorem fdiv_int (a b : Int) : fdivG (.int a) (.int b) S = if CDivN a b then .ok (.int (a.fdiv b)) S else .no := rfl
theorem mod_int2 (a b : Int) : modG (.int a) (.int b) S = if b ≠ 0 then .ok (.int (a.fmod b)) S else .no := rfl
theorem pow_int' (a b : Int) : powG (.int a) (.int b) S = if CPow a b then .ok (.int (a ^ b.toNat)) S else .no := rfl
theorem lt_int (a b : Int) : ltG (.int a) (.int b) S = .ok (.bl (decide (a < b))) S := rfl
theorem le_int (a b : Int) : leG (.int a) (.int b) S = .ok (.bl (decide (a ≤ b))) S := rfl
theorem gt_int (a b : Int) : gtG (.int a) (.int b) S = .ok (.bl (decide (b < a))) S := rfl
theorem ge_int (a b : Int) : geG (.int a) (.int b) S = .ok (.bl (decide (b ≤ a))) S := rfl
theorem eq_int (a b : Int) : eqG false (.int a) (.int b) S = .ok (.bl (decide (a = b))) S := rfl
theorem ne_int (a b : Int) : eqG true (.int a) (.int b) S = .ok (.bl (!decide (a = b))) S := rfl
theorem add_str (a b : Str) : addG (.str a) (.str b) S = fit (a.length + b.length) (.ok (.str (a ++ b)) S) := rfl
theorem add_lst (a b : List T) : addG (.lst a) (.lst b) S = fit (a.length + b.length) (.ok (.lst (a ++ b)) S) := rfl
theorem len_str (a : Str) : lenG [.str a] S = if a.length ≤ 16777216 then .ok (.int a.length) S else .no := by
  cases e : Nat.ble a.length 16777216 with
  | true => rw [if_pos (Nat.le_of_ble_eq_true e)]; simp only [lenG, lenT, e]
  | false => rw [if_neg (fun h => by rw [Nat.ble_eq_true_of_le h] at e; cases e)]; simp only [lenG, lenT, e]
theorem len_tup (a : List T) : lenG [.tup a] S = .ok (.int a.length) S := rfl
theorem len_lst (a : List T) : lenG [.lst a] S = .ok (.int a.length) S := rfl
theorem int_int (a : Int) : intA [.int a] S = .ok (.int a) S := rfl
theorem int_bl (a : Bool) : intA [.bl a] S = .ok (.int (if a then 1 else 0)) S := rfl
theorem abs_int (a : Int) : absG [.int a] S = .ok (.int a.natAbs) S := by
  show Out.ok (T.int (if a < 0 then -a else a)) S = _
  congr 2
  split <;> omega
theorem fit_e {n : Nat} {o : Out α} : fit n o = if n ≤ 16777216 then o else .no := by
  unfold fit
  cases e : Nat.ble n 16777216 with
  | true => rw [if_pos (Nat.le_of_ble_eq_true e)]
  | false => rw [if_neg (fun h => by rw [Nat.ble_eq_true_of_le h] at e; cases e)]
theorem gT_e {n : Nat} {gs : List T → Ro → Sto → Out Ro} {ts : List T} : gT n gs (.tup ts) ρ S = if ts.length = n then gs ts ρ S else .no := by
  unfold gT
  by_cases h : ts.length = n
  · simp only [h, decide_true, if_true]
  · simp only [h, decide_false, if_false]
theorem raF_e {x : Str} {ks : List Str} {fs : Ro → Sto → Out (List T)} : raF x ks fs ρ S = (fs ρ S).bind fun ts S1 => if ts.length = ks.length then .exc x (ks.zip ts).reverse S1 else .no := by
  unfold raF
  congr 1
  funext ts S1
  by_cases h : ts.length = ks.length
  · simp only [h, decide_true, if_true]
  · simp only [h, decide_false, if_false]
theorem noX_ok {a : α} : noX (.ok a S) = .ok a S := rfl
theorem noX_ite {c : Prop} [Decidable c] {a b : Out α} : noX (if c then a else b) = if c then noX a else noX b := by split <;> rfl
theorem comp_nil {g : T → Ro → Sto → Out Ro} {gt : Ro → Sto → Out Bool} {fe : Ro → Sto → Out T} {ρ0 : Ro} {acc : List T} : compF g gt fe ρ0 [] acc S = .ok acc S := rfl
theorem comp_cons {g : T → Ro → Sto → Out Ro} {gt : Ro → Sto → Out Bool} {fe : Ro → Sto → Out T} {ρ0 : Ro} {acc ts : List T} {t : T} : compF g gt fe ρ0 (t :: ts) acc S = (noX (g t ρ0 S)).bind fun ρ1 S1 => (noX (gt ρ1 S1)).bind fun b S2 => if b = true then (noX (fe ρ1 S2)).bind fun x S3 => fit (acc.length + 1) (compF g gt fe ρ0 ts (acc ++ [x]) S3) else compF g gt fe ρ0 ts acc S2 := by
  show (noX (g t ρ0 S)).bind _ = _
  cases noX (g t ρ0 S) with
  | ok ρ1 S1 =>
    show (noX (gt ρ1 S1)).bind _ = (noX (gt ρ1 S1)).bind _
    cases noX (gt ρ1 S1) with
    | ok b S2 => cases b with
      | true => simp only [bd_ok, if_true]
      | false => simp only [bd_ok, Bool.false_eq_true, if_false]
    | _ => rfl
  | _ => rfl
theorem Ok_ite {c : Prop} [Decidable c] {a b : Out α} {Q : α → Sto → Prop} : Ok (if c then a else b) Q = if c then Ok a Q else Ok b Q := by split <;> rfl
theorem Ok_no {Q : α → Sto → Prop} : Ok (.no : Out α) Q = False := rfl
theorem Ok_exc {c : Str} {fs : List (Str × T)} {Q : α → Sto → Prop} : Ok (.exc c fs S : Out α) Q = False := rfl
theorem startT_0 {N : Nat} : startT N [] = List.replicate N none := rfl
end
/-! ### == on data -/
theorem eq_dat {S : Sto} {x y : T} {d : PyData} (n : Bool) (h1 : datAt S x = some d) (h2 : datAt S y = some d) (hs : SeqAt.shaped d = true) : eqG n x y S = .ok (.bl (!n)) S := by
  unfold eqG
  rw [h1, h2]
  have e : PyData.eqv d d = true := SeqAt.eqv_refl d (SeqAt.canLay_of_shaped hs)
  simp only [hs, and_self, if_true, e]
  cases n <;> rfl
/-! ### the pen: the dict from which a law draws -/
def penT (cs : List Int) (at_ dg cn fo : Int) : Ob := .dK [((.inr "cells" : Key), T.lst (cs.map .int)), (.inr "at", .int at_), (.inr "digits", .int dg), (.inr "count", .int cn), (.inr "fold", .int fo)]
structure PenOk (c : Int) (P : Ob) : Prop where
  ex : ∃ cs at_ dg cn fo, P = penT cs at_ dg cn fo ∧ 0 ≤ at_ ∧ 0 ≤ dg ∧ 0 ≤ cn ∧ cn ≤ c ∧ 0 ≤ fo ∧ fo < 4294967296
section
variable {cs : List Int} {at_ dg cn fo v : Int} {r : Sto}
theorem pg_cells : dgG (.ref 0) (.str "cells") (penT cs at_ dg cn fo :: r) = .ok (.lst (cs.map .int)) (penT cs at_ dg cn fo :: r) := rfl
theorem pg_at : dgG (.ref 0) (.str "at") (penT cs at_ dg cn fo :: r) = .ok (.int at_) (penT cs at_ dg cn fo :: r) := rfl
theorem pg_digits : dgG (.ref 0) (.str "digits") (penT cs at_ dg cn fo :: r) = .ok (.int dg) (penT cs at_ dg cn fo :: r) := rfl
theorem pg_count : dgG (.ref 0) (.str "count") (penT cs at_ dg cn fo :: r) = .ok (.int cn) (penT cs at_ dg cn fo :: r) := rfl
theorem pg_fold : dgG (.ref 0) (.str "fold") (penT cs at_ dg cn fo :: r) = .ok (.int fo) (penT cs at_ dg cn fo :: r) := rfl
theorem pp_at : putT [((.inr "cells" : Key), T.lst (cs.map .int)), (.inr "at", .int at_), (.inr "digits", .int dg), (.inr "count", .int cn), (.inr "fold", .int fo)] (.inr "at") (.int v) = [((.inr "cells" : Key), T.lst (cs.map .int)), (.inr "at", .int v), (.inr "digits", .int dg), (.inr "count", .int cn), (.inr "fold", .int fo)] := rfl
end
/-- what d[k] = v comes to, the pen at the store's beginning -/
def putP (k : String) (v : Int) : Ob → Ob
  | .dK kvs => .dK (putT kvs (.inr k) (.int v))
  | o => o
section
variable {cs : List Int} {at_ dg cn fo v : Int} {r : Sto}
theorem put_at : putP "at" v (penT cs at_ dg cn fo) = penT cs v dg cn fo := rfl
theorem put_digits : putP "digits" v (penT cs at_ dg cn fo) = penT cs at_ v cn fo := rfl
theorem put_count : putP "count" v (penT cs at_ dg cn fo) = penT cs at_ dg v fo := rfl
theorem put_fold : putP "fold" v (penT cs at_ dg cn fo) = penT cs at_ dg cn v := rfl
def dputV (x y v : T) (ρ : Ro) (S : Sto) : Out Fl := match x with
  | .ref n => match S[n]?, keyT y with
    | some (.dK kvs), some k => fit (kvs.length + 1) (.ok (.nx ρ) (S.set n (.dK (putT kvs k v))))
    | _, _ => .no
  | _ => .no
theorem dputF_e {ρ : Ro} {S : Sto} {fo' fi' fv' : Ro → Sto → Out T} : dputF fo' fi' fv' ρ S = (fv' ρ S).bind fun v S1 => (fo' ρ S1).bind fun x S2 => (fi' ρ S2).bind fun y S3 => dputV x y v ρ S3 := rfl
theorem dput0 {k : Str} {ρ : Ro} : dputV (.ref 0) (.str k) (.int v) ρ (penT cs at_ dg cn fo :: r) = fit 6 (.ok (.nx ρ) (.dK (putT [((.inr "cells" : Key), T.lst (cs.map .int)), (.inr "at", .int at_), (.inr "digits", .int dg), (.inr "count", .int cn), (.inr "fold", .int fo)] (.inr k) (.int v)) :: r)) := rfl
theorem dp_at {ρ : Ro} : dputV (.ref 0) (.str "at") (.int v) ρ (penT cs at_ dg cn fo :: r) = .ok (.nx ρ) (penT cs v dg cn fo :: r) := rfl
theorem dp_digits {ρ : Ro} : dputV (.ref 0) (.str "digits") (.int v) ρ (penT cs at_ dg cn fo :: r) = .ok (.nx ρ) (penT cs at_ v cn fo :: r) := rfl
theorem dp_count {ρ : Ro} : dputV (.ref 0) (.str "count") (.int v) ρ (penT cs at_ dg cn fo :: r) = .ok (.nx ρ) (penT cs at_ dg v fo :: r) := rfl
theorem dp_fold {ρ : Ro} : dputV (.ref 0) (.str "fold") (.int v) ρ (penT cs at_ dg cn fo :: r) = .ok (.nx ρ) (penT cs at_ dg cn v :: r) := rfl
end
theorem ix_lst (ts : List T) (i : Int) (S : Sto) : ixG (.lst ts) (.int i) S = match atI ts i with | some t => .ok t S | none => .no := rfl
theorem ix_tup (ts : List T) (i : Int) (S : Sto) : ixG (.tup ts) (.int i) S = match atI ts i with | some t => .ok t S | none => .no := rfl
theorem atI_nn {ts : List T} {i : Int} (h0 : 0 ≤ i) (h1 : i < ts.length) : ∃ t, atI ts i = some t ∧ ts[i.toNat]? = some t := by
  have hi : i.toNat < ts.length := by omega
  refine ⟨ts[i.toNat], ?_, List.getElem?_eq_getElem hi⟩
  unfold atI ixN
  rw [if_pos h0, if_pos h1]
  exact List.getElem?_eq_getElem hi
/-! ### errors caught -/
section
variable {ct : Str → Option (List Str)} {sub : Str → Str → Option Bool} {n : Nat} {hs r : List HdF} {c x : Str} {nm : Option Nat} {hf : List (Str × T) → Ro → Sto → Out Fl} {fs : List (Str × T)} {S S1 : Sto} {ρ : Ro} {fb : Ro → Sto → Out Fl}
theorem try_exc (h : fb ρ S = .exc c fs S1) : tryF ct sub n fb hs ρ S = handF ct sub n hs c fs S1 := by unfold tryF; rw [h]
theorem try_ok {fl : Fl} (h : fb ρ S = .ok fl S1) : tryF ct sub n fb hs ρ S = .ok fl S1 := by unfold tryF; rw [h]
theorem hand_no (h : sub c x = some false) : handF ct sub n ((x, nm, hf) :: r) c fs S = handF ct sub n r c fs S := by
  show (match sub c x with | some true => _ | some false => handF ct sub n r c fs S | none => _) = _
  rw [h]
theorem hand_yes {ks : List Str} (h : sub c x = some true) (hk : ct c = some ks) (ha : fs.all (fun kv => ks.contains kv.1) = true) : handF ct sub n ((x, nm, hf) :: r) c fs S = fixI nm (hf fs (match nm with | some i => (List.replicate n none).set i (some .mark) | none => List.replicate n none) S) := by
  conv => lhs; unfold handF
  rw [h]
  simp only
  rw [hk]
  simp only
  rw [ha]
  try rfl
theorem fix_rt {t : T} : fixI nm (.ok (.rt t) S) = .ok (.rt t) S := by cases nm <;> rfl
theorem er_ok {i : Nat} {f : Str} {t : T} (h : ρ[i]? = some (some .mark)) (h2 : fs.lookup f = some t) : erF i fs f ρ S = .ok t S := by
  unfold erF; rw [h]; simp only; rw [h2]
theorem repr_ok {t : T} {d : PyData} {z : Str} (h : datAt S t = some d) (h2 : reprD d S = .ok (.str z) S) : reprG [t] S = .ok (.str z) S := by
  show (match datAt S t with | some d => reprD d S | none => .no) = _
  rw [h]; exact h2
theorem call_mark {L : Sto → Out T} {r : Ro} : callF L (some .mark :: r) S = L S := rfl
end
/-! ### lists that change, behind the pen -/
section
variable {P : Ob} {r : Sto} {us ts : List T} {t : T} {n : Nat}
theorem last_get {o : Ob} : (P :: (r ++ [o]))[r.length + 1]? = some o := by simp
theorem last_set {o o' : Ob} : (P :: (r ++ [o])).set (r.length + 1) o' = P :: (r ++ [o']) := by simp
theorem app_last (h : us.length + 1 ≤ 16777216) : appG (.ref (r.length + 1)) [t] (P :: (r ++ [.lst us])) = .ok .non (P :: (r ++ [.lst (us ++ [t])])) := by
  unfold appG
  simp only [last_get, last_set, fit_pos h]
theorem lst_last : lstAt (P :: (r ++ [.lst us])) (.ref (r.length + 1)) = some us := by
  unfold lstAt
  simp only [last_get]
theorem dat_last : datAt (P :: (r ++ [.lst us])) (.ref (r.length + 1)) = (datL us).map .list := by
  unfold datAt
  simp only [last_get]
theorem isT_last : isTy "list" (.ref (r.length + 1)) (P :: (r ++ [.lst us])) = true := by
  unfold isTy
  simp only [last_get]
  rfl
theorem mF_e {c : String} {g : T → List T → Sto → Out T} {fo : Ro → Sto → Out T} {fs : Ro → Sto → Out (List T)} {ρ : Ro} {S : Sto} : mF c g fo fs ρ S = (fo ρ S).bind fun x S1 => if isTy c x S1 = true then (fs ρ S1).bind fun ts S2 => g x ts S2 else .no := by
  unfold mF
  cases fo ρ S with
  | ok x S1 =>
    simp only [bd_ok]
    cases isTy c x S1 <;> rfl
  | _ => rfl
theorem addR_e {x y : T} {S : Sto} {a b : List T} (h1 : lstAt S x = some a) (h2 : lstAt S y = some b) (h : a.length + b.length ≤ 16777216) : addRG x y S = .ok (.ref S.length) (S ++ [.lst (a ++ b)]) := by
  unfold addRG
  rw [h1, h2]
  exact fit_pos h
theorem callv_e {i : Nat} {tbl : Str → Option Spec} {fs : Ro → Sto → Out (List T)} {ρ : Ro} {S : Sto} {x : Str} {f : Spec} (h : ρ[i]? = some (some (.glob x))) (h2 : tbl x = some f) : callvF i tbl fs ρ S = (fs ρ S).bind f := by
  unfold callvF
  rw [h]
  simp only
  rw [h2]
end
theorem in_int2 (x a b : Int) (S : Sto) : inG false (.int x) (.tup [.int a, .int b]) S = .ok (.bl (decide (a = x ∨ b = x))) S := by
  show Out.ok (T.bl ((a == x) || ((b == x) || false))) S = _
  have e : ((a == x) || ((b == x) || false)) = decide (a = x ∨ b = x) := by
    by_cases h1 : a = x <;> by_cases h2 : b = x <;> simp [h1, h2]
  rw [e]
theorem ix_ints {cs : List Int} {i : Int} (S : Sto) (h0 : 0 ≤ i) (h1 : i < cs.length) : ∃ z, z ∈ cs ∧ ixG (.lst (cs.map .int)) (.int i) S = .ok (.int z) S := by
  obtain ⟨t, e, e2⟩ := atI_nn (ts := cs.map T.int) h0 (by simpa using h1)
  rw [List.getElem?_map] at e2
  cases q : cs[i.toNat]? with
  | none => rw [q] at e2; cases e2
  | some z =>
    rw [q] at e2
    cases e2
    exact ⟨z, List.mem_of_getElem? q, by rw [ix_lst, e]⟩
theorem cmul_r {a b : Int} (h1 : -(2 ^ 64) < b) (h2 : b < 2 ^ 64) : CMul a b := .inr ⟨h1, h2⟩
theorem cmul_l {a b : Int} (h1 : -(2 ^ 64) < a) (h2 : a < 2 ^ 64) : CMul a b := .inl ⟨h1, h2⟩
theorem fm_pos {a b : Int} (hb : 0 < b) : a.fmod b = a % b := Int.fmod_eq_emod_of_nonneg a (by omega)
theorem fd_pos {a b : Int} (hb : 0 < b) : a.fdiv b = a / b := Int.fdiv_eq_ediv_of_nonneg a (by omega)
instance (a b : Int) : Decidable (CMul a b) := by unfold CMul; infer_instance
end Mi
/-- what stands in a body, laid open piece by piece -/
local macro_rules
  | `(tactic| dsimp! [$ls:simpLemma,*]) => `(tactic| simp (config := { decide := false }) only [Mi.runF_e, Mi.runC_e, Mi.fin_rt, Mi.fin_nx, Mi.fin_exc, Mi.fin_no, Mi.fin_ite, Mi.bd_ok, Mi.bd_exc, Mi.bd_no, Mi.bd_ite, Mi.seF_e, Mi.iffF_e, Mi.ifF_e, Mi.andF_e, Mi.orF_e, Mi.notF_e, Mi.andV_e, Mi.orV_e, Mi.notV_e, Mi.truF_e, Mi.asB_bl, Mi.asB_ite, Mi.asB_exc, Mi.chF_e, Mi.vF_e, Mi.tru_bl, Mi.tru_int, Mi.tru_non, Mi.tru_tup, Mi.tru_lst,
  Mi.add_int, Mi.sub_int', Mi.neg_int', Mi.mul_int', Mi.fdiv_int, Mi.mod_int2, Mi.pow_int', Mi.lt_int, Mi.le_int, Mi.gt_int, Mi.ge_int, Mi.eq_int, Mi.ne_int, Mi.add_str, Mi.add_lst, Mi.len_str, Mi.len_tup, Mi.len_lst, Mi.int_int, Mi.int_bl, Mi.abs_int, Mi.fit_e, Mi.gT_e, Mi.raF_e, Mi.noX_ok, Mi.noX_ite, Mi.comp_nil, Mi.comp_cons, Mi.Ok_ok, Mi.Ok_bind, Mi.Ok_ite, Mi.Ok_no, Mi.Ok_exc,
  Mi.startT, Mi.reF, Mi.reN, Mi.asgF, Mi.exF, Mi.parF, Mi.par3F, Mi.paF, Mi.brF, Mi.coF, Mi.gN, Mi.gNil', Mi.gCons', Mi.cF, Mi.bF, Mi.uF, Mi.aNil, Mi.aCons, Mi.tupF, Mi.lstF, Mi.lstRF, Mi.caF, Mi.lcF, Mi.lcRF, Mi.dputF_e, Mi.pg_cells, Mi.pg_at, Mi.pg_digits, Mi.pg_count, Mi.pg_fold, Mi.dp_at, Mi.dp_digits, Mi.dp_count, Mi.dp_fold, Mi.isF, Mi.itemsS, Mi.itemsG, Mi.wipeT, Mi.yesF,
  List.length_cons, List.length_nil, List.map_cons, List.map_nil, List.replicate_succ, List.replicate_zero, List.cons_append, List.nil_append, List.append_nil, List.getElem?_cons_zero, List.getElem?_cons_succ, List.set_cons_zero, List.set_cons_succ, List.set_nil, Nat.reduceAdd, Nat.reduceSub, Nat.reduceLeDiff, Nat.reduceEqDiff, Nat.succ_sub_succ_eq_sub, Nat.sub_zero, decide_true, decide_false, decide_eq_true_eq, decide_eq_false_iff_not, Bool.not_eq_true', Bool.not_true, Bool.not_false, Bool.false_eq_true, Bool.true_eq_false, reduceCtorEq, reduceIte, if_true, if_false, ite_true, ite_false, and_true, true_and, and_self, not_true_eq_false, not_false_eq_true, ne_eq, Nat.zero_add, $ls,*])


set_option Elab.async false
set_option linter.all false
set_option maxRecDepth 100000
namespace Mi
open PySem PySem.Spec PyProof.Rows L2
/-! ### laid open from the head on -/
def asBF (f : Ro → Sto → Out T) : Ro → Sto → Out Bool := fun ρ S => asB (f ρ S)
def riF (g : List T → Sto → Out (List T)) (fs : Ro → Sto → Out (List T)) : Ro → Sto → Out (List T) := fun ρ S => (fs ρ S).bind g
def c0F (f : Spec) : Ro → Sto → Out T := fun _ S => f [] S
def noF (f : Ro → Sto → Out T) : Ro → Sto → Out T := fun ρ S => noX (f ρ S)
section
variable {β : Type}
def finK : Fl → Sto → Out T := fun fl S => match fl with
  | .rt t => .ok t S
  | .nx _ => .ok .non S
  | _ => .no
def setC {α : Type} (acc : List α) : List α → Nat → α → (List α → Sto → Out β) → Sto → Out β := fun ρ i t k S => k (acc.reverse ++ ρ.set i t) S
def revC {α : Type} (acc : List α) (ρ : List α) (k : List α → Sto → Out β) (S : Sto) : Out β := k (acc.reverse ++ ρ) S
def nxK (k : Fl → Sto → Out β) : Ro → Sto → Out β := fun ρ S => k (.nx ρ) S
def bK1 (g : T → T → Sto → Out T) (fb : Ro → Sto → Out T) (ρ : Ro) (k : T → Sto → Out β) : T → Sto → Out β := fun x S => (fb ρ S).bind fun y S2 => (g x y S2).bind k
def bK2 (g : T → T → Sto → Out T) (x : T) (k : T → Sto → Out β) : T → Sto → Out β := fun y S => (g x y S).bind k
def uK (g : T → Sto → Out T) (k : T → Sto → Out β) : T → Sto → Out β := fun x S => (g x S).bind k
def ifK {α : Type} (fa fb : Ro → Sto → Out α) (ρ : Ro) (k : α → Sto → Out β) : Bool → Sto → Out β := fun b S => if b = true then (fa ρ S).bind k else (fb ρ S).bind k
def anK (gb : Ro → Sto → Out Bool) (ρ : Ro) (k : Bool → Sto → Out β) : Bool → Sto → Out β := fun b S => if b = true then (gb ρ S).bind k else k false S
def orK (gb : Ro → Sto → Out Bool) (ρ : Ro) (k : Bool → Sto → Out β) : Bool → Sto → Out β := fun b S => if b = true then k true S else (gb ρ S).bind k
def ntK (k : Bool → Sto → Out β) : Bool → Sto → Out β := fun b S => k (!b) S
def trK (k : Bool → Sto → Out β) : T → Sto → Out β := fun t S => (tru S t).bind k
def anV (fb : Ro → Sto → Out T) (ρ : Ro) (k : T → Sto → Out β) : T → Sto → Out β := fun t S => (tru S t).bind fun b _ => if b = true then (fb ρ S).bind k else k t S
def orVK (fb : Ro → Sto → Out T) (ρ : Ro) (k : T → Sto → Out β) : T → Sto → Out β := fun t S => (tru S t).bind fun b _ => if b = true then k t S else (fb ρ S).bind k
def ntV (k : T → Sto → Out β) : T → Sto → Out β := fun t S => (tru S t).bind fun b _ => k (.bl (!b)) S
def asK (k : Bool → Sto → Out β) : T → Sto → Out β := fun t S => (asB (.ok t S)).bind k
def isNK (neg : Bool) (k : T → Sto → Out β) : T → Sto → Out β := fun t S => match isN t with
  | some b => k (.bl (if neg then !b else b)) S
  | none => .no
def chK1 (g g' : T → T → Sto → Out T) (fb fc : Ro → Sto → Out T) (ρ : Ro) (k : T → Sto → Out β) : T → Sto → Out β := fun x S => (fb ρ S).bind fun y S2 => (asB (g x y S2)).bind fun b S3 => if b = true then (fc ρ S3).bind fun w S4 => (g' y w S4).bind k else k (.bl false) S3
def chK2 (g g' : T → T → Sto → Out T) (fc : Ro → Sto → Out T) (x : T) (ρ : Ro) (k : T → Sto → Out β) : T → Sto → Out β := fun y S2 => (asB (g x y S2)).bind fun b S3 => if b = true then (fc ρ S3).bind fun w S4 => (g' y w S4).bind k else k (.bl false) S3
def chK3 (g' : T → T → Sto → Out T) (fc : Ro → Sto → Out T) (y : T) (ρ : Ro) (k : T → Sto → Out β) : Bool → Sto → Out β := fun b S3 => if b = true then (fc ρ S3).bind fun w S4 => (g' y w S4).bind k else k (.bl false) S3
def acK (fs : Ro → Sto → Out (List T)) (ρ : Ro) (k : List T → Sto → Out β) : T → Sto → Out β := fun t S => (fs ρ S).bind fun ts S2 => k (t :: ts) S2
def acK2 (t : T) (k : List T → Sto → Out β) : List T → Sto → Out β := fun ts S => k (t :: ts) S
def caK {α : Type} (g : List T → Sto → Out α) (k : α → Sto → Out β) : List T → Sto → Out β := fun ts S => (g ts S).bind k
def tuK (k : T → Sto → Out β) : List T → Sto → Out β := fun ts S => if ts.length ≤ 16777216 then k (.tup ts) S else .no
def lsK (k : T → Sto → Out β) : List T → Sto → Out β := fun ts S => if ts.length ≤ 16777216 then k (.lst ts) S else .no
def lrK (k : T → Sto → Out β) : List T → Sto → Out β := fun ts S => if ts.length ≤ 16777216 then k (.ref S.length) (S ++ [.lst ts]) else .no
def agK (g : T → Ro → Sto → Out Ro) (ρ : Ro) (k : Fl → Sto → Out β) : T → Sto → Out β := fun t S => (g t ρ S).bind (nxK k)
def gcK (gs : List T → Ro → Sto → Out Ro) (ts : List T) (k : Ro → Sto → Out β) : Ro → Sto → Out β := fun ρ S => (gs ts ρ S).bind k
def exK (ρ : Ro) (k : Fl → Sto → Out β) : T → Sto → Out β := fun _ S => k (.nx ρ) S
def reK (k : Fl → Sto → Out β) : T → Sto → Out β := fun t S => k (.rt t) S
def seK (fb : Ro → Sto → Out Fl) (k : Fl → Sto → Out β) : Fl → Sto → Out β := fun fl S => match fl with
  | .nx ρ => (fb ρ S).bind k
  | fl => k fl S
def auK (i : Nat) (ρ : Ro) (g : T → T → Sto → Out T) (fe : Ro → Sto → Out T) (k : Fl → Sto → Out β) : T → Sto → Out β := fun x S => (fe ρ S).bind fun y S1 => (g x y S1).bind fun z S2 => k (.nx (ρ.set i (some z))) S2
def auK2 (i : Nat) (ρ : Ro) (g : T → T → Sto → Out T) (x : T) (k : Fl → Sto → Out β) : T → Sto → Out β := fun y S1 => (g x y S1).bind fun z S2 => k (.nx (ρ.set i (some z))) S2
def auK3 (i : Nat) (ρ : Ro) (k : Fl → Sto → Out β) : T → Sto → Out β := fun z S2 => k (.nx (ρ.set i (some z))) S2
def paK (i j : Nat) (ρ : Ro) (k : Fl → Sto → Out β) : List T → Sto → Out β := fun ts S => match ts with
  | [a, b] => k (.nx ((ρ.set i (some a)).set j (some b))) S
  | _ => .no
def paK3 (i j l : Nat) (ρ : Ro) (k : Fl → Sto → Out β) : List T → Sto → Out β := fun ts S => match ts with
  | [a, b, c] => k (.nx (((ρ.set i (some a)).set j (some b)).set l (some c))) S
  | _ => .no
def raK (x : Str) (ks : List Str) : List T → Sto → Out β := fun ts S => if ts.length = ks.length then .exc x (ks.zip ts).reverse S else .no
def foK (g : T → Ro → Sto → Out Ro) (fb : Ro → Sto → Out Fl) (ρ : Ro) (k : Fl → Sto → Out β) : List T → Sto → Out β := fun ts S => (loopF g fb ts ρ S).bind k
def lcK (vs : List Nat) (g : T → Ro → Sto → Out Ro) (gt : Ro → Sto → Out Bool) (fe : Ro → Sto → Out T) (ρ : Ro) (k : T → Sto → Out β) : List T → Sto → Out β := fun ts S => (compF g gt fe (wipeT ρ vs) ts [] S).bind fun acc S2 => k (.lst acc) S2
def lcK2 (k : T → Sto → Out β) : List T → Sto → Out β := fun acc S2 => k (.lst acc) S2
def lcRK (vs : List Nat) (g : T → Ro → Sto → Out Ro) (gt : Ro → Sto → Out Bool) (fe : Ro → Sto → Out T) (ρ : Ro) (k : T → Sto → Out β) : List T → Sto → Out β := fun ts S => (compF g gt fe (wipeT ρ vs) ts [] S).bind fun acc S2 => k (.ref S2.length) (S2 ++ [.lst acc])
def lcRK2 (k : T → Sto → Out β) : List T → Sto → Out β := fun acc S2 => k (.ref S2.length) (S2 ++ [.lst acc])
def slK1 (fl fh : Ro → Sto → Out (Option Int)) (ρ : Ro) (k : T → Sto → Out β) : T → Sto → Out β := fun x S => (fl ρ S).bind fun lo S2 => (fh ρ S2).bind fun hi S3 => (slG x lo hi S3).bind k
def slK2 (x : T) (fh : Ro → Sto → Out (Option Int)) (ρ : Ro) (k : T → Sto → Out β) : Option Int → Sto → Out β := fun lo S2 => (fh ρ S2).bind fun hi S3 => (slG x lo hi S3).bind k
def slK3 (x : T) (lo : Option Int) (k : T → Sto → Out β) : Option Int → Sto → Out β := fun hi S3 => (slG x lo hi S3).bind k
def oiK (k : Option Int → Sto → Out β) : T → Sto → Out β := fun t S => match t with
  | .int i => k (some i) S
  | _ => .no
def rvK (k : T → Sto → Out β) : T → Sto → Out β := fun x S => match lstAt S x with
  | some ts => k (.lst ts.reverse) S
  | none => .no
def mK1 (c : String) (g : T → List T → Sto → Out T) (fs : Ro → Sto → Out (List T)) (ρ : Ro) (k : T → Sto → Out β) : T → Sto → Out β := fun x S => if isTy c x S = true then (fs ρ S).bind fun ts S2 => (g x ts S2).bind k else .no
def mK2 (g : T → List T → Sto → Out T) (x : T) (k : T → Sto → Out β) : List T → Sto → Out β := fun ts S => (g x ts S).bind k
def dpK1 (fo fi : Ro → Sto → Out T) (ρ : Ro) (k : Fl → Sto → Out β) : T → Sto → Out β := fun v S1 => (fo ρ S1).bind fun x S2 => (fi ρ S2).bind fun y S3 => (dputV x y v ρ S3).bind k
def dpK2 (fi : Ro → Sto → Out T) (v : T) (ρ : Ro) (k : Fl → Sto → Out β) : T → Sto → Out β := fun x S2 => (fi ρ S2).bind fun y S3 => (dputV x y v ρ S3).bind k
def dpK3 (x v : T) (ρ : Ro) (k : Fl → Sto → Out β) : T → Sto → Out β := fun y S3 => (dputV x y v ρ S3).bind k
def lputV (x y v : T) (ρ : Ro) (S : Sto) : Out Fl := match x, y with
  | .ref n, .int i => match S[n]? with
    | some (.lst us) => match ixN us.length i with
      | some j => .ok (.nx ρ) (S.set n (.lst (us.set j v)))
      | none => .no
    | _ => .no
  | _, _ => .no
def lpK1 (fo fi : Ro → Sto → Out T) (ρ : Ro) (k : Fl → Sto → Out β) : T → Sto → Out β := fun v S1 => (fo ρ S1).bind fun x S2 => (fi ρ S2).bind fun y S3 => (lputV x y v ρ S3).bind k
def lpK2 (fi : Ro → Sto → Out T) (v : T) (ρ : Ro) (k : Fl → Sto → Out β) : T → Sto → Out β := fun x S2 => (fi ρ S2).bind fun y S3 => (lputV x y v ρ S3).bind k
def lpK3 (x v : T) (ρ : Ro) (k : Fl → Sto → Out β) : T → Sto → Out β := fun y S3 => (lputV x y v ρ S3).bind k
end
section
variable {β α γ : Type} {ρ : Ro} {S : Sto} {k : T → Sto → Out β} {kf : Fl → Sto → Out β} {kb : Bool → Sto → Out β} {kr : Ro → Sto → Out β} {kl : List T → Sto → Out β} {t x y : T} {fa fb fc : Ro → Sto → Out T} {ga gb : Ro → Sto → Out Bool} {fs : Ro → Sto → Out (List T)} {sa sb : Ro → Sto → Out Fl} {ts : List T} {b : Bool}
theorem bb {o : Out α} {f : α → Sto → Out γ} {h : γ → Sto → Out β} : (o.bind f).bind h = o.bind fun a S => (f a S).bind h := by cases o <;> rfl
theorem bind_okR (o : Out α) : o.bind .ok = o := by cases o <;> rfl
theorem fin_b (o : Out Fl) : fin o = o.bind finK := by
  cases o with
  | ok fl S => cases fl <;> rfl
  | _ => rfl
theorem run_open {N n : Nat} {body : Ro → Sto → Out Fl} {ts : List T} {ρ : Ro} (h : ts.length = n) (h2 : startT N ts = ρ) : runF N n body ts S = (body ρ S).bind finK := by
  rw [runF_e, if_pos h, h2, fin_b]
theorem runK_open {N n : Nat} {body : Ro → Sto → Out Fl} {ts : List T} {ρ : Ro} (h : ts.length = n) (h2 : startT N ts = ρ) : runK N n body ts S = cutK S ((body ρ S).bind finK) := by
  unfold runK; rw [run_open h h2]
theorem runC_open {N : Nat} {body : (Sto → Out T) → Ro → Sto → Out Fl} {L : Sto → Out T} {ρ : Ro} (h2 : startT N [.mark] = ρ) : runC N body L S = (body L ρ S).bind finK := by
  rw [runC_e, h2, fin_b]
theorem e_finR : finK (.rt t) S = .ok t S := rfl
theorem e_finN : finK (.nx ρ) S = .ok .non S := rfl
theorem e_ok {a : α} {f : α → Sto → Out β} : (Out.ok a S).bind f = f a S := rfl
theorem e_exc {c : Str} {es : List (Str × T)} {f : α → Sto → Out β} : (Out.exc c es S : Out α).bind f = .exc c es S := rfl
theorem e_no {f : α → Sto → Out β} : (Out.no : Out α).bind f = .no := rfl
theorem e_ite {c : Prop} [Decidable c] {a b : Out α} {f : α → Sto → Out β} : (if c then a else b).bind f = if c then a.bind f else b.bind f := by split <;> rfl
theorem e_cF : (cF t ρ S).bind k = k t S := rfl
theorem e_vF0 : (vF 0 (some t :: ρ) S).bind k = k t S := rfl
theorem e_vFs {i : Nat} {o : Option T} : (vF (i + 1) (o :: ρ) S).bind k = (vF i ρ S).bind k := rfl
theorem e_setS {acc r : List α} {u v : α} {i : Nat} {q : List α → Sto → Out β} : setC acc (u :: r) (i + 1) v q S = setC (u :: acc) r i v q S := by
  unfold setC; simp
theorem e_set0 {acc r : List α} {u v : α} {q : List α → Sto → Out β} : setC acc (u :: r) 0 v q S = revC acc (v :: r) q S := rfl
theorem e_revS {acc r : List α} {u : α} {q : List α → Sto → Out β} : revC (u :: acc) r q S = revC acc (u :: r) q S := by unfold revC; simp
theorem e_rev0 {r : List α} {q : List α → Sto → Out β} : revC [] r q S = q r S := rfl
theorem e_nxK : nxK kf ρ S = kf (.nx ρ) S := rfl
theorem e_bF {g : T → T → Sto → Out T} : (bF g fa fb ρ S).bind k = (fa ρ S).bind (bK1 g fb ρ k) := by
  unfold bF bK1; rw [bb]; congr 1; funext x S; rw [bb]
theorem e_bK1 {g : T → T → Sto → Out T} : bK1 g fb ρ k x S = (fb ρ S).bind (bK2 g x k) := rfl
theorem e_bK2 {g : T → T → Sto → Out T} : bK2 g x k y S = (g x y S).bind k := rfl
theorem e_uF {g : T → Sto → Out T} : (uF g fa ρ S).bind k = (fa ρ S).bind (uK g k) := by unfold uF uK; rw [bb]
theorem e_uK {g : T → Sto → Out T} : uK g k x S = (g x S).bind k := rfl
theorem e_ifF : (ifF ga fa fb ρ S).bind k = (ga ρ S).bind (ifK fa fb ρ k) := by
  rw [ifF_e, bb]; congr 1; funext b S; cases b <;> rfl
theorem e_ifK {fa fb : Ro → Sto → Out α} {k : α → Sto → Out β} : ifK fa fb ρ k b S = if b = true then (fa ρ S).bind k else (fb ρ S).bind k := rfl
theorem e_iffF : (iffF ga sa sb ρ S).bind kf = (ga ρ S).bind (ifK sa sb ρ kf) := by
  rw [iffF_e, bb]; congr 1; funext b S; cases b <;> rfl
theorem e_andF : (andF ga gb ρ S).bind kb = (ga ρ S).bind (anK gb ρ kb) := by
  rw [andF_e, bb]; congr 1; funext b S; cases b <;> rfl
theorem e_anK : anK gb ρ kb b S = if b = true then (gb ρ S).bind kb else kb false S := rfl
theorem e_orF : (orF ga gb ρ S).bind kb = (ga ρ S).bind (orK gb ρ kb) := by
  rw [orF_e, bb]; congr 1; funext b S; cases b <;> rfl
theorem e_orK : orK gb ρ kb b S = if b = true then kb true S else (gb ρ S).bind kb := rfl
theorem e_notF : (notF ga ρ S).bind kb = (ga ρ S).bind (ntK kb) := by rw [notF_e, bb]; rfl
theorem e_ntK : ntK kb b S = kb (!b) S := rfl
theorem e_truF : (truF fa ρ S).bind kb = (fa ρ S).bind (trK kb) := by rw [truF_e, bb]; rfl
theorem e_trK : trK kb t S = (tru S t).bind kb := rfl
theorem e_andV : (andV fa fb ρ S).bind k = (fa ρ S).bind (anV fb ρ k) := by
  rw [andV_e, bb]; congr 1; funext t S; unfold anV; rw [bb]; congr 1; funext b S; cases b <;> rfl
theorem e_anV : anV fb ρ k t S = (tru S t).bind fun b _ => if b = true then (fb ρ S).bind k else k t S := rfl
theorem e_orV : (orV fa fb ρ S).bind k = (fa ρ S).bind (orVK fb ρ k) := by
  rw [orV_e, bb]; congr 1; funext t S; unfold orVK; rw [bb]; congr 1; funext b S; cases b <;> rfl
theorem e_orVK : orVK fb ρ k t S = (tru S t).bind fun b _ => if b = true then k t S else (fb ρ S).bind k := rfl
theorem e_notV : (notV fa ρ S).bind k = (fa ρ S).bind (ntV k) := by
  rw [notV_e, bb]; congr 1; funext t S; unfold ntV; rw [bb]; rfl
theorem e_ntV : ntV k t S = (tru S t).bind fun b _ => k (.bl (!b)) S := rfl
theorem e_asB {o : Out T} : (asB o).bind kb = o.bind (asK kb) := by unfold asB; rw [bb]; rfl
theorem e_asBF : (asBF fa ρ S).bind kb = (fa ρ S).bind (asK kb) := e_asB
theorem e_asK : asK kb (.bl b) S = kb b S := rfl
theorem e_isNF {neg : Bool} : (isNF neg fa ρ S).bind k = (fa ρ S).bind (isNK neg k) := by
  unfold isNF; rw [bb]; congr 1; funext t S; unfold isNK; cases isN t <;> rfl
theorem e_isNK {neg : Bool} : isNK neg k t S = match isN t with | some b => k (.bl (if neg then !b else b)) S | none => .no := rfl
theorem e_isN_non {neg : Bool} : isNK neg k .non S = k (.bl (!neg)) S := by cases neg <;> rfl
theorem e_isN_int {neg : Bool} {i : Int} : isNK neg k (.int i) S = k (.bl neg) S := by cases neg <;> rfl
theorem e_isN_str {neg : Bool} {i : Str} : isNK neg k (.str i) S = k (.bl neg) S := by cases neg <;> rfl
theorem e_isN_tup {neg : Bool} {ts : List T} : isNK neg k (.tup ts) S = k (.bl neg) S := by cases neg <;> rfl
theorem e_isN_lst {neg : Bool} {ts : List T} : isNK neg k (.lst ts) S = k (.bl neg) S := by cases neg <;> rfl
theorem e_isN_bl {neg : Bool} {i : Bool} : isNK neg k (.bl i) S = k (.bl neg) S := by cases neg <;> rfl
theorem e_chF {g g' : T → T → Sto → Out T} : (chF g g' fa fb fc ρ S).bind k = (fa ρ S).bind (chK1 g g' fb fc ρ k) := by
  rw [chF_e, bb]; congr 1; funext x S; unfold chK1; rw [bb]; congr 1; funext y S; rw [bb]; congr 1; funext b S
  cases b
  · rfl
  · simp only [if_true]; rw [bb]
theorem e_chK1 {g g' : T → T → Sto → Out T} : chK1 g g' fb fc ρ k x S = (fb ρ S).bind (chK2 g g' fc x ρ k) := rfl
theorem e_chK2 {g g' : T → T → Sto → Out T} : chK2 g g' fc x ρ k y S = (g x y S).bind (asK (chK3 g' fc y ρ k)) := e_asB
theorem e_chK3 {g' : T → T → Sto → Out T} : chK3 g' fc y ρ k b S = if b = true then (fc ρ S).bind (bK2 g' y k) else k (.bl false) S := rfl
theorem e_aNil : (aNil ρ S).bind kl = kl [] S := rfl
theorem e_aCons : (aCons fa fs ρ S).bind kl = (fa ρ S).bind (acK fs ρ kl) := by
  unfold aCons; rw [bb]; congr 1; funext t S; unfold acK; rw [bb]; rfl
theorem e_acK : acK fs ρ kl t S = (fs ρ S).bind (acK2 t kl) := rfl
theorem e_acK2 : acK2 t kl ts S = kl (t :: ts) S := rfl
theorem e_caF {g : List T → Sto → Out T} : (caF g fs ρ S).bind k = (fs ρ S).bind (caK g k) := by unfold caF; rw [bb]; rfl
theorem e_riF {g : List T → Sto → Out (List T)} : (riF g fs ρ S).bind kl = (fs ρ S).bind (caK g kl) := by unfold riF; rw [bb]; rfl
theorem e_caK {g : List T → Sto → Out α} {k : α → Sto → Out β} : caK g k ts S = (g ts S).bind k := rfl
theorem e_c0F {f : Spec} : (c0F f ρ S).bind k = (f [] S).bind k := rfl
theorem e_noF : (noF fa ρ S).bind k = (noX (fa ρ S)).bind k := rfl
theorem fit_if {α : Type} {n : Nat} {o : Out α} {k : α → Sto → Out β} : (fit n o).bind k = if n ≤ 16777216 then o.bind k else .no := by
  rw [fit_e]; split <;> rfl
theorem e_tupF : (tupF fs ρ S).bind k = (fs ρ S).bind (tuK k) := by
  unfold tupF; rw [bb]; congr 1; funext ts S; exact fit_if
theorem e_tuK : tuK k ts S = if ts.length ≤ 16777216 then k (.tup ts) S else .no := rfl
theorem e_lstF : (lstF fs ρ S).bind k = (fs ρ S).bind (lsK k) := by
  unfold lstF; rw [bb]; congr 1; funext ts S; exact fit_if
theorem e_lsK : lsK k ts S = if ts.length ≤ 16777216 then k (.lst ts) S else .no := rfl
theorem e_lstRF : (lstRF fs ρ S).bind k = (fs ρ S).bind (lrK k) := by
  unfold lstRF; rw [bb]; congr 1; funext ts S; exact fit_if
theorem e_lrK : lrK k ts S = if ts.length ≤ 16777216 then k (.ref S.length) (S ++ [.lst ts]) else .no := rfl
theorem e_asgF {g : T → Ro → Sto → Out Ro} : (asgF fa g ρ S).bind kf = (fa ρ S).bind (agK g ρ kf) := by
  unfold asgF; rw [bb]; congr 1; funext t S; unfold agK; rw [bb]; rfl
theorem e_agK {g : T → Ro → Sto → Out Ro} : agK g ρ kf t S = (g t ρ S).bind (nxK kf) := rfl
theorem e_gN {i : Nat} : (gN i t ρ S).bind kr = setC [] ρ i (some t) kr S := rfl
theorem e_gT {n : Nat} {gs : List T → Ro → Sto → Out Ro} : (gT n gs (.tup ts) ρ S).bind kr = if ts.length = n then (gs ts ρ S).bind kr else .no := by rw [gT_e]; split <;> rfl
theorem e_gCons {g : T → Ro → Sto → Out Ro} {gs : List T → Ro → Sto → Out Ro} : (gCons' g gs (t :: ts) ρ S).bind kr = (g t ρ S).bind (gcK gs ts kr) := by
  show ((g t ρ S).bind _).bind kr = _; rw [bb]; rfl
theorem e_gcK {gs : List T → Ro → Sto → Out Ro} : gcK gs ts kr ρ S = (gs ts ρ S).bind kr := rfl
theorem e_gNil : (gNil' [] ρ S).bind kr = kr ρ S := rfl
theorem e_exF : (exF fa ρ S).bind kf = (fa ρ S).bind (exK ρ kf) := by unfold exF; rw [bb]; rfl
theorem e_exK : exK ρ kf t S = kf (.nx ρ) S := rfl
theorem e_reF : (reF fa ρ S).bind kf = (fa ρ S).bind (reK kf) := by unfold reF; rw [bb]; rfl
theorem e_reK : reK kf t S = kf (.rt t) S := rfl
theorem e_reN : (reN ρ S).bind kf = kf (.rt .non) S := rfl
theorem e_paF : (paF ρ S).bind kf = kf (.nx ρ) S := rfl
theorem e_brF : (brF ρ S).bind kf = kf (.bk ρ) S := rfl
theorem e_coF : (coF ρ S).bind kf = kf (.ct ρ) S := rfl
theorem e_seF : (seF sa sb ρ S).bind kf = (sa ρ S).bind (seK sb kf) := by
  rw [seF_e, bb]; congr 1; funext fl S; cases fl <;> rfl
theorem e_seN : seK sb kf (.nx ρ) S = (sb ρ S).bind kf := rfl
theorem e_seR : seK sb kf (.rt t) S = kf (.rt t) S := rfl
theorem e_seB : seK sb kf (.bk ρ) S = kf (.bk ρ) S := rfl
theorem e_seC : seK sb kf (.ct ρ) S = kf (.ct ρ) S := rfl
theorem e_auF {i : Nat} {g : T → T → Sto → Out T} : (auF i fa g ρ S).bind kf = (vF i ρ S).bind (auK i ρ g fa kf) := by
  unfold auF vF
  cases e : ρ[i]? with
  | none => rfl
  | some o =>
    cases o with
    | none => rfl
    | some x => simp only [bb, e_ok]; rfl
theorem e_auK {i : Nat} {g : T → T → Sto → Out T} : auK i ρ g fa kf x S = (fa ρ S).bind (auK2 i ρ g x kf) := rfl
theorem e_auK2 {i : Nat} {g : T → T → Sto → Out T} : auK2 i ρ g x kf y S = (g x y S).bind (auK3 i ρ kf) := rfl
theorem e_auK3 {i : Nat} : auK3 i ρ kf y S = setC [] ρ i (some y) (nxK kf) S := rfl
theorem e_parF {i j : Nat} : (parF i j fs ρ S).bind kf = (fs ρ S).bind (paK i j ρ kf) := by
  unfold parF; rw [bb]; congr 1; funext ts S; unfold paK
  match ts with
  | [_, _] => rfl
  | [] => rfl
  | [_] => rfl
  | _ :: _ :: _ :: _ => rfl
def paK' (j : Nat) (y : T) (k : Ro → Sto → Out β) : Ro → Sto → Out β := fun ρ S => setC [] ρ j (some y) k S
theorem e_paK' {j : Nat} : paK' j y kr ρ S = setC [] ρ j (some y) kr S := rfl
theorem e_paK {i j : Nat} : paK i j ρ kf [x, y] S = setC [] ρ i (some x) (paK' j y (nxK kf)) S := rfl
theorem e_par3F {i j l : Nat} : (par3F i j l fs ρ S).bind kf = (fs ρ S).bind (paK3 i j l ρ kf) := by
  unfold par3F; rw [bb]; congr 1; funext ts S; unfold paK3
  match ts with
  | [_, _, _] => rfl
  | [] => rfl
  | [_] => rfl
  | [_, _] => rfl
  | _ :: _ :: _ :: _ :: _ => rfl
theorem e_paK3 {i j l : Nat} {z : T} : paK3 i j l ρ kf [x, y, z] S = setC [] ρ i (some x) (paK' j y (paK' l z (nxK kf))) S := rfl
theorem e_raF {c : Str} {ks : List Str} : (raF c ks fs ρ S).bind kf = (fs ρ S).bind (raK c ks) := by
  rw [raF_e, bb]; congr 1; funext ts S; unfold raK; split <;> rfl
theorem e_raK {c : Str} {ks : List Str} : (raK c ks ts S : Out β) = if ts.length = ks.length then .exc c (ks.zip ts).reverse S else .no := rfl
theorem e_foF {fi : Ro → Sto → Out (List T)} {g : T → Ro → Sto → Out Ro} : (foF fi g sb ρ S).bind kf = (fi ρ S).bind (foK g sb ρ kf) := by unfold foF; rw [bb]; rfl
theorem e_foK {g : T → Ro → Sto → Out Ro} : foK g sb ρ kf ts S = (loopF g sb ts ρ S).bind kf := rfl
theorem e_loop0 {g : T → Ro → Sto → Out Ro} : (loopF g sb [] ρ S).bind kf = kf (.nx ρ) S := rfl
def loK (g : T → Ro → Sto → Out Ro) (sb : Ro → Sto → Out Fl) (ts : List T) (k : Fl → Sto → Out β) : Ro → Sto → Out β := fun ρ1 S1 => (sb ρ1 S1).bind fun fl S2 => match fl with
    | .nx ρ2 => (loopF g sb ts ρ2 S2).bind k
    | .ct ρ2 => (loopF g sb ts ρ2 S2).bind k
    | .bk ρ2 => k (.nx ρ2) S2
    | .rt t => k (.rt t) S2
def loK2 (g : T → Ro → Sto → Out Ro) (sb : Ro → Sto → Out Fl) (ts : List T) (k : Fl → Sto → Out β) : Fl → Sto → Out β := fun fl S2 => match fl with
    | .nx ρ2 => (loopF g sb ts ρ2 S2).bind k
    | .ct ρ2 => (loopF g sb ts ρ2 S2).bind k
    | .bk ρ2 => k (.nx ρ2) S2
    | .rt t => k (.rt t) S2
theorem e_loopS {g : T → Ro → Sto → Out Ro} : (loopF g sb (t :: ts) ρ S).bind kf = (g t ρ S).bind (loK g sb ts kf) := by
  show ((g t ρ S).bind _).bind kf = _
  rw [bb]; congr 1; funext ρ1 S1; unfold loK; rw [bb]; congr 1; funext fl S2; cases fl <;> rfl
theorem e_loK {g : T → Ro → Sto → Out Ro} : loK g sb ts kf ρ S = (sb ρ S).bind (loK2 g sb ts kf) := rfl
theorem e_loN {g : T → Ro → Sto → Out Ro} : loK2 g sb ts kf (.nx ρ) S = (loopF g sb ts ρ S).bind kf := rfl
theorem e_loC {g : T → Ro → Sto → Out Ro} : loK2 g sb ts kf (.ct ρ) S = (loopF g sb ts ρ S).bind kf := rfl
theorem e_loB {g : T → Ro → Sto → Out Ro} : loK2 g sb ts kf (.bk ρ) S = kf (.nx ρ) S := rfl
theorem e_loR {g : T → Ro → Sto → Out Ro} : loK2 g sb ts kf (.rt t) S = kf (.rt t) S := rfl
def wiC (vs : List Nat) (ρ : Ro) (k : Ro → Sto → Out β) (S : Sto) : Out β := k (wipeT ρ vs) S
theorem e_wi0 : wiC [] ρ kr S = kr ρ S := rfl
def wiK (v : Nat) (k : Ro → Sto → Out β) : Ro → Sto → Out β := fun ρ S => setC [] ρ v none k S
theorem e_wiK {v : Nat} : wiK v kr ρ S = setC [] ρ v none kr S := rfl
theorem e_wiS {v : Nat} {vs : List Nat} : wiC (v :: vs) ρ kr S = wiC vs ρ (wiK v kr) S := rfl
def lcC (g : T → Ro → Sto → Out Ro) (gt : Ro → Sto → Out Bool) (fe : Ro → Sto → Out T) (ts : List T) (k : List T → Sto → Out β) : Ro → Sto → Out β := fun ρ S => (compF g gt fe ρ ts [] S).bind k
theorem e_lcC {g : T → Ro → Sto → Out Ro} {gt : Ro → Sto → Out Bool} {fe : Ro → Sto → Out T} : lcC g gt fe ts kl ρ S = (compF g gt fe ρ ts [] S).bind kl := rfl
theorem e_lcF {vs : List Nat} {fi : Ro → Sto → Out (List T)} {g : T → Ro → Sto → Out Ro} {gt : Ro → Sto → Out Bool} {fe : Ro → Sto → Out T} : (lcF vs fi g gt fe ρ S).bind k = (fi ρ S).bind (lcK vs g gt fe ρ k) := by
  unfold lcF; rw [bb]; congr 1; funext ts S; unfold lcK; rw [bb]; rfl
theorem e_lcK {vs : List Nat} {g : T → Ro → Sto → Out Ro} {gt : Ro → Sto → Out Bool} {fe : Ro → Sto → Out T} : lcK vs g gt fe ρ k ts S = wiC vs ρ (lcC g gt fe ts (lcK2 k)) S := rfl
theorem e_lcK2 : lcK2 k ts S = k (.lst ts) S := rfl
theorem e_lcRF {vs : List Nat} {fi : Ro → Sto → Out (List T)} {g : T → Ro → Sto → Out Ro} {gt : Ro → Sto → Out Bool} {fe : Ro → Sto → Out T} : (lcRF vs fi g gt fe ρ S).bind k = (fi ρ S).bind (lcRK vs g gt fe ρ k) := by
  unfold lcRF; rw [bb]; congr 1; funext ts S; unfold lcRK; rw [bb]; rfl
theorem e_lcRK {vs : List Nat} {g : T → Ro → Sto → Out Ro} {gt : Ro → Sto → Out Bool} {fe : Ro → Sto → Out T} : lcRK vs g gt fe ρ k ts S = wiC vs ρ (lcC g gt fe ts (lcRK2 k)) S := rfl
theorem e_lcRK2 : lcRK2 k ts S = k (.ref S.length) (S ++ [.lst ts]) := rfl
def caT (kl : List T → Sto → Out β) : T → Sto → Out β := fun t S => (itemsS t S).bind kl
theorem e_isF : (isF fa ρ S).bind kl = (fa ρ S).bind (caT kl) := by unfold isF; rw [bb]; rfl
theorem e_caT : caT kl t S = (itemsS t S).bind kl := rfl
theorem it_tup : itemsS (.tup ts) S = .ok ts S := rfl
theorem it_lst : itemsS (.lst ts) S = .ok ts S := rfl
theorem it_scr {ns : List Int} : itemsS (.scr ns) S = .ok (ns.map T.int) S := rfl
theorem it_str {z : Str} : itemsS (.str z) S = .ok (z.cps.toList.map chT) S := rfl
theorem e_slF {fl fh : Ro → Sto → Out (Option Int)} : (slF fa fl fh ρ S).bind k = (fa ρ S).bind (slK1 fl fh ρ k) := by
  unfold slF; rw [bb]; congr 1; funext x S; unfold slK1; rw [bb]; congr 1; funext l S; rw [bb]
theorem e_slK1 {fl fh : Ro → Sto → Out (Option Int)} : slK1 fl fh ρ k x S = (fl ρ S).bind (slK2 x fh ρ k) := rfl
theorem e_slK2 {lo : Option Int} {fh : Ro → Sto → Out (Option Int)} : slK2 x fh ρ k lo S = (fh ρ S).bind (slK3 x lo k) := rfl
theorem e_slK3 {lo hi : Option Int} : slK3 x lo k hi S = (slG x lo hi S).bind k := rfl
theorem e_oN {ko : Option Int → Sto → Out β} : (oN ρ S).bind ko = ko none S := rfl
theorem e_oS {ko : Option Int → Sto → Out β} : (oS fa ρ S).bind ko = (fa ρ S).bind (oiK ko) := by
  unfold oS; rw [bb]; congr 1; funext t S; cases t <;> rfl
theorem e_oiK {i : Int} {ko : Option Int → Sto → Out β} : oiK ko (.int i) S = ko (some i) S := rfl
theorem e_revF : (revF fa ρ S).bind k = (fa ρ S).bind (rvK k) := by
  unfold revF; rw [bb]; congr 1; funext t S; unfold rvK; cases lstAt S t <;> rfl
theorem e_rvK : rvK k x S = match lstAt S x with | some ts => k (.lst ts.reverse) S | none => .no := rfl
theorem e_mF {c : String} {g : T → List T → Sto → Out T} : (mF c g fa fs ρ S).bind k = (fa ρ S).bind (mK1 c g fs ρ k) := by
  rw [mF_e, bb]; congr 1; funext x S; unfold mK1; split
  · rw [bb]
  · rfl
theorem e_mK1 {c : String} {g : T → List T → Sto → Out T} : mK1 c g fs ρ k x S = if isTy c x S = true then (fs ρ S).bind (mK2 g x k) else .no := rfl
theorem e_mK2 {g : T → List T → Sto → Out T} : mK2 g x k ts S = (g x ts S).bind k := rfl
theorem e_dputF : (dputF fa fb fc ρ S).bind kf = (fc ρ S).bind (dpK1 fa fb ρ kf) := by
  rw [dputF_e, bb]; congr 1; funext v S; unfold dpK1; rw [bb]; congr 1; funext x S; rw [bb]
theorem e_dpK1 : dpK1 fa fb ρ kf x S = (fa ρ S).bind (dpK2 fb x ρ kf) := rfl
theorem e_dpK2 : dpK2 fb y ρ kf x S = (fb ρ S).bind (dpK3 x y ρ kf) := rfl
theorem e_dpK3 : dpK3 x t ρ kf y S = (dputV x y t ρ S).bind kf := rfl
theorem e_lputF : (lputF fa fb fc ρ S).bind kf = (fc ρ S).bind (lpK1 fa fb ρ kf) := by
  unfold lputF; rw [bb]; congr 1; funext v S; unfold lpK1; rw [bb]; congr 1; funext x S; rw [bb]; rfl
theorem e_lpK1 : lpK1 fa fb ρ kf x S = (fa ρ S).bind (lpK2 fb x ρ kf) := rfl
theorem e_lpK2 : lpK2 fb y ρ kf x S = (fb ρ S).bind (lpK3 x y ρ kf) := rfl
theorem e_lpK3 : lpK3 x t ρ kf y S = (lputV x y t ρ S).bind kf := rfl
/-! small ops, in head form -/
variable {i j : Int}
theorem o_add : (addG (.int i) (.int j) S).bind k = k (.int (i + j)) S := rfl
theorem o_sub : (subG (.int i) (.int j) S).bind k = k (.int (i - j)) S := rfl
theorem o_neg : (negG (.int i) S).bind k = k (.int (-i)) S := rfl
theorem o_mul : (mulA (.int i) (.int j) S).bind k = if CMul i j then k (.int (i * j)) S else .no := by rw [mul_int', e_ite]; rfl
theorem o_fdiv : (fdivG (.int i) (.int j) S).bind k = if CDivN i j then k (.int (i.fdiv j)) S else .no := by rw [fdiv_int, e_ite]; rfl
theorem o_mod : (modG (.int i) (.int j) S).bind k = if j ≠ 0 then k (.int (i.fmod j)) S else .no := by rw [mod_int2, e_ite]; rfl
theorem o_lt : (ltG (.int i) (.int j) S).bind k = k (.bl (decide (i < j))) S := rfl
theorem o_le : (leG (.int i) (.int j) S).bind k = k (.bl (decide (i ≤ j))) S := rfl
theorem o_gt : (gtG (.int i) (.int j) S).bind k = k (.bl (decide (j < i))) S := rfl
theorem o_ge : (geG (.int i) (.int j) S).bind k = k (.bl (decide (j ≤ i))) S := rfl
theorem o_eq : (eqG false (.int i) (.int j) S).bind k = k (.bl (decide (i = j))) S := rfl
theorem o_ne : (eqG true (.int i) (.int j) S).bind k = k (.bl (!decide (i = j))) S := rfl
theorem o_addI : (addI (.int i) (.int j) S).bind k = k (.int (i + j)) S := rfl
theorem o_subI : (subI (.int i) (.int j) S).bind k = k (.int (i - j)) S := rfl
theorem o_len_tup : (lenG [.tup ts] S).bind k = k (.int ts.length) S := rfl
theorem o_len_lst : (lenG [.lst ts] S).bind k = k (.int ts.length) S := rfl
theorem o_tru_bl : (tru S (.bl b)).bind kb = kb b S := rfl
theorem o_tru_int : (tru S (.int i)).bind kb = kb (decide (i ≠ 0)) S := by rw [tru_int]; rfl
theorem o_tru_tup : (tru S (.tup ts)).bind kb = kb (!ts.isEmpty) S := rfl
theorem o_tru_lst : (tru S (.lst ts)).bind kb = kb (!ts.isEmpty) S := rfl
theorem o_tru_non : (tru S .non).bind kb = kb false S := rfl
theorem o_isi_int {c : String} : isiG [.int i, .ty c] S = match isiT c "int" with | some b => .ok (.bl b) S | none => .no := rfl
theorem o_isi_tup {c : String} : isiG [.tup ts, .ty c] S = match isiT c "tuple" with | some b => .ok (.bl b) S | none => .no := rfl
theorem o_isi_lst {c : String} : isiG [.lst ts, .ty c] S = match isiT c "list" with | some b => .ok (.bl b) S | none => .no := rfl
theorem o_isi_str {c : String} {z : Str} : isiG [.str z, .ty c] S = match isiT c "str" with | some b => .ok (.bl b) S | none => .no := rfl
theorem o_isi_bl {c : String} : isiG [.bl b, .ty c] S = match isiT c "bool" with | some b => .ok (.bl b) S | none => .no := rfl
theorem o_isi_non {c : String} : isiG [.non, .ty c] S = match isiT c "NoneType" with | some b => .ok (.bl b) S | none => .no := rfl
theorem ii_1 : isiT "int" "int" = some true := rfl
theorem ii_2 : isiT "int" "bool" = some true := rfl
theorem ii_3 : isiT "bool" "int" = some false := rfl
theorem ii_4 : isiT "bool" "bool" = some true := rfl
theorem ii_5 : isiT "int" "tuple" = some false := rfl
theorem ii_6 : isiT "tuple" "tuple" = some true := rfl
theorem ii_7 : isiT "tuple" "list" = some false := rfl
theorem ii_8 : isiT "tuple" "int" = some false := rfl
theorem ii_9 : isiT "int" "str" = some false := rfl
theorem ii_10 : isiT "str" "str" = some true := rfl
theorem ii_11 : isiT "str" "int" = some false := rfl
theorem ii_12 : isiT "str" "tuple" = some false := rfl
theorem ii_13 : isiT "int" "NoneType" = some false := rfl
theorem ii_14 : isiT "tuple" "NoneType" = some false := rfl
theorem ii_15 : isiT "str" "NoneType" = some false := rfl
theorem ii_16 : isiT "bool" "tuple" = some false := rfl
theorem ii_17 : isiT "int" "list" = some false := rfl
theorem ii_18 : isiT "tuple" "str" = some false := rfl
theorem ii_19 : isiT "tuple" "bool" = some false := rfl
end
/-! ### comprehensions, plain -/
/-- each turn alone -/
theorem comp_all {S : Sto} {g : T → Ro → Sto → Out Ro} {gt : Ro → Sto → Out Bool} {fe : Ro → Sto → Out T} {ρ0 : Ro} {α : Type} {e : α → T} {p : α → Bool} {f : α → T} : ∀ (l : List α) (acc : List T), acc.length + l.length ≤ 16777216 →
    (∀ a ∈ l, ∃ ρ1, g (e a) ρ0 S = .ok ρ1 S ∧ gt ρ1 S = .ok (p a) S ∧ (p a = true → fe ρ1 S = .ok (f a) S)) → compF g gt fe ρ0 (l.map e) acc S = .ok (acc ++ (l.filter p).map f) S
  | [], acc, _, _ => by simp [comp_nil]
  | a :: l, acc, hl, h => by
    simp only [List.length_cons] at hl
    obtain ⟨ρ1, h1, h2, h3⟩ := h a (by simp)
    have ih := fun acc hl => comp_all (p := p) (f := f) l acc hl fun b hb => h b (by simp [hb])
    rw [List.map_cons, comp_cons, h1, noX_ok, e_ok, h2, noX_ok, e_ok]
    cases hp : p a with
    | false => rw [if_neg (by simp), ih acc (by omega), List.filter_cons_of_neg (by simp [hp])]
    | true =>
      rw [if_pos rfl, h3 hp, noX_ok, e_ok, fit_pos (by omega), ih (acc ++ [f a]) (by simp; omega), List.filter_cons_of_pos hp]
      simp
theorem comp_map {S : Sto} {g : T → Ro → Sto → Out Ro} {fe : Ro → Sto → Out T} {ρ0 : Ro} {α : Type} {e : α → T} {f : α → T} (l : List α) (hl : l.length ≤ 16777216)
    (h : ∀ a ∈ l, ∃ ρ1, g (e a) ρ0 S = .ok ρ1 S ∧ fe ρ1 S = .ok (f a) S) : compF g yesF fe ρ0 (l.map e) [] S = .ok (l.map f) S := by
  rw [comp_all (gt := yesF) (p := fun _ => true) (f := f) l [] (by simpa using hl) fun a ha => let ⟨ρ1, h1, h2⟩ := h a ha; ⟨ρ1, h1, rfl, fun _ => h2⟩]
  rw [List.filter_eq_self.mpr fun _ _ => rfl]; rfl
end Mi
/-- from the head on -/
local macro_rules
  | `(tactic| simp! [$ls:simpLemma,*]) => `(tactic| simp (config := { decide := false }) only [↓Mi.e_finR, ↓Mi.e_finN, ↓Mi.e_ok, ↓Mi.e_exc, ↓Mi.e_no, Mi.e_ok, Mi.e_exc, Mi.e_no, Mi.e_ite, ↓Mi.e_cF, ↓Mi.e_vF0, ↓Mi.e_vFs, ↓Mi.e_setS, ↓Mi.e_set0, ↓Mi.e_revS, ↓Mi.e_rev0, ↓Mi.e_nxK, ↓Mi.e_bF, ↓Mi.e_bK1, ↓Mi.e_bK2, ↓Mi.e_uF, ↓Mi.e_uK, ↓Mi.e_ifF, ↓Mi.e_ifK, ↓Mi.e_iffF, ↓Mi.e_andF, ↓Mi.e_anK, ↓Mi.e_orF, ↓Mi.e_orK, ↓Mi.e_notF, ↓Mi.e_ntK, ↓Mi.e_truF, ↓Mi.e_trK, ↓Mi.e_andV, ↓Mi.e_anV, ↓Mi.e_orV, ↓Mi.e_orVK, ↓Mi.e_notV, ↓Mi.e_ntV, ↓Mi.e_asB, ↓Mi.e_asBF, ↓Mi.e_asK, ↓Mi.e_isNF, ↓Mi.e_isN_non, ↓Mi.e_isN_int, ↓Mi.e_isN_str, ↓Mi.e_isN_tup, ↓Mi.e_isN_lst, ↓Mi.e_isN_bl, ↓Mi.e_chF, ↓Mi.e_chK1, ↓Mi.e_chK2, ↓Mi.e_chK3, ↓Mi.e_aNil, ↓Mi.e_aCons, ↓Mi.e_acK, ↓Mi.e_acK2, ↓Mi.e_caF, ↓Mi.e_riF, ↓Mi.e_caK, ↓Mi.e_c0F, ↓Mi.e_noF, ↓Mi.e_tupF, ↓Mi.e_tuK, ↓Mi.e_lstF, ↓Mi.e_lsK, ↓Mi.e_lstRF, ↓Mi.e_lrK, ↓Mi.e_asgF, ↓Mi.e_agK, ↓Mi.e_gN, ↓Mi.e_gT, ↓Mi.e_gCons, ↓Mi.e_gcK, ↓Mi.e_gNil, ↓Mi.e_exF, ↓Mi.e_exK, ↓Mi.e_reF, ↓Mi.e_reK, ↓Mi.e_reN, ↓Mi.e_paF, ↓Mi.e_brF, ↓Mi.e_coF, ↓Mi.e_seF, ↓Mi.e_seN, ↓Mi.e_seR, ↓Mi.e_seB, ↓Mi.e_seC, ↓Mi.e_auF, ↓Mi.e_auK, ↓Mi.e_auK2, ↓Mi.e_auK3, ↓Mi.e_parF, ↓Mi.e_paK', ↓Mi.e_paK, ↓Mi.e_par3F, ↓Mi.e_paK3, ↓Mi.e_raF, ↓Mi.e_raK, ↓Mi.e_foF, ↓Mi.e_foK, ↓Mi.e_loop0, ↓Mi.e_loK, ↓Mi.e_loN, ↓Mi.e_loC, ↓Mi.e_loB, ↓Mi.e_loR, ↓Mi.e_wi0, ↓Mi.e_wiK, ↓Mi.e_wiS, ↓Mi.e_lcC, ↓Mi.e_lcF, ↓Mi.e_lcK, ↓Mi.e_lcK2, ↓Mi.e_lcRF, ↓Mi.e_lcRK, ↓Mi.e_lcRK2, ↓Mi.e_isF, ↓Mi.e_caT, ↓Mi.it_tup, ↓Mi.it_lst, ↓Mi.it_scr, ↓Mi.it_str, ↓Mi.e_slF, ↓Mi.e_slK1, ↓Mi.e_slK2, ↓Mi.e_slK3, ↓Mi.e_oN, ↓Mi.e_oS, ↓Mi.e_oiK, ↓Mi.e_revF, ↓Mi.e_rvK, ↓Mi.e_mF, ↓Mi.e_mK1, ↓Mi.e_mK2, ↓Mi.e_dputF, ↓Mi.e_dpK1, ↓Mi.e_dpK2, ↓Mi.e_dpK3, ↓Mi.e_lputF, ↓Mi.e_lpK1, ↓Mi.e_lpK2, ↓Mi.e_lpK3, ↓Mi.o_add, ↓Mi.o_sub, ↓Mi.o_neg, ↓Mi.o_mul, ↓Mi.o_fdiv, ↓Mi.o_mod, ↓Mi.o_lt, ↓Mi.o_le, ↓Mi.o_gt, ↓Mi.o_ge, ↓Mi.o_eq, ↓Mi.o_ne, ↓Mi.o_addI, ↓Mi.o_subI, ↓Mi.o_len_tup, ↓Mi.o_len_lst, ↓Mi.o_tru_bl, ↓Mi.o_tru_int, ↓Mi.o_tru_tup, ↓Mi.o_tru_lst, ↓Mi.o_tru_non, Mi.fit_e, Mi.fit_if,
  ↓Mi.o_isi_int, ↓Mi.o_isi_tup, ↓Mi.o_isi_lst, ↓Mi.o_isi_str, ↓Mi.o_isi_bl, ↓Mi.o_isi_non, Mi.ii_1, Mi.ii_2, Mi.ii_3, Mi.ii_4, Mi.ii_5, Mi.ii_6, Mi.ii_7, Mi.ii_8, Mi.ii_9, Mi.ii_10, Mi.ii_11, Mi.ii_12, Mi.ii_13, Mi.ii_14, Mi.ii_15, Mi.ii_16, Mi.ii_17, Mi.ii_18, Mi.ii_19, Mi.noX_ok, Mi.noX_ite, Mi.pg_cells, Mi.pg_at, Mi.pg_digits, Mi.pg_count, Mi.pg_fold, Mi.dp_at, Mi.dp_digits, Mi.dp_count, Mi.dp_fold, Mi.int_int, Mi.int_bl, Mi.abs_int, Mi.add_str, Mi.add_lst, Mi.len_str, Mi.mul_int', Mi.fdiv_int, Mi.mod_int2, Mi.pow_int',
  List.length_cons, List.length_nil, Nat.reduceAdd, Nat.reduceSub, Nat.reduceLeDiff, Nat.reduceEqDiff, Nat.zero_add, decide_true, decide_false, decide_eq_true_eq, decide_eq_false_iff_not, Bool.not_eq_true', Bool.not_true, Bool.not_false, Bool.not_not, Bool.false_eq_true, Bool.true_eq_false, reduceCtorEq, ↓reduceIte, if_true, if_false, and_true, true_and, and_self, not_true_eq_false, not_false_eq_true, ne_eq, $ls,*])


set_option Elab.async false
set_option linter.all false
set_option maxRecDepth 100000
set_option maxHeartbeats 4000000
namespace Law
open PySem PySem.Spec PyProof.Rows L2 Mi
def ctList : List (Str × List Str) := [(("BadAnswers" : Str), [("answers" : Str)]), (("BadBound" : Str), [("bound" : Str)]), (("BadGoal" : Str), [("goal" : Str)]), (("BadJob" : Str), [("job" : Str)]), (("BadLog" : Str), [("line" : Str)]), (("BadMachine" : Str), [("machine" : Str)]), (("BadName" : Str), [("name" : Str)]), (("BadNet" : Str), [("net" : Str)]), (("BadNumber" : Str), [("what" : Str), ("number" : Str)]), (("BadPaper" : Str), [("paper" : Str)]), (("BadRoom" : Str), [("room" : Str)]), (("BadRow" : Str), [("row" : Str)]), (("BadRun" : Str), [("run" : Str)]), (("BadSide" : Str), [("side" : Str)]), (("BadText" : Str), [("line" : Str), ("column" : Str)]), (("BadTime" : Str), [("time" : Str)]), (("NoName" : Str), [("name" : Str)]), (("NotKept" : Str), [("promise" : Str), ("witness" : Str)]), (("TakenName" : Str), [("name" : Str)])]
def subList : List (Str × Str × Bool) := []
def ctL (c : Str) : Option (List Str) := ctList.lookup c
def subL (c h : Str) : Option Bool := (subList.find? fun x => x.1 == c && x.2.1 == h).map fun x => x.2.2
def cvList : List (Str × List Str) := [(("BadAnswers" : Str), [("answers" : Str)]), (("BadBound" : Str), [("bound" : Str)]), (("BadGoal" : Str), [("goal" : Str)]), (("BadJob" : Str), [("job" : Str)]), (("BadLog" : Str), [("line" : Str)]), (("BadMachine" : Str), [("machine" : Str)]), (("BadName" : Str), [("name" : Str)]), (("BadNet" : Str), [("net" : Str)]), (("BadNumber" : Str), [("what" : Str), ("number" : Str)]), (("BadPaper" : Str), [("paper" : Str)]), (("BadRoom" : Str), [("room" : Str)]), (("BadRow" : Str), [("row" : Str)]), (("BadRun" : Str), [("run" : Str)]), (("BadSide" : Str), [("side" : Str)]), (("BadText" : Str), [("line" : Str), ("column" : Str)]), (("BadTime" : Str), [("time" : Str)]), (("NoName" : Str), [("name" : Str)]), (("NotKept" : Str), [("promise" : Str), ("witness" : Str)]), (("NothingToRedo" : Str), []), (("NothingToUndo" : Str), []), (("TakenName" : Str), [("name" : Str)])]
def siList : List (Str × Str × Bool) := [(("BadAnswers" : Str), ("BadAnswers" : Str), true), (("BadAnswers" : Str), ("BadBound" : Str), false), (("BadAnswers" : Str), ("BadGoal" : Str), false), (("BadAnswers" : Str), ("BadJob" : Str), false), (("BadAnswers" : Str), ("BadLog" : Str), false), (("BadAnswers" : Str), ("BadMachine" : Str), false), (("BadAnswers" : Str), ("BadName" : Str), false), (("BadAnswers" : Str), ("BadNet" : Str), false), (("BadAnswers" : Str), ("BadNumber" : Str), false), (("BadAnswers" : Str), ("BadPaper" : Str), false), (("BadAnswers" : Str), ("BadRoom" : Str), false), (("BadAnswers" : Str), ("BadRow" : Str), false), (("BadAnswers" : Str), ("BadRun" : Str), false), (("BadAnswers" : Str), ("BadSide" : Str), false), (("BadAnswers" : Str), ("BadText" : Str), false), (("BadAnswers" : Str), ("BadTime" : Str), false), (("BadAnswers" : Str), ("ClockError" : Str), true), (("BadAnswers" : Str), ("NoName" : Str), false), (("BadAnswers" : Str), ("NotKept" : Str), false), (("BadAnswers" : Str), ("NothingToRedo" : Str), false), (("BadAnswers" : Str), ("NothingToUndo" : Str), false), (("BadAnswers" : Str), ("TakenName" : Str), false), (("BadBound" : Str), ("BadAnswers" : Str), false), (("BadBound" : Str), ("BadBound" : Str), true), (("BadBound" : Str), ("BadGoal" : Str), false), (("BadBound" : Str), ("BadJob" : Str), false), (("BadBound" : Str), ("BadLog" : Str), false), (("BadBound" : Str), ("BadMachine" : Str), false), (("BadBound" : Str), ("BadName" : Str), false), (("BadBound" : Str), ("BadNet" : Str), false), (("BadBound" : Str), ("BadNumber" : Str), false), (("BadBound" : Str), ("BadPaper" : Str), false), (("BadBound" : Str), ("BadRoom" : Str), false), (("BadBound" : Str), ("BadRow" : Str), false), (("BadBound" : Str), ("BadRun" : Str), false), (("BadBound" : Str), ("BadSide" : Str), false), (("BadBound" : Str), ("BadText" : Str), false), (("BadBound" : Str), ("BadTime" : Str), false), (("BadBound" : Str), ("ClockError" : Str), true), (("BadBound" : Str), ("NoName" : Str), false), (("BadBound" : Str), ("NotKept" : Str), false), (("BadBound" : Str), ("NothingToRedo" : Str), false), (("BadBound" : Str), ("NothingToUndo" : Str), false), (("BadBound" : Str), ("TakenName" : Str), false), (("BadGoal" : Str), ("BadAnswers" : Str), false), (("BadGoal" : Str), ("BadBound" : Str), false), (("BadGoal" : Str), ("BadGoal" : Str), true), (("BadGoal" : Str), ("BadJob" : Str), false), (("BadGoal" : Str), ("BadLog" : Str), false), (("BadGoal" : Str), ("BadMachine" : Str), false), (("BadGoal" : Str), ("BadName" : Str), false), (("BadGoal" : Str), ("BadNet" : Str), false), (("BadGoal" : Str), ("BadNumber" : Str), false), (("BadGoal" : Str), ("BadPaper" : Str), false), (("BadGoal" : Str), ("BadRoom" : Str), false), (("BadGoal" : Str), ("BadRow" : Str), false), (("BadGoal" : Str), ("BadRun" : Str), false), (("BadGoal" : Str), ("BadSide" : Str), false), (("BadGoal" : Str), ("BadText" : Str), false), (("BadGoal" : Str), ("BadTime" : Str), false), (("BadGoal" : Str), ("ClockError" : Str), true), (("BadGoal" : Str), ("NoName" : Str), false), (("BadGoal" : Str), ("NotKept" : Str), false), (("BadGoal" : Str), ("NothingToRedo" : Str), false), (("BadGoal" : Str), ("NothingToUndo" : Str), false), (("BadGoal" : Str), ("TakenName" : Str), false), (("BadJob" : Str), ("BadAnswers" : Str), false), (("BadJob" : Str), ("BadBound" : Str), false), (("BadJob" : Str), ("BadGoal" : Str), false), (("BadJob" : Str), ("BadJob" : Str), true), (("BadJob" : Str), ("BadLog" : Str), false), (("BadJob" : Str), ("BadMachine" : Str), false), (("BadJob" : Str), ("BadName" : Str), false), (("BadJob" : Str), ("BadNet" : Str), false), (("BadJob" : Str), ("BadNumber" : Str), false), (("BadJob" : Str), ("BadPaper" : Str), false), (("BadJob" : Str), ("BadRoom" : Str), false), (("BadJob" : Str), ("BadRow" : Str), false), (("BadJob" : Str), ("BadRun" : Str), false), (("BadJob" : Str), ("BadSide" : Str), false), (("BadJob" : Str), ("BadText" : Str), false), (("BadJob" : Str), ("BadTime" : Str), false), (("BadJob" : Str), ("ClockError" : Str), true), (("BadJob" : Str), ("NoName" : Str), false), (("BadJob" : Str), ("NotKept" : Str), false), (("BadJob" : Str), ("NothingToRedo" : Str), false), (("BadJob" : Str), ("NothingToUndo" : Str), false), (("BadJob" : Str), ("TakenName" : Str), false), (("BadLog" : Str), ("BadAnswers" : Str), false), (("BadLog" : Str), ("BadBound" : Str), false), (("BadLog" : Str), ("BadGoal" : Str), false), (("BadLog" : Str), ("BadJob" : Str), false), (("BadLog" : Str), ("BadLog" : Str), true), (("BadLog" : Str), ("BadMachine" : Str), false), (("BadLog" : Str), ("BadName" : Str), false), (("BadLog" : Str), ("BadNet" : Str), false), (("BadLog" : Str), ("BadNumber" : Str), false), (("BadLog" : Str), ("BadPaper" : Str), false), (("BadLog" : Str), ("BadRoom" : Str), false), (("BadLog" : Str), ("BadRow" : Str), false), (("BadLog" : Str), ("BadRun" : Str), false), (("BadLog" : Str), ("BadSide" : Str), false), (("BadLog" : Str), ("BadText" : Str), false), (("BadLog" : Str), ("BadTime" : Str), false), (("BadLog" : Str), ("ClockError" : Str), true), (("BadLog" : Str), ("NoName" : Str), false), (("BadLog" : Str), ("NotKept" : Str), false), (("BadLog" : Str), ("NothingToRedo" : Str), false), (("BadLog" : Str), ("NothingToUndo" : Str), false), (("BadLog" : Str), ("TakenName" : Str), false), (("BadMachine" : Str), ("BadAnswers" : Str), false), (("BadMachine" : Str), ("BadBound" : Str), false), (("BadMachine" : Str), ("BadGoal" : Str), false), (("BadMachine" : Str), ("BadJob" : Str), false), (("BadMachine" : Str), ("BadLog" : Str), false), (("BadMachine" : Str), ("BadMachine" : Str), true), (("BadMachine" : Str), ("BadName" : Str), false), (("BadMachine" : Str), ("BadNet" : Str), false), (("BadMachine" : Str), ("BadNumber" : Str), false), (("BadMachine" : Str), ("BadPaper" : Str), false), (("BadMachine" : Str), ("BadRoom" : Str), false), (("BadMachine" : Str), ("BadRow" : Str), false), (("BadMachine" : Str), ("BadRun" : Str), false), (("BadMachine" : Str), ("BadSide" : Str), false), (("BadMachine" : Str), ("BadText" : Str), false), (("BadMachine" : Str), ("BadTime" : Str), false), (("BadMachine" : Str), ("ClockError" : Str), true), (("BadMachine" : Str), ("NoName" : Str), false), (("BadMachine" : Str), ("NotKept" : Str), false), (("BadMachine" : Str), ("NothingToRedo" : Str), false), (("BadMachine" : Str), ("NothingToUndo" : Str), false), (("BadMachine" : Str), ("TakenName" : Str), false), (("BadName" : Str), ("BadAnswers" : Str), false), (("BadName" : Str), ("BadBound" : Str), false), (("BadName" : Str), ("BadGoal" : Str), false), (("BadName" : Str), ("BadJob" : Str), false), (("BadName" : Str), ("BadLog" : Str), false), (("BadName" : Str), ("BadMachine" : Str), false), (("BadName" : Str), ("BadName" : Str), true), (("BadName" : Str), ("BadNet" : Str), false), (("BadName" : Str), ("BadNumber" : Str), false), (("BadName" : Str), ("BadPaper" : Str), false), (("BadName" : Str), ("BadRoom" : Str), false), (("BadName" : Str), ("BadRow" : Str), false), (("BadName" : Str), ("BadRun" : Str), false), (("BadName" : Str), ("BadSide" : Str), false), (("BadName" : Str), ("BadText" : Str), false), (("BadName" : Str), ("BadTime" : Str), false), (("BadName" : Str), ("ClockError" : Str), true), (("BadName" : Str), ("NoName" : Str), false), (("BadName" : Str), ("NotKept" : Str), false), (("BadName" : Str), ("NothingToRedo" : Str), false), (("BadName" : Str), ("NothingToUndo" : Str), false), (("BadName" : Str), ("TakenName" : Str), false), (("BadNet" : Str), ("BadAnswers" : Str), false), (("BadNet" : Str), ("BadBound" : Str), false), (("BadNet" : Str), ("BadGoal" : Str), false), (("BadNet" : Str), ("BadJob" : Str), false), (("BadNet" : Str), ("BadLog" : Str), false), (("BadNet" : Str), ("BadMachine" : Str), false), (("BadNet" : Str), ("BadName" : Str), false), (("BadNet" : Str), ("BadNet" : Str), true), (("BadNet" : Str), ("BadNumber" : Str), false), (("BadNet" : Str), ("BadPaper" : Str), false), (("BadNet" : Str), ("BadRoom" : Str), false), (("BadNet" : Str), ("BadRow" : Str), false), (("BadNet" : Str), ("BadRun" : Str), false), (("BadNet" : Str), ("BadSide" : Str), false), (("BadNet" : Str), ("BadText" : Str), false), (("BadNet" : Str), ("BadTime" : Str), false), (("BadNet" : Str), ("ClockError" : Str), true), (("BadNet" : Str), ("NoName" : Str), false), (("BadNet" : Str), ("NotKept" : Str), false), (("BadNet" : Str), ("NothingToRedo" : Str), false), (("BadNet" : Str), ("NothingToUndo" : Str), false), (("BadNet" : Str), ("TakenName" : Str), false), (("BadNumber" : Str), ("BadAnswers" : Str), false), (("BadNumber" : Str), ("BadBound" : Str), false), (("BadNumber" : Str), ("BadGoal" : Str), false), (("BadNumber" : Str), ("BadJob" : Str), false), (("BadNumber" : Str), ("BadLog" : Str), false), (("BadNumber" : Str), ("BadMachine" : Str), false), (("BadNumber" : Str), ("BadName" : Str), false), (("BadNumber" : Str), ("BadNet" : Str), false), (("BadNumber" : Str), ("BadNumber" : Str), true), (("BadNumber" : Str), ("BadPaper" : Str), false), (("BadNumber" : Str), ("BadRoom" : Str), false), (("BadNumber" : Str), ("BadRow" : Str), false), (("BadNumber" : Str), ("BadRun" : Str), false), (("BadNumber" : Str), ("BadSide" : Str), false), (("BadNumber" : Str), ("BadText" : Str), false), (("BadNumber" : Str), ("BadTime" : Str), false), (("BadNumber" : Str), ("ClockError" : Str), true), (("BadNumber" : Str), ("NoName" : Str), false), (("BadNumber" : Str), ("NotKept" : Str), false), (("BadNumber" : Str), ("NothingToRedo" : Str), false), (("BadNumber" : Str), ("NothingToUndo" : Str), false), (("BadNumber" : Str), ("TakenName" : Str), false), (("BadPaper" : Str), ("BadAnswers" : Str), false), (("BadPaper" : Str), ("BadBound" : Str), false), (("BadPaper" : Str), ("BadGoal" : Str), false), (("BadPaper" : Str), ("BadJob" : Str), false), (("BadPaper" : Str), ("BadLog" : Str), false), (("BadPaper" : Str), ("BadMachine" : Str), false), (("BadPaper" : Str), ("BadName" : Str), false), (("BadPaper" : Str), ("BadNet" : Str), false), (("BadPaper" : Str), ("BadNumber" : Str), false), (("BadPaper" : Str), ("BadPaper" : Str), true), (("BadPaper" : Str), ("BadRoom" : Str), false), (("BadPaper" : Str), ("BadRow" : Str), false), (("BadPaper" : Str), ("BadRun" : Str), false), (("BadPaper" : Str), ("BadSide" : Str), false), (("BadPaper" : Str), ("BadText" : Str), false), (("BadPaper" : Str), ("BadTime" : Str), false), (("BadPaper" : Str), ("ClockError" : Str), true), (("BadPaper" : Str), ("NoName" : Str), false), (("BadPaper" : Str), ("NotKept" : Str), false), (("BadPaper" : Str), ("NothingToRedo" : Str), false), (("BadPaper" : Str), ("NothingToUndo" : Str), false), (("BadPaper" : Str), ("TakenName" : Str), false), (("BadRoom" : Str), ("BadAnswers" : Str), false), (("BadRoom" : Str), ("BadBound" : Str), false), (("BadRoom" : Str), ("BadGoal" : Str), false), (("BadRoom" : Str), ("BadJob" : Str), false), (("BadRoom" : Str), ("BadLog" : Str), false), (("BadRoom" : Str), ("BadMachine" : Str), false), (("BadRoom" : Str), ("BadName" : Str), false), (("BadRoom" : Str), ("BadNet" : Str), false), (("BadRoom" : Str), ("BadNumber" : Str), false), (("BadRoom" : Str), ("BadPaper" : Str), false), (("BadRoom" : Str), ("BadRoom" : Str), true), (("BadRoom" : Str), ("BadRow" : Str), false), (("BadRoom" : Str), ("BadRun" : Str), false), (("BadRoom" : Str), ("BadSide" : Str), false), (("BadRoom" : Str), ("BadText" : Str), false), (("BadRoom" : Str), ("BadTime" : Str), false), (("BadRoom" : Str), ("ClockError" : Str), true), (("BadRoom" : Str), ("NoName" : Str), false), (("BadRoom" : Str), ("NotKept" : Str), false), (("BadRoom" : Str), ("NothingToRedo" : Str), false), (("BadRoom" : Str), ("NothingToUndo" : Str), false), (("BadRoom" : Str), ("TakenName" : Str), false), (("BadRow" : Str), ("BadAnswers" : Str), false), (("BadRow" : Str), ("BadBound" : Str), false), (("BadRow" : Str), ("BadGoal" : Str), false), (("BadRow" : Str), ("BadJob" : Str), false), (("BadRow" : Str), ("BadLog" : Str), false), (("BadRow" : Str), ("BadMachine" : Str), false), (("BadRow" : Str), ("BadName" : Str), false), (("BadRow" : Str), ("BadNet" : Str), false), (("BadRow" : Str), ("BadNumber" : Str), false), (("BadRow" : Str), ("BadPaper" : Str), false), (("BadRow" : Str), ("BadRoom" : Str), false), (("BadRow" : Str), ("BadRow" : Str), true), (("BadRow" : Str), ("BadRun" : Str), false), (("BadRow" : Str), ("BadSide" : Str), false), (("BadRow" : Str), ("BadText" : Str), false), (("BadRow" : Str), ("BadTime" : Str), false), (("BadRow" : Str), ("ClockError" : Str), true), (("BadRow" : Str), ("NoName" : Str), false), (("BadRow" : Str), ("NotKept" : Str), false), (("BadRow" : Str), ("NothingToRedo" : Str), false), (("BadRow" : Str), ("NothingToUndo" : Str), false), (("BadRow" : Str), ("TakenName" : Str), false), (("BadRun" : Str), ("BadAnswers" : Str), false), (("BadRun" : Str), ("BadBound" : Str), false), (("BadRun" : Str), ("BadGoal" : Str), false), (("BadRun" : Str), ("BadJob" : Str), false), (("BadRun" : Str), ("BadLog" : Str), false), (("BadRun" : Str), ("BadMachine" : Str), false), (("BadRun" : Str), ("BadName" : Str), false), (("BadRun" : Str), ("BadNet" : Str), false), (("BadRun" : Str), ("BadNumber" : Str), false), (("BadRun" : Str), ("BadPaper" : Str), false), (("BadRun" : Str), ("BadRoom" : Str), false), (("BadRun" : Str), ("BadRow" : Str), false), (("BadRun" : Str), ("BadRun" : Str), true), (("BadRun" : Str), ("BadSide" : Str), false), (("BadRun" : Str), ("BadText" : Str), false), (("BadRun" : Str), ("BadTime" : Str), false), (("BadRun" : Str), ("ClockError" : Str), true), (("BadRun" : Str), ("NoName" : Str), false), (("BadRun" : Str), ("NotKept" : Str), false), (("BadRun" : Str), ("NothingToRedo" : Str), false), (("BadRun" : Str), ("NothingToUndo" : Str), false), (("BadRun" : Str), ("TakenName" : Str), false), (("BadSide" : Str), ("BadAnswers" : Str), false), (("BadSide" : Str), ("BadBound" : Str), false), (("BadSide" : Str), ("BadGoal" : Str), false), (("BadSide" : Str), ("BadJob" : Str), false), (("BadSide" : Str), ("BadLog" : Str), false), (("BadSide" : Str), ("BadMachine" : Str), false), (("BadSide" : Str), ("BadName" : Str), false), (("BadSide" : Str), ("BadNet" : Str), false), (("BadSide" : Str), ("BadNumber" : Str), false), (("BadSide" : Str), ("BadPaper" : Str), false), (("BadSide" : Str), ("BadRoom" : Str), false), (("BadSide" : Str), ("BadRow" : Str), false), (("BadSide" : Str), ("BadRun" : Str), false), (("BadSide" : Str), ("BadSide" : Str), true), (("BadSide" : Str), ("BadText" : Str), false), (("BadSide" : Str), ("BadTime" : Str), false), (("BadSide" : Str), ("ClockError" : Str), true), (("BadSide" : Str), ("NoName" : Str), false), (("BadSide" : Str), ("NotKept" : Str), false), (("BadSide" : Str), ("NothingToRedo" : Str), false), (("BadSide" : Str), ("NothingToUndo" : Str), false), (("BadSide" : Str), ("TakenName" : Str), false), (("BadText" : Str), ("BadAnswers" : Str), false), (("BadText" : Str), ("BadBound" : Str), false), (("BadText" : Str), ("BadGoal" : Str), false), (("BadText" : Str), ("BadJob" : Str), false), (("BadText" : Str), ("BadLog" : Str), false), (("BadText" : Str), ("BadMachine" : Str), false), (("BadText" : Str), ("BadName" : Str), false), (("BadText" : Str), ("BadNet" : Str), false), (("BadText" : Str), ("BadNumber" : Str), false), (("BadText" : Str), ("BadPaper" : Str), false), (("BadText" : Str), ("BadRoom" : Str), false), (("BadText" : Str), ("BadRow" : Str), false), (("BadText" : Str), ("BadRun" : Str), false), (("BadText" : Str), ("BadSide" : Str), false), (("BadText" : Str), ("BadText" : Str), true), (("BadText" : Str), ("BadTime" : Str), false), (("BadText" : Str), ("ClockError" : Str), true), (("BadText" : Str), ("NoName" : Str), false), (("BadText" : Str), ("NotKept" : Str), false), (("BadText" : Str), ("NothingToRedo" : Str), false), (("BadText" : Str), ("NothingToUndo" : Str), false), (("BadText" : Str), ("TakenName" : Str), false), (("BadTime" : Str), ("BadAnswers" : Str), false), (("BadTime" : Str), ("BadBound" : Str), false), (("BadTime" : Str), ("BadGoal" : Str), false), (("BadTime" : Str), ("BadJob" : Str), false), (("BadTime" : Str), ("BadLog" : Str), false), (("BadTime" : Str), ("BadMachine" : Str), false), (("BadTime" : Str), ("BadName" : Str), false), (("BadTime" : Str), ("BadNet" : Str), false), (("BadTime" : Str), ("BadNumber" : Str), false), (("BadTime" : Str), ("BadPaper" : Str), false), (("BadTime" : Str), ("BadRoom" : Str), false), (("BadTime" : Str), ("BadRow" : Str), false), (("BadTime" : Str), ("BadRun" : Str), false), (("BadTime" : Str), ("BadSide" : Str), false), (("BadTime" : Str), ("BadText" : Str), false), (("BadTime" : Str), ("BadTime" : Str), true), (("BadTime" : Str), ("ClockError" : Str), true), (("BadTime" : Str), ("NoName" : Str), false), (("BadTime" : Str), ("NotKept" : Str), false), (("BadTime" : Str), ("NothingToRedo" : Str), false), (("BadTime" : Str), ("NothingToUndo" : Str), false), (("BadTime" : Str), ("TakenName" : Str), false), (("NoName" : Str), ("BadAnswers" : Str), false), (("NoName" : Str), ("BadBound" : Str), false), (("NoName" : Str), ("BadGoal" : Str), false), (("NoName" : Str), ("BadJob" : Str), false), (("NoName" : Str), ("BadLog" : Str), false), (("NoName" : Str), ("BadMachine" : Str), false), (("NoName" : Str), ("BadName" : Str), false), (("NoName" : Str), ("BadNet" : Str), false), (("NoName" : Str), ("BadNumber" : Str), false), (("NoName" : Str), ("BadPaper" : Str), false), (("NoName" : Str), ("BadRoom" : Str), false), (("NoName" : Str), ("BadRow" : Str), false), (("NoName" : Str), ("BadRun" : Str), false), (("NoName" : Str), ("BadSide" : Str), false), (("NoName" : Str), ("BadText" : Str), false), (("NoName" : Str), ("BadTime" : Str), false), (("NoName" : Str), ("ClockError" : Str), true), (("NoName" : Str), ("NoName" : Str), true), (("NoName" : Str), ("NotKept" : Str), false), (("NoName" : Str), ("NothingToRedo" : Str), false), (("NoName" : Str), ("NothingToUndo" : Str), false), (("NoName" : Str), ("TakenName" : Str), false), (("NotKept" : Str), ("BadAnswers" : Str), false), (("NotKept" : Str), ("BadBound" : Str), false), (("NotKept" : Str), ("BadGoal" : Str), false), (("NotKept" : Str), ("BadJob" : Str), false), (("NotKept" : Str), ("BadLog" : Str), false), (("NotKept" : Str), ("BadMachine" : Str), false), (("NotKept" : Str), ("BadName" : Str), false), (("NotKept" : Str), ("BadNet" : Str), false), (("NotKept" : Str), ("BadNumber" : Str), false), (("NotKept" : Str), ("BadPaper" : Str), false), (("NotKept" : Str), ("BadRoom" : Str), false), (("NotKept" : Str), ("BadRow" : Str), false), (("NotKept" : Str), ("BadRun" : Str), false), (("NotKept" : Str), ("BadSide" : Str), false), (("NotKept" : Str), ("BadText" : Str), false), (("NotKept" : Str), ("BadTime" : Str), false), (("NotKept" : Str), ("ClockError" : Str), true), (("NotKept" : Str), ("NoName" : Str), false), (("NotKept" : Str), ("NotKept" : Str), true), (("NotKept" : Str), ("NothingToRedo" : Str), false), (("NotKept" : Str), ("NothingToUndo" : Str), false), (("NotKept" : Str), ("TakenName" : Str), false), (("NothingToRedo" : Str), ("BadAnswers" : Str), false), (("NothingToRedo" : Str), ("BadBound" : Str), false), (("NothingToRedo" : Str), ("BadGoal" : Str), false), (("NothingToRedo" : Str), ("BadJob" : Str), false), (("NothingToRedo" : Str), ("BadLog" : Str), false), (("NothingToRedo" : Str), ("BadMachine" : Str), false), (("NothingToRedo" : Str), ("BadName" : Str), false), (("NothingToRedo" : Str), ("BadNet" : Str), false), (("NothingToRedo" : Str), ("BadNumber" : Str), false), (("NothingToRedo" : Str), ("BadPaper" : Str), false), (("NothingToRedo" : Str), ("BadRoom" : Str), false), (("NothingToRedo" : Str), ("BadRow" : Str), false), (("NothingToRedo" : Str), ("BadRun" : Str), false), (("NothingToRedo" : Str), ("BadSide" : Str), false), (("NothingToRedo" : Str), ("BadText" : Str), false), (("NothingToRedo" : Str), ("BadTime" : Str), false), (("NothingToRedo" : Str), ("ClockError" : Str), true), (("NothingToRedo" : Str), ("NoName" : Str), false), (("NothingToRedo" : Str), ("NotKept" : Str), false), (("NothingToRedo" : Str), ("NothingToRedo" : Str), true), (("NothingToRedo" : Str), ("NothingToUndo" : Str), false), (("NothingToRedo" : Str), ("TakenName" : Str), false), (("NothingToUndo" : Str), ("BadAnswers" : Str), false), (("NothingToUndo" : Str), ("BadBound" : Str), false), (("NothingToUndo" : Str), ("BadGoal" : Str), false), (("NothingToUndo" : Str), ("BadJob" : Str), false), (("NothingToUndo" : Str), ("BadLog" : Str), false), (("NothingToUndo" : Str), ("BadMachine" : Str), false), (("NothingToUndo" : Str), ("BadName" : Str), false), (("NothingToUndo" : Str), ("BadNet" : Str), false), (("NothingToUndo" : Str), ("BadNumber" : Str), false), (("NothingToUndo" : Str), ("BadPaper" : Str), false), (("NothingToUndo" : Str), ("BadRoom" : Str), false), (("NothingToUndo" : Str), ("BadRow" : Str), false), (("NothingToUndo" : Str), ("BadRun" : Str), false), (("NothingToUndo" : Str), ("BadSide" : Str), false), (("NothingToUndo" : Str), ("BadText" : Str), false), (("NothingToUndo" : Str), ("BadTime" : Str), false), (("NothingToUndo" : Str), ("ClockError" : Str), true), (("NothingToUndo" : Str), ("NoName" : Str), false), (("NothingToUndo" : Str), ("NotKept" : Str), false), (("NothingToUndo" : Str), ("NothingToRedo" : Str), false), (("NothingToUndo" : Str), ("NothingToUndo" : Str), true), (("NothingToUndo" : Str), ("TakenName" : Str), false), (("TakenName" : Str), ("BadAnswers" : Str), false), (("TakenName" : Str), ("BadBound" : Str), false), (("TakenName" : Str), ("BadGoal" : Str), false), (("TakenName" : Str), ("BadJob" : Str), false), (("TakenName" : Str), ("BadLog" : Str), false), (("TakenName" : Str), ("BadMachine" : Str), false), (("TakenName" : Str), ("BadName" : Str), false), (("TakenName" : Str), ("BadNet" : Str), false), (("TakenName" : Str), ("BadNumber" : Str), false), (("TakenName" : Str), ("BadPaper" : Str), false), (("TakenName" : Str), ("BadRoom" : Str), false), (("TakenName" : Str), ("BadRow" : Str), false), (("TakenName" : Str), ("BadRun" : Str), false), (("TakenName" : Str), ("BadSide" : Str), false), (("TakenName" : Str), ("BadText" : Str), false), (("TakenName" : Str), ("BadTime" : Str), false), (("TakenName" : Str), ("ClockError" : Str), true), (("TakenName" : Str), ("NoName" : Str), false), (("TakenName" : Str), ("NotKept" : Str), false), (("TakenName" : Str), ("NothingToRedo" : Str), false), (("TakenName" : Str), ("NothingToUndo" : Str), false), (("TakenName" : Str), ("TakenName" : Str), true)]
def stList : List (Str × String × Bool) := [(("BadAnswers" : Str), "ValueError", true), (("BadBound" : Str), "ValueError", true), (("BadGoal" : Str), "ValueError", true), (("BadJob" : Str), "ValueError", true), (("BadLog" : Str), "ValueError", true), (("BadMachine" : Str), "ValueError", true), (("BadName" : Str), "ValueError", true), (("BadNet" : Str), "ValueError", true), (("BadNumber" : Str), "ValueError", true), (("BadPaper" : Str), "ValueError", true), (("BadRoom" : Str), "ValueError", true), (("BadRow" : Str), "ValueError", true), (("BadRun" : Str), "ValueError", true), (("BadSide" : Str), "ValueError", true), (("BadText" : Str), "ValueError", true), (("BadTime" : Str), "ValueError", true), (("NoName" : Str), "ValueError", true), (("NotKept" : Str), "ValueError", true), (("NothingToRedo" : Str), "ValueError", true), (("NothingToUndo" : Str), "ValueError", true), (("TakenName" : Str), "ValueError", true)]
def ctV (c : Str) : Option (List Str) := cvList.lookup c
def siV (c h : Str) : Option Bool := (siList.find? fun x => x.1 == c && x.2.1 == h).map fun x => x.2.2
def stV (c : Str) (h : String) : Option Bool := (stList.find? fun x => x.1 == c && x.2.1 == h).map fun x => x.2.2
def N__law_pen : List Str := ["script", "fold", "cell"]
def body__law_pen : Ro → Sto → Out Fl :=
  (seF (asgF (cF (.int 0)) (gN 1)) (seF (foF (isF (vF 0)) (gN 2) (asgF (bF modG (caF intA (aCons (bF addG (bF mulA (vF 1) (cF (.int 167))) (vF 2)) aNil)) (cF (.int 1000000033))) (gN 1))) (reF (noF (disF [("cells", (caF listG (aCons (vF 0) aNil))), ("at", (cF (.int 0))), ("digits", (cF (.int 0))), ("count", (cF (.int 0))), ("fold", (vF 1))])))))
def N__law_draw : List Str := ["pen", "many", "cell", "digit", "blend"]
def body__law_draw : Ro → Sto → Out Fl :=
  (seF (dputF (vF 0) (cF (.str "count")) (bF addG (bF dgG (vF 0) (cF (.str "count"))) (cF (.int 1)))) (seF (iffF (andF (asBF (bF (eqG false) (bF dgG (vF 0) (cF (.str "digits"))) (cF (.int 0)))) (asBF (bF ltG (bF dgG (vF 0) (cF (.str "at"))) (caF lenG (aCons (bF dgG (vF 0) (cF (.str "cells"))) aNil))))) (seF (asgF (bF ixG (bF dgG (vF 0) (cF (.str "cells"))) (bF dgG (vF 0) (cF (.str "at")))) (gN 2)) (seF (dputF (vF 0) (cF (.str "at")) (bF addG (bF dgG (vF 0) (cF (.str "at"))) (cF (.int 1)))) (iffF (asBF (bF geG (vF 2) (bF powG (cF (.int 10)) (cF (.int 18))))) (dputF (vF 0) (cF (.str "digits")) (bF subG (vF 2) (bF powG (cF (.int 10)) (cF (.int 18))))) (dputF (vF 0) (cF (.str "fold")) (bF modG (caF intA (aCons (bF addG (bF mulA (bF dgG (vF 0) (cF (.str "fold"))) (cF (.int 73673))) (vF 2)) aNil)) (cF (.int 2147483543))))))) paF) (seF (iffF (asBF (bF gtG (bF dgG (vF 0) (cF (.str "digits"))) (cF (.int 0)))) (seF (asgF (bF modG (caF intA (aCons (bF dgG (vF 0) (cF (.str "digits"))) aNil)) (vF 1)) (gN 3)) (seF (dputF (vF 0) (cF (.str "digits")) (bF fdivG (bF dgG (vF 0) (cF (.str "digits"))) (vF 1))) (reF (vF 3)))) paF) (seF (asgF (bF addG (bF addG (bF dgG (vF 0) (cF (.str "fold"))) (bF mulA (bF dgG (vF 0) (cF (.str "count"))) (cF (.int 9733)))) (cF (.int 167))) (gN 4)) (reF (bF modG (bF fdivG (caF intA (aCons (bF modG (bF powG (vF 4) (cF (.int 23))) (cF (.int 2305843009213693951))) aNil)) (cF (.int 128))) (vF 1)))))))
def N__law_pick : List Str := ["pen", "some"]
def body__law_pick (f__law_draw : Mi.Spec) : Ro → Sto → Out Fl :=
  (reF (bF ixG (vF 1) (caF f__law_draw (aCons (vF 0) (aCons (caF lenG (aCons (vF 1) aNil)) aNil)))))
def N__law_single : List Str := ["kind", "a", "e"]
def body__law_single : Ro → Sto → Out Fl :=
  (seF (iffF (asBF (bF (eqG false) (vF 0) (cF (.int 3)))) (seF (asgF (exnF "BadTime" ["time"] (aCons (vF 1) aNil)) (gN 2)) (reF (tupF (aCons (vF 2) (aCons (tupF (aCons (uF (eatG ctV "time") (vF 2)) aNil)) aNil))))) paF) (seF (iffF (asBF (bF (eqG false) (vF 0) (cF (.int 4)))) (seF (asgF (exnF "BadSide" ["side"] (aCons (vF 1) aNil)) (gN 2)) (reF (tupF (aCons (vF 2) (aCons (tupF (aCons (uF (eatG ctV "side") (vF 2)) aNil)) aNil))))) paF) (seF (iffF (asBF (bF (eqG false) (vF 0) (cF (.int 5)))) (seF (asgF (exnF "BadBound" ["bound"] (aCons (vF 1) aNil)) (gN 2)) (reF (tupF (aCons (vF 2) (aCons (tupF (aCons (uF (eatG ctV "bound") (vF 2)) aNil)) aNil))))) paF) (seF (iffF (asBF (bF (eqG false) (vF 0) (cF (.int 6)))) (seF (asgF (exnF "BadRoom" ["room"] (aCons (vF 1) aNil)) (gN 2)) (reF (tupF (aCons (vF 2) (aCons (tupF (aCons (uF (eatG ctV "room") (vF 2)) aNil)) aNil))))) paF) (seF (iffF (asBF (bF (eqG false) (vF 0) (cF (.int 7)))) (seF (asgF (exnF "BadRow" ["row"] (aCons (vF 1) aNil)) (gN 2)) (reF (tupF (aCons (vF 2) (aCons (tupF (aCons (uF (eatG ctV "row") (vF 2)) aNil)) aNil))))) paF) (seF (iffF (asBF (bF (eqG false) (vF 0) (cF (.int 8)))) (seF (asgF (exnF "BadMachine" ["machine"] (aCons (vF 1) aNil)) (gN 2)) (reF (tupF (aCons (vF 2) (aCons (tupF (aCons (uF (eatG ctV "machine") (vF 2)) aNil)) aNil))))) paF) (seF (iffF (asBF (bF (eqG false) (vF 0) (cF (.int 9)))) (seF (asgF (exnF "BadNet" ["net"] (aCons (vF 1) aNil)) (gN 2)) (reF (tupF (aCons (vF 2) (aCons (tupF (aCons (uF (eatG ctV "net") (vF 2)) aNil)) aNil))))) paF) (seF (iffF (asBF (bF (eqG false) (vF 0) (cF (.int 10)))) (seF (asgF (exnF "BadRun" ["run"] (aCons (vF 1) aNil)) (gN 2)) (reF (tupF (aCons (vF 2) (aCons (tupF (aCons (uF (eatG ctV "run") (vF 2)) aNil)) aNil))))) paF) (seF (iffF (asBF (bF (eqG false) (vF 0) (cF (.int 11)))) (seF (asgF (exnF "BadGoal" ["goal"] (aCons (vF 1) aNil)) (gN 2)) (reF (tupF (aCons (vF 2) (aCons (tupF (aCons (uF (eatG ctV "goal") (vF 2)) aNil)) aNil))))) paF) (seF (iffF (asBF (bF (eqG false) (vF 0) (cF (.int 12)))) (seF (asgF (exnF "BadJob" ["job"] (aCons (vF 1) aNil)) (gN 2)) (reF (tupF (aCons (vF 2) (aCons (tupF (aCons (uF (eatG ctV "job") (vF 2)) aNil)) aNil))))) paF) (seF (iffF (asBF (bF (eqG false) (vF 0) (cF (.int 13)))) (seF (asgF (exnF "BadAnswers" ["answers"] (aCons (vF 1) aNil)) (gN 2)) (reF (tupF (aCons (vF 2) (aCons (tupF (aCons (uF (eatG ctV "answers") (vF 2)) aNil)) aNil))))) paF) (seF (iffF (asBF (bF (eqG false) (vF 0) (cF (.int 14)))) (seF (asgF (exnF "BadPaper" ["paper"] (aCons (vF 1) aNil)) (gN 2)) (reF (tupF (aCons (vF 2) (aCons (tupF (aCons (uF (eatG ctV "paper") (vF 2)) aNil)) aNil))))) paF) (seF (asgF (exnF "BadLog" ["line"] (aCons (vF 1) aNil)) (gN 2)) (reF (tupF (aCons (vF 2) (aCons (tupF (aCons (uF (eatG ctV "line") (vF 2)) aNil)) aNil)))))))))))))))))
def N__law_which : List Str := ["e", "found"]
def body__law_which : Ro → Sto → Out Fl :=
  (seF (asgF (lstF (aCons (caF (isvG ctV siV stV) (aCons (vF 0) (aCons (cF (.glob "BadName")) aNil))) (aCons (caF (isvG ctV siV stV) (aCons (vF 0) (aCons (cF (.glob "NoName")) aNil))) (aCons (caF (isvG ctV siV stV) (aCons (vF 0) (aCons (cF (.glob "TakenName")) aNil))) aNil)))) (gN 1)) (seF (asgF (bF addG (vF 1) (lstF (aCons (caF (isvG ctV siV stV) (aCons (vF 0) (aCons (cF (.glob "BadTime")) aNil))) (aCons (caF (isvG ctV siV stV) (aCons (vF 0) (aCons (cF (.glob "BadSide")) aNil))) (aCons (caF (isvG ctV siV stV) (aCons (vF 0) (aCons (cF (.glob "BadBound")) aNil))) (aCons (caF (isvG ctV siV stV) (aCons (vF 0) (aCons (cF (.glob "BadRoom")) aNil))) aNil)))))) (gN 1)) (seF (asgF (bF addG (vF 1) (lstF (aCons (caF (isvG ctV siV stV) (aCons (vF 0) (aCons (cF (.glob "BadRow")) aNil))) (aCons (caF (isvG ctV siV stV) (aCons (vF 0) (aCons (cF (.glob "BadMachine")) aNil))) (aCons (caF (isvG ctV siV stV) (aCons (vF 0) (aCons (cF (.glob "BadNet")) aNil))) (aCons (caF (isvG ctV siV stV) (aCons (vF 0) (aCons (cF (.glob "BadRun")) aNil))) aNil)))))) (gN 1)) (seF (asgF (bF addG (vF 1) (lstF (aCons (caF (isvG ctV siV stV) (aCons (vF 0) (aCons (cF (.glob "BadGoal")) aNil))) (aCons (caF (isvG ctV siV stV) (aCons (vF 0) (aCons (cF (.glob "BadJob")) aNil))) (aCons (caF (isvG ctV siV stV) (aCons (vF 0) (aCons (cF (.glob "BadAnswers")) aNil))) (aCons (caF (isvG ctV siV stV) (aCons (vF 0) (aCons (cF (.glob "BadPaper")) aNil))) aNil)))))) (gN 1)) (seF (asgF (bF addG (vF 1) (lstF (aCons (caF (isvG ctV siV stV) (aCons (vF 0) (aCons (cF (.glob "BadLog")) aNil))) aNil))) (gN 1)) (seF (asgF (bF addG (vF 1) (lstF (aCons (caF (isvG ctV siV stV) (aCons (vF 0) (aCons (cF (.glob "BadText")) aNil))) (aCons (caF (isvG ctV siV stV) (aCons (vF 0) (aCons (cF (.glob "BadNumber")) aNil))) (aCons (caF (isvG ctV siV stV) (aCons (vF 0) (aCons (cF (.glob "NotKept")) aNil))) aNil))))) (gN 1)) (reF (bF addG (vF 1) (lstF (aCons (caF (isvG ctV siV stV) (aCons (vF 0) (aCons (cF (.glob "NothingToUndo")) aNil))) (aCons (caF (isvG ctV siV stV) (aCons (vF 0) (aCons (cF (.glob "NothingToRedo")) aNil))) aNil)))))))))))
def N__law_one : List Str := ["kind", "a", "b", "e"]
def body__law_one (f__law_single : Mi.Spec) : Ro → Sto → Out Fl :=
  (seF (iffF (asBF (bF ltG (vF 0) (cF (.int 3)))) (seF (asgF (bF ixG (lstF (aCons (exnF "BadName" ["name"] (aCons (vF 1) aNil)) (aCons (exnF "NoName" ["name"] (aCons (vF 1) aNil)) (aCons (exnF "TakenName" ["name"] (aCons (vF 1) aNil)) aNil)))) (vF 0)) (gN 3)) (reF (tupF (aCons (vF 3) (aCons (tupF (aCons (uF (eatG ctV "name") (vF 3)) aNil)) aNil))))) paF) (seF (iffF (asBF (bF ltG (vF 0) (cF (.int 16)))) (reF (caF f__law_single (aCons (vF 0) (aCons (vF 1) aNil)))) paF) (seF (iffF (asBF (bF (eqG false) (vF 0) (cF (.int 16)))) (seF (asgF (exnF "BadText" ["line", "column"] (aCons (vF 1) (aCons (vF 2) aNil))) (gN 3)) (reF (tupF (aCons (vF 3) (aCons (tupF (aCons (uF (eatG ctV "line") (vF 3)) (aCons (uF (eatG ctV "column") (vF 3)) aNil))) aNil))))) paF) (seF (iffF (asBF (bF (eqG false) (vF 0) (cF (.int 17)))) (seF (asgF (exnF "BadNumber" ["what", "number"] (aCons (vF 1) (aCons (vF 2) aNil))) (gN 3)) (reF (tupF (aCons (vF 3) (aCons (tupF (aCons (uF (eatG ctV "what") (vF 3)) (aCons (uF (eatG ctV "number") (vF 3)) aNil))) aNil))))) paF) (seF (iffF (asBF (bF (eqG false) (vF 0) (cF (.int 18)))) (seF (asgF (exnF "NotKept" ["promise", "witness"] (aCons (vF 1) (aCons (vF 2) aNil))) (gN 3)) (reF (tupF (aCons (vF 3) (aCons (tupF (aCons (uF (eatG ctV "promise") (vF 3)) (aCons (uF (eatG ctV "witness") (vF 3)) aNil))) aNil))))) paF) (reF (tupF (aCons (ifF (asBF (bF (eqG false) (vF 0) (cF (.int 19)))) (cF (.exn "NothingToUndo" [] [])) (cF (.exn "NothingToRedo" [] []))) (aCons (tupF aNil) aNil)))))))))
def N_law : List Str := ["script", "pen", "menu", "kind", "a", "b", "dues", "e", "fields", "many", "k"]
def body_law (f__law_pen : Mi.Spec) (f__law_draw : Mi.Spec) (f__law_pick : Mi.Spec) (f__law_one : Mi.Spec) (f__law_which : Mi.Spec) : Ro → Sto → Out Fl :=
  (seF (asgF (caF f__law_pen (aCons (vF 0) aNil)) (gN 1)) (seF (asgF (lstRF (aCons (cF .non) (aCons (cF (.bl true)) (aCons (cF (.int 0)) (aCons (bF subG (uF negG (cF (.int 1))) (caF f__law_draw (aCons (vF 1) (aCons (cF (.int 9)) aNil)))) (aCons (bF addG (bF powG (cF (.int 10)) (cF (.int 40))) (caF f__law_draw (aCons (vF 1) (aCons (cF (.int 99)) aNil)))) (aCons (cF (.str "")) (aCons (cF (.str "log")) (aCons (tupF (aCons (cF (.int 1)) (aCons (cF (.int 2)) aNil))) (aCons (lstF (aCons (cF (.int 3)) aNil)) (aCons (tupF (aCons (cF (.str "b")) (aCons (cF (.str "c")) aNil))) aNil))))))))))) (gN 2)) (seF (exF (mF "list" appG (vF 2) (aCons (tupF (aCons (tupF (aCons (cF (.int 0)) (aCons (cF (.int 0)) aNil))) aNil)) aNil))) (seF (foF (riF rng1 (aCons (cF (.int 21)) aNil)) (gN 3) (seF (asgF (tupF (aCons (caF f__law_pick (aCons (vF 1) (aCons (vF 2) aNil))) (aCons (caF f__law_pick (aCons (vF 1) (aCons (vF 2) aNil))) aNil))) (gT 2 (gCons' (gN 4) (gCons' (gN 5) gNil')))) (seF (asgF (lcF [9] (riF rng1 (aCons (cF (.int 3)) aNil)) (gN 9) yesF (caF reprG (aCons (slF (tupF (aCons (vF 4) (aCons (vF 5) aNil))) oN (oS (vF 9))) aNil))) (gN 6)) (seF (asgF (caF f__law_one (aCons (vF 3) (aCons (vF 4) (aCons (vF 5) aNil)))) (gT 2 (gCons' (gN 7) (gCons' (gN 8) gNil')))) (seF (iffF (asBF (bF (eqG true) (caF reprG (aCons (vF 8) aNil)) (bF ixG (vF 6) (caF lenG (aCons (vF 8) aNil))))) (reF (cF (.bl false))) paF) (seF (iffF (orF (notF (truF (caF (isvG ctV siV stV) (aCons (vF 7) (aCons (cF (.glob "ClockError")) aNil))))) (notF (truF (caF (isvG ctV siV stV) (aCons (vF 7) (aCons (cF (.ty "ValueError")) aNil)))))) (reF (cF (.bl false))) paF) (iffF (asBF (bF (eqG true) (caF f__law_which (aCons (vF 7) aNil)) (lcF [10] (riF rng1 (aCons (cF (.int 21)) aNil)) (gN 10) yesF (bF (eqG false) (vF 10) (vF 3))))) (reF (cF (.bl false))) paF))))))) (reF (cF (.bl true)))))))
noncomputable def f__law_pen : Mi.Spec := runF 3 1 (body__law_pen)
theorem e__law_pen {x0 : T} {S : Sto} : f__law_pen [x0] S = (body__law_pen [some x0, none, none] S).bind finK := run_open rfl rfl
noncomputable def f__law_draw : Mi.Spec := runF 5 2 (body__law_draw)
theorem e__law_draw {x0 : T} {x1 : T} {S : Sto} : f__law_draw [x0, x1] S = (body__law_draw [some x0, some x1, none, none, none] S).bind finK := run_open rfl rfl
noncomputable def f__law_pick : Mi.Spec := runF 2 2 (body__law_pick f__law_draw)
theorem e__law_pick {x0 : T} {x1 : T} {S : Sto} : f__law_pick [x0, x1] S = (body__law_pick f__law_draw [some x0, some x1] S).bind finK := run_open rfl rfl
noncomputable def f__law_single : Mi.Spec := runF 3 2 (body__law_single)
theorem e__law_single {x0 : T} {x1 : T} {S : Sto} : f__law_single [x0, x1] S = (body__law_single [some x0, some x1, none] S).bind finK := run_open rfl rfl
noncomputable def f__law_which : Mi.Spec := runF 2 1 (body__law_which)
theorem e__law_which {x0 : T} {S : Sto} : f__law_which [x0] S = (body__law_which [some x0, none] S).bind finK := run_open rfl rfl
noncomputable def f__law_one : Mi.Spec := runF 4 3 (body__law_one f__law_single)
theorem e__law_one {x0 : T} {x1 : T} {x2 : T} {S : Sto} : f__law_one [x0, x1, x2] S = (body__law_one f__law_single [some x0, some x1, some x2, none] S).bind finK := run_open rfl rfl
noncomputable def f_law : Mi.Spec := runF 11 1 (body_law f__law_pen f__law_draw f__law_pick f__law_one f__law_which)
theorem e_law {x0 : T} {S : Sto} : f_law [x0] S = (body_law f__law_pen f__law_draw f__law_pick f__law_one f__law_which [some x0, none, none, none, none, none, none, none, none, none, none] S).bind finK := run_open rfl rfl
/-- what is left: plain Lean -/
def Plain : Prop := ∀ ns : List Int, ns.length ≤ 63 → (∀ z ∈ ns, Builtin.Int.intBits z ≤ 1048576) → ∃ S', f_law [.scr ns] [] = .ok (.bl true) S'
end Law


set_option Elab.async false
set_option linter.all false
set_option maxRecDepth 100000
set_option maxHeartbeats 4000000
namespace Law
open PySem PySem.Spec PyProof.Rows L2 Mi
def top (i : Nat) : Stmt := PySem.Challenge.pw_setclocks_k00_errors.main.body.getD i (.Pass ⟨0, 0, 0, 0⟩)
structure Facts (P : Program) (w : World) (K : PySem.W.Frag) (mg : Str → Option Value) (base : Heap) : Prop where
  free_ValueError : mg "ValueError" = none
  free_int : mg "int" = none
  free_isinstance : mg "isinstance" = none
  free_len : mg "len" = none
  free_list : mg "list" = none
  free_range : mg "range" = none
  free_repr : mg "repr" = none
  err_BadAnswers : ErrC P w K mg base "BadAnswers" ["answers"]
  err_BadBound : ErrC P w K mg base "BadBound" ["bound"]
  err_BadGoal : ErrC P w K mg base "BadGoal" ["goal"]
  err_BadJob : ErrC P w K mg base "BadJob" ["job"]
  err_BadLog : ErrC P w K mg base "BadLog" ["line"]
  err_BadMachine : ErrC P w K mg base "BadMachine" ["machine"]
  err_BadName : ErrC P w K mg base "BadName" ["name"]
  err_BadNet : ErrC P w K mg base "BadNet" ["net"]
  err_BadNumber : ErrC P w K mg base "BadNumber" ["what", "number"]
  err_BadPaper : ErrC P w K mg base "BadPaper" ["paper"]
  err_BadRoom : ErrC P w K mg base "BadRoom" ["room"]
  err_BadRow : ErrC P w K mg base "BadRow" ["row"]
  err_BadRun : ErrC P w K mg base "BadRun" ["run"]
  err_BadSide : ErrC P w K mg base "BadSide" ["side"]
  err_BadText : ErrC P w K mg base "BadText" ["line", "column"]
  err_BadTime : ErrC P w K mg base "BadTime" ["time"]
  err_NoName : ErrC P w K mg base "NoName" ["name"]
  err_NotKept : ErrC P w K mg base "NotKept" ["promise", "witness"]
  err_TakenName : ErrC P w K mg base "TakenName" ["name"]
  e0_NothingToRedo : ∃ C, mg "NothingToRedo" = some (.ref C) ∧ PySem.W.excIn K C He.veBase "ValueError.__new__" = true ∧ PySem.W.keepIn K (.ref C) = true
  e0_NothingToUndo : ∃ C, mg "NothingToUndo" = some (.ref C) ∧ PySem.W.excIn K C He.veBase "ValueError.__new__" = true ∧ PySem.W.keepIn K (.ref C) = true
  glo_BadAnswers : ∃ C, mg "BadAnswers" = some (.ref C)
  glo_BadBound : ∃ C, mg "BadBound" = some (.ref C)
  glo_BadGoal : ∃ C, mg "BadGoal" = some (.ref C)
  glo_BadJob : ∃ C, mg "BadJob" = some (.ref C)
  glo_BadLog : ∃ C, mg "BadLog" = some (.ref C)
  glo_BadMachine : ∃ C, mg "BadMachine" = some (.ref C)
  glo_BadName : ∃ C, mg "BadName" = some (.ref C)
  glo_BadNet : ∃ C, mg "BadNet" = some (.ref C)
  glo_BadNumber : ∃ C, mg "BadNumber" = some (.ref C)
  glo_BadPaper : ∃ C, mg "BadPaper" = some (.ref C)
  glo_BadRoom : ∃ C, mg "BadRoom" = some (.ref C)
  glo_BadRow : ∃ C, mg "BadRow" = some (.ref C)
  glo_BadRun : ∃ C, mg "BadRun" = some (.ref C)
  glo_BadSide : ∃ C, mg "BadSide" = some (.ref C)
  glo_BadText : ∃ C, mg "BadText" = some (.ref C)
  glo_BadTime : ∃ C, mg "BadTime" = some (.ref C)
  glo_ClockError : ∃ C, mg "ClockError" = some (.ref C)
  glo_NoName : ∃ C, mg "NoName" = some (.ref C)
  glo_NotKept : ∃ C, mg "NotKept" = some (.ref C)
  glo_NothingToRedo : ∃ C, mg "NothingToRedo" = some (.ref C)
  glo_NothingToUndo : ∃ C, mg "NothingToUndo" = some (.ref C)
  glo_TakenName : ∃ C, mg "TakenName" = some (.ref C)
  errT : ErrT K mg ctL subL
  errV : ErrV K mg ctV siV stV
abbrev s__law_pen : Stmt := top 24
theorem sc__law_pen : FnScope N__law_pen ["script"] (defScope s__law_pen) := ⟨rfl, rfl, rfl, by decide +kernel, rfl, by decide +kernel, by decide +kernel⟩
theorem b__law_pen {P : Program} {w : World} {K : PySem.W.Frag} {mg : Str → Option Value} {base : Heap} {tb : List (Addr × Str)} (Φ : Facts P w K mg base) {a : Addr} {cdv : Value} {A : Around} {outer : List Env} {s : Shared} {H : Hp} {E : XK} {J : List Addr → List Addr → Hp → Prop}
    (hr : RoomG 0 (A.deeper (envOfC "_law_pen" (defScope s__law_pen) s.heap.objs.size a cdv))) : DSs (cxOf (L2.CX P w) P w K mg base N__law_pen "_law_pen" (defScope s__law_pen) a cdv A outer s H E) (plW E J tb) (defBody s__law_pen) (body__law_pen) := by
  have nd : (N__law_pen).Nodup := sc__law_pen.nd
  exact (ss_cons (s_asg d_int (g_name 1 nd)) (ss_cons (s_for (passes_of rfl) rfl (i_sq (d_var 0)) (g_name 2 nd) (ss_one (s_asg (d_mod (d_callTy call_intA intA_ok rfl Φ.free_int (by decide +kernel) (a_cons (d_add (d_mulA (d_var 1) d_int) (d_var 2)) a_nil)) d_int) (g_name 1 nd)))) (ss_one (s_ret (d_disp (fs := [("cells", (caF listG (aCons (vF 0) aNil))), ("at", (cF (.int 0))), ("digits", (cF (.int 0))), ("count", (cF (.int 0))), ("fold", (vF 1))]) (pps_cons pe_str (d_callTy call_list_of listG_ok rfl Φ.free_list (by decide +kernel) (a_cons (d_var 0) a_nil)) (pps_cons pe_str d_int (pps_cons pe_str d_int (pps_cons pe_str d_int (pps_cons pe_str (d_var 1) pps_nil))))) (by decide) (by rfl) (by rfl) (by simp) (by decide))))))
abbrev s__law_draw : Stmt := top 25
theorem sc__law_draw : FnScope N__law_draw ["pen", "many"] (defScope s__law_draw) := ⟨rfl, rfl, rfl, by decide +kernel, rfl, by decide +kernel, by decide +kernel⟩
theorem b__law_draw {P : Program} {w : World} {K : PySem.W.Frag} {mg : Str → Option Value} {base : Heap} {tb : List (Addr × Str)} (Φ : Facts P w K mg base) {a : Addr} {cdv : Value} {A : Around} {outer : List Env} {s : Shared} {H : Hp} {E : XK} {J : List Addr → List Addr → Hp → Prop}
    (hr : RoomG 0 (A.deeper (envOfC "_law_draw" (defScope s__law_draw) s.heap.objs.size a cdv))) : DSs (cxOf (L2.CX P w) P w K mg base N__law_draw "_law_draw" (defScope s__law_draw) a cdv A outer s H E) (plW E J tb) (defBody s__law_draw) (body__law_draw) := by
  have nd : (N__law_draw).Nodup := sc__law_draw.nd
  exact (ss_cons (s_dput (hu_of hr.room) (d_var 0) d_str (d_add (d_dget (hu_of hr.room) (d_var 0) d_str) d_int)) (ss_cons (s_if (t_w (w_and (t_eq (have hun := hr.room.units; hun) (d_dget (hu_of hr.room) (d_var 0) d_str) d_int) (w_and1 (t_lt (d_dget (hu_of hr.room) (d_var 0) d_str) (d_callB call_len lenG_ok rfl Φ.free_len PySem.boot_len (a_cons (d_dget (hu_of hr.room) (d_var 0) d_str) a_nil)))))) (ss_cons (s_asg (d_ix (d_dget (hu_of hr.room) (d_var 0) d_str) (d_dget (hu_of hr.room) (d_var 0) d_str)) (g_name 2 nd)) (ss_cons (s_dput (hu_of hr.room) (d_var 0) d_str (d_add (d_dget (hu_of hr.room) (d_var 0) d_str) d_int)) (ss_one (s_if (t_ge (d_var 2) (d_pow d_int d_int)) (ss_one (s_dput (hu_of hr.room) (d_var 0) d_str (d_sub (d_var 2) (d_pow d_int d_int)))) (ss_one (s_dput (hu_of hr.room) (d_var 0) d_str (d_mod (d_callTy call_intA intA_ok rfl Φ.free_int (by decide +kernel) (a_cons (d_add (d_mulA (d_dget (hu_of hr.room) (d_var 0) d_str) d_int) (d_var 2)) a_nil)) d_int))))))) ss_nil) (ss_cons (s_if (t_gt (d_dget (hu_of hr.room) (d_var 0) d_str) d_int) (ss_cons (s_asg (d_mod (d_callTy call_intA intA_ok rfl Φ.free_int (by decide +kernel) (a_cons (d_dget (hu_of hr.room) (d_var 0) d_str) a_nil)) (d_var 1)) (g_name 3 nd)) (ss_cons (s_dput (hu_of hr.room) (d_var 0) d_str (d_fdiv (d_dget (hu_of hr.room) (d_var 0) d_str) (d_var 1))) (ss_one (s_ret (d_var 3))))) ss_nil) (ss_cons (s_asg (d_add (d_add (d_dget (hu_of hr.room) (d_var 0) d_str) (d_mulA (d_dget (hu_of hr.room) (d_var 0) d_str) d_int)) d_int) (g_name 4 nd)) (ss_one (s_ret (d_mod (d_fdiv (d_callTy call_intA intA_ok rfl Φ.free_int (by decide +kernel) (a_cons (d_mod (d_pow (d_var 4) d_int) d_int) a_nil)) d_int) (d_var 1))))))))
abbrev s__law_pick : Stmt := top 26
theorem sc__law_pick : FnScope N__law_pick ["pen", "some"] (defScope s__law_pick) := ⟨rfl, rfl, rfl, by decide +kernel, rfl, by decide +kernel, by decide +kernel⟩
theorem b__law_pick {P : Program} {w : World} {K : PySem.W.Frag} {mg : Str → Option Value} {base : Heap} {tb : List (Addr × Str)} (Φ : Facts P w K mg base) {f__law_draw : Mi.Spec} (F__law_draw : FnD P w K mg tb base 1 "_law_draw" 2 f__law_draw) {a : Addr} {cdv : Value} {A : Around} {outer : List Env} {s : Shared} {H : Hp} {E : XK} {J : List Addr → List Addr → Hp → Prop}
    (hr : RoomG 1 (A.deeper (envOfC "_law_pick" (defScope s__law_pick) s.heap.objs.size a cdv))) : DSs (cxOf (L2.CX P w) P w K mg base N__law_pick "_law_pick" (defScope s__law_pick) a cdv A outer s H E) (plW E J tb) (defBody s__law_pick) (body__law_pick f__law_draw) := by
  have nd : (N__law_pick).Nodup := sc__law_pick.nd
  exact (ss_one (s_ret (d_ix (d_var 1) (d_call F__law_draw (hr.mono (by decide)) (passes_call (takes_of rfl rfl rfl rfl) fun _ _ _ _ h => h) (a_cons (d_var 0) (a_cons (d_callB call_len lenG_ok rfl Φ.free_len PySem.boot_len (a_cons (d_var 1) a_nil)) a_nil))))))
abbrev s__law_single : Stmt := top 28
theorem sc__law_single : FnScope N__law_single ["kind", "a"] (defScope s__law_single) := ⟨rfl, rfl, rfl, by decide +kernel, rfl, by decide +kernel, by decide +kernel⟩
theorem b__law_single {P : Program} {w : World} {K : PySem.W.Frag} {mg : Str → Option Value} {base : Heap} {tb : List (Addr × Str)} (Φ : Facts P w K mg base) {a : Addr} {cdv : Value} {A : Around} {outer : List Env} {s : Shared} {H : Hp} {E : XK} {J : List Addr → List Addr → Hp → Prop}
    (hr : RoomG 2 (A.deeper (envOfC "_law_single" (defScope s__law_single) s.heap.objs.size a cdv))) : DSs (cxOf (L2.CX P w) P w K mg base N__law_single "_law_single" (defScope s__law_single) a cdv A outer s H E) (plW E J tb) (defBody s__law_single) (body__law_single) := by
  have nd : (N__law_single).Nodup := sc__law_single.nd
  exact (ss_cons (s_if (t_eq (have hun := hr.room.units; hun) (d_var 0) d_int) (ss_cons (s_asg (d_newE Φ.err_BadTime (hr.mono (by decide)) (a_cons (d_var 1) a_nil)) (g_name 2 nd)) (ss_one (s_ret (d_tup (a_cons (d_var 2) (a_cons (d_tup (a_cons (d_eat Φ.errV (d_var 2)) a_nil)) a_nil)))))) ss_nil) (ss_cons (s_if (t_eq (have hun := hr.room.units; hun) (d_var 0) d_int) (ss_cons (s_asg (d_newE Φ.err_BadSide (hr.mono (by decide)) (a_cons (d_var 1) a_nil)) (g_name 2 nd)) (ss_one (s_ret (d_tup (a_cons (d_var 2) (a_cons (d_tup (a_cons (d_eat Φ.errV (d_var 2)) a_nil)) a_nil)))))) ss_nil) (ss_cons (s_if (t_eq (have hun := hr.room.units; hun) (d_var 0) d_int) (ss_cons (s_asg (d_newE Φ.err_BadBound (hr.mono (by decide)) (a_cons (d_var 1) a_nil)) (g_name 2 nd)) (ss_one (s_ret (d_tup (a_cons (d_var 2) (a_cons (d_tup (a_cons (d_eat Φ.errV (d_var 2)) a_nil)) a_nil)))))) ss_nil) (ss_cons (s_if (t_eq (have hun := hr.room.units; hun) (d_var 0) d_int) (ss_cons (s_asg (d_newE Φ.err_BadRoom (hr.mono (by decide)) (a_cons (d_var 1) a_nil)) (g_name 2 nd)) (ss_one (s_ret (d_tup (a_cons (d_var 2) (a_cons (d_tup (a_cons (d_eat Φ.errV (d_var 2)) a_nil)) a_nil)))))) ss_nil) (ss_cons (s_if (t_eq (have hun := hr.room.units; hun) (d_var 0) d_int) (ss_cons (s_asg (d_newE Φ.err_BadRow (hr.mono (by decide)) (a_cons (d_var 1) a_nil)) (g_name 2 nd)) (ss_one (s_ret (d_tup (a_cons (d_var 2) (a_cons (d_tup (a_cons (d_eat Φ.errV (d_var 2)) a_nil)) a_nil)))))) ss_nil) (ss_cons (s_if (t_eq (have hun := hr.room.units; hun) (d_var 0) d_int) (ss_cons (s_asg (d_newE Φ.err_BadMachine (hr.mono (by decide)) (a_cons (d_var 1) a_nil)) (g_name 2 nd)) (ss_one (s_ret (d_tup (a_cons (d_var 2) (a_cons (d_tup (a_cons (d_eat Φ.errV (d_var 2)) a_nil)) a_nil)))))) ss_nil) (ss_cons (s_if (t_eq (have hun := hr.room.units; hun) (d_var 0) d_int) (ss_cons (s_asg (d_newE Φ.err_BadNet (hr.mono (by decide)) (a_cons (d_var 1) a_nil)) (g_name 2 nd)) (ss_one (s_ret (d_tup (a_cons (d_var 2) (a_cons (d_tup (a_cons (d_eat Φ.errV (d_var 2)) a_nil)) a_nil)))))) ss_nil) (ss_cons (s_if (t_eq (have hun := hr.room.units; hun) (d_var 0) d_int) (ss_cons (s_asg (d_newE Φ.err_BadRun (hr.mono (by decide)) (a_cons (d_var 1) a_nil)) (g_name 2 nd)) (ss_one (s_ret (d_tup (a_cons (d_var 2) (a_cons (d_tup (a_cons (d_eat Φ.errV (d_var 2)) a_nil)) a_nil)))))) ss_nil) (ss_cons (s_if (t_eq (have hun := hr.room.units; hun) (d_var 0) d_int) (ss_cons (s_asg (d_newE Φ.err_BadGoal (hr.mono (by decide)) (a_cons (d_var 1) a_nil)) (g_name 2 nd)) (ss_one (s_ret (d_tup (a_cons (d_var 2) (a_cons (d_tup (a_cons (d_eat Φ.errV (d_var 2)) a_nil)) a_nil)))))) ss_nil) (ss_cons (s_if (t_eq (have hun := hr.room.units; hun) (d_var 0) d_int) (ss_cons (s_asg (d_newE Φ.err_BadJob (hr.mono (by decide)) (a_cons (d_var 1) a_nil)) (g_name 2 nd)) (ss_one (s_ret (d_tup (a_cons (d_var 2) (a_cons (d_tup (a_cons (d_eat Φ.errV (d_var 2)) a_nil)) a_nil)))))) ss_nil) (ss_cons (s_if (t_eq (have hun := hr.room.units; hun) (d_var 0) d_int) (ss_cons (s_asg (d_newE Φ.err_BadAnswers (hr.mono (by decide)) (a_cons (d_var 1) a_nil)) (g_name 2 nd)) (ss_one (s_ret (d_tup (a_cons (d_var 2) (a_cons (d_tup (a_cons (d_eat Φ.errV (d_var 2)) a_nil)) a_nil)))))) ss_nil) (ss_cons (s_if (t_eq (have hun := hr.room.units; hun) (d_var 0) d_int) (ss_cons (s_asg (d_newE Φ.err_BadPaper (hr.mono (by decide)) (a_cons (d_var 1) a_nil)) (g_name 2 nd)) (ss_one (s_ret (d_tup (a_cons (d_var 2) (a_cons (d_tup (a_cons (d_eat Φ.errV (d_var 2)) a_nil)) a_nil)))))) ss_nil) (ss_cons (s_asg (d_newE Φ.err_BadLog (hr.mono (by decide)) (a_cons (d_var 1) a_nil)) (g_name 2 nd)) (ss_one (s_ret (d_tup (a_cons (d_var 2) (a_cons (d_tup (a_cons (d_eat Φ.errV (d_var 2)) a_nil)) a_nil))))))))))))))))))
abbrev s__law_which : Stmt := top 29
theorem sc__law_which : FnScope N__law_which ["e"] (defScope s__law_which) := ⟨rfl, rfl, rfl, by decide +kernel, rfl, by decide +kernel, by decide +kernel⟩
theorem b__law_which {P : Program} {w : World} {K : PySem.W.Frag} {mg : Str → Option Value} {base : Heap} {tb : List (Addr × Str)} (Φ : Facts P w K mg base) {a : Addr} {cdv : Value} {A : Around} {outer : List Env} {s : Shared} {H : Hp} {E : XK} {J : List Addr → List Addr → Hp → Prop}
    (hr : RoomG 0 (A.deeper (envOfC "_law_which" (defScope s__law_which) s.heap.objs.size a cdv))) : DSs (cxOf (L2.CX P w) P w K mg base N__law_which "_law_which" (defScope s__law_which) a cdv A outer s H E) (plW E J tb) (defBody s__law_which) (body__law_which) := by
  have nd : (N__law_which).Nodup := sc__law_which.nd
  exact (ss_cons (s_asg (d_lst (a_cons (d_callB call_isV (isvG_ok Φ.errV) rfl Φ.free_isinstance (by decide +kernel) (a_cons (d_var 0) (a_cons (d_glo Φ.glo_BadName) a_nil))) (a_cons (d_callB call_isV (isvG_ok Φ.errV) rfl Φ.free_isinstance (by decide +kernel) (a_cons (d_var 0) (a_cons (d_glo Φ.glo_NoName) a_nil))) (a_cons (d_callB call_isV (isvG_ok Φ.errV) rfl Φ.free_isinstance (by decide +kernel) (a_cons (d_var 0) (a_cons (d_glo Φ.glo_TakenName) a_nil))) a_nil)))) (g_name 1 nd)) (ss_cons (s_asg (d_add (d_var 1) (d_lst (a_cons (d_callB call_isV (isvG_ok Φ.errV) rfl Φ.free_isinstance (by decide +kernel) (a_cons (d_var 0) (a_cons (d_glo Φ.glo_BadTime) a_nil))) (a_cons (d_callB call_isV (isvG_ok Φ.errV) rfl Φ.free_isinstance (by decide +kernel) (a_cons (d_var 0) (a_cons (d_glo Φ.glo_BadSide) a_nil))) (a_cons (d_callB call_isV (isvG_ok Φ.errV) rfl Φ.free_isinstance (by decide +kernel) (a_cons (d_var 0) (a_cons (d_glo Φ.glo_BadBound) a_nil))) (a_cons (d_callB call_isV (isvG_ok Φ.errV) rfl Φ.free_isinstance (by decide +kernel) (a_cons (d_var 0) (a_cons (d_glo Φ.glo_BadRoom) a_nil))) a_nil)))))) (g_name 1 nd)) (ss_cons (s_asg (d_add (d_var 1) (d_lst (a_cons (d_callB call_isV (isvG_ok Φ.errV) rfl Φ.free_isinstance (by decide +kernel) (a_cons (d_var 0) (a_cons (d_glo Φ.glo_BadRow) a_nil))) (a_cons (d_callB call_isV (isvG_ok Φ.errV) rfl Φ.free_isinstance (by decide +kernel) (a_cons (d_var 0) (a_cons (d_glo Φ.glo_BadMachine) a_nil))) (a_cons (d_callB call_isV (isvG_ok Φ.errV) rfl Φ.free_isinstance (by decide +kernel) (a_cons (d_var 0) (a_cons (d_glo Φ.glo_BadNet) a_nil))) (a_cons (d_callB call_isV (isvG_ok Φ.errV) rfl Φ.free_isinstance (by decide +kernel) (a_cons (d_var 0) (a_cons (d_glo Φ.glo_BadRun) a_nil))) a_nil)))))) (g_name 1 nd)) (ss_cons (s_asg (d_add (d_var 1) (d_lst (a_cons (d_callB call_isV (isvG_ok Φ.errV) rfl Φ.free_isinstance (by decide +kernel) (a_cons (d_var 0) (a_cons (d_glo Φ.glo_BadGoal) a_nil))) (a_cons (d_callB call_isV (isvG_ok Φ.errV) rfl Φ.free_isinstance (by decide +kernel) (a_cons (d_var 0) (a_cons (d_glo Φ.glo_BadJob) a_nil))) (a_cons (d_callB call_isV (isvG_ok Φ.errV) rfl Φ.free_isinstance (by decide +kernel) (a_cons (d_var 0) (a_cons (d_glo Φ.glo_BadAnswers) a_nil))) (a_cons (d_callB call_isV (isvG_ok Φ.errV) rfl Φ.free_isinstance (by decide +kernel) (a_cons (d_var 0) (a_cons (d_glo Φ.glo_BadPaper) a_nil))) a_nil)))))) (g_name 1 nd)) (ss_cons (s_asg (d_add (d_var 1) (d_lst (a_cons (d_callB call_isV (isvG_ok Φ.errV) rfl Φ.free_isinstance (by decide +kernel) (a_cons (d_var 0) (a_cons (d_glo Φ.glo_BadLog) a_nil))) a_nil))) (g_name 1 nd)) (ss_cons (s_asg (d_add (d_var 1) (d_lst (a_cons (d_callB call_isV (isvG_ok Φ.errV) rfl Φ.free_isinstance (by decide +kernel) (a_cons (d_var 0) (a_cons (d_glo Φ.glo_BadText) a_nil))) (a_cons (d_callB call_isV (isvG_ok Φ.errV) rfl Φ.free_isinstance (by decide +kernel) (a_cons (d_var 0) (a_cons (d_glo Φ.glo_BadNumber) a_nil))) (a_cons (d_callB call_isV (isvG_ok Φ.errV) rfl Φ.free_isinstance (by decide +kernel) (a_cons (d_var 0) (a_cons (d_glo Φ.glo_NotKept) a_nil))) a_nil))))) (g_name 1 nd)) (ss_one (s_ret (d_add (d_var 1) (d_lst (a_cons (d_callB call_isV (isvG_ok Φ.errV) rfl Φ.free_isinstance (by decide +kernel) (a_cons (d_var 0) (a_cons (d_glo Φ.glo_NothingToUndo) a_nil))) (a_cons (d_callB call_isV (isvG_ok Φ.errV) rfl Φ.free_isinstance (by decide +kernel) (a_cons (d_var 0) (a_cons (d_glo Φ.glo_NothingToRedo) a_nil))) a_nil))))))))))))
abbrev s__law_one : Stmt := top 27
theorem sc__law_one : FnScope N__law_one ["kind", "a", "b"] (defScope s__law_one) := ⟨rfl, rfl, rfl, by decide +kernel, rfl, by decide +kernel, by decide +kernel⟩
theorem b__law_one {P : Program} {w : World} {K : PySem.W.Frag} {mg : Str → Option Value} {base : Heap} {tb : List (Addr × Str)} (Φ : Facts P w K mg base) {f__law_single : Mi.Spec} (F__law_single : FnD P w K mg tb base 3 "_law_single" 2 f__law_single) {a : Addr} {cdv : Value} {A : Around} {outer : List Env} {s : Shared} {H : Hp} {E : XK} {J : List Addr → List Addr → Hp → Prop}
    (hr : RoomG 3 (A.deeper (envOfC "_law_one" (defScope s__law_one) s.heap.objs.size a cdv))) : DSs (cxOf (L2.CX P w) P w K mg base N__law_one "_law_one" (defScope s__law_one) a cdv A outer s H E) (plW E J tb) (defBody s__law_one) (body__law_one f__law_single) := by
  have nd : (N__law_one).Nodup := sc__law_one.nd
  exact (ss_cons (s_if (t_lt (d_var 0) d_int) (ss_cons (s_asg (d_ix (d_lst (a_cons (d_newE Φ.err_BadName (hr.mono (by decide)) (a_cons (d_var 1) a_nil)) (a_cons (d_newE Φ.err_NoName (hr.mono (by decide)) (a_cons (d_var 1) a_nil)) (a_cons (d_newE Φ.err_TakenName (hr.mono (by decide)) (a_cons (d_var 1) a_nil)) a_nil)))) (d_var 0)) (g_name 3 nd)) (ss_one (s_ret (d_tup (a_cons (d_var 3) (a_cons (d_tup (a_cons (d_eat Φ.errV (d_var 3)) a_nil)) a_nil)))))) ss_nil) (ss_cons (s_if (t_lt (d_var 0) d_int) (ss_one (s_ret (d_call F__law_single (hr.mono (by decide)) (passes_call (takes_of rfl rfl rfl rfl) fun _ _ _ _ h => h) (a_cons (d_var 0) (a_cons (d_var 1) a_nil))))) ss_nil) (ss_cons (s_if (t_eq (have hun := hr.room.units; hun) (d_var 0) d_int) (ss_cons (s_asg (d_newE Φ.err_BadText (hr.mono (by decide)) (a_cons (d_var 1) (a_cons (d_var 2) a_nil))) (g_name 3 nd)) (ss_one (s_ret (d_tup (a_cons (d_var 3) (a_cons (d_tup (a_cons (d_eat Φ.errV (d_var 3)) (a_cons (d_eat Φ.errV (d_var 3)) a_nil))) a_nil)))))) ss_nil) (ss_cons (s_if (t_eq (have hun := hr.room.units; hun) (d_var 0) d_int) (ss_cons (s_asg (d_newE Φ.err_BadNumber (hr.mono (by decide)) (a_cons (d_var 1) (a_cons (d_var 2) a_nil))) (g_name 3 nd)) (ss_one (s_ret (d_tup (a_cons (d_var 3) (a_cons (d_tup (a_cons (d_eat Φ.errV (d_var 3)) (a_cons (d_eat Φ.errV (d_var 3)) a_nil))) a_nil)))))) ss_nil) (ss_cons (s_if (t_eq (have hun := hr.room.units; hun) (d_var 0) d_int) (ss_cons (s_asg (d_newE Φ.err_NotKept (hr.mono (by decide)) (a_cons (d_var 1) (a_cons (d_var 2) a_nil))) (g_name 3 nd)) (ss_one (s_ret (d_tup (a_cons (d_var 3) (a_cons (d_tup (a_cons (d_eat Φ.errV (d_var 3)) (a_cons (d_eat Φ.errV (d_var 3)) a_nil))) a_nil)))))) ss_nil) (ss_one (s_ret (d_tup (a_cons (d_if (t_eq (have hun := hr.room.units; hun) (d_var 0) d_int) (d_newE1 Φ.e0_NothingToUndo) (d_newE1 Φ.e0_NothingToRedo)) (a_cons (d_tup a_nil) a_nil))))))))))
abbrev s_law : Stmt := top 30
theorem sc_law : FnScope N_law ["script"] (defScope s_law) := ⟨rfl, rfl, rfl, by decide +kernel, rfl, by decide +kernel, by decide +kernel⟩
theorem b_law {P : Program} {w : World} {K : PySem.W.Frag} {mg : Str → Option Value} {base : Heap} {tb : List (Addr × Str)} (Φ : Facts P w K mg base) {f__law_pen : Mi.Spec} {f__law_draw : Mi.Spec} {f__law_pick : Mi.Spec} {f__law_one : Mi.Spec} {f__law_which : Mi.Spec} (F__law_pen : FnD P w K mg tb base 1 "_law_pen" 1 f__law_pen) (F__law_draw : FnD P w K mg tb base 1 "_law_draw" 2 f__law_draw) (F__law_pick : FnD P w K mg tb base 2 "_law_pick" 2 f__law_pick) (F__law_one : FnD P w K mg tb base 4 "_law_one" 3 f__law_one) (F__law_which : FnD P w K mg tb base 1 "_law_which" 1 f__law_which) {a : Addr} {cdv : Value} {A : Around} {outer : List Env} {s : Shared} {H : Hp} {E : XK} {J : List Addr → List Addr → Hp → Prop}
    (hr : RoomG 4 (A.deeper (envOfC "law" (defScope s_law) s.heap.objs.size a cdv))) : DSs (cxOf (L2.CX P w) P w K mg base N_law "law" (defScope s_law) a cdv A outer s H E) (plW E J tb) (defBody s_law) (body_law f__law_pen f__law_draw f__law_pick f__law_one f__law_which) := by
  have nd : (N_law).Nodup := sc_law.nd
  exact (ss_cons (s_asg (d_call F__law_pen (hr.mono (by decide)) (passes_call (takes_of rfl rfl rfl rfl) fun _ _ _ _ h => h) (a_cons (d_var 0) a_nil)) (g_name 1 nd)) (ss_cons (s_asg (d_lstR (a_cons d_non (a_cons d_bl (a_cons d_int (a_cons (d_sub (d_neg d_int) (d_call F__law_draw (hr.mono (by decide)) (passes_call (takes_of rfl rfl rfl rfl) fun _ _ _ _ h => h) (a_cons (d_var 1) (a_cons d_int a_nil)))) (a_cons (d_add (d_pow d_int d_int) (d_call F__law_draw (hr.mono (by decide)) (passes_call (takes_of rfl rfl rfl rfl) fun _ _ _ _ h => h) (a_cons (d_var 1) (a_cons d_int a_nil)))) (a_cons d_str (a_cons d_str (a_cons (d_tup (a_cons d_int (a_cons d_int a_nil))) (a_cons (d_lst (a_cons d_int a_nil)) (a_cons (d_tup (a_cons d_str (a_cons d_str a_nil))) a_nil))))))))))) (g_name 2 nd)) (ss_cons (s_expr (d_bm PySem.F.plainAttrs_list PySem.F.slot_list_append PySem.F.type_list_append mt_append appG_ok (d_var 2) (a_cons (d_tup (a_cons (d_tup (a_cons d_int (a_cons d_int a_nil))) a_nil)) a_nil))) (ss_cons (s_for (passes_of rfl) rfl (i_rng1 rfl (Φ.free_range) (a_cons d_int a_nil)) (g_name 3 nd) (ss_cons (s_asg (d_tup (a_cons (d_call F__law_pick (hr.mono (by decide)) (passes_call (takes_of rfl rfl rfl rfl) fun _ _ _ _ h => h) (a_cons (d_var 1) (a_cons (d_var 2) a_nil))) (a_cons (d_call F__law_pick (hr.mono (by decide)) (passes_call (takes_of rfl rfl rfl rfl) fun _ _ _ _ h => h) (a_cons (d_var 1) (a_cons (d_var 2) a_nil))) a_nil))) (g_tup (n := 2) rfl (g_cons (g_name 4 nd) (g_cons (g_name 5 nd) g_nil)))) (ss_cons (s_setLc (i := 6) rfl nd rfl rfl (sw_true rfl rfl rfl (by decide +kernel)) (blkOk_by (N := N_law) (sc := (defScope s_law)) (own := [("many", 9)]) (by decide +kernel)) (i_rng1 rfl (Φ.free_range) (a_cons d_int a_nil)) (fun _ _ _ _ _ => (gw_name 9 nd)) (fun _ _ _ _ _ => ts_nil) (fun _ _ _ _ _ => (d_callB (call_repr (have h65 := room65 hr.room; h65) (have hgd := hr.gd; hgd)) reprG_ok rfl Φ.free_repr (by decide +kernel) (a_cons (d_slice (d_tup (a_cons (d_var 4) (a_cons (d_var 5) a_nil))) o_none (o_some (d_var 9))) a_nil)))) (ss_cons (s_asg (d_call F__law_one (hr.mono (by decide)) (passes_call (takes_of rfl rfl rfl rfl) fun _ _ _ _ h => h) (a_cons (d_var 3) (a_cons (d_var 4) (a_cons (d_var 5) a_nil)))) (g_tup (n := 2) rfl (g_cons (g_name 7 nd) (g_cons (g_name 8 nd) g_nil)))) (ss_cons (s_if (t_ne (have hun := hr.room.units; hun) (d_callB (call_repr (have h65 := room65 hr.room; h65) (have hgd := hr.gd; hgd)) reprG_ok rfl Φ.free_repr (by decide +kernel) (a_cons (d_var 8) a_nil)) (d_ix (d_var 6) (d_callB call_len lenG_ok rfl Φ.free_len PySem.boot_len (a_cons (d_var 8) a_nil)))) (ss_one (s_ret d_bl)) ss_nil) (ss_cons (s_if (t_w (w_or (t_not (t_of (d_callB call_isV (isvG_ok Φ.errV) rfl Φ.free_isinstance (by decide +kernel) (a_cons (d_var 7) (a_cons (d_glo Φ.glo_ClockError) a_nil))))) (w_or1 (t_not (t_of (d_callB call_isV (isvG_ok Φ.errV) rfl Φ.free_isinstance (by decide +kernel) (a_cons (d_var 7) (a_cons (d_gty rfl Φ.free_ValueError PySem_boot_ValueError) a_nil)))))))) (ss_one (s_ret d_bl)) ss_nil) (ss_one (s_if (t_ne (have hun := hr.room.units; hun) (d_call F__law_which (hr.mono (by decide)) (passes_call (takes_of rfl rfl rfl rfl) fun _ _ _ _ h => h) (a_cons (d_var 7) a_nil)) (d_lc rfl nd (blkOk_by (N := N_law) (sc := (defScope s_law)) (own := [("k", 10)]) (by decide +kernel)) (i_rng1 rfl (Φ.free_range) (a_cons d_int a_nil)) (fun _ _ _ _ _ => (gw_name 10 nd)) (fun _ _ _ _ _ => ts_nil) (fun _ _ _ _ _ => (d_eq (have hun := hr.room.units; hun) (d_var 10) (d_var 3))))) (ss_one (s_ret d_bl)) ss_nil)))))))) (ss_one (s_ret d_bl))))))
end Law


set_option Elab.async false
set_option linter.all false
set_option maxRecDepth 100000
set_option maxHeartbeats 0
namespace Law
open PySem PySem.Spec PyProof.Rows L2 Mi
/-! ### the head -/
def loose : List PySem.Str := (["ClockError", "BadText", "BadNumber", "BadName", "NoName", "TakenName", "BadTime", "BadSide", "BadBound", "BadRoom", "BadRow", "BadMachine", "BadNet", "BadRun", "BadGoal", "BadJob", "BadAnswers", "BadPaper", "BadLog", "NotKept", "NothingToUndo", "NothingToRedo", "_law_pen", "_law_draw", "_law_pick", "_law_one", "_law_single", "_law_which"] : List PySem.Str)
def dd__law_pen : He.DefD := ⟨("_law_pen", none), "_law_pen", "_law_pen", defArgs s__law_pen, defBody s__law_pen, defScope s__law_pen, [], []⟩
def dd__law_draw : He.DefD := ⟨("_law_draw", none), "_law_draw", "_law_draw", defArgs s__law_draw, defBody s__law_draw, defScope s__law_draw, [], []⟩
def dd__law_pick : He.DefD := ⟨("_law_pick", none), "_law_pick", "_law_pick", defArgs s__law_pick, defBody s__law_pick, defScope s__law_pick, [], []⟩
def dd__law_single : He.DefD := ⟨("_law_single", none), "_law_single", "_law_single", defArgs s__law_single, defBody s__law_single, defScope s__law_single, [], []⟩
def dd__law_which : He.DefD := ⟨("_law_which", none), "_law_which", "_law_which", defArgs s__law_which, defBody s__law_which, defScope s__law_which, [], []⟩
def dd__law_one : He.DefD := ⟨("_law_one", none), "_law_one", "_law_one", defArgs s__law_one, defBody s__law_one, defScope s__law_one, [], []⟩
def dd_law : He.DefD := ⟨("law", none), "law", "law", defArgs s_law, defBody s_law, defScope s_law, [], []⟩
def clsBody : Stmt → List Stmt
  | .ClassDef _ _ _ b _ _ _ _ _ _ _ => b
  | _ => []
abbrev si_BadAnswers : Stmt := (clsBody (top 17)).getD 0 (.Pass ⟨0, 0, 0, 0⟩)
def di_BadAnswers : He.DefD := ⟨("BadAnswers", some "__init__"), "__init__", "BadAnswers.__init__", defArgs si_BadAnswers, defBody si_BadAnswers, defScope si_BadAnswers, [], []⟩
abbrev si_BadBound : Stmt := (clsBody (top 9)).getD 0 (.Pass ⟨0, 0, 0, 0⟩)
def di_BadBound : He.DefD := ⟨("BadBound", some "__init__"), "__init__", "BadBound.__init__", defArgs si_BadBound, defBody si_BadBound, defScope si_BadBound, [], []⟩
abbrev si_BadGoal : Stmt := (clsBody (top 15)).getD 0 (.Pass ⟨0, 0, 0, 0⟩)
def di_BadGoal : He.DefD := ⟨("BadGoal", some "__init__"), "__init__", "BadGoal.__init__", defArgs si_BadGoal, defBody si_BadGoal, defScope si_BadGoal, [], []⟩
abbrev si_BadJob : Stmt := (clsBody (top 16)).getD 0 (.Pass ⟨0, 0, 0, 0⟩)
def di_BadJob : He.DefD := ⟨("BadJob", some "__init__"), "__init__", "BadJob.__init__", defArgs si_BadJob, defBody si_BadJob, defScope si_BadJob, [], []⟩
abbrev si_BadLog : Stmt := (clsBody (top 19)).getD 0 (.Pass ⟨0, 0, 0, 0⟩)
def di_BadLog : He.DefD := ⟨("BadLog", some "__init__"), "__init__", "BadLog.__init__", defArgs si_BadLog, defBody si_BadLog, defScope si_BadLog, [], []⟩
abbrev si_BadMachine : Stmt := (clsBody (top 12)).getD 0 (.Pass ⟨0, 0, 0, 0⟩)
def di_BadMachine : He.DefD := ⟨("BadMachine", some "__init__"), "__init__", "BadMachine.__init__", defArgs si_BadMachine, defBody si_BadMachine, defScope si_BadMachine, [], []⟩
abbrev si_BadName : Stmt := (clsBody (top 4)).getD 0 (.Pass ⟨0, 0, 0, 0⟩)
def di_BadName : He.DefD := ⟨("BadName", some "__init__"), "__init__", "BadName.__init__", defArgs si_BadName, defBody si_BadName, defScope si_BadName, [], []⟩
abbrev si_BadNet : Stmt := (clsBody (top 13)).getD 0 (.Pass ⟨0, 0, 0, 0⟩)
def di_BadNet : He.DefD := ⟨("BadNet", some "__init__"), "__init__", "BadNet.__init__", defArgs si_BadNet, defBody si_BadNet, defScope si_BadNet, [], []⟩
abbrev si_BadNumber : Stmt := (clsBody (top 3)).getD 0 (.Pass ⟨0, 0, 0, 0⟩)
def di_BadNumber : He.DefD := ⟨("BadNumber", some "__init__"), "__init__", "BadNumber.__init__", defArgs si_BadNumber, defBody si_BadNumber, defScope si_BadNumber, [], []⟩
abbrev si_BadPaper : Stmt := (clsBody (top 18)).getD 0 (.Pass ⟨0, 0, 0, 0⟩)
def di_BadPaper : He.DefD := ⟨("BadPaper", some "__init__"), "__init__", "BadPaper.__init__", defArgs si_BadPaper, defBody si_BadPaper, defScope si_BadPaper, [], []⟩
abbrev si_BadRoom : Stmt := (clsBody (top 10)).getD 0 (.Pass ⟨0, 0, 0, 0⟩)
def di_BadRoom : He.DefD := ⟨("BadRoom", some "__init__"), "__init__", "BadRoom.__init__", defArgs si_BadRoom, defBody si_BadRoom, defScope si_BadRoom, [], []⟩
abbrev si_BadRow : Stmt := (clsBody (top 11)).getD 0 (.Pass ⟨0, 0, 0, 0⟩)
def di_BadRow : He.DefD := ⟨("BadRow", some "__init__"), "__init__", "BadRow.__init__", defArgs si_BadRow, defBody si_BadRow, defScope si_BadRow, [], []⟩
abbrev si_BadRun : Stmt := (clsBody (top 14)).getD 0 (.Pass ⟨0, 0, 0, 0⟩)
def di_BadRun : He.DefD := ⟨("BadRun", some "__init__"), "__init__", "BadRun.__init__", defArgs si_BadRun, defBody si_BadRun, defScope si_BadRun, [], []⟩
abbrev si_BadSide : Stmt := (clsBody (top 8)).getD 0 (.Pass ⟨0, 0, 0, 0⟩)
def di_BadSide : He.DefD := ⟨("BadSide", some "__init__"), "__init__", "BadSide.__init__", defArgs si_BadSide, defBody si_BadSide, defScope si_BadSide, [], []⟩
abbrev si_BadText : Stmt := (clsBody (top 2)).getD 0 (.Pass ⟨0, 0, 0, 0⟩)
def di_BadText : He.DefD := ⟨("BadText", some "__init__"), "__init__", "BadText.__init__", defArgs si_BadText, defBody si_BadText, defScope si_BadText, [], []⟩
abbrev si_BadTime : Stmt := (clsBody (top 7)).getD 0 (.Pass ⟨0, 0, 0, 0⟩)
def di_BadTime : He.DefD := ⟨("BadTime", some "__init__"), "__init__", "BadTime.__init__", defArgs si_BadTime, defBody si_BadTime, defScope si_BadTime, [], []⟩
abbrev si_NoName : Stmt := (clsBody (top 5)).getD 0 (.Pass ⟨0, 0, 0, 0⟩)
def di_NoName : He.DefD := ⟨("NoName", some "__init__"), "__init__", "NoName.__init__", defArgs si_NoName, defBody si_NoName, defScope si_NoName, [], []⟩
abbrev si_NotKept : Stmt := (clsBody (top 20)).getD 0 (.Pass ⟨0, 0, 0, 0⟩)
def di_NotKept : He.DefD := ⟨("NotKept", some "__init__"), "__init__", "NotKept.__init__", defArgs si_NotKept, defBody si_NotKept, defScope si_NotKept, [], []⟩
abbrev si_TakenName : Stmt := (clsBody (top 6)).getD 0 (.Pass ⟨0, 0, 0, 0⟩)
def di_TakenName : He.DefD := ⟨("TakenName", some "__init__"), "__init__", "TakenName.__init__", defArgs si_TakenName, defBody si_TakenName, defScope si_TakenName, [], []⟩
def fn : List He.DefD := ([dd__law_pen, dd__law_draw, dd__law_pick, dd__law_single, dd__law_which, dd__law_one, dd_law, di_BadAnswers, di_BadBound, di_BadGoal, di_BadJob, di_BadLog, di_BadMachine, di_BadName, di_BadNet, di_BadNumber, di_BadPaper, di_BadRoom, di_BadRow, di_BadRun, di_BadSide, di_BadText, di_BadTime, di_NoName, di_NotKept, di_TakenName] : List He.DefD)
def gl : List PySem.Str := (["_law_pen", "_law_draw", "_law_pick", "_law_one", "_law_single", "_law_which", "law", "BadAnswers", "BadBound", "BadGoal", "BadJob", "BadLog", "BadMachine", "BadName", "BadNet", "BadNumber", "BadPaper", "BadRoom", "BadRow", "BadRun", "BadSide", "BadText", "BadTime", "ClockError", "NoName", "NotKept", "NothingToRedo", "NothingToUndo", "TakenName"] : List PySem.Str)
def fr : List PySem.Str := (["ValueError", "int", "isinstance", "len", "list", "range", "repr"] : List PySem.Str)
def fa : List He.Fa := ([.exc "NothingToRedo", .exc "NothingToUndo"] : List He.Fa) ++ (gl.map He.Fa.glo ++ fr.map He.Fa.free)
def tf : List He.Defn := []
def ex1 (K : PySem.W.Frag) : Bool := (ctList.all fun x => errB K x.1 x.2) && ((subList.all fun x => decide (PySem.W.exmOne K (.ref (He.ga K x.1)) (.ref (He.ga K x.2.1)) = some x.2.2)) && decide ((tf.map fun p => (He.cT K p).2).Nodup))
def ex (K : PySem.W.Frag) : Bool := ex1 K && ((cvList.all (errVB K)) && ((siList.all fun x => decide (PySem.W.kitOne K (.ref (He.ga K x.1)) (.ref (He.ga K x.2.1)) = some x.2.2)) && (stList.all fun x => decide (PySem.W.kitOne K (.ref (He.ga K x.1)) (.type x.2.1) = some x.2.2))))
abbrev R : PySem.W.OpenRow := PySem.W.OpenLaw.row PySem.Challenge.rw_setclocks_k00_errors
abbrev hk : PySem.W.Hook := He.hookX 6 fa fn [] tf ex
def ob (s : PySem.W.SharedT) : He.AlX := He.obsX 6 fa fn [] tf ex (HandSHeadRun.getT s)
theorem ob_eq (s : PySem.W.SharedT) : ob s = hk.obs s.abs := He.obsX_eq (HandSHeadRun.getT_eq s)
theorem run (w : World) : HandSHeadRun.RunEq R (PySem.W.view R.prog [30]) hk ob 20000 loose w := by
  intro os
  kernel_rfl
section
variable {w : World} {K : PySem.W.Frag} {mg : Str → Option Value} {h : Heap}
theorem glo (X : K.In h) (G : h.Ns mainGlobals mg) (c : He.SaysX fa fn [] tf ex w h K) (x : Str) (hx : x ∈ gl) : mg x = some (.ref (He.ga K x)) :=
  He.glo_ok X G (c.t.d.facts (List.mem_append_right _ (List.mem_append_left _ (List.mem_map.mpr ⟨x, hx, rfl⟩))))
theorem free (X : K.In h) (G : h.Ns mainGlobals mg) (c : He.SaysX fa fn [] tf ex w h K) (x : Str) (hx : x ∈ fr) : mg x = none :=
  He.free_ok X G (c.t.d.facts (List.mem_append_right _ (List.mem_append_right _ (List.mem_map.mpr ⟨x, hx, rfl⟩))))
theorem more1 (c : He.SaysX fa fn [] tf ex w h K) : ex1 K = true := (Bool.and_eq_true_iff.mp c.more).1
theorem sci_BadAnswers : FnScope ["self", "answers"] ["self", "answers"] (defScope si_BadAnswers) := ⟨rfl, rfl, rfl, by decide +kernel, rfl, by decide +kernel, by decide +kernel⟩
theorem err_BadAnswers (X : K.In h) (G : h.Ns mainGlobals mg) (c : He.SaysX fa fn [] tf ex w h K) (base : Heap) : ErrC R.prog w K mg base "BadAnswers" ["answers"] := by
  obtain ⟨fd, E⟩ := c.t.d.def_ 7 (d := di_BadAnswers) rfl
  have e := List.all_eq_true.mp (Bool.and_eq_true_iff.mp (more1 c)).1 ("BadAnswers", [("answers" : Str)]) (by decide)
  exact errC_of e (glo X G c _ (by decide)) (init1 (He5.fun_of E) sci_BadAnswers rfl) (E.bindsN fun _ _ _ _ _ _ us hl => match us, hl with | [_, _], _ => rfl)
theorem sci_BadBound : FnScope ["self", "bound"] ["self", "bound"] (defScope si_BadBound) := ⟨rfl, rfl, rfl, by decide +kernel, rfl, by decide +kernel, by decide +kernel⟩
theorem err_BadBound (X : K.In h) (G : h.Ns mainGlobals mg) (c : He.SaysX fa fn [] tf ex w h K) (base : Heap) : ErrC R.prog w K mg base "BadBound" ["bound"] := by
  obtain ⟨fd, E⟩ := c.t.d.def_ 8 (d := di_BadBound) rfl
  have e := List.all_eq_true.mp (Bool.and_eq_true_iff.mp (more1 c)).1 ("BadBound", [("bound" : Str)]) (by decide)
  exact errC_of e (glo X G c _ (by decide)) (init1 (He5.fun_of E) sci_BadBound rfl) (E.bindsN fun _ _ _ _ _ _ us hl => match us, hl with | [_, _], _ => rfl)
theorem sci_BadGoal : FnScope ["self", "goal"] ["self", "goal"] (defScope si_BadGoal) := ⟨rfl, rfl, rfl, by decide +kernel, rfl, by decide +kernel, by decide +kernel⟩
theorem err_BadGoal (X : K.In h) (G : h.Ns mainGlobals mg) (c : He.SaysX fa fn [] tf ex w h K) (base : Heap) : ErrC R.prog w K mg base "BadGoal" ["goal"] := by
  obtain ⟨fd, E⟩ := c.t.d.def_ 9 (d := di_BadGoal) rfl
  have e := List.all_eq_true.mp (Bool.and_eq_true_iff.mp (more1 c)).1 ("BadGoal", [("goal" : Str)]) (by decide)
  exact errC_of e (glo X G c _ (by decide)) (init1 (He5.fun_of E) sci_BadGoal rfl) (E.bindsN fun _ _ _ _ _ _ us hl => match us, hl with | [_, _], _ => rfl)
theorem sci_BadJob : FnScope ["self", "job"] ["self", "job"] (defScope si_BadJob) := ⟨rfl, rfl, rfl, by decide +kernel, rfl, by decide +kernel, by decide +kernel⟩
theorem err_BadJob (X : K.In h) (G : h.Ns mainGlobals mg) (c : He.SaysX fa fn [] tf ex w h K) (base : Heap) : ErrC R.prog w K mg base "BadJob" ["job"] := by
  obtain ⟨fd, E⟩ := c.t.d.def_ 10 (d := di_BadJob) rfl
  have e := List.all_eq_true.mp (Bool.and_eq_true_iff.mp (more1 c)).1 ("BadJob", [("job" : Str)]) (by decide)
  exact errC_of e (glo X G c _ (by decide)) (init1 (He5.fun_of E) sci_BadJob rfl) (E.bindsN fun _ _ _ _ _ _ us hl => match us, hl with | [_, _], _ => rfl)
theorem sci_BadLog : FnScope ["self", "line"] ["self", "line"] (defScope si_BadLog) := ⟨rfl, rfl, rfl, by decide +kernel, rfl, by decide +kernel, by decide +kernel⟩
theorem err_BadLog (X : K.In h) (G : h.Ns mainGlobals mg) (c : He.SaysX fa fn [] tf ex w h K) (base : Heap) : ErrC R.prog w K mg base "BadLog" ["line"] := by
  obtain ⟨fd, E⟩ := c.t.d.def_ 11 (d := di_BadLog) rfl
  have e := List.all_eq_true.mp (Bool.and_eq_true_iff.mp (more1 c)).1 ("BadLog", [("line" : Str)]) (by decide)
  exact errC_of e (glo X G c _ (by decide)) (init1 (He5.fun_of E) sci_BadLog rfl) (E.bindsN fun _ _ _ _ _ _ us hl => match us, hl with | [_, _], _ => rfl)
theorem sci_BadMachine : FnScope ["self", "machine"] ["self", "machine"] (defScope si_BadMachine) := ⟨rfl, rfl, rfl, by decide +kernel, rfl, by decide +kernel, by decide +kernel⟩
theorem err_BadMachine (X : K.In h) (G : h.Ns mainGlobals mg) (c : He.SaysX fa fn [] tf ex w h K) (base : Heap) : ErrC R.prog w K mg base "BadMachine" ["machine"] := by
  obtain ⟨fd, E⟩ := c.t.d.def_ 12 (d := di_BadMachine) rfl
  have e := List.all_eq_true.mp (Bool.and_eq_true_iff.mp (more1 c)).1 ("BadMachine", [("machine" : Str)]) (by decide)
  exact errC_of e (glo X G c _ (by decide)) (init1 (He5.fun_of E) sci_BadMachine rfl) (E.bindsN fun _ _ _ _ _ _ us hl => match us, hl with | [_, _], _ => rfl)
theorem sci_BadName : FnScope ["self", "name"] ["self", "name"] (defScope si_BadName) := ⟨rfl, rfl, rfl, by decide +kernel, rfl, by decide +kernel, by decide +kernel⟩
theorem err_BadName (X : K.In h) (G : h.Ns mainGlobals mg) (c : He.SaysX fa fn [] tf ex w h K) (base : Heap) : ErrC R.prog w K mg base "BadName" ["name"] := by
  obtain ⟨fd, E⟩ := c.t.d.def_ 13 (d := di_BadName) rfl
  have e := List.all_eq_true.mp (Bool.and_eq_true_iff.mp (more1 c)).1 ("BadName", [("name" : Str)]) (by decide)
  exact errC_of e (glo X G c _ (by decide)) (init1 (He5.fun_of E) sci_BadName rfl) (E.bindsN fun _ _ _ _ _ _ us hl => match us, hl with | [_, _], _ => rfl)
theorem sci_BadNet : FnScope ["self", "net"] ["self", "net"] (defScope si_BadNet) := ⟨rfl, rfl, rfl, by decide +kernel, rfl, by decide +kernel, by decide +kernel⟩
theorem err_BadNet (X : K.In h) (G : h.Ns mainGlobals mg) (c : He.SaysX fa fn [] tf ex w h K) (base : Heap) : ErrC R.prog w K mg base "BadNet" ["net"] := by
  obtain ⟨fd, E⟩ := c.t.d.def_ 14 (d := di_BadNet) rfl
  have e := List.all_eq_true.mp (Bool.and_eq_true_iff.mp (more1 c)).1 ("BadNet", [("net" : Str)]) (by decide)
  exact errC_of e (glo X G c _ (by decide)) (init1 (He5.fun_of E) sci_BadNet rfl) (E.bindsN fun _ _ _ _ _ _ us hl => match us, hl with | [_, _], _ => rfl)
theorem sci_BadNumber : FnScope ["self", "what", "number"] ["self", "what", "number"] (defScope si_BadNumber) := ⟨rfl, rfl, rfl, by decide +kernel, rfl, by decide +kernel, by decide +kernel⟩
theorem err_BadNumber (X : K.In h) (G : h.Ns mainGlobals mg) (c : He.SaysX fa fn [] tf ex w h K) (base : Heap) : ErrC R.prog w K mg base "BadNumber" ["what", "number"] := by
  obtain ⟨fd, E⟩ := c.t.d.def_ 15 (d := di_BadNumber) rfl
  have e := List.all_eq_true.mp (Bool.and_eq_true_iff.mp (more1 c)).1 ("BadNumber", [("what" : Str), ("number" : Str)]) (by decide)
  exact errC_of e (glo X G c _ (by decide)) (init2 (He5.fun_of E) sci_BadNumber rfl) (E.bindsN fun _ _ _ _ _ _ us hl => match us, hl with | [_, _, _], _ => rfl)
theorem sci_BadPaper : FnScope ["self", "paper"] ["self", "paper"] (defScope si_BadPaper) := ⟨rfl, rfl, rfl, by decide +kernel, rfl, by decide +kernel, by decide +kernel⟩
theorem err_BadPaper (X : K.In h) (G : h.Ns mainGlobals mg) (c : He.SaysX fa fn [] tf ex w h K) (base : Heap) : ErrC R.prog w K mg base "BadPaper" ["paper"] := by
  obtain ⟨fd, E⟩ := c.t.d.def_ 16 (d := di_BadPaper) rfl
  have e := List.all_eq_true.mp (Bool.and_eq_true_iff.mp (more1 c)).1 ("BadPaper", [("paper" : Str)]) (by decide)
  exact errC_of e (glo X G c _ (by decide)) (init1 (He5.fun_of E) sci_BadPaper rfl) (E.bindsN fun _ _ _ _ _ _ us hl => match us, hl with | [_, _], _ => rfl)
theorem sci_BadRoom : FnScope ["self", "room"] ["self", "room"] (defScope si_BadRoom) := ⟨rfl, rfl, rfl, by decide +kernel, rfl, by decide +kernel, by decide +kernel⟩
theorem err_BadRoom (X : K.In h) (G : h.Ns mainGlobals mg) (c : He.SaysX fa fn [] tf ex w h K) (base : Heap) : ErrC R.prog w K mg base "BadRoom" ["room"] := by
  obtain ⟨fd, E⟩ := c.t.d.def_ 17 (d := di_BadRoom) rfl
  have e := List.all_eq_true.mp (Bool.and_eq_true_iff.mp (more1 c)).1 ("BadRoom", [("room" : Str)]) (by decide)
  exact errC_of e (glo X G c _ (by decide)) (init1 (He5.fun_of E) sci_BadRoom rfl) (E.bindsN fun _ _ _ _ _ _ us hl => match us, hl with | [_, _], _ => rfl)
theorem sci_BadRow : FnScope ["self", "row"] ["self", "row"] (defScope si_BadRow) := ⟨rfl, rfl, rfl, by decide +kernel, rfl, by decide +kernel, by decide +kernel⟩
theorem err_BadRow (X : K.In h) (G : h.Ns mainGlobals mg) (c : He.SaysX fa fn [] tf ex w h K) (base : Heap) : ErrC R.prog w K mg base "BadRow" ["row"] := by
  obtain ⟨fd, E⟩ := c.t.d.def_ 18 (d := di_BadRow) rfl
  have e := List.all_eq_true.mp (Bool.and_eq_true_iff.mp (more1 c)).1 ("BadRow", [("row" : Str)]) (by decide)
  exact errC_of e (glo X G c _ (by decide)) (init1 (He5.fun_of E) sci_BadRow rfl) (E.bindsN fun _ _ _ _ _ _ us hl => match us, hl with | [_, _], _ => rfl)
theorem sci_BadRun : FnScope ["self", "run"] ["self", "run"] (defScope si_BadRun) := ⟨rfl, rfl, rfl, by decide +kernel, rfl, by decide +kernel, by decide +kernel⟩
theorem err_BadRun (X : K.In h) (G : h.Ns mainGlobals mg) (c : He.SaysX fa fn [] tf ex w h K) (base : Heap) : ErrC R.prog w K mg base "BadRun" ["run"] := by
  obtain ⟨fd, E⟩ := c.t.d.def_ 19 (d := di_BadRun) rfl
  have e := List.all_eq_true.mp (Bool.and_eq_true_iff.mp (more1 c)).1 ("BadRun", [("run" : Str)]) (by decide)
  exact errC_of e (glo X G c _ (by decide)) (init1 (He5.fun_of E) sci_BadRun rfl) (E.bindsN fun _ _ _ _ _ _ us hl => match us, hl with | [_, _], _ => rfl)
theorem sci_BadSide : FnScope ["self", "side"] ["self", "side"] (defScope si_BadSide) := ⟨rfl, rfl, rfl, by decide +kernel, rfl, by decide +kernel, by decide +kernel⟩
theorem err_BadSide (X : K.In h) (G : h.Ns mainGlobals mg) (c : He.SaysX fa fn [] tf ex w h K) (base : Heap) : ErrC R.prog w K mg base "BadSide" ["side"] := by
  obtain ⟨fd, E⟩ := c.t.d.def_ 20 (d := di_BadSide) rfl
  have e := List.all_eq_true.mp (Bool.and_eq_true_iff.mp (more1 c)).1 ("BadSide", [("side" : Str)]) (by decide)
  exact errC_of e (glo X G c _ (by decide)) (init1 (He5.fun_of E) sci_BadSide rfl) (E.bindsN fun _ _ _ _ _ _ us hl => match us, hl with | [_, _], _ => rfl)
theorem sci_BadText : FnScope ["self", "line", "column"] ["self", "line", "column"] (defScope si_BadText) := ⟨rfl, rfl, rfl, by decide +kernel, rfl, by decide +kernel, by decide +kernel⟩
theorem err_BadText (X : K.In h) (G : h.Ns mainGlobals mg) (c : He.SaysX fa fn [] tf ex w h K) (base : Heap) : ErrC R.prog w K mg base "BadText" ["line", "column"] := by
  obtain ⟨fd, E⟩ := c.t.d.def_ 21 (d := di_BadText) rfl
  have e := List.all_eq_true.mp (Bool.and_eq_true_iff.mp (more1 c)).1 ("BadText", [("line" : Str), ("column" : Str)]) (by decide)
  exact errC_of e (glo X G c _ (by decide)) (init2 (He5.fun_of E) sci_BadText rfl) (E.bindsN fun _ _ _ _ _ _ us hl => match us, hl with | [_, _, _], _ => rfl)
theorem sci_BadTime : FnScope ["self", "time"] ["self", "time"] (defScope si_BadTime) := ⟨rfl, rfl, rfl, by decide +kernel, rfl, by decide +kernel, by decide +kernel⟩
theorem err_BadTime (X : K.In h) (G : h.Ns mainGlobals mg) (c : He.SaysX fa fn [] tf ex w h K) (base : Heap) : ErrC R.prog w K mg base "BadTime" ["time"] := by
  obtain ⟨fd, E⟩ := c.t.d.def_ 22 (d := di_BadTime) rfl
  have e := List.all_eq_true.mp (Bool.and_eq_true_iff.mp (more1 c)).1 ("BadTime", [("time" : Str)]) (by decide)
  exact errC_of e (glo X G c _ (by decide)) (init1 (He5.fun_of E) sci_BadTime rfl) (E.bindsN fun _ _ _ _ _ _ us hl => match us, hl with | [_, _], _ => rfl)
theorem sci_NoName : FnScope ["self", "name"] ["self", "name"] (defScope si_NoName) := ⟨rfl, rfl, rfl, by decide +kernel, rfl, by decide +kernel, by decide +kernel⟩
theorem err_NoName (X : K.In h) (G : h.Ns mainGlobals mg) (c : He.SaysX fa fn [] tf ex w h K) (base : Heap) : ErrC R.prog w K mg base "NoName" ["name"] := by
  obtain ⟨fd, E⟩ := c.t.d.def_ 23 (d := di_NoName) rfl
  have e := List.all_eq_true.mp (Bool.and_eq_true_iff.mp (more1 c)).1 ("NoName", [("name" : Str)]) (by decide)
  exact errC_of e (glo X G c _ (by decide)) (init1 (He5.fun_of E) sci_NoName rfl) (E.bindsN fun _ _ _ _ _ _ us hl => match us, hl with | [_, _], _ => rfl)
theorem sci_NotKept : FnScope ["self", "promise", "witness"] ["self", "promise", "witness"] (defScope si_NotKept) := ⟨rfl, rfl, rfl, by decide +kernel, rfl, by decide +kernel, by decide +kernel⟩
theorem err_NotKept (X : K.In h) (G : h.Ns mainGlobals mg) (c : He.SaysX fa fn [] tf ex w h K) (base : Heap) : ErrC R.prog w K mg base "NotKept" ["promise", "witness"] := by
  obtain ⟨fd, E⟩ := c.t.d.def_ 24 (d := di_NotKept) rfl
  have e := List.all_eq_true.mp (Bool.and_eq_true_iff.mp (more1 c)).1 ("NotKept", [("promise" : Str), ("witness" : Str)]) (by decide)
  exact errC_of e (glo X G c _ (by decide)) (init2 (He5.fun_of E) sci_NotKept rfl) (E.bindsN fun _ _ _ _ _ _ us hl => match us, hl with | [_, _, _], _ => rfl)
theorem sci_TakenName : FnScope ["self", "name"] ["self", "name"] (defScope si_TakenName) := ⟨rfl, rfl, rfl, by decide +kernel, rfl, by decide +kernel, by decide +kernel⟩
theorem err_TakenName (X : K.In h) (G : h.Ns mainGlobals mg) (c : He.SaysX fa fn [] tf ex w h K) (base : Heap) : ErrC R.prog w K mg base "TakenName" ["name"] := by
  obtain ⟨fd, E⟩ := c.t.d.def_ 25 (d := di_TakenName) rfl
  have e := List.all_eq_true.mp (Bool.and_eq_true_iff.mp (more1 c)).1 ("TakenName", [("name" : Str)]) (by decide)
  exact errC_of e (glo X G c _ (by decide)) (init1 (He5.fun_of E) sci_TakenName rfl) (E.bindsN fun _ _ _ _ _ _ us hl => match us, hl with | [_, _], _ => rfl)
theorem facts (X : K.In h) (G : h.Ns mainGlobals mg) (c : He.SaysX fa fn [] tf ex w h K) (base : Heap) : Facts R.prog w K mg base where
  free_ValueError := free X G c _ (by decide)
  free_int := free X G c _ (by decide)
  free_isinstance := free X G c _ (by decide)
  free_len := free X G c _ (by decide)
  free_list := free X G c _ (by decide)
  free_range := free X G c _ (by decide)
  free_repr := free X G c _ (by decide)
  err_BadAnswers := err_BadAnswers X G c base
  err_BadBound := err_BadBound X G c base
  err_BadGoal := err_BadGoal X G c base
  err_BadJob := err_BadJob X G c base
  err_BadLog := err_BadLog X G c base
  err_BadMachine := err_BadMachine X G c base
  err_BadName := err_BadName X G c base
  err_BadNet := err_BadNet X G c base
  err_BadNumber := err_BadNumber X G c base
  err_BadPaper := err_BadPaper X G c base
  err_BadRoom := err_BadRoom X G c base
  err_BadRow := err_BadRow X G c base
  err_BadRun := err_BadRun X G c base
  err_BadSide := err_BadSide X G c base
  err_BadText := err_BadText X G c base
  err_BadTime := err_BadTime X G c base
  err_NoName := err_NoName X G c base
  err_NotKept := err_NotKept X G c base
  err_TakenName := err_TakenName X G c base
  e0_NothingToRedo := ⟨_, glo X G c _ (by decide), (He.exc_ok (c.t.d.fact 0 (f := .exc "NothingToRedo") rfl)).1, (He.exc_ok (c.t.d.fact 0 (f := .exc "NothingToRedo") rfl)).2.1⟩
  e0_NothingToUndo := ⟨_, glo X G c _ (by decide), (He.exc_ok (c.t.d.fact 1 (f := .exc "NothingToUndo") rfl)).1, (He.exc_ok (c.t.d.fact 1 (f := .exc "NothingToUndo") rfl)).2.1⟩
  glo_BadAnswers := ⟨_, glo X G c _ (by decide)⟩
  glo_BadBound := ⟨_, glo X G c _ (by decide)⟩
  glo_BadGoal := ⟨_, glo X G c _ (by decide)⟩
  glo_BadJob := ⟨_, glo X G c _ (by decide)⟩
  glo_BadLog := ⟨_, glo X G c _ (by decide)⟩
  glo_BadMachine := ⟨_, glo X G c _ (by decide)⟩
  glo_BadName := ⟨_, glo X G c _ (by decide)⟩
  glo_BadNet := ⟨_, glo X G c _ (by decide)⟩
  glo_BadNumber := ⟨_, glo X G c _ (by decide)⟩
  glo_BadPaper := ⟨_, glo X G c _ (by decide)⟩
  glo_BadRoom := ⟨_, glo X G c _ (by decide)⟩
  glo_BadRow := ⟨_, glo X G c _ (by decide)⟩
  glo_BadRun := ⟨_, glo X G c _ (by decide)⟩
  glo_BadSide := ⟨_, glo X G c _ (by decide)⟩
  glo_BadText := ⟨_, glo X G c _ (by decide)⟩
  glo_BadTime := ⟨_, glo X G c _ (by decide)⟩
  glo_ClockError := ⟨_, glo X G c _ (by decide)⟩
  glo_NoName := ⟨_, glo X G c _ (by decide)⟩
  glo_NotKept := ⟨_, glo X G c _ (by decide)⟩
  glo_NothingToRedo := ⟨_, glo X G c _ (by decide)⟩
  glo_NothingToUndo := ⟨_, glo X G c _ (by decide)⟩
  glo_TakenName := ⟨_, glo X G c _ (by decide)⟩
  errT := errT_of (Bool.and_eq_true_iff.mp (more1 c)).1 (Bool.and_eq_true_iff.mp (Bool.and_eq_true_iff.mp (more1 c)).2).1 (fun x hx => glo X G c _ (List.all_eq_true.mp (show (ctList.all fun x => decide (x.1 ∈ gl)) = true from by decide +kernel) x hx |> of_decide_eq_true))
    (fun x hx => ⟨glo X G c _ (List.all_eq_true.mp (show (subList.all fun x => decide (x.1 ∈ gl)) = true from by decide +kernel) x hx |> of_decide_eq_true), glo X G c _ (List.all_eq_true.mp (show (subList.all fun x => decide (x.2.1 ∈ gl)) = true from by decide +kernel) x hx |> of_decide_eq_true)⟩)
  errV := errV_of (Bool.and_eq_true_iff.mp (Bool.and_eq_true_iff.mp c.more).2).1 (Bool.and_eq_true_iff.mp (Bool.and_eq_true_iff.mp (Bool.and_eq_true_iff.mp c.more).2).2).1 (Bool.and_eq_true_iff.mp (Bool.and_eq_true_iff.mp (Bool.and_eq_true_iff.mp c.more).2).2).2 (fun x hx => glo X G c _ (List.all_eq_true.mp (show (cvList.all fun x => decide (x.1 ∈ gl)) = true from by decide +kernel) x hx |> of_decide_eq_true))
    (fun x hx => ⟨glo X G c _ (List.all_eq_true.mp (show (siList.all fun x => decide (x.1 ∈ gl)) = true from by decide +kernel) x hx |> of_decide_eq_true), glo X G c _ (List.all_eq_true.mp (show (siList.all fun x => decide (x.2.1 ∈ gl)) = true from by decide +kernel) x hx |> of_decide_eq_true)⟩) (fun x hx => glo X G c _ (List.all_eq_true.mp (show (stList.all fun x => decide (x.1 ∈ gl)) = true from by decide +kernel) x hx |> of_decide_eq_true))
theorem promise (X : K.In h) (G : h.Ns mainGlobals mg) (c : He.SaysX fa fn [] tf ex w h K) (base : Heap) (TB : ∀ p ∈ tf.map (He.cT K), LamX.TabB base mg p.1 p.2) {fd_law : FuncData} (E_law : FunD K dd_law.name dd_law.qual dd_law.params dd_law.body dd_law.scope (dd_law.dvs K) (dd_law.kws K) (He.fAd K dd_law.at_) fd_law) :
    FnG R.prog w K mg base (L2.CX R.prog w) 5 (He.ga K "law") fd_law ["script"] (spOf K mg (tbOf K tf) 1 f_law) := by
  have Φ := facts X G c base
  have nd : (tf.map fun p => (He.cT K p).2).Nodup := of_decide_eq_true (Bool.and_eq_true_iff.mp (Bool.and_eq_true_iff.mp (more1 c)).2).2
  obtain ⟨fd__law_pen, E__law_pen⟩ := c.t.d.def_ 0 (d := dd__law_pen) rfl
  have D__law_pen : FnD R.prog w K mg (tbOf K tf) base 1 "_law_pen" 1 f__law_pen := run_def (He5.fun_of (st := s__law_pen) E__law_pen) (glo X G c _ (by decide)) (E__law_pen.bindsN fun _ _ _ _ _ _ us hl => match us, hl with | [_], _ => rfl) sc__law_pen rfl (body__law_pen) (fun cdv A outer s H E J hc hr => b__law_pen Φ hr)
  obtain ⟨fd__law_draw, E__law_draw⟩ := c.t.d.def_ 1 (d := dd__law_draw) rfl
  have D__law_draw : FnD R.prog w K mg (tbOf K tf) base 1 "_law_draw" 2 f__law_draw := run_def (He5.fun_of (st := s__law_draw) E__law_draw) (glo X G c _ (by decide)) (E__law_draw.bindsN fun _ _ _ _ _ _ us hl => match us, hl with | [_, _], _ => rfl) sc__law_draw rfl (body__law_draw) (fun cdv A outer s H E J hc hr => b__law_draw Φ hr)
  obtain ⟨fd__law_pick, E__law_pick⟩ := c.t.d.def_ 2 (d := dd__law_pick) rfl
  have D__law_pick : FnD R.prog w K mg (tbOf K tf) base 2 "_law_pick" 2 f__law_pick := run_def (He5.fun_of (st := s__law_pick) E__law_pick) (glo X G c _ (by decide)) (E__law_pick.bindsN fun _ _ _ _ _ _ us hl => match us, hl with | [_, _], _ => rfl) sc__law_pick rfl (body__law_pick f__law_draw) (fun cdv A outer s H E J hc hr => b__law_pick Φ D__law_draw hr)
  obtain ⟨fd__law_single, E__law_single⟩ := c.t.d.def_ 3 (d := dd__law_single) rfl
  have D__law_single : FnD R.prog w K mg (tbOf K tf) base 3 "_law_single" 2 f__law_single := run_def (He5.fun_of (st := s__law_single) E__law_single) (glo X G c _ (by decide)) (E__law_single.bindsN fun _ _ _ _ _ _ us hl => match us, hl with | [_, _], _ => rfl) sc__law_single rfl (body__law_single) (fun cdv A outer s H E J hc hr => b__law_single Φ hr)
  obtain ⟨fd__law_which, E__law_which⟩ := c.t.d.def_ 4 (d := dd__law_which) rfl
  have D__law_which : FnD R.prog w K mg (tbOf K tf) base 1 "_law_which" 1 f__law_which := run_def (He5.fun_of (st := s__law_which) E__law_which) (glo X G c _ (by decide)) (E__law_which.bindsN fun _ _ _ _ _ _ us hl => match us, hl with | [_], _ => rfl) sc__law_which rfl (body__law_which) (fun cdv A outer s H E J hc hr => b__law_which Φ hr)
  obtain ⟨fd__law_one, E__law_one⟩ := c.t.d.def_ 5 (d := dd__law_one) rfl
  have D__law_one : FnD R.prog w K mg (tbOf K tf) base 4 "_law_one" 3 f__law_one := run_def (He5.fun_of (st := s__law_one) E__law_one) (glo X G c _ (by decide)) (E__law_one.bindsN fun _ _ _ _ _ _ us hl => match us, hl with | [_, _, _], _ => rfl) sc__law_one rfl (body__law_one f__law_single) (fun cdv A outer s H E J hc hr => b__law_one Φ D__law_single hr)
  exact run_fn (He5.fun_of (st := s_law) E_law) sc_law rfl (body_law f__law_pen f__law_draw f__law_pick f__law_one f__law_which) (fun cdv A outer s H E J hc hr => b_law Φ D__law_pen D__law_draw D__law_pick D__law_one D__law_which hr)
end
end Law
open PySem PySem.W PySem.Calls PyProof.Rows
theorem Law.holds (plain : Law.Plain) : PySem.Challenge.rw_setclocks_k00_errors.Holds := by
  w_on; o_law
  refine HandSHeadRun.head_any (r := OpenLaw.row PySem.Challenge.rw_setclocks_k00_errors) (q := view (OpenLaw.row PySem.Challenge.rw_setclocks_k00_errors).prog [30]) (H := Law.hk) (ob := Law.ob) (M := 20000) (loose := Law.loose) (d := HandSHeadRun.topDef (OpenLaw.row PySem.Challenge.rw_setclocks_k00_errors).prog 30) (kwd := []) Law.ob_eq
    (by kernel_rfl) (fun s => by kernel_rfl) Law.run (by kernel_rfl) (by kernel_rfl) (by kernel_rfl) (by rfl) (by first | assumption | decide +kernel) (by decide +kernel) ⟨rfl, rfl, rfl, rfl, rfl, by decide +kernel⟩ ?hw ?hc
  case hw => w_witness2
  case hc =>
    refine Mi.walk_G (l := PySem.Challenge.rw_setclocks_k00_errors) (n := 63) (k := 5) (x := "script") (CX := fun w => L2.CX (PySem.Challenge.rw_setclocks_k00_errors).prog w) rfl (by decide) (by kernel_rfl) ⟨⟨rfl, by decide, by decide⟩, rfl⟩ ?F (fun _ _ _ _ _ z => by
      obtain ⟨_, _, _, _, _, _, _, _, _, _, _, _, z⟩ := z
      exact z)
    intro w mg fa h Y G hmg0
    obtain ⟨K, KX, c⟩ := Y
    have hmg : mg ("law" : PySem.Str) = some (.ref fa) := by
      have e : (HandSHeadRun.topDef (OpenLaw.row PySem.Challenge.rw_setclocks_k00_errors).prog 30).name = ("law" : PySem.Str) := by kernel_rfl
      rw [← e]
      exact hmg0
    have e := hmg.symm.trans (Law.glo KX G c "law" (by decide))
    cases e
    obtain ⟨fd, E⟩ := c.t.d.def_ 6 (d := Law.dd_law) rfl
    refine ⟨K, fd, Law.tf.map (He.cT K), Mi.spOf K mg (Mi.tbOf K Law.tf) 1 Law.f_law, KX, fun p hp => ?_, fun p hp => ?_, fun p hp => ?_, fun s u => (E.bindsA (ps := ["script"]) (fun _ _ _ _ _ _ us hl => match us, hl with | [_], _ => rfl)) s [u] rfl, fun H a ns hl hb hT hO hS => Mi.law_sp hT hO hS (plain ns hl hb), fun base hK hG TB => ?_⟩
    · obtain ⟨d, hd, rfl⟩ := List.mem_map.mp hp
      exact c.empty d hd
    · obtain ⟨d, hd, rfl⟩ := List.mem_map.mp hp
      exact c.out d hd
    · obtain ⟨d, hd, rfl⟩ := List.mem_map.mp hp
      exact PySem.W.codeHd_of_K KX (c.hd d hd)
    · exact Law.promise KX G c base TB E


set_option Elab.async false
set_option linter.all false
set_option maxRecDepth 100000
set_option maxHeartbeats 1000000
namespace Law
open PySem PySem.Spec PyProof.Rows L2 Mi
/-! ### the pen -/
theorem draw_end {c many : Int} {r : Sto} {cs : List Int} {at_ dg cn fo : Int} (h0 : 0 < many) (h1 : many < 1073741824) (b1 : 0 ≤ at_) (b2 : 0 ≤ dg) (b3 : 0 ≤ cn) (b4 : cn ≤ c) (b5 : 0 ≤ fo) (b6 : fo < 4294967296) :
    ∃ d P', (if 0 < dg then (.ok (.int (dg % many)) (penT cs at_ (dg / many) cn fo :: r) : Out T) else .ok (.int (((fo + cn * 9733 + 167) ^ 23 % 2305843009213693951) / 128 % many)) (penT cs at_ dg cn fo :: r)) = .ok (.int d) (P' :: r) ∧ 0 ≤ d ∧ d < many ∧ PenOk c P' := by
  by_cases hg : 0 < dg
  · rw [if_pos hg]
    exact ⟨_, _, rfl, Int.emod_nonneg _ (by omega), Int.emod_lt_of_pos _ h0, cs, at_, dg / many, cn, fo, rfl, b1, Int.ediv_nonneg b2 (by omega), b3, b4, b5, b6⟩
  · rw [if_neg hg]
    exact ⟨_, _, rfl, Int.emod_nonneg _ (by omega), Int.emod_lt_of_pos _ h0, cs, at_, dg, cn, fo, rfl, b1, b2, b3, b4, b5, b6⟩
theorem draw_ok {c many : Int} {P : Ob} {r : Sto} (h : PenOk c P) (h0 : 0 < many) (h1 : many < 1073741824) (hc : c < 1000000) : ∃ d P', f__law_draw [.ref 0, .int many] (P :: r) = .ok (.int d) (P' :: r) ∧ 0 ≤ d ∧ d < many ∧ PenOk (c + 1) P' := by
  obtain ⟨cs, at_, dg, cn, fo, rfl, a1, a2, a3, a4, a5, a6⟩ := h
  have k1 : many ≠ 0 := by omega
  have k2 : ∀ a, CDivN a many := fun a => ⟨k1, by omega⟩
  have k3 : ∀ a, CDivN a 128 := fun a => ⟨by omega, by decide⟩
  have k4 : CPow 10 18 := ⟨by decide, by decide, by decide⟩
  have k5 : ∀ a, CMul a 73673 := fun a => cmul_r (by decide) (by decide)
  have k6 : ∀ a, CMul a 9733 := fun a => cmul_r (by decide) (by decide)
  have k7 : ∀ fo2 : Int, 0 ≤ fo2 → fo2 < 4294967296 → CPow (fo2 + (cn + 1) * 9733 + 167) 23 := fun fo2 h h' => ⟨by decide, by decide, by omega⟩
  have k8 : (2305843009213693951 : Int) ≠ 0 := by decide
  have k9 : (2147483543 : Int) ≠ 0 := by decide
  have m1 : ∀ a : Int, a.fmod many = a % many := fun a => fm_pos h0
  have m2 : ∀ a : Int, a.fdiv many = a / many := fun a => fd_pos h0
  have m3 : ∀ a : Int, a.fmod 2305843009213693951 = a % 2305843009213693951 := fun a => fm_pos (by decide)
  have m4 : ∀ a : Int, a.fdiv 128 = a / 128 := fun a => fd_pos (by decide)
  have m5 : ∀ a : Int, a.fmod 2147483543 = a % 2147483543 := fun a => fm_pos (by decide)
  have m6 : (10 : Int) ^ (18 : Int).toNat = 1000000000000000000 := by decide
  have m7 : (23 : Int).toNat = 23 := rfl
  unfold f__law_draw body__law_draw
  dsimp! [asBF, riF]
  by_cases hd : dg = 0
  · by_cases ha : at_ < (List.map T.int cs).length
    · obtain ⟨z, _, ez⟩ := ix_ints (i := at_) (cs := cs) (penT cs at_ dg (cn + 1) fo :: r) a1 (by simpa using ha)
      rw [if_pos hd, if_pos ha]
      dsimp! [asBF, ez, k4, m6]
      by_cases hz : 1000000000000000000 ≤ z
      · rw [if_pos hz]
        dsimp! [asBF, k4, m6, k1, k2, k3, k6, k7 fo a5 a6, k8, m1, m2, m3, m4, m7]
        exact draw_end h0 h1 (c := c + 1) (by omega) (by omega) (by omega) (by omega) a5 a6
      · rw [if_neg hz]
        have hf0 : 0 ≤ (fo * 73673 + z) % 2147483543 := Int.emod_nonneg _ (by decide)
        have hf1 : (fo * 73673 + z) % 2147483543 < 2147483543 := Int.emod_lt_of_pos _ (by decide)
        dsimp! [asBF, k4, m6, k1, k2, k3, k5, k6, k8, k9, m1, m2, m3, m4, m5, m7]
        dsimp! [asBF, k7 _ hf0 (by omega), m1, m3, m4, m7, k3, k1, k8]
        exact draw_end h0 h1 (c := c + 1) (by omega) (by omega) (by omega) (by omega) hf0 (by omega)
    · rw [if_pos hd, if_neg ha]
      dsimp! [asBF, k1, k2, k3, k6, k7 fo a5 a6, k8, m1, m2, m3, m4, m7]
      exact draw_end h0 h1 (c := c + 1) (by omega) (by omega) (by omega) (by omega) a5 a6
  · rw [if_neg hd]
    dsimp! [asBF, k1, k2, k3, k6, k7 fo a5 a6, k8, m1, m2, m3, m4, m7]
    exact draw_end h0 h1 (c := c + 1) (by omega) (by omega) (by omega) (by omega) a5 a6
theorem pen_loop {ns0 : List Int} (S : Sto) : ∀ (ns : List Int) (fold : Int) (x : Option T), 0 ≤ fold → fold < 1000000033 → ∃ fold' x', 0 ≤ fold' ∧ fold' < 1000000033 ∧
    loopF (gN 2) (asgF (bF modG (caF intA (aCons (bF addG (bF mulA (vF 1) (cF (.int 167))) (vF 2)) aNil)) (cF (.int 1000000033))) (gN 1)) (ns.map .int) [some (.scr ns0), some (.int fold), x] S = .ok (.nx [some (.scr ns0), some (.int fold'), x']) S
  | [], fold, x, h0, h1 => ⟨fold, x, h0, h1, rfl⟩
  | n :: ns, fold, x, h0, h1 => by
    have k5 : ∀ a, CMul a 167 := fun a => cmul_r (by decide) (by decide)
    have k9 : (1000000033 : Int) ≠ 0 := by decide
    have m5 : ∀ a : Int, a.fmod 1000000033 = a % 1000000033 := fun a => fm_pos (by decide)
    obtain ⟨f', x', g0, g1, e⟩ := pen_loop S ns ((fold * 167 + n) % 1000000033) (some (.int n)) (Int.emod_nonneg _ (by decide)) (Int.emod_lt_of_pos _ (by decide))
    refine ⟨f', x', g0, g1, ?_⟩
    rw [List.map_cons]
    unfold loopF
    dsimp! [k5, k9, m5]
    exact e
theorem pen_ok (ns : List Int) : ∃ P, f__law_pen [.scr ns] [] = .ok (.ref 0) [P] ∧ PenOk 0 P := by
  obtain ⟨fo, x', h0, h1, e⟩ := pen_loop (ns0 := ns) [] ns 0 none (by decide) (by decide)
  refine ⟨penT ns 0 0 0 fo, ?_, ns, 0, 0, 0, fo, rfl, by decide, by decide, by decide, by decide, h0, by omega⟩
  unfold f__law_pen body__law_pen
  dsimp! [foF, e, noF]
  rfl

end Law


set_option Elab.async false
set_option linter.all false
set_option maxRecDepth 100000
set_option maxHeartbeats 2000000
namespace Law
open PySem PySem.Spec PyProof.Rows L2 Mi
/-! ### what stands in the menu -/
def goodB (d : PyData) : Bool := d.showable && (!d.hasDict && (Nat.ble d.depth 8 && (PyData.strOk d.shown && Nat.ble d.shown.length 1000)))
structure Good (n : Nat) (d : PyData) : Prop where
  sh : d.showable = true
  hd : d.hasDict = false
  dp : d.depth ≤ 8 + n
  ok : PyData.strOk d.shown = true
  ln : d.shown.length ≤ 3000
theorem goodB_ok {d : PyData} (h : goodB d = true) : Good 0 d ∧ d.shown.length ≤ 1000 := by
  unfold goodB at h
  simp only [Bool.and_eq_true, Bool.not_eq_true'] at h
  obtain ⟨h1, h2, h3, h4, h5⟩ := h
  have := Nat.le_of_ble_eq_true h5
  exact ⟨⟨h1, h2, Nat.le_of_ble_eq_true h3, h4, by omega⟩, this⟩
theorem strOk_app {a b : Str} : PyData.strOk (a ++ b) = (PyData.strOk a && PyData.strOk b) := by
  unfold PyData.strOk
  rw [Str.cps_append, Array.all_append]
theorem len_app {a b : Str} : (a ++ b).length = a.length + b.length := Str.length_append a b
theorem good0 : Good 1 (.tuple []) := ⟨by kernel_rfl, by kernel_rfl, by decide +kernel, by kernel_rfl, by decide +kernel⟩
theorem good1 {d : PyData} (h : goodB d = true) : Good 1 (.tuple [d]) := by
  obtain ⟨⟨h1, h2, h3, h4, _⟩, h5⟩ := goodB_ok h
  have e : (PyData.tuple [d]).shown = ("(" : Str) ++ d.shown ++ (",)" : Str) := rfl
  refine ⟨?_, ?_, ?_, ?_, ?_⟩
  · simp only [PyData.showable, PyData.showableAll, h1, Bool.and_true]
  · simp only [PyData.hasDict, PyData.hasDictAll, h2, Bool.or_false]
  · simp only [PyData.depth, PyData.depthAll]; omega
  · rw [e, strOk_app, strOk_app, h4]; decide +kernel
  · rw [e, len_app, len_app]; show 1 + _ + 2 ≤ _; omega
theorem good2 {d d' : PyData} (h : goodB d = true) (h' : goodB d' = true) : Good 1 (.tuple [d, d']) := by
  obtain ⟨⟨h1, h2, h3, h4, _⟩, h5⟩ := goodB_ok h
  obtain ⟨⟨h1', h2', h3', h4', _⟩, h5'⟩ := goodB_ok h'
  have e : (PyData.tuple [d, d']).shown = ("(" : Str) ++ (d.shown ++ (", " : Str) ++ d'.shown) ++ (")" : Str) := rfl
  refine ⟨?_, ?_, ?_, ?_, ?_⟩
  · simp only [PyData.showable, PyData.showableAll, h1, h1', Bool.and_true]
  · simp only [PyData.hasDict, PyData.hasDictAll, h2, h2', Bool.or_false]
  · simp only [PyData.depth, PyData.depthAll]; omega
  · rw [e, strOk_app, strOk_app, strOk_app, strOk_app, h4, h4']; decide +kernel
  · rw [e, len_app, len_app, len_app, len_app]; show 1 + (_ + 2 + _) + 1 ≤ _; omega
theorem good_repr {n : Nat} {d : PyData} (h : Good n d) (hn : n ≤ 50) (S : Sto) : reprD d S = .ok (.str d.shown) S := by
  unfold reprD
  rw [h.sh, h.hd, Nat.ble_eq_true_of_le (show d.depth ≤ 64 by have := h.dp; omega), Nat.ble_eq_true_of_le (show d.shown.length ≤ 16777216 by have := h.ln; omega)]
  rfl
/-- an item of the menu -/
structure Item (t : T) (d : PyData) : Prop where
  dat : dat t = some d
  good : goodB d = true
def menuT (d1 d2 : Int) : List T := [.non, .bl true, .int 0, .int (-1 - d1), .int (10000000000000000000000000000000000000000 + d2), .str "", .str "log", .tup [.int 1, .int 2], .lst [.int 3], .tup [.str "b", .str "c"], .tup [.tup [.int 0, .int 0]]]
theorem int1_all : (List.range 9).all (fun n => goodB (.int (-1 - (n : Int)))) = true := by decide +kernel
theorem int2_all : (List.range 99).all (fun n => goodB (.int (10000000000000000000000000000000000000000 + (n : Int)))) = true := by decide +kernel
theorem menu_ok {d1 d2 : Int} (h1 : 0 ≤ d1) (h2 : d1 < 9) (h3 : 0 ≤ d2) (h4 : d2 < 99) : ∀ t ∈ menuT d1 d2, ∃ d, Item t d := by
  have a1 := List.all_eq_true.mp int1_all d1.toNat (List.mem_range.mpr (by omega))
  have a2 := List.all_eq_true.mp int2_all d2.toNat (List.mem_range.mpr (by omega))
  rw [show ((d1.toNat : Nat) : Int) = d1 by omega] at a1
  rw [show ((d2.toNat : Nat) : Int) = d2 by omega] at a2
  intro t ht
  simp only [menuT, List.mem_cons, List.not_mem_nil, or_false] at ht
  rcases ht with rfl | rfl | rfl | rfl | rfl | rfl | rfl | rfl | rfl | rfl | rfl
  · exact ⟨_, rfl, by decide +kernel⟩
  · exact ⟨_, rfl, by decide +kernel⟩
  · exact ⟨_, rfl, by decide +kernel⟩
  · exact ⟨_, rfl, a1⟩
  · exact ⟨_, rfl, a2⟩
  · exact ⟨_, rfl, by decide +kernel⟩
  · exact ⟨_, rfl, by decide +kernel⟩
  · exact ⟨_, rfl, by decide +kernel⟩
  · exact ⟨_, rfl, by decide +kernel⟩
  · exact ⟨_, rfl, by decide +kernel⟩
  · exact ⟨_, rfl, by decide +kernel⟩
section
variable {a b : T} {da db : PyData} {S : Sto}
theorem dt0 : datAt S (.tup []) = some (.tuple []) := rfl
theorem dt1 (ha : Item a da) : datAt S (.tup [a]) = some (.tuple [da]) := by
  show (datL [a]).map PyData.tuple = _
  unfold datL; rw [ha.dat]; rfl
theorem dt2 (ha : Item a da) (hb : Item b db) : datAt S (.tup [a, b]) = some (.tuple [da, db]) := by
  show (datL [a, b]).map PyData.tuple = _
  unfold datL; rw [ha.dat]; unfold datL; rw [hb.dat]; rfl
theorem rp0 : reprG [.tup []] S = .ok (.str (PyData.tuple []).shown) S := repr_ok dt0 (good_repr good0 (by decide) S)
theorem rp1 (ha : Item a da) : reprG [.tup [a]] S = .ok (.str (PyData.tuple [da]).shown) S := repr_ok (dt1 ha) (good_repr (good1 ha.good) (by decide) S)
theorem rp2 (ha : Item a da) (hb : Item b db) : reprG [.tup [a, b]] S = .ok (.str (PyData.tuple [da, db]).shown) S := repr_ok (dt2 ha hb) (good_repr (good2 ha.good hb.good) (by decide) S)
theorem ne_str {z : Str} (h : PyData.strOk z = true) : eqG true (.str z) (.str z) S = .ok (.bl false) S := eq_dat (d := .str z) true rfl rfl (by
  show (PyData.canLay0 (.str z) && decide (PyData.depth (.str z) ≤ 64)) = true
  simp only [PyData.canLay0, h, PyData.depth]
  rfl)
/-! ### one kind -/
def flags (k : Nat) : List T := (List.range 21).map fun i => T.bl (decide (i = k))
/-- what _law_one and _law_which come to -/
structure Kind (k : Nat) (a b : T) (e : T) (fs : List T) : Prop where
  one : ∀ S, f__law_one [.int k, a, b] S = .ok (.tup [e, .tup fs]) S
  base : ∀ S, isvG ctV siV stV [e, .glob "ClockError"] S = .ok (.bl true) S
  ve : ∀ S, isvG ctV siV stV [e, .ty "ValueError"] S = .ok (.bl true) S
  which : ∀ S, f__law_which [e] S = .ok (.lst (flags k)) S
theorem kinds (a b : T) : ∀ k < 21, ∃ e fs, Kind k a b e fs ∧ (fs = [] ∨ fs = [a] ∨ fs = [a, b]) := by
  intro k hk
  have : k = 0 ∨ k = 1 ∨ k = 2 ∨ k = 3 ∨ k = 4 ∨ k = 5 ∨ k = 6 ∨ k = 7 ∨ k = 8 ∨ k = 9 ∨ k = 10 ∨ k = 11 ∨ k = 12 ∨ k = 13 ∨ k = 14 ∨ k = 15 ∨ k = 16 ∨ k = 17 ∨ k = 18 ∨ k = 19 ∨ k = 20 := by omega
  rcases this with rfl | rfl | rfl | rfl | rfl | rfl | rfl | rfl | rfl | rfl | rfl | rfl | rfl | rfl | rfl | rfl | rfl | rfl | rfl | rfl | rfl
  · exact ⟨.exn "BadName" ["name"] [a], [a], ⟨fun S => by kernel_rfl, fun S => by kernel_rfl, fun S => by kernel_rfl, fun S => by kernel_rfl⟩, .inr (.inl rfl)⟩
  · exact ⟨.exn "NoName" ["name"] [a], [a], ⟨fun S => by kernel_rfl, fun S => by kernel_rfl, fun S => by kernel_rfl, fun S => by kernel_rfl⟩, .inr (.inl rfl)⟩
  · exact ⟨.exn "TakenName" ["name"] [a], [a], ⟨fun S => by kernel_rfl, fun S => by kernel_rfl, fun S => by kernel_rfl, fun S => by kernel_rfl⟩, .inr (.inl rfl)⟩
  · exact ⟨.exn "BadTime" ["time"] [a], [a], ⟨fun S => by kernel_rfl, fun S => by kernel_rfl, fun S => by kernel_rfl, fun S => by kernel_rfl⟩, .inr (.inl rfl)⟩
  · exact ⟨.exn "BadSide" ["side"] [a], [a], ⟨fun S => by kernel_rfl, fun S => by kernel_rfl, fun S => by kernel_rfl, fun S => by kernel_rfl⟩, .inr (.inl rfl)⟩
  · exact ⟨.exn "BadBound" ["bound"] [a], [a], ⟨fun S => by kernel_rfl, fun S => by kernel_rfl, fun S => by kernel_rfl, fun S => by kernel_rfl⟩, .inr (.inl rfl)⟩
  · exact ⟨.exn "BadRoom" ["room"] [a], [a], ⟨fun S => by kernel_rfl, fun S => by kernel_rfl, fun S => by kernel_rfl, fun S => by kernel_rfl⟩, .inr (.inl rfl)⟩
  · exact ⟨.exn "BadRow" ["row"] [a], [a], ⟨fun S => by kernel_rfl, fun S => by kernel_rfl, fun S => by kernel_rfl, fun S => by kernel_rfl⟩, .inr (.inl rfl)⟩
  · exact ⟨.exn "BadMachine" ["machine"] [a], [a], ⟨fun S => by kernel_rfl, fun S => by kernel_rfl, fun S => by kernel_rfl, fun S => by kernel_rfl⟩, .inr (.inl rfl)⟩
  · exact ⟨.exn "BadNet" ["net"] [a], [a], ⟨fun S => by kernel_rfl, fun S => by kernel_rfl, fun S => by kernel_rfl, fun S => by kernel_rfl⟩, .inr (.inl rfl)⟩
  · exact ⟨.exn "BadRun" ["run"] [a], [a], ⟨fun S => by kernel_rfl, fun S => by kernel_rfl, fun S => by kernel_rfl, fun S => by kernel_rfl⟩, .inr (.inl rfl)⟩
  · exact ⟨.exn "BadGoal" ["goal"] [a], [a], ⟨fun S => by kernel_rfl, fun S => by kernel_rfl, fun S => by kernel_rfl, fun S => by kernel_rfl⟩, .inr (.inl rfl)⟩
  · exact ⟨.exn "BadJob" ["job"] [a], [a], ⟨fun S => by kernel_rfl, fun S => by kernel_rfl, fun S => by kernel_rfl, fun S => by kernel_rfl⟩, .inr (.inl rfl)⟩
  · exact ⟨.exn "BadAnswers" ["answers"] [a], [a], ⟨fun S => by kernel_rfl, fun S => by kernel_rfl, fun S => by kernel_rfl, fun S => by kernel_rfl⟩, .inr (.inl rfl)⟩
  · exact ⟨.exn "BadPaper" ["paper"] [a], [a], ⟨fun S => by kernel_rfl, fun S => by kernel_rfl, fun S => by kernel_rfl, fun S => by kernel_rfl⟩, .inr (.inl rfl)⟩
  · exact ⟨.exn "BadLog" ["line"] [a], [a], ⟨fun S => by kernel_rfl, fun S => by kernel_rfl, fun S => by kernel_rfl, fun S => by kernel_rfl⟩, .inr (.inl rfl)⟩
  · exact ⟨.exn "BadText" ["column", "line"] [b, a], [a, b], ⟨fun S => by kernel_rfl, fun S => by kernel_rfl, fun S => by kernel_rfl, fun S => by kernel_rfl⟩, .inr (.inr rfl)⟩
  · exact ⟨.exn "BadNumber" ["number", "what"] [b, a], [a, b], ⟨fun S => by kernel_rfl, fun S => by kernel_rfl, fun S => by kernel_rfl, fun S => by kernel_rfl⟩, .inr (.inr rfl)⟩
  · exact ⟨.exn "NotKept" ["witness", "promise"] [b, a], [a, b], ⟨fun S => by kernel_rfl, fun S => by kernel_rfl, fun S => by kernel_rfl, fun S => by kernel_rfl⟩, .inr (.inr rfl)⟩
  · exact ⟨.exn "NothingToUndo" [] [], [], ⟨fun S => by kernel_rfl, fun S => by kernel_rfl, fun S => by kernel_rfl, fun S => by kernel_rfl⟩, .inl rfl⟩
  · exact ⟨.exn "NothingToRedo" [] [], [], ⟨fun S => by kernel_rfl, fun S => by kernel_rfl, fun S => by kernel_rfl, fun S => by kernel_rfl⟩, .inl rfl⟩
end
end Law


set_option Elab.async false
set_option linter.all false
set_option maxRecDepth 100000
set_option maxHeartbeats 2000000
namespace Law
open PySem PySem.Spec PyProof.Rows L2 Mi
theorem pick_ref {c : Int} {P : Ob} {ts : List T} (h : PenOk c P) (h0 : 0 < ts.length) (h1 : ts.length < 1073741824) (hc : c < 1000000) : ∃ t P', t ∈ ts ∧ f__law_pick [.ref 0, .ref 1] [P, .lst ts] = .ok t [P', .lst ts] ∧ PenOk (c + 1) P' := by
  obtain ⟨d, P', e, d0, d1, hp⟩ := draw_ok (r := [.lst ts]) h (many := ts.length) (by omega) (by omega) hc
  obtain ⟨t, e1, e2⟩ := atI_nn (ts := ts) d0 (by omega)
  have q1 : lenG [.ref 1] [P, .lst ts] = .ok (.int ts.length) [P, .lst ts] := rfl
  have q2 : ixG (.ref 1) (.int d) [P', .lst ts] = .ok t [P', .lst ts] := by
    show (match atI ts d with | some t => Out.ok t [P', .lst ts] | none => .no) = _
    rw [e1]
  refine ⟨t, P', List.mem_of_getElem? e2, ?_, hp⟩
  rw [e__law_pick]; unfold body__law_pick
  simp! [q1, e, q2]
section
variable {a b e : T} {da db : PyData} {fs : List T} {S : Sto} {ρ : Ro}
theorem fl_dat (k : Nat) (hk : k < 21) : SeqAt.shaped (.list ((List.range 21).map fun i => PyData.bool (decide (i = k)))) = true := by
  have h := List.all_eq_true.mp (show (List.range 21).all (fun k => SeqAt.shaped (.list ((List.range 21).map fun i => PyData.bool (decide (i = k))))) = true from by decide +kernel) k (List.mem_range.mpr hk)
  exact h
theorem flags_ne (k : Nat) (hk : k < 21) : eqG true (.lst (flags k)) (.lst (flags k)) S = .ok (.bl false) S := eq_dat (d := .list ((List.range 21).map fun i => PyData.bool (decide (i = k)))) true rfl rfl (fl_dat k hk)
theorem dues_ok (ha : Item a da) (hb : Item b db) {ρ : Ro} (h4 : ρ[4]? = some (some a)) (h5 : ρ[5]? = some (some b)) (hl : ρ.length = 11) :
    compF (gN 9) yesF (caF reprG (aCons (slF (tupF (aCons (vF 4) (aCons (vF 5) aNil))) oN (oS (vF 9))) aNil)) ρ [.int 0, .int 1, .int 2] [] S = .ok [.str (PyData.tuple []).shown, .str (PyData.tuple [da]).shown, .str (PyData.tuple [da, db]).shown] S := by
  have v4 : ∀ i : Int, (ρ.set 9 (some (.int i)))[4]? = some (some a) := fun i => by rw [List.getElem?_set_ne (by decide)]; exact h4
  have v5 : ∀ i : Int, (ρ.set 9 (some (.int i)))[5]? = some (some b) := fun i => by rw [List.getElem?_set_ne (by decide)]; exact h5
  have v9 : ∀ i : Int, (ρ.set 9 (some (.int i)))[9]? = some (some (.int i)) := fun i => List.getElem?_set_self (by omega)
  have sl : ∀ i : Int, slG (.tup [a, b]) none (some i) S = .ok (.tup (cutT [a, b] none (some i))) S := fun i => rfl
  have c0 : cutT [a, b] none (some 0) = [] := rfl
  have c1 : cutT [a, b] none (some 1) = [a] := rfl
  have c2 : cutT [a, b] none (some 2) = [a, b] := rfl
  dsimp! [v4, v5, v9, slF, oN, oS, sl, c0, c1, c2, rp0, rp1 ha, rp2 ha hb]
theorem which_due (k : Nat) (hk : k < 21) {ρ : Ro} (h3 : ρ[3]? = some (some (.int k))) (hl : ρ.length = 11) :
    compF (gN 10) yesF (bF (eqG false) (vF 10) (vF 3)) ρ ((List.range 21).map fun i => T.int (0 + (i : Nat))) [] S = .ok (flags k) S := by
  have v3 : ∀ i : Int, (ρ.set 10 (some (.int i)))[3]? = some (some (.int k)) := fun i => by rw [List.getElem?_set_ne (by decide)]; exact h3
  have v10 : ∀ i : Int, (ρ.set 10 (some (.int i)))[10]? = some (some (.int i)) := fun i => List.getElem?_set_self (by omega)
  rw [comp_map (e := fun i : Nat => T.int (0 + (i : Nat))) (f := fun i : Nat => T.bl (decide (i = k))) (List.range 21) (by decide) fun i hi => ⟨ρ.set 10 (some (.int (0 + (i : Nat)))), rfl, ?_⟩]
  · rfl
  · dsimp! [v3, v10]
    rw [decide_eq_decide.mpr (show (0 + (i : Int) = (k : Int)) ↔ i = k by omega)]
end
def dueS (da db : PyData) (n : Nat) : Str := if n = 0 then (PyData.tuple []).shown else if n = 1 then (PyData.tuple [da]).shown else (PyData.tuple [da, db]).shown
noncomputable def lbody : Ro → Sto → Out Fl := (seF (asgF (tupF (aCons (caF f__law_pick (aCons (vF 1) (aCons (vF 2) aNil))) (aCons (caF f__law_pick (aCons (vF 1) (aCons (vF 2) aNil))) aNil))) (gT 2 (gCons' (gN 4) (gCons' (gN 5) gNil')))) (seF (asgF (lcF [9] (riF rng1 (aCons (cF (.int 3)) aNil)) (gN 9) yesF (caF reprG (aCons (slF (tupF (aCons (vF 4) (aCons (vF 5) aNil))) oN (oS (vF 9))) aNil))) (gN 6)) (seF (asgF (caF f__law_one (aCons (vF 3) (aCons (vF 4) (aCons (vF 5) aNil)))) (gT 2 (gCons' (gN 7) (gCons' (gN 8) gNil')))) (seF (iffF (asBF (bF (eqG true) (caF reprG (aCons (vF 8) aNil)) (bF ixG (vF 6) (caF lenG (aCons (vF 8) aNil))))) (reF (cF (.bl false))) paF) (seF (iffF (orF (notF (truF (caF (isvG ctV siV stV) (aCons (vF 7) (aCons (cF (.glob "ClockError")) aNil))))) (notF (truF (caF (isvG ctV siV stV) (aCons (vF 7) (aCons (cF (.ty "ValueError")) aNil)))))) (reF (cF (.bl false))) paF) (iffF (asBF (bF (eqG true) (caF f__law_which (aCons (vF 7) aNil)) (lcF [10] (riF rng1 (aCons (cF (.int 21)) aNil)) (gN 10) yesF (bF (eqG false) (vF 10) (vF 3))))) (reF (cF (.bl false))) paF))))))
theorem rng1_3 {S : Sto} : rng1 [.int 3] S = .ok [.int 0, .int 1, .int 2] S := by kernel_rfl
theorem rng1_21 {S : Sto} : rng1 [.int 21] S = .ok ((List.range 21).map fun i => T.int (0 + (i : Nat))) S := rfl
theorem turn {c : Int} {P : Ob} {d1 d2 : Int} (h1 : 0 ≤ d1) (h2 : d1 < 9) (h3 : 0 ≤ d2) (h4 : d2 < 99) (h : PenOk c P) (hc : c < 100000) {k : Nat} (hk : k < 21) {z : T} {o4 o5 o6 o7 o8 o9 o10 : Option T} :
    ∃ P' p4 p5 p6 p7 p8, lbody [some z, some (.ref 0), some (.ref 1), some (.int k), o4, o5, o6, o7, o8, o9, o10] [P, .lst (menuT d1 d2)] = .ok (.nx [some z, some (.ref 0), some (.ref 1), some (.int k), p4, p5, p6, p7, p8, o9, o10]) [P', .lst (menuT d1 d2)] ∧ PenOk (c + 2) P' := by
  obtain ⟨a, P1, ma, e1, hp1⟩ := pick_ref (ts := menuT d1 d2) h (by simp [menuT]) (by simp [menuT]) (by omega)
  obtain ⟨b, P2, mb, e2, hp2⟩ := pick_ref (ts := menuT d1 d2) hp1 (by simp [menuT]) (by simp [menuT]) (by omega)
  obtain ⟨da, ha⟩ := menu_ok h1 h2 h3 h4 a ma
  obtain ⟨db, hb⟩ := menu_ok h1 h2 h3 h4 b mb
  obtain ⟨e, fs, K, hf⟩ := kinds a b k hk
  generalize menuT d1 d2 = m at *
  refine ⟨P2, some a, some b, some (.lst [.str (PyData.tuple []).shown, .str (PyData.tuple [da]).shown, .str (PyData.tuple [da, db]).shown]), some e, some (.tup fs), ?_, by rw [show c + 2 = c + 1 + 1 by omega]; exact hp2⟩
  rw [← bind_okR (lbody _ _)]
  unfold lbody
  have q6 : ∀ S, ixG (.lst [.str (PyData.tuple []).shown, .str (PyData.tuple [da]).shown, .str (PyData.tuple [da, db]).shown]) (.int (fs.length : Nat)) S = .ok (.str (dueS da db fs.length)) S := fun S => by
    rcases hf with rfl | rfl | rfl <;> rfl
  have q7 : ∀ S, reprG [.tup fs] S = .ok (.str (dueS da db fs.length)) S := fun S => by
    rcases hf with rfl | rfl | rfl
    · exact rp0
    · exact rp1 ha
    · exact rp2 ha hb
  have q8 : ∀ S, eqG true (.str (dueS da db fs.length)) (.str (dueS da db fs.length)) S = .ok (.bl false) S := fun S => by
    rcases hf with rfl | rfl | rfl
    · exact ne_str good0.ok
    · exact ne_str (good1 ha.good).ok
    · exact ne_str (good2 ha.good hb.good).ok
  have q9 : ∀ (S : Sto) (o6 o7 o8 o10 : Option T), compF (gN 9) yesF (caF reprG (aCons (slF (tupF (aCons (vF 4) (aCons (vF 5) aNil))) oN (oS (vF 9))) aNil)) [some z, some (.ref 0), some (.ref 1), some (.int k), some a, some b, o6, o7, o8, none, o10] [.int 0, .int 1, .int 2] [] S = .ok [.str (PyData.tuple []).shown, .str (PyData.tuple [da]).shown, .str (PyData.tuple [da, db]).shown] S := fun S o6 o7 o8 o10 => dues_ok ha hb rfl rfl rfl
  have q10 : ∀ (S : Sto) (o4 o5 o6 o7 o8 o9 : Option T), compF (gN 10) yesF (bF (eqG false) (vF 10) (vF 3)) [some z, some (.ref 0), some (.ref 1), some (.int k), o4, o5, o6, o7, o8, o9, none] ((List.range 21).map fun i => T.int (0 + (i : Nat))) [] S = .ok (flags k) S := fun S o4 o5 o6 o7 o8 o9 => which_due k hk rfl rfl
  simp! [e1, e2, rng1_3, q9, K.one, q7, q6, q8, K.base, K.ve, K.which, rng1_21, q10, flags_ne k hk]
theorem law_loop {d1 d2 : Int} (h1 : 0 ≤ d1) (h2 : d1 < 9) (h3 : 0 ≤ d2) (h4 : d2 < 99) {z : T} : ∀ (ks : List Nat) (c : Int) (P : Ob) (o3 o4 o5 o6 o7 o8 o9 o10 : Option T), (∀ k ∈ ks, k < 21) → PenOk c P → c + 2 * ks.length ≤ 90000 → ∃ P' ρ',
    loopF (gN 3) lbody (ks.map fun i => T.int (0 + (i : Nat))) [some z, some (.ref 0), some (.ref 1), o3, o4, o5, o6, o7, o8, o9, o10] [P, .lst (menuT d1 d2)] = .ok (.nx ρ') [P', .lst (menuT d1 d2)]
  | [], c, P, _, _, _, _, _, _, _, _, _, h, _ => ⟨P, _, rfl⟩
  | k :: ks, c, P, o3, o4, o5, o6, o7, o8, o9, o10, hk, h, hc => by
    simp only [List.length_cons] at hc
    obtain ⟨P1, p4, p5, p6, p7, p8, e1, hp⟩ := turn h1 h2 h3 h4 h (by omega) (hk k (by simp)) (z := z) (o4 := o4) (o5 := o5) (o6 := o6) (o7 := o7) (o8 := o8) (o9 := o9) (o10 := o10)
    obtain ⟨P2, ρ', e2⟩ := law_loop h1 h2 h3 h4 (z := z) ks (c + 2) P1 (some (.int k)) p4 p5 p6 p7 p8 o9 o10 (fun j hj => hk j (by simp [hj])) hp (by omega)
    refine ⟨P2, ρ', ?_⟩
    rw [List.map_cons]
    unfold loopF
    have g1 : gN 3 (.int (0 + (k : Nat))) [some z, some (.ref 0), some (.ref 1), o3, o4, o5, o6, o7, o8, o9, o10] [P, .lst (menuT d1 d2)] = .ok [some z, some (.ref 0), some (.ref 1), some (.int k), o4, o5, o6, o7, o8, o9, o10] [P, .lst (menuT d1 d2)] := by
      rw [show (0 + (k : Int)) = k by omega]; rfl
    rw [g1, e_ok, e1, e_ok]
    exact e2
theorem plain : Plain := by
  intro ns hl hb
  obtain ⟨P, e, h⟩ := pen_ok ns
  obtain ⟨d1, P1, e1, a1, a2, hp1⟩ := draw_ok (r := []) h (many := 9) (by decide) (by decide) (by decide)
  obtain ⟨d2, P2, e2, b1, b2, hp2⟩ := draw_ok (r := []) hp1 (many := 99) (by decide) (by decide) (by decide)
  obtain ⟨P3, ρ', e3⟩ := law_loop a1 a2 b1 b2 (z := .scr ns) (List.range 21) 2 P2 none none none none none none none none (fun k hk => List.mem_range.mp hk) hp2 (by decide)
  refine ⟨[P3, .lst (menuT d1 d2)], ?_⟩
  have k4 : CPow 10 40 := ⟨by decide, by decide, by decide⟩
  have k5 : (10 : Int) ^ (40 : Int).toNat = 10000000000000000000000000000000000000000 := by decide
  have ap : appG (.ref 1) [.tup [.tup [.int 0, .int 0]]] [P2, .lst [.non, .bl true, .int 0, .int (-1 - d1), .int (10000000000000000000000000000000000000000 + d2), .str "", .str "log", .tup [.int 1, .int 2], .lst [.int 3], .tup [.str "b", .str "c"]]] = .ok .non [P2, .lst (menuT d1 d2)] := rfl
  have it : isTy "list" (.ref 1) [P2, .lst [.non, .bl true, .int 0, .int (-1 - d1), .int (10000000000000000000000000000000000000000 + d2), .str "", .str "log", .tup [.int 1, .int 2], .lst [.int 3], .tup [.str "b", .str "c"]]] = true := rfl
  have e3' := e3
  unfold lbody at e3'
  rw [e_law]
  unfold body_law
  simp! [e, e1, e2, k4, k5, List.nil_append, List.cons_append, it, ap, rng1_21, e3']
end Law


open PySem PySem.W PyProof.Rows
theorem PySem.Challenge.cw_setclocks_k00_errors_holds : PySem.Challenge.rw_setclocks_k00_errors.Holds := by
  exact Law.holds Law.plain
